/-
  Walks.
-/
import Derived.Test.YtmaldhbjhomdkaaHT
import Derived.Test.YtmaldhbjhomdkaaCoalP12
namespace Go.Proofs.Ytmaldhbjhomdkaa.Coal
open Go Go.H
set_option maxRecDepth 100000
set_option maxHeartbeats 8000000
set_option linter.all false
theorem ins_c {bb cap N : Nat} {sp : List Value} {d : Array Share} {f : Value} {cm : Share → Share → Int} {p : Share → Prop} {L : Hp} {R : Ending → Hp → Prop} (hA : Arr N p d) (hN : N ≤ 49) (hf : ∀ x y, p x → p y → ∀ H R', L ⊆ H → R' (.returned (I (cm x y))) H → AFn Try.prog f [.agg ⟨eShare x⟩, .agg ⟨eShare y⟩] H R') {a b : Nat} {ai bi : Int} (ea : ai = a) (eb : bi = b) (hab : a ≤ b) (hb : b ≤ N) (H : Arr N p (Go.Sort.insertionSort (ltc cm) d a b) → R (.returned (.tuple #[])) ((bb, .cells ⟨(Go.Sort.insertionSort (ltc cm) d a b).toList.flatMap eShare ++ sp⟩ 76) :: L)) :
    ACalls Try.prog 61 ⟨[.slice (some ⟨bb, 0, none⟩) N cap, I ai, I bi, f]⟩ ((bb, .cells ⟨(d).toList.flatMap eShare ++ sp⟩ 76) :: L) R := by
  subst ea eb
  refine calls_of_xc (N := 53) Try.func61 rfl (by rfl) ?_
  refine xc_seq (xc_region ?_)
  refine xr_op rfl rfl (xv_move rfl ?_)
  refine xr_op rfl rfl (xv_add rfl rfl (wrap_i64 Om_ Om_) ?_)
  refine xr_op rfl rfl (xv_assign rfl ?_)
  refine xr_end rfl ?_
  refine th_n ?_
  refine xc_block ?_
  refine xc_loop (σ := Nat × Array Share) (fun z => a + 1 ≤ z.1 ∧ z.1 ≤ N + 1 ∧ Arr N p z.2 ∧ Go.Sort.insOuter (ltc cm) a b z.1 z.2 = Go.Sort.insertionSort (ltc cm) d a b) (fun z => (((((emp.put (some 0) (.slice (some ⟨bb, 0, none⟩) N cap)).put (some 1) (I a)).put (some 2) (I b)).put (some 3) (f)).put (some 8) (I z.1))) (fun z => ((bb, .cells ⟨(z.2).toList.flatMap eShare ++ sp⟩ 76) :: L)) (fun z => b + 1 - z.1) ((a + 1, d) : Nat × Array Share) ⟨Nat.le_refl _, by dsimp only; omega, hA, rfl⟩ (le_put (le_put (le_put (le_put (le_put (le_emp _) rfl) rfl) rfl) rfl) rfl) Su_ ?_
  rintro ⟨i, d1⟩ ⟨hi1, hi2, hA1, heq⟩
  dsimp only at hi1 hi2 hA1 heq
  refine xc_seq ?_
  refine xc_seq (xc_region ?_)
  refine xr_op rfl rfl (xv_move rfl ?_)
  refine xr_op rfl rfl (xv_move rfl ?_)
  refine xr_op rfl rfl (xv_lss2 rfl rfl (fun q1 => ?_) (fun q1 => ?_))
  · refine xr_end rfl ?_
    refine th_n ?_
    refine xc_true rfl ?_
    refine xc_skip ?_
    refine th_n ?_
    refine xc_seq ?_
    refine xc_block ?_
    refine xc_seq (xc_region ?_)
    refine xr_op rfl rfl (xv_move rfl ?_)
    refine xr_op rfl rfl (xv_assign rfl ?_)
    refine xr_end rfl ?_
    refine th_n ?_
    refine xc_block ?_
    refine xc_loop (σ := Nat × Array Share) (fun z => z.1 ≤ i ∧ a ≤ z.1 ∧ Arr N p z.2 ∧ Go.Sort.insInner (ltc cm) a z.1 z.2 = Go.Sort.insInner (ltc cm) a i d1) (fun z => ((((((emp.put (some 0) (.slice (some ⟨bb, 0, none⟩) N cap)).put (some 1) (I a)).put (some 2) (I b)).put (some 3) (f)).put (some 8) (I i)).put (some 9) (I z.1))) (fun z => ((bb, .cells ⟨(z.2).toList.flatMap eShare ++ sp⟩ 76) :: L)) (fun z => z.1) ((i, d1) : Nat × Array Share) ⟨Nat.le_refl _, by dsimp only; omega, hA1, rfl⟩ (le_put (le_put (le_put (le_put (le_put (le_put (le_emp _) rfl) rfl) rfl) rfl) rfl) rfl) Su_ ?_
    rintro ⟨j, d2⟩ ⟨hj, hja, hA2, heq2⟩
    dsimp only at hj hja hA2 heq2
    have hib0 : i < b := by (first|omega|(dsimp only at *;omega)|(simp at *;omega))
    refine xc_seq ?_
    refine xc_seq ?_
    refine xc_draw0 [(0, .S), (1, .S), (2, .O), (3, .S), (4, .S), (5, .S), (6, .S), (7, .S), (8, .R), (9, .S), (10, .S), (11, .S), (12, .S), (13, .R), (14, .R), (15, .O), (16, .S)] mixed (by kernel_rfl) ?_
    refine js_S rfl rfl (.inl rfl) (xv_move rfl ⟨rfl, rfl⟩) ?_
    refine js_S rfl rfl (.inl rfl) (xv_move rfl ⟨rfl, rfl⟩) ?_
    refine js_O0 rfl rfl (.inl rfl) (xv_gtr2 rfl rfl (fun hq => ?_) (fun hq => ?_))
    · refine js_S rfl rfl (.inl rfl) (xv_move rfl ⟨rfl, rfl⟩) ?_
      refine js_S rfl rfl (.inr ⟨_, _, rfl, rfl⟩) (xv_move rfl ⟨rfl, rfl⟩) ?_
      refine js_S rfl rfl (.inr ⟨_, _, rfl, rfl⟩) (xv_move rfl ⟨rfl, rfl⟩) ?_
      refine js_S rfl rfl (.inr ⟨_, _, rfl, rfl⟩) (xv_move rfl ⟨rfl, rfl⟩) ?_
      refine js_S rfl rfl (.inr ⟨_, _, rfl, rfl⟩) (xv_ia (sz := 2) (j := j) sl95 ty93 rfl rfl rfl Om_ Om_ Om_ ⟨rfl, rfl⟩) ?_
      refine js_R0 rfl rfl (.inr ⟨_, _, rfl, rfl⟩) (xv_loadA ty93 rfl rfl Me_ (ca_get eShare_len (k := j) (by rw [hA2.size]; (first|omega|(dsimp only at *;omega)|(simp at *;omega)))) rfl ⟨rfl, rfl⟩) ?_
      refine js_S rfl rfl (.inr ⟨_, _, rfl, rfl⟩) (xv_move rfl ⟨rfl, rfl⟩) ?_
      refine js_S rfl rfl (.inr ⟨_, _, rfl, rfl⟩) (xv_move rfl ⟨rfl, rfl⟩) ?_
      refine js_S rfl rfl (.inr ⟨_, _, rfl, rfl⟩) (xv_sub rfl rfl (wrap_i64 Om_ Om_) ⟨rfl, rfl⟩) ?_
      refine js_S rfl rfl (.inr ⟨_, _, rfl, rfl⟩) (xv_ia (sz := 2) (j := (j - 1)) sl95 ty93 rfl rfl rfl Om_ Om_ Om_ ⟨rfl, rfl⟩) ?_
      refine js_R0 rfl rfl (.inr ⟨_, _, rfl, rfl⟩) (xv_loadA ty93 rfl rfl Me_ (ca_get eShare_len (k := (j - 1)) (by rw [hA2.size]; (first|omega|(dsimp only at *;omega)|(simp at *;omega)))) rfl ⟨rfl, rfl⟩) ?_
      refine js_R0 rfl rfl (.inr ⟨_, _, rfl, rfl⟩) (xv_fn rfl rfl (hf _ _ (hA2.all _ Om_) (hA2.all _ Om_) _ _ (by intro z hz; ((repeat first|exact z_0|assumption|refine z_1 ?_|(refine z_l ?_;(repeat first|exact z_0|assumption|refine z_1 ?_);done)|refine z_r ?_);done)) (up_ret ⟨rfl, rfl⟩))) ?_
      refine js_O0 rfl rfl (.inr ⟨_, _, rfl, rfl⟩) (xv_lss2 rfl rfl (fun hq => ?_) (fun hq => ?_))
      · refine js_S rfl rfl (.inl rfl) (xv_pick rfl rfl ⟨rfl, rfl⟩) ?_
        refine j_end0 ?_
        refine th_n ?_
        refine xc_true rfl ?_
        refine xc_skip ?_
        refine th_n ?_
        refine xc_seq ?_
        refine xc_block ?_
        refine xc_draw0 [(0, .S), (1, .S), (2, .S), (3, .S), (4, .S), (5, .S), (6, .S), (7, .S), (8, .S), (9, .R), (10, .S), (11, .S), (12, .S), (13, .R), (14, .S), (15, .O), (16, .S), (17, .O)] mixed (by kernel_rfl) ?_
        refine js_S rfl rfl (.inl rfl) (xv_move rfl ⟨rfl, rfl⟩) ?_
        refine js_S rfl rfl (.inl rfl) (xv_move rfl ⟨rfl, rfl⟩) ?_
        refine js_S rfl rfl (.inl rfl) (xv_move rfl ⟨rfl, rfl⟩) ?_
        refine js_S rfl rfl (.inl rfl) (xv_move rfl ⟨rfl, rfl⟩) ?_
        refine js_S rfl rfl (.inl rfl) (xv_sub rfl rfl (wrap_i64 Om_ Om_) ⟨rfl, rfl⟩) ?_
        refine js_S rfl rfl (.inl rfl) (xv_move rfl ⟨rfl, rfl⟩) ?_
        refine js_S rfl rfl (.inl rfl) (xv_move rfl ⟨rfl, rfl⟩) ?_
        refine js_S rfl rfl (.inl rfl) (xv_sub rfl rfl (wrap_i64 Om_ Om_) ⟨rfl, rfl⟩) ?_
        refine js_S rfl rfl (.inl rfl) (xv_ia (sz := 2) (j := (j - 1)) sl95 ty93 rfl rfl rfl Om_ Om_ Om_ ⟨rfl, rfl⟩) ?_
        refine js_R0 rfl rfl (.inl rfl) (xv_loadA ty93 rfl rfl Me_ (ca_get eShare_len (k := (j - 1)) (by rw [hA2.size]; (first|omega|(dsimp only at *;omega)|(simp at *;omega)))) rfl ⟨rfl, rfl⟩) ?_
        refine js_S rfl rfl (.inl rfl) (xv_move rfl ⟨rfl, rfl⟩) ?_
        refine js_S rfl rfl (.inl rfl) (xv_move rfl ⟨rfl, rfl⟩) ?_
        refine js_S rfl rfl (.inl rfl) (xv_ia (sz := 2) (j := j) sl95 ty93 rfl rfl rfl Om_ Om_ Om_ ⟨rfl, rfl⟩) ?_
        refine js_R0 rfl rfl (.inl rfl) (xv_loadA ty93 rfl rfl Me_ (ca_get eShare_len (k := j) (by rw [hA2.size]; (first|omega|(dsimp only at *;omega)|(simp at *;omega)))) rfl ⟨rfl, rfl⟩) ?_
        refine js_S rfl rfl (.inl rfl) (xv_ia (sz := 2) (j := j) sl95 ty93 rfl rfl rfl Om_ Om_ Om_ ⟨rfl, rfl⟩) ?_
        refine js_O0 rfl rfl (.inl rfl) (xv_s ty93 rfl rfl Up_ rfl (by rfl) (by rfl) (ca_room eShare_len (k := j) (by rw [hA2.size]; (first|omega|(dsimp only at *;omega)|(simp at *;omega)))) (ca_splice eShare_len (k := j) (by rw [hA2.size]; (first|omega|(dsimp only at *;omega)|(simp at *;omega)))) ?_)
        refine js_S rfl rfl (.inl rfl) (xv_ia (sz := 2) (j := (j - 1)) sl95 ty93 rfl rfl rfl Om_ Om_ Om_ ⟨rfl, rfl⟩) ?_
        refine js_O0 rfl rfl (.inl rfl) (xv_s ty93 rfl rfl Up_ rfl (by rfl) (by rfl) (ca_room eShare_len (k := (j - 1)) (by rw [Array.size_setIfInBounds, hA2.size]; (first|omega|(dsimp only at *;omega)|(simp at *;omega)))) (ca_splice eShare_len (k := (j - 1)) (by rw [Array.size_setIfInBounds, hA2.size]; (first|omega|(dsimp only at *;omega)|(simp at *;omega)))) ?_)
        refine j_end0 ?_
        refine bk_n ?_
        refine th_n ?_
        refine xc_region ?_
        refine xr_op rfl rfl (xv_move rfl ?_)
        refine xr_op rfl rfl (xv_sub rfl rfl (wrap_i64 Om_ Om_) ?_)
        refine xr_op rfl rfl (xv_assign rfl ?_)
        refine xr_end rfl ?_
        exact rnd ((j - 1, Go.Sort.swp d2 j (j - 1)) : Nat × Array Share) ⟨by (first|omega|(dsimp only at *;omega)|(simp at *;omega)), by (first|omega|(dsimp only at *;omega)|(simp at *;omega)), hA2.swp Om_ Om_, (insInner_step Om_ (ltc_T Om_)).symm.trans heq2⟩ Om_ (le_put (le_put (le_put (le_put (le_put (le_put (le_emp _) rfl) rfl) rfl) rfl) rfl) (by rw [show ((j : Int) - 1) = ((j - 1 : Nat) : Int) by omega]; rfl)) Su_
      · refine js_S rfl rfl (.inl rfl) (xv_pick rfl rfl ⟨rfl, rfl⟩) ?_
        refine j_end0 ?_
        refine th_n ?_
        refine xc_false rfl ?_
        refine xc_exit ?_
        refine th_x ?_
        refine th_x ?_
        refine bk_same ?_
        refine bk_n ?_
        refine th_n ?_
        refine xc_region ?_
        refine xr_op rfl rfl (xv_move rfl ?_)
        refine xr_op rfl rfl (xv_add rfl rfl (wrap_i64 Om_ Om_) ?_)
        refine xr_op rfl rfl (xv_assign rfl ?_)
        refine xr_end rfl ?_
        have hib : i < b := by (first|omega|(dsimp only at *;omega)|(simp at *;omega))
        have hstop : j ≤ a ∨ ltc cm d2[j]! d2[j - 1]! = false := by first | exact .inl (by omega) | exact .inr (ltc_F (by omega))
        exact rnd ((i + 1, d2) : Nat × Array Share) ⟨by (first|omega|(dsimp only at *;omega)|(simp at *;omega)), by (first|omega|(dsimp only at *;omega)|(simp at *;omega)), hA2, by dsimp only; rw [← heq, insOuter_step hib, ← heq2, insInner_stop hstop]⟩ Om_ (le_put (le_put (le_put (le_put (le_put (le_emp _) rfl) rfl) rfl) rfl) rfl) Su_
    · refine js_S rfl rfl (.inl rfl) (xv_move rfl ⟨rfl, rfl⟩) ?_
      refine js_Ss rfl rfl ⟨_, _, _, rfl, rfl, rfl⟩ ?_
      refine js_Ss rfl rfl ⟨_, _, _, rfl, rfl, rfl⟩ ?_
      refine js_Ss rfl rfl ⟨_, _, _, rfl, rfl, rfl⟩ ?_
      refine js_Ss rfl rfl ⟨_, _, _, rfl, rfl, rfl⟩ ?_
      refine js_Rs rfl rfl ⟨_, _, _, rfl, rfl, rfl⟩ ?_
      refine js_Ss rfl rfl ⟨_, _, _, rfl, rfl, rfl⟩ ?_
      refine js_Ss rfl rfl ⟨_, _, _, rfl, rfl, rfl⟩ ?_
      refine js_Ss rfl rfl ⟨_, _, _, rfl, rfl, rfl⟩ ?_
      refine js_Ss rfl rfl ⟨_, _, _, rfl, rfl, rfl⟩ ?_
      refine js_Rs rfl rfl ⟨_, _, _, rfl, rfl, rfl⟩ ?_
      refine js_Rs rfl rfl ⟨_, _, _, rfl, rfl, rfl⟩ ?_
      refine js_Os rfl rfl ⟨_, _, _, rfl, rfl, rfl⟩ ?_
      refine js_S rfl rfl (.inl rfl) (xv_pick rfl rfl ⟨rfl, rfl⟩) ?_
      refine j_end0 ?_
      refine th_n ?_
      refine xc_false rfl ?_
      refine xc_exit ?_
      refine th_x ?_
      refine th_x ?_
      refine bk_same ?_
      refine bk_n ?_
      refine th_n ?_
      refine xc_region ?_
      refine xr_op rfl rfl (xv_move rfl ?_)
      refine xr_op rfl rfl (xv_add rfl rfl (wrap_i64 Om_ Om_) ?_)
      refine xr_op rfl rfl (xv_assign rfl ?_)
      refine xr_end rfl ?_
      have hib : i < b := by (first|omega|(dsimp only at *;omega)|(simp at *;omega))
      have hstop : j ≤ a ∨ ltc cm d2[j]! d2[j - 1]! = false := by first | exact .inl (by omega) | exact .inr (ltc_F (by omega))
      exact rnd ((i + 1, d2) : Nat × Array Share) ⟨by (first|omega|(dsimp only at *;omega)|(simp at *;omega)), by (first|omega|(dsimp only at *;omega)|(simp at *;omega)), hA2, by dsimp only; rw [← heq, insOuter_step hib, ← heq2, insInner_stop hstop]⟩ Om_ (le_put (le_put (le_put (le_put (le_put (le_emp _) rfl) rfl) rfl) rfl) rfl) Su_
  · refine xr_end rfl ?_
    refine th_n ?_
    refine xc_false rfl ?_
    refine xc_exit ?_
    refine th_x ?_
    refine th_x ?_
    refine bk_same ?_
    refine body_end (h' := ((bb, .cells ⟨(d1).toList.flatMap eShare ++ sp⟩ 76) :: L)) rfl ro_nil Su_ ?_
    (have e := (insOuter_stop Om_).symm.trans heq; rw [← e] at H; exact H hA1)

theorem sift_c {bb cap N : Nat} {sp : List Value} {d : Array Share} {f : Value} {cm : Share → Share → Int} {p : Share → Prop} {L : Hp} {R : Ending → Hp → Prop} (hA : Arr N p d) (hN : N ≤ 49) (hf : ∀ x y, p x → p y → ∀ H R', L ⊆ H → R' (.returned (I (cm x y))) H → AFn Try.prog f [.agg ⟨eShare x⟩, .agg ⟨eShare y⟩] H R') {lo hi first : Nat} {li hj fi : Int} (el : li = lo) (eh : hj = hi) (ef : fi = first) (hlo : lo ≤ N) (hh : first + hi ≤ N) (H : Arr N p (Go.Sort.siftDown (ltc cm) hi first lo d) → R (.returned (.tuple #[])) ((bb, .cells ⟨(Go.Sort.siftDown (ltc cm) hi first lo d).toList.flatMap eShare ++ sp⟩ 76) :: L)) :
    ACalls Try.prog 76 ⟨[.slice (some ⟨bb, 0, none⟩) N cap, I li, I hj, I fi, f]⟩ ((bb, .cells ⟨(d).toList.flatMap eShare ++ sp⟩ 76) :: L) R := by
  subst el eh ef
  refine calls_of_xc (N := 82) Try.func76 rfl (by rfl) ?_
  refine xc_seq (xc_region ?_)
  refine xr_op rfl rfl (xv_move rfl ?_)
  refine xr_op rfl rfl (xv_assign rfl ?_)
  refine xr_end rfl ?_
  refine th_n ?_
  refine xc_block ?_
  refine xc_loop (σ := Nat × Array Share) (fun z => z.1 ≤ N ∧ Arr N p z.2 ∧ Go.Sort.siftDown (ltc cm) hi first z.1 z.2 = Go.Sort.siftDown (ltc cm) hi first lo d) (fun z => (((((emp.put (some 0) (.slice (some ⟨bb, 0, none⟩) N cap)).put (some 2) (I hi)).put (some 3) (I first)).put (some 4) (f)).put (some 10) (I z.1))) (fun z => ((bb, .cells ⟨(z.2).toList.flatMap eShare ++ sp⟩ 76) :: L)) (fun z => N - z.1) ((lo, d) : Nat × Array Share) ⟨hlo, hA, rfl⟩ (le_put (le_put (le_put (le_put (le_put (le_emp _) rfl) rfl) rfl) rfl) rfl) Su_ ?_
  rintro ⟨root, d1⟩ ⟨hr, hA1, heq⟩
  dsimp only at hr hA1 heq
  refine xc_block ?_
  refine xc_seq (xc_region ?_)
  refine xr_op rfl rfl (xv_move rfl ?_)
  refine xr_op rfl rfl (xv_mul rfl rfl (wrap_i64 Om_ Om_) ?_)
  refine xr_op rfl rfl (xv_add rfl rfl (wrap_i64 Om_ Om_) ?_)
  refine xr_op rfl rfl (xv_assign rfl ?_)
  refine xr_end rfl ?_
  refine th_n ?_
  refine xc_seq ?_
  refine xc_seq (xc_region ?_)
  refine xr_op rfl rfl (xv_move rfl ?_)
  refine xr_op rfl rfl (xv_move rfl ?_)
  refine xr_op rfl rfl (xv_geq2 rfl rfl (fun q1 => ?_) (fun q1 => ?_))
  · refine xr_end rfl ?_
    refine th_n ?_
    refine xc_true rfl ?_
    refine xc_exit ?_
    refine th_x ?_
    refine bk_other rfl ?_
    refine th_x ?_
    refine bk_same ?_
    refine body_end (h' := ((bb, .cells ⟨(d1).toList.flatMap eShare ++ sp⟩ 76) :: L)) rfl ro_nil Su_ ?_
    first | (have e := (sift_none (lt := ltc cm) (first := first) (root := root) (hi := hi) (d := d1) Om_ (by rw [hk]; exact ltc_F Om_)).symm.trans heq; rw [← e] at H; exact H hA1) | (have e := (sift_stop (lt := ltc cm) (first := first) (root := root) (hi := hi) (d := d1) Om_).symm.trans heq; rw [← e] at H; exact H hA1)
  · refine xr_end rfl ?_
    refine th_n ?_
    refine xc_false rfl ?_
    refine xc_skip ?_
    refine th_n ?_
    refine xc_seq ?_
    refine xc_seq ?_
    refine xc_draw0 [(0, .S), (1, .S), (2, .S), (3, .O), (4, .S), (5, .S), (6, .S), (7, .S), (8, .S), (9, .S), (10, .S), (11, .R), (12, .S), (13, .S), (14, .S), (15, .S), (16, .S), (17, .S), (18, .R), (19, .R), (20, .O), (21, .S)] mixed (by kernel_rfl) ?_
    refine js_S rfl rfl (.inl rfl) (xv_move rfl ⟨rfl, rfl⟩) ?_
    refine js_S rfl rfl (.inl rfl) (xv_add rfl rfl (wrap_i64 Om_ Om_) ⟨rfl, rfl⟩) ?_
    refine js_S rfl rfl (.inl rfl) (xv_move rfl ⟨rfl, rfl⟩) ?_
    refine js_O0 rfl rfl (.inl rfl) (xv_lss2 rfl rfl (fun hq => ?_) (fun hq => ?_))
    · refine js_S rfl rfl (.inl rfl) (xv_move rfl ⟨rfl, rfl⟩) ?_
      refine js_S rfl rfl (.inr ⟨_, _, rfl, rfl⟩) (xv_move rfl ⟨rfl, rfl⟩) ?_
      refine js_S rfl rfl (.inr ⟨_, _, rfl, rfl⟩) (xv_move rfl ⟨rfl, rfl⟩) ?_
      refine js_S rfl rfl (.inr ⟨_, _, rfl, rfl⟩) (xv_move rfl ⟨rfl, rfl⟩) ?_
      refine js_S rfl rfl (.inr ⟨_, _, rfl, rfl⟩) (xv_move rfl ⟨rfl, rfl⟩) ?_
      refine js_S rfl rfl (.inr ⟨_, _, rfl, rfl⟩) (xv_add rfl rfl (wrap_i64 Om_ Om_) ⟨rfl, rfl⟩) ?_
      refine js_S rfl rfl (.inr ⟨_, _, rfl, rfl⟩) (xv_ia (sz := 2) (j := (first + (2 * root + 1))) sl95 ty93 rfl rfl rfl Om_ Om_ Om_ ⟨rfl, rfl⟩) ?_
      refine js_R0 rfl rfl (.inr ⟨_, _, rfl, rfl⟩) (xv_loadA ty93 rfl rfl Me_ (ca_get eShare_len (k := (first + (2 * root + 1))) (by rw [hA1.size]; (first|omega|(dsimp only at *;omega)|(simp at *;omega)))) rfl ⟨rfl, rfl⟩) ?_
      refine js_S rfl rfl (.inr ⟨_, _, rfl, rfl⟩) (xv_move rfl ⟨rfl, rfl⟩) ?_
      refine js_S rfl rfl (.inr ⟨_, _, rfl, rfl⟩) (xv_move rfl ⟨rfl, rfl⟩) ?_
      refine js_S rfl rfl (.inr ⟨_, _, rfl, rfl⟩) (xv_move rfl ⟨rfl, rfl⟩) ?_
      refine js_S rfl rfl (.inr ⟨_, _, rfl, rfl⟩) (xv_add rfl rfl (wrap_i64 Om_ Om_) ⟨rfl, rfl⟩) ?_
      refine js_S rfl rfl (.inr ⟨_, _, rfl, rfl⟩) (xv_add rfl rfl (wrap_i64 Om_ Om_) ⟨rfl, rfl⟩) ?_
      refine js_S rfl rfl (.inr ⟨_, _, rfl, rfl⟩) (xv_ia (sz := 2) (j := (first + (2 * root + 1) + 1)) sl95 ty93 rfl rfl rfl Om_ Om_ Om_ ⟨rfl, rfl⟩) ?_
      refine js_R0 rfl rfl (.inr ⟨_, _, rfl, rfl⟩) (xv_loadA ty93 rfl rfl Me_ (ca_get eShare_len (k := (first + (2 * root + 1) + 1)) (by rw [hA1.size]; (first|omega|(dsimp only at *;omega)|(simp at *;omega)))) rfl ⟨rfl, rfl⟩) ?_
      refine js_R0 rfl rfl (.inr ⟨_, _, rfl, rfl⟩) (xv_fn rfl rfl (hf _ _ (hA1.all _ Om_) (hA1.all _ Om_) _ _ (by intro z hz; ((repeat first|exact z_0|assumption|refine z_1 ?_|(refine z_l ?_;(repeat first|exact z_0|assumption|refine z_1 ?_);done)|refine z_r ?_);done)) (up_ret ⟨rfl, rfl⟩))) ?_
      refine js_O0 rfl rfl (.inr ⟨_, _, rfl, rfl⟩) (xv_lss2 rfl rfl (fun hq => ?_) (fun hq => ?_))
      · refine js_S rfl rfl (.inl rfl) (xv_pick rfl rfl ⟨rfl, rfl⟩) ?_
        refine j_end0 ?_
        refine th_n ?_
        refine xc_true rfl ?_
        refine xc_region ?_
        refine xr_op rfl rfl (xv_move rfl ?_)
        refine xr_op rfl rfl (xv_add rfl rfl (wrap_i64 Om_ Om_) ?_)
        refine xr_op rfl rfl (xv_assign rfl ?_)
        refine xr_end rfl ?_
        refine th_n ?_
        refine xc_seq ?_
        refine xc_seq ?_
        refine xc_draw0 [(0, .S), (1, .S), (2, .S), (3, .S), (4, .S), (5, .S), (6, .R), (7, .S), (8, .S), (9, .S), (10, .S), (11, .S), (12, .R), (13, .R), (14, .O), (15, .S)] mixed (by kernel_rfl) ?_
        have hk : kid (ltc cm) hi first root d1 = (2 * root + 1 + 1) := by unfold kid; exact if_pos ⟨by (first|omega|(dsimp only at *;omega)|(simp at *;omega)), ltc_T Om_⟩
        refine js_S rfl rfl (.inl rfl) (xv_move rfl ⟨rfl, rfl⟩) ?_
        refine js_S rfl rfl (.inl rfl) (xv_move rfl ⟨rfl, rfl⟩) ?_
        refine js_S rfl rfl (.inl rfl) (xv_move rfl ⟨rfl, rfl⟩) ?_
        refine js_S rfl rfl (.inl rfl) (xv_move rfl ⟨rfl, rfl⟩) ?_
        refine js_S rfl rfl (.inl rfl) (xv_add rfl rfl (wrap_i64 Om_ Om_) ⟨rfl, rfl⟩) ?_
        refine js_S rfl rfl (.inl rfl) (xv_ia (sz := 2) (j := (first + root)) sl95 ty93 rfl rfl rfl Om_ Om_ Om_ ⟨rfl, rfl⟩) ?_
        refine js_R0 rfl rfl (.inl rfl) (xv_loadA ty93 rfl rfl Me_ (ca_get eShare_len (k := (first + root)) (by rw [hA1.size]; (first|omega|(dsimp only at *;omega)|(simp at *;omega)))) rfl ⟨rfl, rfl⟩) ?_
        refine js_S rfl rfl (.inl rfl) (xv_move rfl ⟨rfl, rfl⟩) ?_
        refine js_S rfl rfl (.inl rfl) (xv_move rfl ⟨rfl, rfl⟩) ?_
        refine js_S rfl rfl (.inl rfl) (xv_move rfl ⟨rfl, rfl⟩) ?_
        refine js_S rfl rfl (.inl rfl) (xv_add rfl rfl (wrap_i64 Om_ Om_) ⟨rfl, rfl⟩) ?_
        refine js_S rfl rfl (.inl rfl) (xv_ia (sz := 2) (j := (first + (2 * root + 1 + 1))) sl95 ty93 rfl rfl rfl Om_ Om_ Om_ ⟨rfl, rfl⟩) ?_
        refine js_R0 rfl rfl (.inl rfl) (xv_loadA ty93 rfl rfl Me_ (ca_get eShare_len (k := (first + (2 * root + 1 + 1))) (by rw [hA1.size]; (first|omega|(dsimp only at *;omega)|(simp at *;omega)))) rfl ⟨rfl, rfl⟩) ?_
        refine js_R0 rfl rfl (.inl rfl) (xv_fn rfl rfl (hf _ _ (hA1.all _ Om_) (hA1.all _ Om_) _ _ (by intro z hz; ((repeat first|exact z_0|assumption|refine z_1 ?_|(refine z_l ?_;(repeat first|exact z_0|assumption|refine z_1 ?_);done)|refine z_r ?_);done)) (up_ret ⟨rfl, rfl⟩))) ?_
        refine js_O0 rfl rfl (.inl rfl) (xv_lss2 rfl rfl (fun hq => ?_) (fun hq => ?_))
        · refine js_S rfl rfl (.inl rfl) (xv_not rfl ⟨rfl, rfl⟩) ?_
          refine j_end0 ?_
          refine th_n ?_
          refine xc_false rfl ?_
          refine xc_skip ?_
          refine th_n ?_
          refine xc_seq ?_
          refine xc_draw0 [(0, .S), (1, .S), (2, .S), (3, .S), (4, .S), (5, .S), (6, .S), (7, .S), (8, .S), (9, .S), (10, .S), (11, .S), (12, .S), (13, .R), (14, .S), (15, .S), (16, .S), (17, .S), (18, .S), (19, .R), (20, .S), (21, .O), (22, .S), (23, .O)] mixed (by kernel_rfl) ?_
          refine js_S rfl rfl (.inl rfl) (xv_move rfl ⟨rfl, rfl⟩) ?_
          refine js_S rfl rfl (.inl rfl) (xv_move rfl ⟨rfl, rfl⟩) ?_
          refine js_S rfl rfl (.inl rfl) (xv_move rfl ⟨rfl, rfl⟩) ?_
          refine js_S rfl rfl (.inl rfl) (xv_add rfl rfl (wrap_i64 Om_ Om_) ⟨rfl, rfl⟩) ?_
          refine js_S rfl rfl (.inl rfl) (xv_move rfl ⟨rfl, rfl⟩) ?_
          refine js_S rfl rfl (.inl rfl) (xv_move rfl ⟨rfl, rfl⟩) ?_
          refine js_S rfl rfl (.inl rfl) (xv_move rfl ⟨rfl, rfl⟩) ?_
          refine js_S rfl rfl (.inl rfl) (xv_add rfl rfl (wrap_i64 Om_ Om_) ⟨rfl, rfl⟩) ?_
          refine js_S rfl rfl (.inl rfl) (xv_move rfl ⟨rfl, rfl⟩) ?_
          refine js_S rfl rfl (.inl rfl) (xv_move rfl ⟨rfl, rfl⟩) ?_
          refine js_S rfl rfl (.inl rfl) (xv_move rfl ⟨rfl, rfl⟩) ?_
          refine js_S rfl rfl (.inl rfl) (xv_add rfl rfl (wrap_i64 Om_ Om_) ⟨rfl, rfl⟩) ?_
          refine js_S rfl rfl (.inl rfl) (xv_ia (sz := 2) (j := (first + (2 * root + 1 + 1))) sl95 ty93 rfl rfl rfl Om_ Om_ Om_ ⟨rfl, rfl⟩) ?_
          refine js_R0 rfl rfl (.inl rfl) (xv_loadA ty93 rfl rfl Me_ (ca_get eShare_len (k := (first + (2 * root + 1 + 1))) (by rw [hA1.size]; (first|omega|(dsimp only at *;omega)|(simp at *;omega)))) rfl ⟨rfl, rfl⟩) ?_
          refine js_S rfl rfl (.inl rfl) (xv_move rfl ⟨rfl, rfl⟩) ?_
          refine js_S rfl rfl (.inl rfl) (xv_move rfl ⟨rfl, rfl⟩) ?_
          refine js_S rfl rfl (.inl rfl) (xv_move rfl ⟨rfl, rfl⟩) ?_
          refine js_S rfl rfl (.inl rfl) (xv_add rfl rfl (wrap_i64 Om_ Om_) ⟨rfl, rfl⟩) ?_
          refine js_S rfl rfl (.inl rfl) (xv_ia (sz := 2) (j := (first + root)) sl95 ty93 rfl rfl rfl Om_ Om_ Om_ ⟨rfl, rfl⟩) ?_
          refine js_R0 rfl rfl (.inl rfl) (xv_loadA ty93 rfl rfl Me_ (ca_get eShare_len (k := (first + root)) (by rw [hA1.size]; (first|omega|(dsimp only at *;omega)|(simp at *;omega)))) rfl ⟨rfl, rfl⟩) ?_
          refine js_S rfl rfl (.inl rfl) (xv_ia (sz := 2) (j := (first + root)) sl95 ty93 rfl rfl rfl Om_ Om_ Om_ ⟨rfl, rfl⟩) ?_
          refine js_O0 rfl rfl (.inl rfl) (xv_s ty93 rfl rfl Up_ rfl (by rfl) (by rfl) (ca_room eShare_len (k := (first + root)) (by rw [hA1.size]; (first|omega|(dsimp only at *;omega)|(simp at *;omega)))) (ca_splice eShare_len (k := (first + root)) (by rw [hA1.size]; (first|omega|(dsimp only at *;omega)|(simp at *;omega)))) ?_)
          refine js_S rfl rfl (.inl rfl) (xv_ia (sz := 2) (j := (first + (2 * root + 1 + 1))) sl95 ty93 rfl rfl rfl Om_ Om_ Om_ ⟨rfl, rfl⟩) ?_
          refine js_O0 rfl rfl (.inl rfl) (xv_s ty93 rfl rfl Up_ rfl (by rfl) (by rfl) (ca_room eShare_len (k := (first + (2 * root + 1 + 1))) (by rw [Array.size_setIfInBounds, hA1.size]; (first|omega|(dsimp only at *;omega)|(simp at *;omega)))) (ca_splice eShare_len (k := (first + (2 * root + 1 + 1))) (by rw [Array.size_setIfInBounds, hA1.size]; (first|omega|(dsimp only at *;omega)|(simp at *;omega)))) ?_)
          refine j_end0 ?_
          refine th_n ?_
          refine xc_region ?_
          refine xr_op rfl rfl (xv_move rfl ?_)
          refine xr_op rfl rfl (xv_assign rfl ?_)
          refine xr_end rfl ?_
          refine bk_n ?_
          have hkl := kid_lt (lt := ltc cm) (first := first) (d := d1) (show ¬ hi ≤ 2 * root + 1 by (first|omega|(dsimp only at *;omega)|(simp at *;omega)))
          rw [hk] at hkl
          exact rnd (((2 * root + 1 + 1), Go.Sort.swp d1 (first + root) (first + (2 * root + 1 + 1))) : Nat × Array Share) ⟨by (first|omega|(dsimp only at *;omega)|(simp at *;omega)), hA1.swp Om_ Om_, by dsimp only; have e := sift_some (lt := ltc cm) (first := first) (root := root) (hi := hi) (d := d1) Om_ (by rw [hk]; exact ltc_T Om_); rw [hk] at e; exact e.symm.trans heq⟩ Om_ (le_put (le_put (le_put (le_put (le_put (le_emp _) rfl) rfl) rfl) rfl) rfl) Su_
        · refine js_S rfl rfl (.inl rfl) (xv_not rfl ⟨rfl, rfl⟩) ?_
          refine j_end0 ?_
          refine th_n ?_
          refine xc_true rfl ?_
          refine xc_ret ?_
          refine th_r ?_
          refine bk_r ?_
          refine th_r ?_
          refine bk_r ?_
          refine body_ret (h' := ((bb, .cells ⟨(d1).toList.flatMap eShare ++ sp⟩ 76) :: L)) rfl ro_nil Su_ ?_
          first | (have e := (sift_none (lt := ltc cm) (first := first) (root := root) (hi := hi) (d := d1) Om_ (by rw [hk]; exact ltc_F Om_)).symm.trans heq; rw [← e] at H; exact H hA1) | (have e := (sift_stop (lt := ltc cm) (first := first) (root := root) (hi := hi) (d := d1) Om_).symm.trans heq; rw [← e] at H; exact H hA1)
      · refine js_S rfl rfl (.inl rfl) (xv_pick rfl rfl ⟨rfl, rfl⟩) ?_
        refine j_end0 ?_
        refine th_n ?_
        refine xc_false rfl ?_
        refine xc_skip ?_
        refine th_n ?_
        refine xc_seq ?_
        refine xc_seq ?_
        refine xc_draw0 [(0, .S), (1, .S), (2, .S), (3, .S), (4, .S), (5, .S), (6, .R), (7, .S), (8, .S), (9, .S), (10, .S), (11, .S), (12, .R), (13, .R), (14, .O), (15, .S)] mixed (by kernel_rfl) ?_
        have hk : kid (ltc cm) hi first root d1 = (2 * root + 1) := by unfold kid; refine if_neg (fun hq9 => ?_); first | (exact absurd hq9.1 Om_) | (have h9 := ltc_F (cm := cm) (x := d1[first + (2 * root + 1)]!) (y := d1[first + (2 * root + 1) + 1]!) Om_; rw [h9] at hq9; exact absurd hq9.2 (by decide))
        refine js_S rfl rfl (.inl rfl) (xv_move rfl ⟨rfl, rfl⟩) ?_
        refine js_S rfl rfl (.inl rfl) (xv_move rfl ⟨rfl, rfl⟩) ?_
        refine js_S rfl rfl (.inl rfl) (xv_move rfl ⟨rfl, rfl⟩) ?_
        refine js_S rfl rfl (.inl rfl) (xv_move rfl ⟨rfl, rfl⟩) ?_
        refine js_S rfl rfl (.inl rfl) (xv_add rfl rfl (wrap_i64 Om_ Om_) ⟨rfl, rfl⟩) ?_
        refine js_S rfl rfl (.inl rfl) (xv_ia (sz := 2) (j := (first + root)) sl95 ty93 rfl rfl rfl Om_ Om_ Om_ ⟨rfl, rfl⟩) ?_
        refine js_R0 rfl rfl (.inl rfl) (xv_loadA ty93 rfl rfl Me_ (ca_get eShare_len (k := (first + root)) (by rw [hA1.size]; (first|omega|(dsimp only at *;omega)|(simp at *;omega)))) rfl ⟨rfl, rfl⟩) ?_
        refine js_S rfl rfl (.inl rfl) (xv_move rfl ⟨rfl, rfl⟩) ?_
        refine js_S rfl rfl (.inl rfl) (xv_move rfl ⟨rfl, rfl⟩) ?_
        refine js_S rfl rfl (.inl rfl) (xv_move rfl ⟨rfl, rfl⟩) ?_
        refine js_S rfl rfl (.inl rfl) (xv_add rfl rfl (wrap_i64 Om_ Om_) ⟨rfl, rfl⟩) ?_
        refine js_S rfl rfl (.inl rfl) (xv_ia (sz := 2) (j := (first + (2 * root + 1))) sl95 ty93 rfl rfl rfl Om_ Om_ Om_ ⟨rfl, rfl⟩) ?_
        refine js_R0 rfl rfl (.inl rfl) (xv_loadA ty93 rfl rfl Me_ (ca_get eShare_len (k := (first + (2 * root + 1))) (by rw [hA1.size]; (first|omega|(dsimp only at *;omega)|(simp at *;omega)))) rfl ⟨rfl, rfl⟩) ?_
        refine js_R0 rfl rfl (.inl rfl) (xv_fn rfl rfl (hf _ _ (hA1.all _ Om_) (hA1.all _ Om_) _ _ (by intro z hz; ((repeat first|exact z_0|assumption|refine z_1 ?_|(refine z_l ?_;(repeat first|exact z_0|assumption|refine z_1 ?_);done)|refine z_r ?_);done)) (up_ret ⟨rfl, rfl⟩))) ?_
        refine js_O0 rfl rfl (.inl rfl) (xv_lss2 rfl rfl (fun hq => ?_) (fun hq => ?_))
        · refine js_S rfl rfl (.inl rfl) (xv_not rfl ⟨rfl, rfl⟩) ?_
          refine j_end0 ?_
          refine th_n ?_
          refine xc_false rfl ?_
          refine xc_skip ?_
          refine th_n ?_
          refine xc_seq ?_
          refine xc_draw0 [(0, .S), (1, .S), (2, .S), (3, .S), (4, .S), (5, .S), (6, .S), (7, .S), (8, .S), (9, .S), (10, .S), (11, .S), (12, .S), (13, .R), (14, .S), (15, .S), (16, .S), (17, .S), (18, .S), (19, .R), (20, .S), (21, .O), (22, .S), (23, .O)] mixed (by kernel_rfl) ?_
          refine js_S rfl rfl (.inl rfl) (xv_move rfl ⟨rfl, rfl⟩) ?_
          refine js_S rfl rfl (.inl rfl) (xv_move rfl ⟨rfl, rfl⟩) ?_
          refine js_S rfl rfl (.inl rfl) (xv_move rfl ⟨rfl, rfl⟩) ?_
          refine js_S rfl rfl (.inl rfl) (xv_add rfl rfl (wrap_i64 Om_ Om_) ⟨rfl, rfl⟩) ?_
          refine js_S rfl rfl (.inl rfl) (xv_move rfl ⟨rfl, rfl⟩) ?_
          refine js_S rfl rfl (.inl rfl) (xv_move rfl ⟨rfl, rfl⟩) ?_
          refine js_S rfl rfl (.inl rfl) (xv_move rfl ⟨rfl, rfl⟩) ?_
          refine js_S rfl rfl (.inl rfl) (xv_add rfl rfl (wrap_i64 Om_ Om_) ⟨rfl, rfl⟩) ?_
          refine js_S rfl rfl (.inl rfl) (xv_move rfl ⟨rfl, rfl⟩) ?_
          refine js_S rfl rfl (.inl rfl) (xv_move rfl ⟨rfl, rfl⟩) ?_
          refine js_S rfl rfl (.inl rfl) (xv_move rfl ⟨rfl, rfl⟩) ?_
          refine js_S rfl rfl (.inl rfl) (xv_add rfl rfl (wrap_i64 Om_ Om_) ⟨rfl, rfl⟩) ?_
          refine js_S rfl rfl (.inl rfl) (xv_ia (sz := 2) (j := (first + (2 * root + 1))) sl95 ty93 rfl rfl rfl Om_ Om_ Om_ ⟨rfl, rfl⟩) ?_
          refine js_R0 rfl rfl (.inl rfl) (xv_loadA ty93 rfl rfl Me_ (ca_get eShare_len (k := (first + (2 * root + 1))) (by rw [hA1.size]; (first|omega|(dsimp only at *;omega)|(simp at *;omega)))) rfl ⟨rfl, rfl⟩) ?_
          refine js_S rfl rfl (.inl rfl) (xv_move rfl ⟨rfl, rfl⟩) ?_
          refine js_S rfl rfl (.inl rfl) (xv_move rfl ⟨rfl, rfl⟩) ?_
          refine js_S rfl rfl (.inl rfl) (xv_move rfl ⟨rfl, rfl⟩) ?_
          refine js_S rfl rfl (.inl rfl) (xv_add rfl rfl (wrap_i64 Om_ Om_) ⟨rfl, rfl⟩) ?_
          refine js_S rfl rfl (.inl rfl) (xv_ia (sz := 2) (j := (first + root)) sl95 ty93 rfl rfl rfl Om_ Om_ Om_ ⟨rfl, rfl⟩) ?_
          refine js_R0 rfl rfl (.inl rfl) (xv_loadA ty93 rfl rfl Me_ (ca_get eShare_len (k := (first + root)) (by rw [hA1.size]; (first|omega|(dsimp only at *;omega)|(simp at *;omega)))) rfl ⟨rfl, rfl⟩) ?_
          refine js_S rfl rfl (.inl rfl) (xv_ia (sz := 2) (j := (first + root)) sl95 ty93 rfl rfl rfl Om_ Om_ Om_ ⟨rfl, rfl⟩) ?_
          refine js_O0 rfl rfl (.inl rfl) (xv_s ty93 rfl rfl Up_ rfl (by rfl) (by rfl) (ca_room eShare_len (k := (first + root)) (by rw [hA1.size]; (first|omega|(dsimp only at *;omega)|(simp at *;omega)))) (ca_splice eShare_len (k := (first + root)) (by rw [hA1.size]; (first|omega|(dsimp only at *;omega)|(simp at *;omega)))) ?_)
          refine js_S rfl rfl (.inl rfl) (xv_ia (sz := 2) (j := (first + (2 * root + 1))) sl95 ty93 rfl rfl rfl Om_ Om_ Om_ ⟨rfl, rfl⟩) ?_
          refine js_O0 rfl rfl (.inl rfl) (xv_s ty93 rfl rfl Up_ rfl (by rfl) (by rfl) (ca_room eShare_len (k := (first + (2 * root + 1))) (by rw [Array.size_setIfInBounds, hA1.size]; (first|omega|(dsimp only at *;omega)|(simp at *;omega)))) (ca_splice eShare_len (k := (first + (2 * root + 1))) (by rw [Array.size_setIfInBounds, hA1.size]; (first|omega|(dsimp only at *;omega)|(simp at *;omega)))) ?_)
          refine j_end0 ?_
          refine th_n ?_
          refine xc_region ?_
          refine xr_op rfl rfl (xv_move rfl ?_)
          refine xr_op rfl rfl (xv_assign rfl ?_)
          refine xr_end rfl ?_
          refine bk_n ?_
          have hkl := kid_lt (lt := ltc cm) (first := first) (d := d1) (show ¬ hi ≤ 2 * root + 1 by (first|omega|(dsimp only at *;omega)|(simp at *;omega)))
          rw [hk] at hkl
          exact rnd (((2 * root + 1), Go.Sort.swp d1 (first + root) (first + (2 * root + 1))) : Nat × Array Share) ⟨by (first|omega|(dsimp only at *;omega)|(simp at *;omega)), hA1.swp Om_ Om_, by dsimp only; have e := sift_some (lt := ltc cm) (first := first) (root := root) (hi := hi) (d := d1) Om_ (by rw [hk]; exact ltc_T Om_); rw [hk] at e; exact e.symm.trans heq⟩ Om_ (le_put (le_put (le_put (le_put (le_put (le_emp _) rfl) rfl) rfl) rfl) rfl) Su_
        · refine js_S rfl rfl (.inl rfl) (xv_not rfl ⟨rfl, rfl⟩) ?_
          refine j_end0 ?_
          refine th_n ?_
          refine xc_true rfl ?_
          refine xc_ret ?_
          refine th_r ?_
          refine bk_r ?_
          refine th_r ?_
          refine bk_r ?_
          refine body_ret (h' := ((bb, .cells ⟨(d1).toList.flatMap eShare ++ sp⟩ 76) :: L)) rfl ro_nil Su_ ?_
          first | (have e := (sift_none (lt := ltc cm) (first := first) (root := root) (hi := hi) (d := d1) Om_ (by rw [hk]; exact ltc_F Om_)).symm.trans heq; rw [← e] at H; exact H hA1) | (have e := (sift_stop (lt := ltc cm) (first := first) (root := root) (hi := hi) (d := d1) Om_).symm.trans heq; rw [← e] at H; exact H hA1)
    · refine js_S rfl rfl (.inl rfl) (xv_move rfl ⟨rfl, rfl⟩) ?_
      refine js_Ss rfl rfl ⟨_, _, _, rfl, rfl, rfl⟩ ?_
      refine js_Ss rfl rfl ⟨_, _, _, rfl, rfl, rfl⟩ ?_
      refine js_Ss rfl rfl ⟨_, _, _, rfl, rfl, rfl⟩ ?_
      refine js_Ss rfl rfl ⟨_, _, _, rfl, rfl, rfl⟩ ?_
      refine js_Ss rfl rfl ⟨_, _, _, rfl, rfl, rfl⟩ ?_
      refine js_Ss rfl rfl ⟨_, _, _, rfl, rfl, rfl⟩ ?_
      refine js_Rs rfl rfl ⟨_, _, _, rfl, rfl, rfl⟩ ?_
      refine js_Ss rfl rfl ⟨_, _, _, rfl, rfl, rfl⟩ ?_
      refine js_Ss rfl rfl ⟨_, _, _, rfl, rfl, rfl⟩ ?_
      refine js_Ss rfl rfl ⟨_, _, _, rfl, rfl, rfl⟩ ?_
      refine js_Ss rfl rfl ⟨_, _, _, rfl, rfl, rfl⟩ ?_
      refine js_Ss rfl rfl ⟨_, _, _, rfl, rfl, rfl⟩ ?_
      refine js_Ss rfl rfl ⟨_, _, _, rfl, rfl, rfl⟩ ?_
      refine js_Rs rfl rfl ⟨_, _, _, rfl, rfl, rfl⟩ ?_
      refine js_Rs rfl rfl ⟨_, _, _, rfl, rfl, rfl⟩ ?_
      refine js_Os rfl rfl ⟨_, _, _, rfl, rfl, rfl⟩ ?_
      refine js_S rfl rfl (.inl rfl) (xv_pick rfl rfl ⟨rfl, rfl⟩) ?_
      refine j_end0 ?_
      refine th_n ?_
      refine xc_false rfl ?_
      refine xc_skip ?_
      refine th_n ?_
      refine xc_seq ?_
      refine xc_seq ?_
      refine xc_draw0 [(0, .S), (1, .S), (2, .S), (3, .S), (4, .S), (5, .S), (6, .R), (7, .S), (8, .S), (9, .S), (10, .S), (11, .S), (12, .R), (13, .R), (14, .O), (15, .S)] mixed (by kernel_rfl) ?_
      have hk : kid (ltc cm) hi first root d1 = (2 * root + 1) := by unfold kid; refine if_neg (fun hq9 => ?_); first | (exact absurd hq9.1 Om_) | (have h9 := ltc_F (cm := cm) (x := d1[first + (2 * root + 1)]!) (y := d1[first + (2 * root + 1) + 1]!) Om_; rw [h9] at hq9; exact absurd hq9.2 (by decide))
      refine js_S rfl rfl (.inl rfl) (xv_move rfl ⟨rfl, rfl⟩) ?_
      refine js_S rfl rfl (.inl rfl) (xv_move rfl ⟨rfl, rfl⟩) ?_
      refine js_S rfl rfl (.inl rfl) (xv_move rfl ⟨rfl, rfl⟩) ?_
      refine js_S rfl rfl (.inl rfl) (xv_move rfl ⟨rfl, rfl⟩) ?_
      refine js_S rfl rfl (.inl rfl) (xv_add rfl rfl (wrap_i64 Om_ Om_) ⟨rfl, rfl⟩) ?_
      refine js_S rfl rfl (.inl rfl) (xv_ia (sz := 2) (j := (first + root)) sl95 ty93 rfl rfl rfl Om_ Om_ Om_ ⟨rfl, rfl⟩) ?_
      refine js_R0 rfl rfl (.inl rfl) (xv_loadA ty93 rfl rfl Me_ (ca_get eShare_len (k := (first + root)) (by rw [hA1.size]; (first|omega|(dsimp only at *;omega)|(simp at *;omega)))) rfl ⟨rfl, rfl⟩) ?_
      refine js_S rfl rfl (.inl rfl) (xv_move rfl ⟨rfl, rfl⟩) ?_
      refine js_S rfl rfl (.inl rfl) (xv_move rfl ⟨rfl, rfl⟩) ?_
      refine js_S rfl rfl (.inl rfl) (xv_move rfl ⟨rfl, rfl⟩) ?_
      refine js_S rfl rfl (.inl rfl) (xv_add rfl rfl (wrap_i64 Om_ Om_) ⟨rfl, rfl⟩) ?_
      refine js_S rfl rfl (.inl rfl) (xv_ia (sz := 2) (j := (first + (2 * root + 1))) sl95 ty93 rfl rfl rfl Om_ Om_ Om_ ⟨rfl, rfl⟩) ?_
      refine js_R0 rfl rfl (.inl rfl) (xv_loadA ty93 rfl rfl Me_ (ca_get eShare_len (k := (first + (2 * root + 1))) (by rw [hA1.size]; (first|omega|(dsimp only at *;omega)|(simp at *;omega)))) rfl ⟨rfl, rfl⟩) ?_
      refine js_R0 rfl rfl (.inl rfl) (xv_fn rfl rfl (hf _ _ (hA1.all _ Om_) (hA1.all _ Om_) _ _ (by intro z hz; ((repeat first|exact z_0|assumption|refine z_1 ?_|(refine z_l ?_;(repeat first|exact z_0|assumption|refine z_1 ?_);done)|refine z_r ?_);done)) (up_ret ⟨rfl, rfl⟩))) ?_
      refine js_O0 rfl rfl (.inl rfl) (xv_lss2 rfl rfl (fun hq => ?_) (fun hq => ?_))
      · refine js_S rfl rfl (.inl rfl) (xv_not rfl ⟨rfl, rfl⟩) ?_
        refine j_end0 ?_
        refine th_n ?_
        refine xc_false rfl ?_
        refine xc_skip ?_
        refine th_n ?_
        refine xc_seq ?_
        refine xc_draw0 [(0, .S), (1, .S), (2, .S), (3, .S), (4, .S), (5, .S), (6, .S), (7, .S), (8, .S), (9, .S), (10, .S), (11, .S), (12, .S), (13, .R), (14, .S), (15, .S), (16, .S), (17, .S), (18, .S), (19, .R), (20, .S), (21, .O), (22, .S), (23, .O)] mixed (by kernel_rfl) ?_
        refine js_S rfl rfl (.inl rfl) (xv_move rfl ⟨rfl, rfl⟩) ?_
        refine js_S rfl rfl (.inl rfl) (xv_move rfl ⟨rfl, rfl⟩) ?_
        refine js_S rfl rfl (.inl rfl) (xv_move rfl ⟨rfl, rfl⟩) ?_
        refine js_S rfl rfl (.inl rfl) (xv_add rfl rfl (wrap_i64 Om_ Om_) ⟨rfl, rfl⟩) ?_
        refine js_S rfl rfl (.inl rfl) (xv_move rfl ⟨rfl, rfl⟩) ?_
        refine js_S rfl rfl (.inl rfl) (xv_move rfl ⟨rfl, rfl⟩) ?_
        refine js_S rfl rfl (.inl rfl) (xv_move rfl ⟨rfl, rfl⟩) ?_
        refine js_S rfl rfl (.inl rfl) (xv_add rfl rfl (wrap_i64 Om_ Om_) ⟨rfl, rfl⟩) ?_
        refine js_S rfl rfl (.inl rfl) (xv_move rfl ⟨rfl, rfl⟩) ?_
        refine js_S rfl rfl (.inl rfl) (xv_move rfl ⟨rfl, rfl⟩) ?_
        refine js_S rfl rfl (.inl rfl) (xv_move rfl ⟨rfl, rfl⟩) ?_
        refine js_S rfl rfl (.inl rfl) (xv_add rfl rfl (wrap_i64 Om_ Om_) ⟨rfl, rfl⟩) ?_
        refine js_S rfl rfl (.inl rfl) (xv_ia (sz := 2) (j := (first + (2 * root + 1))) sl95 ty93 rfl rfl rfl Om_ Om_ Om_ ⟨rfl, rfl⟩) ?_
        refine js_R0 rfl rfl (.inl rfl) (xv_loadA ty93 rfl rfl Me_ (ca_get eShare_len (k := (first + (2 * root + 1))) (by rw [hA1.size]; (first|omega|(dsimp only at *;omega)|(simp at *;omega)))) rfl ⟨rfl, rfl⟩) ?_
        refine js_S rfl rfl (.inl rfl) (xv_move rfl ⟨rfl, rfl⟩) ?_
        refine js_S rfl rfl (.inl rfl) (xv_move rfl ⟨rfl, rfl⟩) ?_
        refine js_S rfl rfl (.inl rfl) (xv_move rfl ⟨rfl, rfl⟩) ?_
        refine js_S rfl rfl (.inl rfl) (xv_add rfl rfl (wrap_i64 Om_ Om_) ⟨rfl, rfl⟩) ?_
        refine js_S rfl rfl (.inl rfl) (xv_ia (sz := 2) (j := (first + root)) sl95 ty93 rfl rfl rfl Om_ Om_ Om_ ⟨rfl, rfl⟩) ?_
        refine js_R0 rfl rfl (.inl rfl) (xv_loadA ty93 rfl rfl Me_ (ca_get eShare_len (k := (first + root)) (by rw [hA1.size]; (first|omega|(dsimp only at *;omega)|(simp at *;omega)))) rfl ⟨rfl, rfl⟩) ?_
        refine js_S rfl rfl (.inl rfl) (xv_ia (sz := 2) (j := (first + root)) sl95 ty93 rfl rfl rfl Om_ Om_ Om_ ⟨rfl, rfl⟩) ?_
        refine js_O0 rfl rfl (.inl rfl) (xv_s ty93 rfl rfl Up_ rfl (by rfl) (by rfl) (ca_room eShare_len (k := (first + root)) (by rw [hA1.size]; (first|omega|(dsimp only at *;omega)|(simp at *;omega)))) (ca_splice eShare_len (k := (first + root)) (by rw [hA1.size]; (first|omega|(dsimp only at *;omega)|(simp at *;omega)))) ?_)
        refine js_S rfl rfl (.inl rfl) (xv_ia (sz := 2) (j := (first + (2 * root + 1))) sl95 ty93 rfl rfl rfl Om_ Om_ Om_ ⟨rfl, rfl⟩) ?_
        refine js_O0 rfl rfl (.inl rfl) (xv_s ty93 rfl rfl Up_ rfl (by rfl) (by rfl) (ca_room eShare_len (k := (first + (2 * root + 1))) (by rw [Array.size_setIfInBounds, hA1.size]; (first|omega|(dsimp only at *;omega)|(simp at *;omega)))) (ca_splice eShare_len (k := (first + (2 * root + 1))) (by rw [Array.size_setIfInBounds, hA1.size]; (first|omega|(dsimp only at *;omega)|(simp at *;omega)))) ?_)
        refine j_end0 ?_
        refine th_n ?_
        refine xc_region ?_
        refine xr_op rfl rfl (xv_move rfl ?_)
        refine xr_op rfl rfl (xv_assign rfl ?_)
        refine xr_end rfl ?_
        refine bk_n ?_
        have hkl := kid_lt (lt := ltc cm) (first := first) (d := d1) (show ¬ hi ≤ 2 * root + 1 by (first|omega|(dsimp only at *;omega)|(simp at *;omega)))
        rw [hk] at hkl
        exact rnd (((2 * root + 1), Go.Sort.swp d1 (first + root) (first + (2 * root + 1))) : Nat × Array Share) ⟨by (first|omega|(dsimp only at *;omega)|(simp at *;omega)), hA1.swp Om_ Om_, by dsimp only; have e := sift_some (lt := ltc cm) (first := first) (root := root) (hi := hi) (d := d1) Om_ (by rw [hk]; exact ltc_T Om_); rw [hk] at e; exact e.symm.trans heq⟩ Om_ (le_put (le_put (le_put (le_put (le_put (le_emp _) rfl) rfl) rfl) rfl) rfl) Su_
      · refine js_S rfl rfl (.inl rfl) (xv_not rfl ⟨rfl, rfl⟩) ?_
        refine j_end0 ?_
        refine th_n ?_
        refine xc_true rfl ?_
        refine xc_ret ?_
        refine th_r ?_
        refine bk_r ?_
        refine th_r ?_
        refine bk_r ?_
        refine body_ret (h' := ((bb, .cells ⟨(d1).toList.flatMap eShare ++ sp⟩ 76) :: L)) rfl ro_nil Su_ ?_
        first | (have e := (sift_none (lt := ltc cm) (first := first) (root := root) (hi := hi) (d := d1) Om_ (by rw [hk]; exact ltc_F Om_)).symm.trans heq; rw [← e] at H; exact H hA1) | (have e := (sift_stop (lt := ltc cm) (first := first) (root := root) (hi := hi) (d := d1) Om_).symm.trans heq; rw [← e] at H; exact H hA1)

theorem heap_c {bb cap N : Nat} {sp : List Value} {d : Array Share} {f : Value} {cm : Share → Share → Int} {p : Share → Prop} {L : Hp} {R : Ending → Hp → Prop} (hA : Arr N p d) (hN : N ≤ 49) (hf : ∀ x y, p x → p y → ∀ H R', L ⊆ H → R' (.returned (I (cm x y))) H → AFn Try.prog f [.agg ⟨eShare x⟩, .agg ⟨eShare y⟩] H R') {a b : Nat} {ai bi : Int} (ea : ai = a) (eb : bi = b) (hab : a ≤ b) (hb : b ≤ N) (H : Arr N p (Go.Sort.heapSort (ltc cm) d a b) → R (.returned (.tuple #[])) ((bb, .cells ⟨(Go.Sort.heapSort (ltc cm) d a b).toList.flatMap eShare ++ sp⟩ 76) :: L)) :
    ACalls Try.prog 62 ⟨[.slice (some ⟨bb, 0, none⟩) N cap, I ai, I bi, f]⟩ ((bb, .cells ⟨(d).toList.flatMap eShare ++ sp⟩ 76) :: L) R := by
  subst ea eb
  refine calls_of_xc (N := 60) Try.func62 rfl (by rfl) ?_
  have hqh := quo_half hab
  refine xc_seq (xc_region ?_)
  refine xr_op rfl rfl (xv_move rfl ?_)
  refine xr_op rfl rfl (xv_assign rfl ?_)
  refine xr_end rfl ?_
  refine th_n ?_
  refine xc_seq (xc_region ?_)
  refine xr_op rfl rfl (xv_assign rfl ?_)
  refine xr_end rfl ?_
  refine th_n ?_
  refine xc_seq (xc_region ?_)
  refine xr_op rfl rfl (xv_move rfl ?_)
  refine xr_op rfl rfl (xv_move rfl ?_)
  refine xr_op rfl rfl (xv_sub rfl rfl (wrap_i64 Om_ Om_) ?_)
  refine xr_op rfl rfl (xv_assign rfl ?_)
  refine xr_end rfl ?_
  refine th_n ?_
  refine xc_seq ?_
  refine xc_seq (xc_region ?_)
  refine xr_op rfl rfl (xv_move rfl ?_)
  refine xr_op rfl rfl (xv_sub rfl rfl (wrap_i64 Om_ Om_) ?_)
  refine xr_op rfl rfl (xv_quo (c := (((b - a - 1) / 2 + 1 : Nat) : Int) - 1) rfl rfl (by omega) (by rw [hqh]; exact wrap_i64 (by omega) (by omega)) ?_)
  refine xr_op rfl rfl (xv_assign rfl ?_)
  refine xr_end rfl ?_
  refine th_n ?_
  refine xc_block ?_
  refine xc_loop (σ := Nat × Array Share) (fun z => z.1 ≤ ((b - a - 1) / 2 + 1) ∧ Arr N p z.2 ∧ Go.Sort.heapBuild (ltc cm) (b - a) a z.1 z.2 = Go.Sort.heapBuild (ltc cm) (b - a) a ((b - a - 1) / 2 + 1) d) (fun z => ((((((emp.put (some 0) (.slice (some ⟨bb, 0, none⟩) N cap)).put (some 3) (f)).put (some 8) (I a)).put (some 9) (I 0)).put (some 10) (I ((b : Int) - a))).put (some 11) (I ((z.1 : Int) - 1)))) (fun z => ((bb, .cells ⟨(z.2).toList.flatMap eShare ++ sp⟩ 76) :: L)) (fun z => z.1) ((((b - a - 1) / 2 + 1), d) : Nat × Array Share) ⟨Nat.le_refl _, hA, rfl⟩ (le_put (le_put (le_put (le_put (le_put (le_put (le_emp _) rfl) rfl) rfl) rfl) rfl) (by dsimp only; rw [← hqh]; rfl)) Su_ ?_
  rintro ⟨k, d1⟩ ⟨hk, hA1, heq⟩
  dsimp only at hk hA1 heq
  refine xc_seq ?_
  refine xc_seq (xc_region ?_)
  refine xr_op rfl rfl (xv_move rfl ?_)
  refine xr_op rfl rfl (xv_geq2 rfl rfl (fun q1 => ?_) (fun q1 => ?_))
  · refine xr_end rfl ?_
    refine th_n ?_
    refine xc_true rfl ?_
    refine xc_skip ?_
    refine th_n ?_
    refine xc_seq ?_
    refine xc_block ?_
    refine xc_region ?_
    refine xr_op rfl rfl (xv_move rfl ?_)
    refine xr_op rfl rfl (xv_move rfl ?_)
    refine xr_op rfl rfl (xv_move rfl ?_)
    refine xr_op rfl rfl (xv_move rfl ?_)
    refine xr_op rfl rfl (xv_move rfl ?_)
    refine xr_op rfl rfl (xv_calls rfl hb74 (sift_c (lo := k - 1) (hi := b - a) (first := a) hA1 hN (fun x y hx hy H R' hs h2 => hf x y hx hy H R' hs h2) Om_ Om_ rfl Om_ Om_ (fun hA2 => up_ret ?_)))
    refine xr_end rfl ?_
    refine bk_n ?_
    refine th_n ?_
    refine xc_region ?_
    refine xr_op rfl rfl (xv_move rfl ?_)
    refine xr_op rfl rfl (xv_sub rfl rfl (wrap_i64 Om_ Om_) ?_)
    refine xr_op rfl rfl (xv_assign rfl ?_)
    refine xr_end rfl ?_
    have hk1 : k = (k - 1) + 1 := by (first|omega|(dsimp only at *;omega)|(simp at *;omega))
    have heq3 := heq
    rw [hk1, heapBuild_step] at heq3
    exact rnd ((k - 1, Go.Sort.siftDown (ltc cm) (b - a) a (k - 1) d1) : Nat × Array Share) ⟨by (first|omega|(dsimp only at *;omega)|(simp at *;omega)), hA2, heq3⟩ Om_ (le_put (le_put (le_put (le_put (le_put (le_put (le_emp _) rfl) rfl) rfl) rfl) rfl) (by dsimp only; rw [show (((k - 1 : Nat) : Int) - 1) = (k : Int) - 1 - 1 by (first|omega|(dsimp only at *;omega)|(simp at *;omega))]; rfl)) Su_
  · refine xr_end rfl ?_
    refine th_n ?_
    refine xc_false rfl ?_
    refine xc_exit ?_
    refine th_x ?_
    refine th_x ?_
    refine bk_same ?_
    refine th_n ?_
    refine xc_seq (xc_region ?_)
    refine xr_op rfl rfl (xv_move rfl ?_)
    refine xr_op rfl rfl (xv_sub rfl rfl (wrap_i64 Om_ Om_) ?_)
    refine xr_op rfl rfl (xv_assign rfl ?_)
    refine xr_end rfl ?_
    refine th_n ?_
    refine xc_block ?_
    obtain rfl : k = 0 := by (first|omega|(dsimp only at *;omega)|(simp at *;omega))
    have hbuilt : Go.Sort.heapPop (ltc cm) a (b - a) d1 = Go.Sort.heapSort (ltc cm) d a b := by unfold Go.Sort.heapSort; rw [← heq]; rfl
    refine xc_loop (σ := Nat × Array Share) (fun z => z.1 ≤ b - a ∧ Arr N p z.2 ∧ Go.Sort.heapPop (ltc cm) a z.1 z.2 = Go.Sort.heapSort (ltc cm) d a b) (fun z => (((((emp.put (some 0) (.slice (some ⟨bb, 0, none⟩) N cap)).put (some 3) (f)).put (some 8) (I a)).put (some 9) (I 0)).put (some 12) (I ((z.1 : Int) - 1)))) (fun z => ((bb, .cells ⟨(z.2).toList.flatMap eShare ++ sp⟩ 76) :: L)) (fun z => z.1) ((b - a, d1) : Nat × Array Share) ⟨Nat.le_refl _, hA1, hbuilt⟩ (le_put (le_put (le_put (le_put (le_put (le_emp _) rfl) rfl) rfl) rfl) (by dsimp only; rw [show (((b - a : Nat) : Int) - 1) = (b : Int) - a - 1 by omega]; rfl)) Su_ ?_
    rintro ⟨k, d1⟩ ⟨hk, hA1, heq⟩
    dsimp only at hk hA1 heq
    refine xc_seq ?_
    refine xc_seq (xc_region ?_)
    refine xr_op rfl rfl (xv_move rfl ?_)
    refine xr_op rfl rfl (xv_geq2 rfl rfl (fun q2 => ?_) (fun q2 => ?_))
    · refine xr_end rfl ?_
      refine th_n ?_
      refine xc_true rfl ?_
      refine xc_skip ?_
      refine th_n ?_
      refine xc_seq ?_
      refine xc_block ?_
      refine xc_seq ?_
      refine xc_draw0 [(0, .S), (1, .S), (2, .S), (3, .S), (4, .S), (5, .S), (6, .S), (7, .S), (8, .S), (9, .S), (10, .S), (11, .R), (12, .S), (13, .S), (14, .S), (15, .R), (16, .S), (17, .O), (18, .S), (19, .O)] mixed (by kernel_rfl) ?_
      refine js_S rfl rfl (.inl rfl) (xv_move rfl ⟨rfl, rfl⟩) ?_
      refine js_S rfl rfl (.inl rfl) (xv_move rfl ⟨rfl, rfl⟩) ?_
      refine js_S rfl rfl (.inl rfl) (xv_move rfl ⟨rfl, rfl⟩) ?_
      refine js_S rfl rfl (.inl rfl) (xv_move rfl ⟨rfl, rfl⟩) ?_
      refine js_S rfl rfl (.inl rfl) (xv_move rfl ⟨rfl, rfl⟩) ?_
      refine js_S rfl rfl (.inl rfl) (xv_add rfl rfl (wrap_i64 Om_ Om_) ⟨rfl, rfl⟩) ?_
      refine js_S rfl rfl (.inl rfl) (xv_move rfl ⟨rfl, rfl⟩) ?_
      refine js_S rfl rfl (.inl rfl) (xv_move rfl ⟨rfl, rfl⟩) ?_
      refine js_S rfl rfl (.inl rfl) (xv_move rfl ⟨rfl, rfl⟩) ?_
      refine js_S rfl rfl (.inl rfl) (xv_add rfl rfl (wrap_i64 Om_ Om_) ⟨rfl, rfl⟩) ?_
      refine js_S rfl rfl (.inl rfl) (xv_ia (sz := 2) (j := (a + (k - 1))) sl95 ty93 rfl rfl rfl Om_ Om_ Om_ ⟨rfl, rfl⟩) ?_
      refine js_R0 rfl rfl (.inl rfl) (xv_loadA ty93 rfl rfl Me_ (ca_get eShare_len (k := (a + (k - 1))) (by rw [hA1.size]; (first|omega|(dsimp only at *;omega)|(simp at *;omega)))) rfl ⟨rfl, rfl⟩) ?_
      refine js_S rfl rfl (.inl rfl) (xv_move rfl ⟨rfl, rfl⟩) ?_
      refine js_S rfl rfl (.inl rfl) (xv_move rfl ⟨rfl, rfl⟩) ?_
      refine js_S rfl rfl (.inl rfl) (xv_ia (sz := 2) (j := a) sl95 ty93 rfl rfl rfl Om_ Om_ Om_ ⟨rfl, rfl⟩) ?_
      refine js_R0 rfl rfl (.inl rfl) (xv_loadA ty93 rfl rfl Me_ (ca_get eShare_len (k := a) (by rw [hA1.size]; (first|omega|(dsimp only at *;omega)|(simp at *;omega)))) rfl ⟨rfl, rfl⟩) ?_
      refine js_S rfl rfl (.inl rfl) (xv_ia (sz := 2) (j := a) sl95 ty93 rfl rfl rfl Om_ Om_ Om_ ⟨rfl, rfl⟩) ?_
      refine js_O0 rfl rfl (.inl rfl) (xv_s ty93 rfl rfl Up_ rfl (by rfl) (by rfl) (ca_room eShare_len (k := a) (by rw [hA1.size]; (first|omega|(dsimp only at *;omega)|(simp at *;omega)))) (ca_splice eShare_len (k := a) (by rw [hA1.size]; (first|omega|(dsimp only at *;omega)|(simp at *;omega)))) ?_)
      refine js_S rfl rfl (.inl rfl) (xv_ia (sz := 2) (j := (a + (k - 1))) sl95 ty93 rfl rfl rfl Om_ Om_ Om_ ⟨rfl, rfl⟩) ?_
      refine js_O0 rfl rfl (.inl rfl) (xv_s ty93 rfl rfl Up_ rfl (by rfl) (by rfl) (ca_room eShare_len (k := (a + (k - 1))) (by rw [Array.size_setIfInBounds, hA1.size]; (first|omega|(dsimp only at *;omega)|(simp at *;omega)))) (ca_splice eShare_len (k := (a + (k - 1))) (by rw [Array.size_setIfInBounds, hA1.size]; (first|omega|(dsimp only at *;omega)|(simp at *;omega)))) ?_)
      refine j_end0 ?_
      refine th_n ?_
      refine xc_region ?_
      refine xr_op rfl rfl (xv_move rfl ?_)
      refine xr_op rfl rfl (xv_move rfl ?_)
      refine xr_op rfl rfl (xv_move rfl ?_)
      refine xr_op rfl rfl (xv_move rfl ?_)
      refine xr_op rfl rfl (xv_move rfl ?_)
      refine xr_op rfl rfl (xv_calls rfl hb74 (sift_c (lo := 0) (hi := k - 1) (first := a) (hA1.swp (i := a) (j := a + (k - 1)) Om_ Om_) hN hf rfl Om_ rfl Om_ Om_ (fun hA2 => up_ret ?_)))
      refine xr_end rfl ?_
      refine bk_n ?_
      refine th_n ?_
      refine xc_region ?_
      refine xr_op rfl rfl (xv_move rfl ?_)
      refine xr_op rfl rfl (xv_sub rfl rfl (wrap_i64 Om_ Om_) ?_)
      refine xr_op rfl rfl (xv_assign rfl ?_)
      refine xr_end rfl ?_
      have hk1 : k = (k - 1) + 1 := by (first|omega|(dsimp only at *;omega)|(simp at *;omega))
      have heq3 := heq
      rw [hk1, heapPop_step] at heq3
      exact rnd ((k - 1, Go.Sort.siftDown (ltc cm) (k - 1) a 0 (Go.Sort.swp d1 a (a + (k - 1)))) : Nat × Array Share) ⟨by (first|omega|(dsimp only at *;omega)|(simp at *;omega)), hA2, heq3⟩ Om_ (le_put (le_put (le_put (le_put (le_put (le_emp _) rfl) rfl) rfl) rfl) (by dsimp only; rw [show (((k - 1 : Nat) : Int) - 1) = (k : Int) - 1 - 1 by (first|omega|(dsimp only at *;omega)|(simp at *;omega))]; rfl)) Su_
    · refine xr_end rfl ?_
      refine th_n ?_
      refine xc_false rfl ?_
      refine xc_exit ?_
      refine th_x ?_
      refine th_x ?_
      refine bk_same ?_
      refine body_end (h' := ((bb, .cells ⟨(d1).toList.flatMap eShare ++ sp⟩ 76) :: L)) rfl ro_nil Su_ ?_
      (obtain rfl : k = 0 := by (first|omega|(dsimp only at *;omega)|(simp at *;omega))); (have e : d1 = Go.Sort.heapSort (ltc cm) d a b := heq); rw [← e] at H; exact H hA1

theorem rev_c {bb cap N : Nat} {sp : List Value} {d : Array Share} {f : Value} {cm : Share → Share → Int} {p : Share → Prop} {L : Hp} {R : Ending → Hp → Prop} (hA : Arr N p d) (hN : N ≤ 49) {a b : Nat} {ai bi : Int} (ea : ai = a) (eb : bi = b) (hab : a < b) (hb : b ≤ N) (H : Arr N p (Go.Sort.reverseRange d a b) → R (.returned (.tuple #[])) ((bb, .cells ⟨(Go.Sort.reverseRange d a b).toList.flatMap eShare ++ sp⟩ 76) :: L)) :
    ACalls Try.prog 65 ⟨[.slice (some ⟨bb, 0, none⟩) N cap, I ai, I bi, f]⟩ ((bb, .cells ⟨(d).toList.flatMap eShare ++ sp⟩ 76) :: L) R := by
  subst ea eb
  refine calls_of_xc (N := 34) Try.func65 rfl (by rfl) ?_
  refine xc_seq (xc_region ?_)
  refine xr_op rfl rfl (xv_move rfl ?_)
  refine xr_op rfl rfl (xv_assign rfl ?_)
  refine xr_end rfl ?_
  refine th_n ?_
  refine xc_seq (xc_region ?_)
  refine xr_op rfl rfl (xv_move rfl ?_)
  refine xr_op rfl rfl (xv_sub rfl rfl (wrap_i64 Om_ Om_) ?_)
  refine xr_op rfl rfl (xv_assign rfl ?_)
  refine xr_end rfl ?_
  refine th_n ?_
  refine xc_block ?_
  refine xc_loop (σ := Nat × Nat × Array Share) (fun z => z.2.1 < N ∧ z.1 ≤ N ∧ Arr N p z.2.2 ∧ Go.Sort.reverseLoop z.1 z.2.1 z.2.2 = Go.Sort.reverseRange d a b) (fun z => (((emp.put (some 0) (.slice (some ⟨bb, 0, none⟩) N cap)).put (some 8) (I z.1)).put (some 9) (I z.2.1))) (fun z => ((bb, .cells ⟨(z.2.2).toList.flatMap eShare ++ sp⟩ 76) :: L)) (fun z => z.2.1 + 1 - z.1) ((a, b - 1, d) : Nat × Nat × Array Share) ⟨by dsimp only; omega, by dsimp only; omega, hA, rfl⟩ (le_put (le_put (le_put (le_emp _) rfl) rfl) (by dsimp only; rw [show ((b - 1 : Nat) : Int) = (b : Int) - 1 by omega]; rfl)) Su_ ?_
  rintro ⟨i, j, d1⟩ ⟨hj, hi, hA1, heq⟩
  dsimp only at hj hi hA1 heq
  refine xc_seq ?_
  refine xc_seq (xc_region ?_)
  refine xr_op rfl rfl (xv_move rfl ?_)
  refine xr_op rfl rfl (xv_move rfl ?_)
  refine xr_op rfl rfl (xv_lss2 rfl rfl (fun q1 => ?_) (fun q1 => ?_))
  · refine xr_end rfl ?_
    refine th_n ?_
    refine xc_true rfl ?_
    refine xc_skip ?_
    refine th_n ?_
    refine xc_block ?_
    refine xc_seq ?_
    refine xc_draw0 [(0, .S), (1, .S), (2, .S), (3, .S), (4, .S), (5, .S), (6, .S), (7, .R), (8, .S), (9, .S), (10, .S), (11, .R), (12, .S), (13, .O), (14, .S), (15, .O)] mixed (by kernel_rfl) ?_
    refine js_S rfl rfl (.inl rfl) (xv_move rfl ⟨rfl, rfl⟩) ?_
    refine js_S rfl rfl (.inl rfl) (xv_move rfl ⟨rfl, rfl⟩) ?_
    refine js_S rfl rfl (.inl rfl) (xv_move rfl ⟨rfl, rfl⟩) ?_
    refine js_S rfl rfl (.inl rfl) (xv_move rfl ⟨rfl, rfl⟩) ?_
    refine js_S rfl rfl (.inl rfl) (xv_move rfl ⟨rfl, rfl⟩) ?_
    refine js_S rfl rfl (.inl rfl) (xv_move rfl ⟨rfl, rfl⟩) ?_
    refine js_S rfl rfl (.inl rfl) (xv_ia (sz := 2) (j := j) sl95 ty93 rfl rfl rfl Om_ Om_ Om_ ⟨rfl, rfl⟩) ?_
    refine js_R0 rfl rfl (.inl rfl) (xv_loadA ty93 rfl rfl Me_ (ca_get eShare_len (k := j) (by rw [hA1.size]; (first|omega|(dsimp only at *;omega)|(simp at *;omega)))) rfl ⟨rfl, rfl⟩) ?_
    refine js_S rfl rfl (.inl rfl) (xv_move rfl ⟨rfl, rfl⟩) ?_
    refine js_S rfl rfl (.inl rfl) (xv_move rfl ⟨rfl, rfl⟩) ?_
    refine js_S rfl rfl (.inl rfl) (xv_ia (sz := 2) (j := i) sl95 ty93 rfl rfl rfl Om_ Om_ Om_ ⟨rfl, rfl⟩) ?_
    refine js_R0 rfl rfl (.inl rfl) (xv_loadA ty93 rfl rfl Me_ (ca_get eShare_len (k := i) (by rw [hA1.size]; (first|omega|(dsimp only at *;omega)|(simp at *;omega)))) rfl ⟨rfl, rfl⟩) ?_
    refine js_S rfl rfl (.inl rfl) (xv_ia (sz := 2) (j := i) sl95 ty93 rfl rfl rfl Om_ Om_ Om_ ⟨rfl, rfl⟩) ?_
    refine js_O0 rfl rfl (.inl rfl) (xv_s ty93 rfl rfl Up_ rfl (by rfl) (by rfl) (ca_room eShare_len (k := i) (by rw [hA1.size]; (first|omega|(dsimp only at *;omega)|(simp at *;omega)))) (ca_splice eShare_len (k := i) (by rw [hA1.size]; (first|omega|(dsimp only at *;omega)|(simp at *;omega)))) ?_)
    refine js_S rfl rfl (.inl rfl) (xv_ia (sz := 2) (j := j) sl95 ty93 rfl rfl rfl Om_ Om_ Om_ ⟨rfl, rfl⟩) ?_
    refine js_O0 rfl rfl (.inl rfl) (xv_s ty93 rfl rfl Up_ rfl (by rfl) (by rfl) (ca_room eShare_len (k := j) (by rw [Array.size_setIfInBounds, hA1.size]; (first|omega|(dsimp only at *;omega)|(simp at *;omega)))) (ca_splice eShare_len (k := j) (by rw [Array.size_setIfInBounds, hA1.size]; (first|omega|(dsimp only at *;omega)|(simp at *;omega)))) ?_)
    refine j_end0 ?_
    refine th_n ?_
    refine xc_seq (xc_region ?_)
    refine xr_op rfl rfl (xv_move rfl ?_)
    refine xr_op rfl rfl (xv_add rfl rfl (wrap_i64 Om_ Om_) ?_)
    refine xr_op rfl rfl (xv_assign rfl ?_)
    refine xr_end rfl ?_
    refine th_n ?_
    refine xc_region ?_
    refine xr_op rfl rfl (xv_move rfl ?_)
    refine xr_op rfl rfl (xv_sub rfl rfl (wrap_i64 Om_ Om_) ?_)
    refine xr_op rfl rfl (xv_assign rfl ?_)
    refine xr_end rfl ?_
    refine bk_n ?_
    exact rnd ((i + 1, j - 1, Go.Sort.swp d1 i j) : Nat × Nat × Array Share) ⟨by (first|omega|(dsimp only at *;omega)|(simp at *;omega)), by (first|omega|(dsimp only at *;omega)|(simp at *;omega)), hA1.swp Om_ Om_, (rev_step Om_).symm.trans heq⟩ Om_ (le_put (le_put (le_put (le_emp _) rfl) rfl) (by dsimp only; rw [show ((j - 1 : Nat) : Int) = (j : Int) - 1 by (first|omega|(dsimp only at *;omega)|(simp at *;omega))]; rfl)) Su_
  · refine xr_end rfl ?_
    refine th_n ?_
    refine xc_false rfl ?_
    refine xc_exit ?_
    refine th_x ?_
    refine th_x ?_
    refine bk_same ?_
    refine body_end (h' := ((bb, .cells ⟨(d1).toList.flatMap eShare ++ sp⟩ 76) :: L)) rfl ro_nil Su_ ?_
    (have e := (rev_stop Om_).symm.trans heq; rw [← e] at H; exact H hA1)

theorem partial_c {bb cap N : Nat} {sp : List Value} {d : Array Share} {f : Value} {cm : Share → Share → Int} {p : Share → Prop} {L : Hp} {R : Ending → Hp → Prop} (hA : Arr N p d) (hN : N ≤ 49) (hf : ∀ x y, p x → p y → ∀ H R', L ⊆ H → R' (.returned (I (cm x y))) H → AFn Try.prog f [.agg ⟨eShare x⟩, .agg ⟨eShare y⟩] H R') {a b : Nat} {ai bi : Int} (ea : ai = a) (eb : bi = b) (hab : a < b) (hb : b ≤ N) (H : R (.returned (.bool (Go.Sort.partialInsertionSort (ltc cm) d a b).2)) ((bb, .cells ⟨(d).toList.flatMap eShare ++ sp⟩ 76) :: L)) :
    ACalls Try.prog 66 ⟨[.slice (some ⟨bb, 0, none⟩) N cap, I ai, I bi, f]⟩ ((bb, .cells ⟨(d).toList.flatMap eShare ++ sp⟩ 76) :: L) R := by
  subst ea eb
  refine calls_of_xc (N := 141) Try.func66 rfl (by rfl) ?_
  rw [partial_res (by omega)] at H
  dsimp only at H
  refine xc_seq (xc_region ?_)
  refine xr_op rfl rfl (xv_assign rfl ?_)
  refine xr_end rfl ?_
  refine th_n ?_
  refine xc_seq (xc_region ?_)
  refine xr_op rfl rfl (xv_move rfl ?_)
  refine xr_op rfl rfl (xv_add rfl rfl (wrap_i64 Om_ Om_) ?_)
  refine xr_op rfl rfl (xv_assign rfl ?_)
  refine xr_end rfl ?_
  refine th_n ?_
  refine xc_seq ?_
  refine xc_seq (xc_region ?_)
  refine xr_op rfl rfl (xv_assign rfl ?_)
  refine xr_end rfl ?_
  refine th_n ?_
  refine xc_block ?_
  refine xc_loop (σ := Unit) (fun _ => True) (fun _ => ((((((emp.put (some 0) (.slice (some ⟨bb, 0, none⟩) N cap)).put (some 1) (I a)).put (some 2) (I b)).put (some 3) (f)).put (some 9) (I ((a : Int) + 1))).put (some 10) (I 0))) (fun _ => ((bb, .cells ⟨(d).toList.flatMap eShare ++ sp⟩ 76) :: L)) (fun _ => 0) () trivial (le_put (le_put (le_put (le_put (le_put (le_put (le_emp _) rfl) rfl) rfl) rfl) rfl) rfl) Su_ ?_
  rintro ⟨⟩ _
  refine xc_seq ?_
  refine xc_seq (xc_region ?_)
  refine xr_op rfl rfl (xv_move rfl ?_)
  refine xr_op rfl rfl (xv_cmpK rfl rfl (cmpT (show (0 : Int) < 5 by decide)) ?_)
  refine xr_end rfl ?_
  refine th_n ?_
  refine xc_true rfl ?_
  refine xc_skip ?_
  refine th_n ?_
  refine xc_seq ?_
  refine xc_block ?_
  refine xc_seq ?_
  refine xc_block ?_
  refine xc_loop (σ := Nat) (fun i => a + 1 ≤ i ∧ i ≤ b ∧ Go.Sort.scanSorted (ltc cm) d b i = Go.Sort.scanSorted (ltc cm) d b (a + 1)) (fun i => ((((((emp.put (some 0) (.slice (some ⟨bb, 0, none⟩) N cap)).put (some 1) (I a)).put (some 2) (I b)).put (some 3) (f)).put (some 9) (I i)).put (some 10) (I 0))) (fun i => ((bb, .cells ⟨(d).toList.flatMap eShare ++ sp⟩ 76) :: L)) (fun i => b - i) (a + 1) ⟨Nat.le_refl _, hab, rfl⟩ (le_put (le_put (le_put (le_put (le_put (le_put (le_emp _) rfl) rfl) rfl) rfl) rfl) rfl) Su_ ?_
  rintro i ⟨hi1, hi2, heq⟩
  refine xc_seq ?_
  refine xc_seq ?_
  refine xc_draw0 [(0, .S), (1, .S), (2, .O), (3, .S), (4, .S), (5, .S), (6, .S), (7, .S), (8, .R), (9, .S), (10, .S), (11, .S), (12, .S), (13, .R), (14, .R), (15, .O), (16, .S), (17, .S)] mixed (by kernel_rfl) ?_
  refine js_S rfl rfl (.inl rfl) (xv_move rfl ⟨rfl, rfl⟩) ?_
  refine js_S rfl rfl (.inl rfl) (xv_move rfl ⟨rfl, rfl⟩) ?_
  refine js_O0 rfl rfl (.inl rfl) (xv_lss2 rfl rfl (fun hq => ?_) (fun hq => ?_))
  · refine js_S rfl rfl (.inl rfl) (xv_move rfl ⟨rfl, rfl⟩) ?_
    refine js_S rfl rfl (.inr ⟨_, _, rfl, rfl⟩) (xv_move rfl ⟨rfl, rfl⟩) ?_
    refine js_S rfl rfl (.inr ⟨_, _, rfl, rfl⟩) (xv_move rfl ⟨rfl, rfl⟩) ?_
    refine js_S rfl rfl (.inr ⟨_, _, rfl, rfl⟩) (xv_move rfl ⟨rfl, rfl⟩) ?_
    refine js_S rfl rfl (.inr ⟨_, _, rfl, rfl⟩) (xv_ia (sz := 2) (j := i) sl95 ty93 rfl rfl rfl Om_ Om_ Om_ ⟨rfl, rfl⟩) ?_
    refine js_R0 rfl rfl (.inr ⟨_, _, rfl, rfl⟩) (xv_loadA ty93 rfl rfl Me_ (ca_get eShare_len (k := i) (by rw [hA.size]; (first|omega|(dsimp only at *;omega)|(simp at *;omega)))) rfl ⟨rfl, rfl⟩) ?_
    refine js_S rfl rfl (.inr ⟨_, _, rfl, rfl⟩) (xv_move rfl ⟨rfl, rfl⟩) ?_
    refine js_S rfl rfl (.inr ⟨_, _, rfl, rfl⟩) (xv_move rfl ⟨rfl, rfl⟩) ?_
    refine js_S rfl rfl (.inr ⟨_, _, rfl, rfl⟩) (xv_sub rfl rfl (wrap_i64 Om_ Om_) ⟨rfl, rfl⟩) ?_
    refine js_S rfl rfl (.inr ⟨_, _, rfl, rfl⟩) (xv_ia (sz := 2) (j := (i - 1)) sl95 ty93 rfl rfl rfl Om_ Om_ Om_ ⟨rfl, rfl⟩) ?_
    refine js_R0 rfl rfl (.inr ⟨_, _, rfl, rfl⟩) (xv_loadA ty93 rfl rfl Me_ (ca_get eShare_len (k := (i - 1)) (by rw [hA.size]; (first|omega|(dsimp only at *;omega)|(simp at *;omega)))) rfl ⟨rfl, rfl⟩) ?_
    refine js_R0 rfl rfl (.inr ⟨_, _, rfl, rfl⟩) (xv_fn rfl rfl (hf _ _ (hA.all _ Om_) (hA.all _ Om_) _ _ (by intro z hz; ((repeat first|exact z_0|assumption|refine z_1 ?_|(refine z_l ?_;(repeat first|exact z_0|assumption|refine z_1 ?_);done)|refine z_r ?_);done)) (up_ret ⟨rfl, rfl⟩))) ?_
    refine js_O0 rfl rfl (.inr ⟨_, _, rfl, rfl⟩) (xv_lss2 rfl rfl (fun hq => ?_) (fun hq => ?_))
    · refine js_S rfl rfl (.inr ⟨_, _, rfl, rfl⟩) (xv_not rfl ⟨rfl, rfl⟩) ?_
      refine js_S rfl rfl (.inl rfl) (xv_pick rfl rfl ⟨rfl, rfl⟩) ?_
      refine j_end0 ?_
      refine th_n ?_
      refine xc_false rfl ?_
      refine xc_exit ?_
      refine th_x ?_
      refine th_x ?_
      refine bk_same ?_
      refine th_n ?_
      refine xc_seq ?_
      refine xc_seq (xc_region ?_)
      have hst : Go.Sort.scanSorted (ltc cm) d b (a + 1) = i := by
        rw [← heq]; first | exact scanSorted_stop (.inl Om_) | exact scanSorted_stop (.inr (ltc_T Om_))
      rw [hst] at H
      refine xr_op rfl rfl (xv_move rfl ?_)
      refine xr_op rfl rfl (xv_move rfl ?_)
      refine xr_op rfl rfl (xv_eql2 rfl rfl (fun q1 => ?_) (fun q1 => ?_))
      · refine xr_end rfl ?_
        refine th_n ?_
        refine xc_true rfl ?_
        refine xc_seq (xc_region ?_)
        refine xr_op rfl rfl (xv_assign rfl ?_)
        refine xr_end rfl ?_
        refine th_n ?_
        refine xc_ret ?_
        refine th_r ?_
        refine bk_r ?_
        refine th_r ?_
        refine th_r ?_
        refine bk_r ?_
        refine th_r ?_
        refine body_ret (h' := ((bb, .cells ⟨(d).toList.flatMap eShare ++ sp⟩ 76) :: L)) rfl (ro_tmp rfl ro_nil) Su_ ?_
        first | (rw [decide_eq_true (show i = b by (first|omega|(dsimp only at *;omega)|(simp at *;omega)))] at H; exact H) | (rw [decide_eq_false (show ¬ i = b by (first|omega|(dsimp only at *;omega)|(simp at *;omega)))] at H; exact H)
      · refine xr_end rfl ?_
        refine th_n ?_
        refine xc_false rfl ?_
        refine xc_skip ?_
        refine th_n ?_
        refine xc_seq ?_
        refine xc_seq (xc_region ?_)
        refine xr_op rfl rfl (xv_move rfl ?_)
        refine xr_op rfl rfl (xv_move rfl ?_)
        refine xr_op rfl rfl (xv_sub rfl rfl (wrap_i64 Om_ Om_) ?_)
        refine xr_op rfl rfl (xv_cmpK rfl rfl (cmpT (by simp only [cmpP]; (first|omega|(dsimp only at *;omega)|(simp at *;omega)))) ?_)
        refine xr_end rfl ?_
        refine th_n ?_
        refine xc_true rfl ?_
        refine xc_seq (xc_region ?_)
        refine xr_op rfl rfl (xv_assign rfl ?_)
        refine xr_end rfl ?_
        refine th_n ?_
        refine xc_ret ?_
        refine th_r ?_
        refine bk_r ?_
        refine th_r ?_
        refine th_r ?_
        refine bk_r ?_
        refine th_r ?_
        refine body_ret (h' := ((bb, .cells ⟨(d).toList.flatMap eShare ++ sp⟩ 76) :: L)) rfl (ro_tmp rfl ro_nil) Su_ ?_
        first | (rw [decide_eq_true (show i = b by (first|omega|(dsimp only at *;omega)|(simp at *;omega)))] at H; exact H) | (rw [decide_eq_false (show ¬ i = b by (first|omega|(dsimp only at *;omega)|(simp at *;omega)))] at H; exact H)
    · refine js_S rfl rfl (.inr ⟨_, _, rfl, rfl⟩) (xv_not rfl ⟨rfl, rfl⟩) ?_
      refine js_S rfl rfl (.inl rfl) (xv_pick rfl rfl ⟨rfl, rfl⟩) ?_
      refine j_end0 ?_
      refine th_n ?_
      refine xc_true rfl ?_
      refine xc_skip ?_
      refine th_n ?_
      refine xc_block ?_
      refine xc_region ?_
      refine xr_op rfl rfl (xv_move rfl ?_)
      refine xr_op rfl rfl (xv_add rfl rfl (wrap_i64 Om_ Om_) ?_)
      refine xr_op rfl rfl (xv_assign rfl ?_)
      refine xr_end rfl ?_
      refine bk_n ?_
      exact rnd (i + 1) ⟨by (first|omega|(dsimp only at *;omega)|(simp at *;omega)), by (first|omega|(dsimp only at *;omega)|(simp at *;omega)), (scanSorted_step Om_ (ltc_F Om_)).symm.trans heq⟩ Om_ (le_put (le_put (le_put (le_put (le_put (le_put (le_emp _) rfl) rfl) rfl) rfl) rfl) rfl) Su_
  · refine js_S rfl rfl (.inl rfl) (xv_move rfl ⟨rfl, rfl⟩) ?_
    refine js_Ss rfl rfl ⟨_, _, _, rfl, rfl, rfl⟩ ?_
    refine js_Ss rfl rfl ⟨_, _, _, rfl, rfl, rfl⟩ ?_
    refine js_Ss rfl rfl ⟨_, _, _, rfl, rfl, rfl⟩ ?_
    refine js_Ss rfl rfl ⟨_, _, _, rfl, rfl, rfl⟩ ?_
    refine js_Rs rfl rfl ⟨_, _, _, rfl, rfl, rfl⟩ ?_
    refine js_Ss rfl rfl ⟨_, _, _, rfl, rfl, rfl⟩ ?_
    refine js_Ss rfl rfl ⟨_, _, _, rfl, rfl, rfl⟩ ?_
    refine js_Ss rfl rfl ⟨_, _, _, rfl, rfl, rfl⟩ ?_
    refine js_Ss rfl rfl ⟨_, _, _, rfl, rfl, rfl⟩ ?_
    refine js_Rs rfl rfl ⟨_, _, _, rfl, rfl, rfl⟩ ?_
    refine js_Rs rfl rfl ⟨_, _, _, rfl, rfl, rfl⟩ ?_
    refine js_Os rfl rfl ⟨_, _, _, rfl, rfl, rfl⟩ ?_
    refine js_Ss rfl rfl ⟨_, _, _, rfl, rfl, rfl⟩ ?_
    refine js_S rfl rfl (.inl rfl) (xv_pick rfl rfl ⟨rfl, rfl⟩) ?_
    refine j_end0 ?_
    refine th_n ?_
    refine xc_false rfl ?_
    refine xc_exit ?_
    refine th_x ?_
    refine th_x ?_
    refine bk_same ?_
    refine th_n ?_
    refine xc_seq ?_
    refine xc_seq (xc_region ?_)
    have hst : Go.Sort.scanSorted (ltc cm) d b (a + 1) = i := by
      rw [← heq]; first | exact scanSorted_stop (.inl Om_) | exact scanSorted_stop (.inr (ltc_T Om_))
    rw [hst] at H
    refine xr_op rfl rfl (xv_move rfl ?_)
    refine xr_op rfl rfl (xv_move rfl ?_)
    refine xr_op rfl rfl (xv_eql2 rfl rfl (fun q2 => ?_) (fun q2 => ?_))
    · refine xr_end rfl ?_
      refine th_n ?_
      refine xc_true rfl ?_
      refine xc_seq (xc_region ?_)
      refine xr_op rfl rfl (xv_assign rfl ?_)
      refine xr_end rfl ?_
      refine th_n ?_
      refine xc_ret ?_
      refine th_r ?_
      refine bk_r ?_
      refine th_r ?_
      refine th_r ?_
      refine bk_r ?_
      refine th_r ?_
      refine body_ret (h' := ((bb, .cells ⟨(d).toList.flatMap eShare ++ sp⟩ 76) :: L)) rfl (ro_tmp rfl ro_nil) Su_ ?_
      first | (rw [decide_eq_true (show i = b by (first|omega|(dsimp only at *;omega)|(simp at *;omega)))] at H; exact H) | (rw [decide_eq_false (show ¬ i = b by (first|omega|(dsimp only at *;omega)|(simp at *;omega)))] at H; exact H)
    · refine xr_end rfl ?_
      refine th_n ?_
      refine xc_false rfl ?_
      refine xc_skip ?_
      refine th_n ?_
      refine xc_seq ?_
      refine xc_seq (xc_region ?_)
      refine xr_op rfl rfl (xv_move rfl ?_)
      refine xr_op rfl rfl (xv_move rfl ?_)
      refine xr_op rfl rfl (xv_sub rfl rfl (wrap_i64 Om_ Om_) ?_)
      refine xr_op rfl rfl (xv_cmpK rfl rfl (cmpT (by simp only [cmpP]; (first|omega|(dsimp only at *;omega)|(simp at *;omega)))) ?_)
      refine xr_end rfl ?_
      refine th_n ?_
      refine xc_true rfl ?_
      refine xc_seq (xc_region ?_)
      refine xr_op rfl rfl (xv_assign rfl ?_)
      refine xr_end rfl ?_
      refine th_n ?_
      refine xc_ret ?_
      refine th_r ?_
      refine bk_r ?_
      refine th_r ?_
      refine th_r ?_
      refine bk_r ?_
      refine th_r ?_
      refine body_ret (h' := ((bb, .cells ⟨(d).toList.flatMap eShare ++ sp⟩ 76) :: L)) rfl (ro_tmp rfl ro_nil) Su_ ?_
      first | (rw [decide_eq_true (show i = b by (first|omega|(dsimp only at *;omega)|(simp at *;omega)))] at H; exact H) | (rw [decide_eq_false (show ¬ i = b by (first|omega|(dsimp only at *;omega)|(simp at *;omega)))] at H; exact H)

theorem parteq_c {bb cap N : Nat} {sp : List Value} {d : Array Share} {f : Value} {cm : Share → Share → Int} {p : Share → Prop} {L : Hp} {R : Ending → Hp → Prop} (hA : Arr N p d) (hN : N ≤ 49) (hf : ∀ x y, p x → p y → ∀ H R', L ⊆ H → R' (.returned (I (cm x y))) H → AFn Try.prog f [.agg ⟨eShare x⟩, .agg ⟨eShare y⟩] H R') {a b pivot : Nat} {ai bi pi : Int} (ea : ai = a) (eb : bi = b) (ep : pi = pivot) (hap : a ≤ pivot) (hpb : pivot < b) (hb : b ≤ N) (H : a < (Go.Sort.partitionEqual (ltc cm) d a b pivot).1 → (Go.Sort.partitionEqual (ltc cm) d a b pivot).1 ≤ b → Arr N p (Go.Sort.partitionEqual (ltc cm) d a b pivot).2 → R (.returned (I ((Go.Sort.partitionEqual (ltc cm) d a b pivot).1 : Nat))) ((bb, .cells ⟨((Go.Sort.partitionEqual (ltc cm) d a b pivot).2).toList.flatMap eShare ++ sp⟩ 76) :: L)) :
    ACalls Try.prog 67 ⟨[.slice (some ⟨bb, 0, none⟩) N cap, I ai, I bi, I pi, f]⟩ ((bb, .cells ⟨(d).toList.flatMap eShare ++ sp⟩ 76) :: L) R := by
  subst ea eb ep
  refine calls_of_xc (N := 90) Try.func67 rfl (by rfl) ?_
  have hA1 := hA.swp (i := a) (j := pivot) (by omega) (by omega)
  refine xc_seq (xc_region ?_)
  refine xr_op rfl rfl (xv_assign rfl ?_)
  refine xr_end rfl ?_
  refine th_n ?_
  refine xc_seq ?_
  refine xc_draw0 [(0, .S), (1, .S), (2, .S), (3, .S), (4, .S), (5, .S), (6, .S), (7, .R), (8, .S), (9, .S), (10, .S), (11, .R), (12, .S), (13, .O), (14, .S), (15, .O)] mixed (by kernel_rfl) ?_
  refine js_S rfl rfl (.inl rfl) (xv_move rfl ⟨rfl, rfl⟩) ?_
  refine js_S rfl rfl (.inl rfl) (xv_move rfl ⟨rfl, rfl⟩) ?_
  refine js_S rfl rfl (.inl rfl) (xv_move rfl ⟨rfl, rfl⟩) ?_
  refine js_S rfl rfl (.inl rfl) (xv_move rfl ⟨rfl, rfl⟩) ?_
  refine js_S rfl rfl (.inl rfl) (xv_move rfl ⟨rfl, rfl⟩) ?_
  refine js_S rfl rfl (.inl rfl) (xv_move rfl ⟨rfl, rfl⟩) ?_
  refine js_S rfl rfl (.inl rfl) (xv_ia (sz := 2) (j := pivot) sl95 ty93 rfl rfl rfl Om_ Om_ Om_ ⟨rfl, rfl⟩) ?_
  refine js_R0 rfl rfl (.inl rfl) (xv_loadA ty93 rfl rfl Me_ (ca_get eShare_len (k := pivot) (by rw [hA.size]; (first|omega|(dsimp only at *;omega)|(simp at *;omega)))) rfl ⟨rfl, rfl⟩) ?_
  refine js_S rfl rfl (.inl rfl) (xv_move rfl ⟨rfl, rfl⟩) ?_
  refine js_S rfl rfl (.inl rfl) (xv_move rfl ⟨rfl, rfl⟩) ?_
  refine js_S rfl rfl (.inl rfl) (xv_ia (sz := 2) (j := a) sl95 ty93 rfl rfl rfl Om_ Om_ Om_ ⟨rfl, rfl⟩) ?_
  refine js_R0 rfl rfl (.inl rfl) (xv_loadA ty93 rfl rfl Me_ (ca_get eShare_len (k := a) (by rw [hA.size]; (first|omega|(dsimp only at *;omega)|(simp at *;omega)))) rfl ⟨rfl, rfl⟩) ?_
  refine js_S rfl rfl (.inl rfl) (xv_ia (sz := 2) (j := a) sl95 ty93 rfl rfl rfl Om_ Om_ Om_ ⟨rfl, rfl⟩) ?_
  refine js_O0 rfl rfl (.inl rfl) (xv_s ty93 rfl rfl Up_ rfl (by rfl) (by rfl) (ca_room eShare_len (k := a) (by rw [hA.size]; (first|omega|(dsimp only at *;omega)|(simp at *;omega)))) (ca_splice eShare_len (k := a) (by rw [hA.size]; (first|omega|(dsimp only at *;omega)|(simp at *;omega)))) ?_)
  refine js_S rfl rfl (.inl rfl) (xv_ia (sz := 2) (j := pivot) sl95 ty93 rfl rfl rfl Om_ Om_ Om_ ⟨rfl, rfl⟩) ?_
  refine js_O0 rfl rfl (.inl rfl) (xv_s ty93 rfl rfl Up_ rfl (by rfl) (by rfl) (ca_room eShare_len (k := pivot) (by rw [Array.size_setIfInBounds, hA.size]; (first|omega|(dsimp only at *;omega)|(simp at *;omega)))) (ca_splice eShare_len (k := pivot) (by rw [Array.size_setIfInBounds, hA.size]; (first|omega|(dsimp only at *;omega)|(simp at *;omega)))) ?_)
  refine j_end0 ?_
  refine th_n ?_
  refine xc_seq (xc_region ?_)
  refine xr_op rfl rfl (xv_move rfl ?_)
  refine xr_op rfl rfl (xv_add rfl rfl (wrap_i64 Om_ Om_) ?_)
  refine xr_op rfl rfl (xv_move rfl ?_)
  refine xr_op rfl rfl (xv_sub rfl rfl (wrap_i64 Om_ Om_) ?_)
  refine xr_op rfl rfl (xv_assign rfl ?_)
  refine xr_op rfl rfl (xv_assign rfl ?_)
  refine xr_end rfl ?_
  refine th_n ?_
  refine xc_seq ?_
  refine xc_block ?_
  refine xc_loop (σ := Nat × Nat × Array Share) (fun z => a + 1 ≤ z.1 ∧ z.1 ≤ b ∧ a ≤ z.2.1 ∧ z.2.1 + 1 ≤ b ∧ Arr N p z.2.2 ∧ Go.Sort.partEqLoop (ltc cm) a z.1 z.2.1 z.2.2 = Go.Sort.partitionEqual (ltc cm) d a b pivot) (fun z => (((((emp.put (some 0) (.slice (some ⟨bb, 0, none⟩) N cap)).put (some 1) (I a)).put (some 4) (f)).put (some 11) (I z.1)).put (some 12) (I z.2.1))) (fun z => ((bb, .cells ⟨(z.2.2).toList.flatMap eShare ++ sp⟩ 76) :: L)) (fun z => z.2.1 + 1 - z.1) ((a + 1, b - 1, Go.Sort.swp d a pivot) : Nat × Nat × Array Share) ⟨Nat.le_refl _, by dsimp only; omega, by dsimp only; omega, by dsimp only; omega, hA.swp (by omega) (by omega), rfl⟩ (le_put (le_put (le_put (le_put (le_put (le_emp _) rfl) rfl) rfl) rfl) (by dsimp only; rw [show ((b - 1 : Nat) : Int) = (b : Int) - 1 by omega]; rfl)) Su_ ?_
  rintro ⟨i1, j1, d2⟩ ⟨ho1, ho2, ho3, ho4, hA2, heq⟩
  dsimp only at ho1 ho2 ho3 ho4 hA2 heq
  refine xc_block ?_
  refine xc_join (σ := Nat) (fun i => a + 1 ≤ i ∧ i ≤ b ∧ Go.Sort.scanUp (fun x => !ltc cm d2[a]! x) d2 j1 i1 = i) (fun i => (((((emp.put (some 0) (.slice (some ⟨bb, 0, none⟩) N cap)).put (some 1) (I a)).put (some 4) (f)).put (some 11) (I i)).put (some 12) (I ((j1 : Nat) : Int)))) (fun i => ((bb, .cells ⟨(d2).toList.flatMap eShare ++ sp⟩ 76) :: L)) ?_ ?_
  · refine xc_block ?_
    refine xc_loop (σ := Nat) (fun i => a + 1 ≤ i ∧ i ≤ b ∧ Go.Sort.scanUp (fun x => !ltc cm d2[a]! x) d2 j1 i = Go.Sort.scanUp (fun x => !ltc cm d2[a]! x) d2 j1 i1) (fun i => (((((emp.put (some 0) (.slice (some ⟨bb, 0, none⟩) N cap)).put (some 1) (I a)).put (some 4) (f)).put (some 11) (I i)).put (some 12) (I ((j1 : Nat) : Int)))) (fun i => ((bb, .cells ⟨(d2).toList.flatMap eShare ++ sp⟩ 76) :: L)) (fun i => b - i) i1 ⟨by (first|omega|(dsimp only at *;omega)|(simp at *;omega)), by (first|omega|(dsimp only at *;omega)|(simp at *;omega)), rfl⟩ (le_put (le_put (le_put (le_put (le_put (le_emp _) rfl) rfl) rfl) rfl) (by first | rfl | (rw [show ((j1 : Nat) : Int) = (b : Int) - 1 by omega]; rfl))) Su_ ?_
    rintro i ⟨hi1, hi2, hup⟩
    refine xc_seq ?_
    refine xc_seq ?_
    refine xc_draw0 [(0, .S), (1, .S), (2, .O), (3, .S), (4, .S), (5, .S), (6, .S), (7, .S), (8, .R), (9, .S), (10, .S), (11, .S), (12, .R), (13, .R), (14, .O), (15, .S), (16, .S)] mixed (by kernel_rfl) ?_
    refine js_S rfl rfl (.inl rfl) (xv_move rfl ⟨rfl, rfl⟩) ?_
    refine js_S rfl rfl (.inl rfl) (xv_move rfl ⟨rfl, rfl⟩) ?_
    refine js_O0 rfl rfl (.inl rfl) (xv_leq2 rfl rfl (fun hq => ?_) (fun hq => ?_))
    · refine js_S rfl rfl (.inl rfl) (xv_move rfl ⟨rfl, rfl⟩) ?_
      refine js_S rfl rfl (.inr ⟨_, _, rfl, rfl⟩) (xv_move rfl ⟨rfl, rfl⟩) ?_
      refine js_S rfl rfl (.inr ⟨_, _, rfl, rfl⟩) (xv_move rfl ⟨rfl, rfl⟩) ?_
      refine js_S rfl rfl (.inr ⟨_, _, rfl, rfl⟩) (xv_move rfl ⟨rfl, rfl⟩) ?_
      refine js_S rfl rfl (.inr ⟨_, _, rfl, rfl⟩) (xv_ia (sz := 2) (j := a) sl95 ty93 rfl rfl rfl Om_ Om_ Om_ ⟨rfl, rfl⟩) ?_
      refine js_R0 rfl rfl (.inr ⟨_, _, rfl, rfl⟩) (xv_loadA ty93 rfl rfl Me_ (ca_get eShare_len (k := a) (by rw [hA2.size]; (first|omega|(dsimp only at *;omega)|(simp at *;omega)))) rfl ⟨rfl, rfl⟩) ?_
      refine js_S rfl rfl (.inr ⟨_, _, rfl, rfl⟩) (xv_move rfl ⟨rfl, rfl⟩) ?_
      refine js_S rfl rfl (.inr ⟨_, _, rfl, rfl⟩) (xv_move rfl ⟨rfl, rfl⟩) ?_
      refine js_S rfl rfl (.inr ⟨_, _, rfl, rfl⟩) (xv_ia (sz := 2) (j := i) sl95 ty93 rfl rfl rfl Om_ Om_ Om_ ⟨rfl, rfl⟩) ?_
      refine js_R0 rfl rfl (.inr ⟨_, _, rfl, rfl⟩) (xv_loadA ty93 rfl rfl Me_ (ca_get eShare_len (k := i) (by rw [hA2.size]; (first|omega|(dsimp only at *;omega)|(simp at *;omega)))) rfl ⟨rfl, rfl⟩) ?_
      refine js_R0 rfl rfl (.inr ⟨_, _, rfl, rfl⟩) (xv_fn rfl rfl (hf _ _ (hA2.all _ Om_) (hA2.all _ Om_) _ _ (by intro z hz; ((repeat first|exact z_0|assumption|refine z_1 ?_|(refine z_l ?_;(repeat first|exact z_0|assumption|refine z_1 ?_);done)|refine z_r ?_);done)) (up_ret ⟨rfl, rfl⟩))) ?_
      refine js_O0 rfl rfl (.inr ⟨_, _, rfl, rfl⟩) (xv_lss2 rfl rfl (fun hq => ?_) (fun hq => ?_))
      · refine js_S rfl rfl (.inr ⟨_, _, rfl, rfl⟩) (xv_not rfl ⟨rfl, rfl⟩) ?_
        refine js_S rfl rfl (.inl rfl) (xv_pick rfl rfl ⟨rfl, rfl⟩) ?_
        refine j_end0 ?_
        refine th_n ?_
        refine xc_false rfl ?_
        refine xc_exit ?_
        refine th_x ?_
        refine th_x ?_
        refine bk_same ?_
        exact jn_n i ⟨by (first|omega|(dsimp only at *;omega)|(simp at *;omega)), by (first|omega|(dsimp only at *;omega)|(simp at *;omega)), by
          rw [← hup]; first | exact scanUp_stop (p := (fun x => !ltc cm d2[a]! x)) (d := d2) (.inl Om_) | exact scanUp_stop (p := (fun x => !ltc cm d2[a]! x)) (d := d2) (.inr (notF (ltc_T Om_)))⟩ (le_put (le_put (le_put (le_put (le_put (le_emp _) rfl) rfl) rfl) rfl) rfl) Su_
      · refine js_S rfl rfl (.inr ⟨_, _, rfl, rfl⟩) (xv_not rfl ⟨rfl, rfl⟩) ?_
        refine js_S rfl rfl (.inl rfl) (xv_pick rfl rfl ⟨rfl, rfl⟩) ?_
        refine j_end0 ?_
        refine th_n ?_
        refine xc_true rfl ?_
        refine xc_skip ?_
        refine th_n ?_
        refine xc_block ?_
        refine xc_region ?_
        refine xr_op rfl rfl (xv_move rfl ?_)
        refine xr_op rfl rfl (xv_add rfl rfl (wrap_i64 Om_ Om_) ?_)
        refine xr_op rfl rfl (xv_assign rfl ?_)
        refine xr_end rfl ?_
        refine bk_n ?_
        exact rnd (i + 1) ⟨by (first|omega|(dsimp only at *;omega)|(simp at *;omega)), by (first|omega|(dsimp only at *;omega)|(simp at *;omega)), (scanUp_step (p := (fun x => !ltc cm d2[a]! x)) (d := d2) Om_ (notT (ltc_F Om_))).symm.trans hup⟩ Om_ (le_put (le_put (le_put (le_put (le_put (le_emp _) rfl) rfl) rfl) rfl) rfl) Su_
    · refine js_S rfl rfl (.inl rfl) (xv_move rfl ⟨rfl, rfl⟩) ?_
      refine js_Ss rfl rfl ⟨_, _, _, rfl, rfl, rfl⟩ ?_
      refine js_Ss rfl rfl ⟨_, _, _, rfl, rfl, rfl⟩ ?_
      refine js_Ss rfl rfl ⟨_, _, _, rfl, rfl, rfl⟩ ?_
      refine js_Ss rfl rfl ⟨_, _, _, rfl, rfl, rfl⟩ ?_
      refine js_Rs rfl rfl ⟨_, _, _, rfl, rfl, rfl⟩ ?_
      refine js_Ss rfl rfl ⟨_, _, _, rfl, rfl, rfl⟩ ?_
      refine js_Ss rfl rfl ⟨_, _, _, rfl, rfl, rfl⟩ ?_
      refine js_Ss rfl rfl ⟨_, _, _, rfl, rfl, rfl⟩ ?_
      refine js_Rs rfl rfl ⟨_, _, _, rfl, rfl, rfl⟩ ?_
      refine js_Rs rfl rfl ⟨_, _, _, rfl, rfl, rfl⟩ ?_
      refine js_Os rfl rfl ⟨_, _, _, rfl, rfl, rfl⟩ ?_
      refine js_Ss rfl rfl ⟨_, _, _, rfl, rfl, rfl⟩ ?_
      refine js_S rfl rfl (.inl rfl) (xv_pick rfl rfl ⟨rfl, rfl⟩) ?_
      refine j_end0 ?_
      refine th_n ?_
      refine xc_false rfl ?_
      refine xc_exit ?_
      refine th_x ?_
      refine th_x ?_
      refine bk_same ?_
      exact jn_n i ⟨by (first|omega|(dsimp only at *;omega)|(simp at *;omega)), by (first|omega|(dsimp only at *;omega)|(simp at *;omega)), by
        rw [← hup]; first | exact scanUp_stop (p := (fun x => !ltc cm d2[a]! x)) (d := d2) (.inl Om_) | exact scanUp_stop (p := (fun x => !ltc cm d2[a]! x)) (d := d2) (.inr (notF (ltc_T Om_)))⟩ (le_put (le_put (le_put (le_put (le_put (le_emp _) rfl) rfl) rfl) rfl) rfl) Su_
  · rintro i ⟨hi1, hi2, hup2⟩
    refine xc_join (σ := Nat) (fun j => a ≤ j ∧ j ≤ j1 ∧ Go.Sort.scanDown (fun x => ltc cm d2[a]! x) d2 i j1 = j) (fun j => (((((emp.put (some 0) (.slice (some ⟨bb, 0, none⟩) N cap)).put (some 1) (I a)).put (some 4) (f)).put (some 11) (I i)).put (some 12) (I j))) (fun j => ((bb, .cells ⟨(d2).toList.flatMap eShare ++ sp⟩ 76) :: L)) ?_ ?_
    · refine xc_block ?_
      refine xc_loop (σ := Nat) (fun j => a ≤ j ∧ j ≤ j1 ∧ Go.Sort.scanDown (fun x => ltc cm d2[a]! x) d2 i j = Go.Sort.scanDown (fun x => ltc cm d2[a]! x) d2 i j1) (fun j => (((((emp.put (some 0) (.slice (some ⟨bb, 0, none⟩) N cap)).put (some 1) (I a)).put (some 4) (f)).put (some 11) (I i)).put (some 12) (I j))) (fun j => ((bb, .cells ⟨(d2).toList.flatMap eShare ++ sp⟩ 76) :: L)) (fun j => j) j1 ⟨by (first|omega|(dsimp only at *;omega)|(simp at *;omega)), Nat.le_refl _, rfl⟩ (le_put (le_put (le_put (le_put (le_put (le_emp _) rfl) rfl) rfl) rfl) rfl) Su_ ?_
      rintro j ⟨hj1, hj2, hdn⟩
      refine xc_seq ?_
      refine xc_seq ?_
      refine xc_draw0 [(0, .S), (1, .S), (2, .O), (3, .S), (4, .S), (5, .S), (6, .S), (7, .S), (8, .R), (9, .S), (10, .S), (11, .S), (12, .R), (13, .R), (14, .O), (15, .S)] mixed (by kernel_rfl) ?_
      refine js_S rfl rfl (.inl rfl) (xv_move rfl ⟨rfl, rfl⟩) ?_
      refine js_S rfl rfl (.inl rfl) (xv_move rfl ⟨rfl, rfl⟩) ?_
      refine js_O0 rfl rfl (.inl rfl) (xv_leq2 rfl rfl (fun hq => ?_) (fun hq => ?_))
      · refine js_S rfl rfl (.inl rfl) (xv_move rfl ⟨rfl, rfl⟩) ?_
        refine js_S rfl rfl (.inr ⟨_, _, rfl, rfl⟩) (xv_move rfl ⟨rfl, rfl⟩) ?_
        refine js_S rfl rfl (.inr ⟨_, _, rfl, rfl⟩) (xv_move rfl ⟨rfl, rfl⟩) ?_
        refine js_S rfl rfl (.inr ⟨_, _, rfl, rfl⟩) (xv_move rfl ⟨rfl, rfl⟩) ?_
        refine js_S rfl rfl (.inr ⟨_, _, rfl, rfl⟩) (xv_ia (sz := 2) (j := a) sl95 ty93 rfl rfl rfl Om_ Om_ Om_ ⟨rfl, rfl⟩) ?_
        refine js_R0 rfl rfl (.inr ⟨_, _, rfl, rfl⟩) (xv_loadA ty93 rfl rfl Me_ (ca_get eShare_len (k := a) (by rw [hA2.size]; (first|omega|(dsimp only at *;omega)|(simp at *;omega)))) rfl ⟨rfl, rfl⟩) ?_
        refine js_S rfl rfl (.inr ⟨_, _, rfl, rfl⟩) (xv_move rfl ⟨rfl, rfl⟩) ?_
        refine js_S rfl rfl (.inr ⟨_, _, rfl, rfl⟩) (xv_move rfl ⟨rfl, rfl⟩) ?_
        refine js_S rfl rfl (.inr ⟨_, _, rfl, rfl⟩) (xv_ia (sz := 2) (j := j) sl95 ty93 rfl rfl rfl Om_ Om_ Om_ ⟨rfl, rfl⟩) ?_
        refine js_R0 rfl rfl (.inr ⟨_, _, rfl, rfl⟩) (xv_loadA ty93 rfl rfl Me_ (ca_get eShare_len (k := j) (by rw [hA2.size]; (first|omega|(dsimp only at *;omega)|(simp at *;omega)))) rfl ⟨rfl, rfl⟩) ?_
        refine js_R0 rfl rfl (.inr ⟨_, _, rfl, rfl⟩) (xv_fn rfl rfl (hf _ _ (hA2.all _ Om_) (hA2.all _ Om_) _ _ (by intro z hz; ((repeat first|exact z_0|assumption|refine z_1 ?_|(refine z_l ?_;(repeat first|exact z_0|assumption|refine z_1 ?_);done)|refine z_r ?_);done)) (up_ret ⟨rfl, rfl⟩))) ?_
        refine js_O0 rfl rfl (.inr ⟨_, _, rfl, rfl⟩) (xv_lss2 rfl rfl (fun hq => ?_) (fun hq => ?_))
        · refine js_S rfl rfl (.inl rfl) (xv_pick rfl rfl ⟨rfl, rfl⟩) ?_
          refine j_end0 ?_
          refine th_n ?_
          refine xc_true rfl ?_
          refine xc_skip ?_
          refine th_n ?_
          refine xc_block ?_
          refine xc_region ?_
          refine xr_op rfl rfl (xv_move rfl ?_)
          refine xr_op rfl rfl (xv_sub rfl rfl (wrap_i64 Om_ Om_) ?_)
          refine xr_op rfl rfl (xv_assign rfl ?_)
          refine xr_end rfl ?_
          refine bk_n ?_
          exact rnd (j - 1) ⟨by (first|omega|(dsimp only at *;omega)|(simp at *;omega)), by (first|omega|(dsimp only at *;omega)|(simp at *;omega)), (scanDown_step (p := (fun x => ltc cm d2[a]! x)) (d := d2) Om_ Om_ (ltc_T Om_)).symm.trans hdn⟩ Om_ (le_put (le_put (le_put (le_put (le_put (le_emp _) rfl) rfl) rfl) rfl) (by rw [show ((j - 1 : Nat) : Int) = (j : Int) - 1 by (first|omega|(dsimp only at *;omega)|(simp at *;omega))]; rfl)) Su_
        · refine js_S rfl rfl (.inl rfl) (xv_pick rfl rfl ⟨rfl, rfl⟩) ?_
          refine j_end0 ?_
          refine th_n ?_
          refine xc_false rfl ?_
          refine xc_exit ?_
          refine th_x ?_
          refine th_x ?_
          refine bk_same ?_
          exact jn_n j ⟨by (first|omega|(dsimp only at *;omega)|(simp at *;omega)), by (first|omega|(dsimp only at *;omega)|(simp at *;omega)), by
            rw [← hdn]; first | exact scanDown_stop (p := (fun x => ltc cm d2[a]! x)) (d := d2) (.inl Om_) | exact scanDown_stop (p := (fun x => ltc cm d2[a]! x)) (d := d2) (.inr (ltc_F Om_))⟩ (le_put (le_put (le_put (le_put (le_put (le_emp _) rfl) rfl) rfl) rfl) rfl) Su_
      · refine js_S rfl rfl (.inl rfl) (xv_move rfl ⟨rfl, rfl⟩) ?_
        refine js_Ss rfl rfl ⟨_, _, _, rfl, rfl, rfl⟩ ?_
        refine js_Ss rfl rfl ⟨_, _, _, rfl, rfl, rfl⟩ ?_
        refine js_Ss rfl rfl ⟨_, _, _, rfl, rfl, rfl⟩ ?_
        refine js_Ss rfl rfl ⟨_, _, _, rfl, rfl, rfl⟩ ?_
        refine js_Rs rfl rfl ⟨_, _, _, rfl, rfl, rfl⟩ ?_
        refine js_Ss rfl rfl ⟨_, _, _, rfl, rfl, rfl⟩ ?_
        refine js_Ss rfl rfl ⟨_, _, _, rfl, rfl, rfl⟩ ?_
        refine js_Ss rfl rfl ⟨_, _, _, rfl, rfl, rfl⟩ ?_
        refine js_Rs rfl rfl ⟨_, _, _, rfl, rfl, rfl⟩ ?_
        refine js_Rs rfl rfl ⟨_, _, _, rfl, rfl, rfl⟩ ?_
        refine js_Os rfl rfl ⟨_, _, _, rfl, rfl, rfl⟩ ?_
        refine js_S rfl rfl (.inl rfl) (xv_pick rfl rfl ⟨rfl, rfl⟩) ?_
        refine j_end0 ?_
        refine th_n ?_
        refine xc_false rfl ?_
        refine xc_exit ?_
        refine th_x ?_
        refine th_x ?_
        refine bk_same ?_
        exact jn_n j ⟨by (first|omega|(dsimp only at *;omega)|(simp at *;omega)), by (first|omega|(dsimp only at *;omega)|(simp at *;omega)), by
          rw [← hdn]; first | exact scanDown_stop (p := (fun x => ltc cm d2[a]! x)) (d := d2) (.inl Om_) | exact scanDown_stop (p := (fun x => ltc cm d2[a]! x)) (d := d2) (.inr (ltc_F Om_))⟩ (le_put (le_put (le_put (le_put (le_put (le_emp _) rfl) rfl) rfl) rfl) rfl) Su_
    · rintro j ⟨hj1, hj2, hdn2⟩
      refine xc_seq ?_
      refine xc_seq (xc_region ?_)
      refine xr_op rfl rfl (xv_move rfl ?_)
      refine xr_op rfl rfl (xv_move rfl ?_)
      refine xr_op rfl rfl (xv_gtr2 rfl rfl (fun q1 => ?_) (fun q1 => ?_))
      · refine xr_end rfl ?_
        refine th_n ?_
        refine xc_true rfl ?_
        refine xc_exit ?_
        refine th_x ?_
        refine bk_other rfl ?_
        refine th_x ?_
        refine bk_same ?_
        refine th_n ?_
        refine xc_seq (xc_region ?_)
        have hres := (partEq_stop (lt := ltc cm) hup2 hdn2 Om_).symm.trans heq
        refine xr_op rfl rfl (xv_move rfl ?_)
        refine xr_op rfl rfl (xv_assign rfl ?_)
        refine xr_end rfl ?_
        refine th_n ?_
        refine xc_ret ?_
        refine body_ret (h' := ((bb, .cells ⟨(d2).toList.flatMap eShare ++ sp⟩ 76) :: L)) rfl (ro_tmp rfl ro_nil) Su_ ?_
        (rw [← hres] at H; exact H Om_ Om_ hA2)
      · refine xr_end rfl ?_
        refine th_n ?_
        refine xc_false rfl ?_
        refine xc_skip ?_
        refine th_n ?_
        refine xc_seq ?_
        refine xc_draw0 [(0, .S), (1, .S), (2, .S), (3, .S), (4, .S), (5, .S), (6, .S), (7, .R), (8, .S), (9, .S), (10, .S), (11, .R), (12, .S), (13, .O), (14, .S), (15, .O)] mixed (by kernel_rfl) ?_
        refine js_S rfl rfl (.inl rfl) (xv_move rfl ⟨rfl, rfl⟩) ?_
        refine js_S rfl rfl (.inl rfl) (xv_move rfl ⟨rfl, rfl⟩) ?_
        refine js_S rfl rfl (.inl rfl) (xv_move rfl ⟨rfl, rfl⟩) ?_
        refine js_S rfl rfl (.inl rfl) (xv_move rfl ⟨rfl, rfl⟩) ?_
        refine js_S rfl rfl (.inl rfl) (xv_move rfl ⟨rfl, rfl⟩) ?_
        refine js_S rfl rfl (.inl rfl) (xv_move rfl ⟨rfl, rfl⟩) ?_
        refine js_S rfl rfl (.inl rfl) (xv_ia (sz := 2) (j := j) sl95 ty93 rfl rfl rfl Om_ Om_ Om_ ⟨rfl, rfl⟩) ?_
        refine js_R0 rfl rfl (.inl rfl) (xv_loadA ty93 rfl rfl Me_ (ca_get eShare_len (k := j) (by rw [hA2.size]; (first|omega|(dsimp only at *;omega)|(simp at *;omega)))) rfl ⟨rfl, rfl⟩) ?_
        refine js_S rfl rfl (.inl rfl) (xv_move rfl ⟨rfl, rfl⟩) ?_
        refine js_S rfl rfl (.inl rfl) (xv_move rfl ⟨rfl, rfl⟩) ?_
        refine js_S rfl rfl (.inl rfl) (xv_ia (sz := 2) (j := i) sl95 ty93 rfl rfl rfl Om_ Om_ Om_ ⟨rfl, rfl⟩) ?_
        refine js_R0 rfl rfl (.inl rfl) (xv_loadA ty93 rfl rfl Me_ (ca_get eShare_len (k := i) (by rw [hA2.size]; (first|omega|(dsimp only at *;omega)|(simp at *;omega)))) rfl ⟨rfl, rfl⟩) ?_
        refine js_S rfl rfl (.inl rfl) (xv_ia (sz := 2) (j := i) sl95 ty93 rfl rfl rfl Om_ Om_ Om_ ⟨rfl, rfl⟩) ?_
        refine js_O0 rfl rfl (.inl rfl) (xv_s ty93 rfl rfl Up_ rfl (by rfl) (by rfl) (ca_room eShare_len (k := i) (by rw [hA2.size]; (first|omega|(dsimp only at *;omega)|(simp at *;omega)))) (ca_splice eShare_len (k := i) (by rw [hA2.size]; (first|omega|(dsimp only at *;omega)|(simp at *;omega)))) ?_)
        refine js_S rfl rfl (.inl rfl) (xv_ia (sz := 2) (j := j) sl95 ty93 rfl rfl rfl Om_ Om_ Om_ ⟨rfl, rfl⟩) ?_
        refine js_O0 rfl rfl (.inl rfl) (xv_s ty93 rfl rfl Up_ rfl (by rfl) (by rfl) (ca_room eShare_len (k := j) (by rw [Array.size_setIfInBounds, hA2.size]; (first|omega|(dsimp only at *;omega)|(simp at *;omega)))) (ca_splice eShare_len (k := j) (by rw [Array.size_setIfInBounds, hA2.size]; (first|omega|(dsimp only at *;omega)|(simp at *;omega)))) ?_)
        refine j_end0 ?_
        refine th_n ?_
        refine xc_seq (xc_region ?_)
        refine xr_op rfl rfl (xv_move rfl ?_)
        refine xr_op rfl rfl (xv_add rfl rfl (wrap_i64 Om_ Om_) ?_)
        refine xr_op rfl rfl (xv_assign rfl ?_)
        refine xr_end rfl ?_
        refine th_n ?_
        refine xc_region ?_
        refine xr_op rfl rfl (xv_move rfl ?_)
        refine xr_op rfl rfl (xv_sub rfl rfl (wrap_i64 Om_ Om_) ?_)
        refine xr_op rfl rfl (xv_assign rfl ?_)
        refine xr_end rfl ?_
        refine bk_n ?_
        exact rnd ((i + 1, j - 1, Go.Sort.swp d2 i j) : Nat × Nat × Array Share) ⟨by (first|omega|(dsimp only at *;omega)|(simp at *;omega)), by (first|omega|(dsimp only at *;omega)|(simp at *;omega)), by (first|omega|(dsimp only at *;omega)|(simp at *;omega)), by (first|omega|(dsimp only at *;omega)|(simp at *;omega)), hA2.swp Om_ Om_, (partEq_step hup2 hdn2 Om_).symm.trans heq⟩ (by have := scanUp_ge (p := (fun x => !ltc cm d2[a]! x)) (d := d2) (j := j1) (i := i1) rfl; rw [hup2] at this; (first|omega|(dsimp only at *;omega)|(simp at *;omega))) (le_put (le_put (le_put (le_put (le_put (le_emp _) rfl) rfl) rfl) rfl) (by dsimp only; rw [show ((j - 1 : Nat) : Int) = (j : Int) - 1 by (first|omega|(dsimp only at *;omega)|(simp at *;omega))]; rfl)) Su_

theorem part_c {bb cap N : Nat} {sp : List Value} {d : Array Share} {f : Value} {cm : Share → Share → Int} {p : Share → Prop} {L : Hp} {R : Ending → Hp → Prop} (hA : Arr N p d) (hN : N ≤ 49) (hf : ∀ x y, p x → p y → ∀ H R', L ⊆ H → R' (.returned (I (cm x y))) H → AFn Try.prog f [.agg ⟨eShare x⟩, .agg ⟨eShare y⟩] H R') {a b pivot : Nat} {ai bi pi : Int} (ea : ai = a) (eb : bi = b) (ep : pi = pivot) (hap : a ≤ pivot) (hpb : pivot < b) (hb : b ≤ N) (H : a ≤ (Go.Sort.partition (ltc cm) d a b pivot).1 → (Go.Sort.partition (ltc cm) d a b pivot).1 < b → Arr N p (Go.Sort.partition (ltc cm) d a b pivot).2.2 → R (.returned (.tuple ⟨[I ((Go.Sort.partition (ltc cm) d a b pivot).1 : Nat), .bool (Go.Sort.partition (ltc cm) d a b pivot).2.1]⟩)) ((bb, .cells ⟨((Go.Sort.partition (ltc cm) d a b pivot).2.2).toList.flatMap eShare ++ sp⟩ 76) :: L)) :
    ACalls Try.prog 68 ⟨[.slice (some ⟨bb, 0, none⟩) N cap, I ai, I bi, I pi, f]⟩ ((bb, .cells ⟨(d).toList.flatMap eShare ++ sp⟩ 76) :: L) R := by
  subst ea eb ep
  refine calls_of_xc (N := 178) Try.func68 rfl (by rfl) ?_
  have hA1 := hA.swp (i := a) (j := pivot) (by omega) (by omega)
  refine xc_seq (xc_region ?_)
  refine xr_op rfl rfl (xv_assign rfl ?_)
  refine xr_op rfl rfl (xv_assign rfl ?_)
  refine xr_end rfl ?_
  refine th_n ?_
  refine xc_seq ?_
  refine xc_draw0 [(0, .S), (1, .S), (2, .S), (3, .S), (4, .S), (5, .S), (6, .S), (7, .R), (8, .S), (9, .S), (10, .S), (11, .R), (12, .S), (13, .O), (14, .S), (15, .O)] mixed (by kernel_rfl) ?_
  refine js_S rfl rfl (.inl rfl) (xv_move rfl ⟨rfl, rfl⟩) ?_
  refine js_S rfl rfl (.inl rfl) (xv_move rfl ⟨rfl, rfl⟩) ?_
  refine js_S rfl rfl (.inl rfl) (xv_move rfl ⟨rfl, rfl⟩) ?_
  refine js_S rfl rfl (.inl rfl) (xv_move rfl ⟨rfl, rfl⟩) ?_
  refine js_S rfl rfl (.inl rfl) (xv_move rfl ⟨rfl, rfl⟩) ?_
  refine js_S rfl rfl (.inl rfl) (xv_move rfl ⟨rfl, rfl⟩) ?_
  refine js_S rfl rfl (.inl rfl) (xv_ia (sz := 2) (j := pivot) sl95 ty93 rfl rfl rfl Om_ Om_ Om_ ⟨rfl, rfl⟩) ?_
  refine js_R0 rfl rfl (.inl rfl) (xv_loadA ty93 rfl rfl Me_ (ca_get eShare_len (k := pivot) (by rw [hA.size]; (first|omega|(dsimp only at *;omega)|(simp at *;omega)))) rfl ⟨rfl, rfl⟩) ?_
  refine js_S rfl rfl (.inl rfl) (xv_move rfl ⟨rfl, rfl⟩) ?_
  refine js_S rfl rfl (.inl rfl) (xv_move rfl ⟨rfl, rfl⟩) ?_
  refine js_S rfl rfl (.inl rfl) (xv_ia (sz := 2) (j := a) sl95 ty93 rfl rfl rfl Om_ Om_ Om_ ⟨rfl, rfl⟩) ?_
  refine js_R0 rfl rfl (.inl rfl) (xv_loadA ty93 rfl rfl Me_ (ca_get eShare_len (k := a) (by rw [hA.size]; (first|omega|(dsimp only at *;omega)|(simp at *;omega)))) rfl ⟨rfl, rfl⟩) ?_
  refine js_S rfl rfl (.inl rfl) (xv_ia (sz := 2) (j := a) sl95 ty93 rfl rfl rfl Om_ Om_ Om_ ⟨rfl, rfl⟩) ?_
  refine js_O0 rfl rfl (.inl rfl) (xv_s ty93 rfl rfl Up_ rfl (by rfl) (by rfl) (ca_room eShare_len (k := a) (by rw [hA.size]; (first|omega|(dsimp only at *;omega)|(simp at *;omega)))) (ca_splice eShare_len (k := a) (by rw [hA.size]; (first|omega|(dsimp only at *;omega)|(simp at *;omega)))) ?_)
  refine js_S rfl rfl (.inl rfl) (xv_ia (sz := 2) (j := pivot) sl95 ty93 rfl rfl rfl Om_ Om_ Om_ ⟨rfl, rfl⟩) ?_
  refine js_O0 rfl rfl (.inl rfl) (xv_s ty93 rfl rfl Up_ rfl (by rfl) (by rfl) (ca_room eShare_len (k := pivot) (by rw [Array.size_setIfInBounds, hA.size]; (first|omega|(dsimp only at *;omega)|(simp at *;omega)))) (ca_splice eShare_len (k := pivot) (by rw [Array.size_setIfInBounds, hA.size]; (first|omega|(dsimp only at *;omega)|(simp at *;omega)))) ?_)
  refine j_end0 ?_
  refine th_n ?_
  refine xc_seq (xc_region ?_)
  refine xr_op rfl rfl (xv_move rfl ?_)
  refine xr_op rfl rfl (xv_add rfl rfl (wrap_i64 Om_ Om_) ?_)
  refine xr_op rfl rfl (xv_move rfl ?_)
  refine xr_op rfl rfl (xv_sub rfl rfl (wrap_i64 Om_ Om_) ?_)
  refine xr_op rfl rfl (xv_assign rfl ?_)
  refine xr_op rfl rfl (xv_assign rfl ?_)
  refine xr_end rfl ?_
  refine th_n ?_
  refine xc_join (σ := Nat) (fun i0 => a + 1 ≤ i0 ∧ i0 ≤ b ∧ Go.Sort.scanUp (fun x => ltc cm x (Go.Sort.swp d a pivot)[a]!) (Go.Sort.swp d a pivot) (b - 1) (a + 1) = i0) (fun i0 => (((((emp.put (some 0) (.slice (some ⟨bb, 0, none⟩) N cap)).put (some 1) (I a)).put (some 4) (f)).put (some 12) (I i0)).put (some 13) (I (((b - 1) : Nat) : Int)))) (fun i0 => ((bb, .cells ⟨((Go.Sort.swp d a pivot)).toList.flatMap eShare ++ sp⟩ 76) :: L)) ?_ ?_
  · refine xc_block ?_
    refine xc_loop (σ := Nat) (fun i0 => a + 1 ≤ i0 ∧ i0 ≤ b ∧ Go.Sort.scanUp (fun x => ltc cm x (Go.Sort.swp d a pivot)[a]!) (Go.Sort.swp d a pivot) (b - 1) i0 = Go.Sort.scanUp (fun x => ltc cm x (Go.Sort.swp d a pivot)[a]!) (Go.Sort.swp d a pivot) (b - 1) (a + 1)) (fun i0 => (((((emp.put (some 0) (.slice (some ⟨bb, 0, none⟩) N cap)).put (some 1) (I a)).put (some 4) (f)).put (some 12) (I i0)).put (some 13) (I (((b - 1) : Nat) : Int)))) (fun i0 => ((bb, .cells ⟨((Go.Sort.swp d a pivot)).toList.flatMap eShare ++ sp⟩ 76) :: L)) (fun i0 => b - i0) (a + 1) ⟨by (first|omega|(dsimp only at *;omega)|(simp at *;omega)), by (first|omega|(dsimp only at *;omega)|(simp at *;omega)), rfl⟩ (le_put (le_put (le_put (le_put (le_put (le_emp _) rfl) rfl) rfl) rfl) (by first | rfl | (rw [show (((b - 1) : Nat) : Int) = (b : Int) - 1 by omega]; rfl))) Su_ ?_
    rintro i0 ⟨hi01, hi02, hu0⟩
    refine xc_seq ?_
    refine xc_seq ?_
    refine xc_draw0 [(0, .S), (1, .S), (2, .O), (3, .S), (4, .S), (5, .S), (6, .S), (7, .S), (8, .R), (9, .S), (10, .S), (11, .S), (12, .R), (13, .R), (14, .O), (15, .S)] mixed (by kernel_rfl) ?_
    refine js_S rfl rfl (.inl rfl) (xv_move rfl ⟨rfl, rfl⟩) ?_
    refine js_S rfl rfl (.inl rfl) (xv_move rfl ⟨rfl, rfl⟩) ?_
    refine js_O0 rfl rfl (.inl rfl) (xv_leq2 rfl rfl (fun hq => ?_) (fun hq => ?_))
    · refine js_S rfl rfl (.inl rfl) (xv_move rfl ⟨rfl, rfl⟩) ?_
      refine js_S rfl rfl (.inr ⟨_, _, rfl, rfl⟩) (xv_move rfl ⟨rfl, rfl⟩) ?_
      refine js_S rfl rfl (.inr ⟨_, _, rfl, rfl⟩) (xv_move rfl ⟨rfl, rfl⟩) ?_
      refine js_S rfl rfl (.inr ⟨_, _, rfl, rfl⟩) (xv_move rfl ⟨rfl, rfl⟩) ?_
      refine js_S rfl rfl (.inr ⟨_, _, rfl, rfl⟩) (xv_ia (sz := 2) (j := i0) sl95 ty93 rfl rfl rfl Om_ Om_ Om_ ⟨rfl, rfl⟩) ?_
      refine js_R0 rfl rfl (.inr ⟨_, _, rfl, rfl⟩) (xv_loadA ty93 rfl rfl Me_ (ca_get eShare_len (k := i0) (by rw [hA1.size]; (first|omega|(dsimp only at *;omega)|(simp at *;omega)))) rfl ⟨rfl, rfl⟩) ?_
      refine js_S rfl rfl (.inr ⟨_, _, rfl, rfl⟩) (xv_move rfl ⟨rfl, rfl⟩) ?_
      refine js_S rfl rfl (.inr ⟨_, _, rfl, rfl⟩) (xv_move rfl ⟨rfl, rfl⟩) ?_
      refine js_S rfl rfl (.inr ⟨_, _, rfl, rfl⟩) (xv_ia (sz := 2) (j := a) sl95 ty93 rfl rfl rfl Om_ Om_ Om_ ⟨rfl, rfl⟩) ?_
      refine js_R0 rfl rfl (.inr ⟨_, _, rfl, rfl⟩) (xv_loadA ty93 rfl rfl Me_ (ca_get eShare_len (k := a) (by rw [hA1.size]; (first|omega|(dsimp only at *;omega)|(simp at *;omega)))) rfl ⟨rfl, rfl⟩) ?_
      refine js_R0 rfl rfl (.inr ⟨_, _, rfl, rfl⟩) (xv_fn rfl rfl (hf _ _ (hA1.all _ Om_) (hA1.all _ Om_) _ _ (by intro z hz; ((repeat first|exact z_0|assumption|refine z_1 ?_|(refine z_l ?_;(repeat first|exact z_0|assumption|refine z_1 ?_);done)|refine z_r ?_);done)) (up_ret ⟨rfl, rfl⟩))) ?_
      refine js_O0 rfl rfl (.inr ⟨_, _, rfl, rfl⟩) (xv_lss2 rfl rfl (fun hq => ?_) (fun hq => ?_))
      · refine js_S rfl rfl (.inl rfl) (xv_pick rfl rfl ⟨rfl, rfl⟩) ?_
        refine j_end0 ?_
        refine th_n ?_
        refine xc_true rfl ?_
        refine xc_skip ?_
        refine th_n ?_
        refine xc_block ?_
        refine xc_region ?_
        refine xr_op rfl rfl (xv_move rfl ?_)
        refine xr_op rfl rfl (xv_add rfl rfl (wrap_i64 Om_ Om_) ?_)
        refine xr_op rfl rfl (xv_assign rfl ?_)
        refine xr_end rfl ?_
        refine bk_n ?_
        exact rnd (i0 + 1) ⟨by (first|omega|(dsimp only at *;omega)|(simp at *;omega)), by (first|omega|(dsimp only at *;omega)|(simp at *;omega)), (scanUp_step (p := (fun x => ltc cm x (Go.Sort.swp d a pivot)[a]!)) (d := (Go.Sort.swp d a pivot)) Om_ (ltc_T Om_)).symm.trans hu0⟩ Om_ (le_put (le_put (le_put (le_put (le_put (le_emp _) rfl) rfl) rfl) rfl) rfl) Su_
      · refine js_S rfl rfl (.inl rfl) (xv_pick rfl rfl ⟨rfl, rfl⟩) ?_
        refine j_end0 ?_
        refine th_n ?_
        refine xc_false rfl ?_
        refine xc_exit ?_
        refine th_x ?_
        refine th_x ?_
        refine bk_same ?_
        exact jn_n i0 ⟨by (first|omega|(dsimp only at *;omega)|(simp at *;omega)), by (first|omega|(dsimp only at *;omega)|(simp at *;omega)), by
          rw [← hu0]; first | exact scanUp_stop (p := (fun x => ltc cm x (Go.Sort.swp d a pivot)[a]!)) (d := (Go.Sort.swp d a pivot)) (.inl Om_) | exact scanUp_stop (p := (fun x => ltc cm x (Go.Sort.swp d a pivot)[a]!)) (d := (Go.Sort.swp d a pivot)) (.inr (ltc_F Om_))⟩ (le_put (le_put (le_put (le_put (le_put (le_emp _) rfl) rfl) rfl) rfl) rfl) Su_
    · refine js_S rfl rfl (.inl rfl) (xv_move rfl ⟨rfl, rfl⟩) ?_
      refine js_Ss rfl rfl ⟨_, _, _, rfl, rfl, rfl⟩ ?_
      refine js_Ss rfl rfl ⟨_, _, _, rfl, rfl, rfl⟩ ?_
      refine js_Ss rfl rfl ⟨_, _, _, rfl, rfl, rfl⟩ ?_
      refine js_Ss rfl rfl ⟨_, _, _, rfl, rfl, rfl⟩ ?_
      refine js_Rs rfl rfl ⟨_, _, _, rfl, rfl, rfl⟩ ?_
      refine js_Ss rfl rfl ⟨_, _, _, rfl, rfl, rfl⟩ ?_
      refine js_Ss rfl rfl ⟨_, _, _, rfl, rfl, rfl⟩ ?_
      refine js_Ss rfl rfl ⟨_, _, _, rfl, rfl, rfl⟩ ?_
      refine js_Rs rfl rfl ⟨_, _, _, rfl, rfl, rfl⟩ ?_
      refine js_Rs rfl rfl ⟨_, _, _, rfl, rfl, rfl⟩ ?_
      refine js_Os rfl rfl ⟨_, _, _, rfl, rfl, rfl⟩ ?_
      refine js_S rfl rfl (.inl rfl) (xv_pick rfl rfl ⟨rfl, rfl⟩) ?_
      refine j_end0 ?_
      refine th_n ?_
      refine xc_false rfl ?_
      refine xc_exit ?_
      refine th_x ?_
      refine th_x ?_
      refine bk_same ?_
      exact jn_n i0 ⟨by (first|omega|(dsimp only at *;omega)|(simp at *;omega)), by (first|omega|(dsimp only at *;omega)|(simp at *;omega)), by
        rw [← hu0]; first | exact scanUp_stop (p := (fun x => ltc cm x (Go.Sort.swp d a pivot)[a]!)) (d := (Go.Sort.swp d a pivot)) (.inl Om_) | exact scanUp_stop (p := (fun x => ltc cm x (Go.Sort.swp d a pivot)[a]!)) (d := (Go.Sort.swp d a pivot)) (.inr (ltc_F Om_))⟩ (le_put (le_put (le_put (le_put (le_put (le_emp _) rfl) rfl) rfl) rfl) rfl) Su_
  · rintro i0 ⟨hi01, hi02, hu02⟩
    refine xc_join (σ := Nat) (fun j0 => a ≤ j0 ∧ j0 ≤ (b - 1) ∧ Go.Sort.scanDown (fun x => !ltc cm x (Go.Sort.swp d a pivot)[a]!) (Go.Sort.swp d a pivot) i0 (b - 1) = j0) (fun j0 => (((((emp.put (some 0) (.slice (some ⟨bb, 0, none⟩) N cap)).put (some 1) (I a)).put (some 4) (f)).put (some 12) (I i0)).put (some 13) (I j0))) (fun j0 => ((bb, .cells ⟨((Go.Sort.swp d a pivot)).toList.flatMap eShare ++ sp⟩ 76) :: L)) ?_ ?_
    · refine xc_block ?_
      refine xc_loop (σ := Nat) (fun j0 => a ≤ j0 ∧ j0 ≤ (b - 1) ∧ Go.Sort.scanDown (fun x => !ltc cm x (Go.Sort.swp d a pivot)[a]!) (Go.Sort.swp d a pivot) i0 j0 = Go.Sort.scanDown (fun x => !ltc cm x (Go.Sort.swp d a pivot)[a]!) (Go.Sort.swp d a pivot) i0 (b - 1)) (fun j0 => (((((emp.put (some 0) (.slice (some ⟨bb, 0, none⟩) N cap)).put (some 1) (I a)).put (some 4) (f)).put (some 12) (I i0)).put (some 13) (I j0))) (fun j0 => ((bb, .cells ⟨((Go.Sort.swp d a pivot)).toList.flatMap eShare ++ sp⟩ 76) :: L)) (fun j0 => j0) (b - 1) ⟨by (first|omega|(dsimp only at *;omega)|(simp at *;omega)), Nat.le_refl _, rfl⟩ (le_put (le_put (le_put (le_put (le_put (le_emp _) rfl) rfl) rfl) rfl) rfl) Su_ ?_
      rintro j0 ⟨hj01, hj02, hd0⟩
      refine xc_seq ?_
      refine xc_seq ?_
      refine xc_draw0 [(0, .S), (1, .S), (2, .O), (3, .S), (4, .S), (5, .S), (6, .S), (7, .S), (8, .R), (9, .S), (10, .S), (11, .S), (12, .R), (13, .R), (14, .O), (15, .S), (16, .S)] mixed (by kernel_rfl) ?_
      refine js_S rfl rfl (.inl rfl) (xv_move rfl ⟨rfl, rfl⟩) ?_
      refine js_S rfl rfl (.inl rfl) (xv_move rfl ⟨rfl, rfl⟩) ?_
      refine js_O0 rfl rfl (.inl rfl) (xv_leq2 rfl rfl (fun hq => ?_) (fun hq => ?_))
      · refine js_S rfl rfl (.inl rfl) (xv_move rfl ⟨rfl, rfl⟩) ?_
        refine js_S rfl rfl (.inr ⟨_, _, rfl, rfl⟩) (xv_move rfl ⟨rfl, rfl⟩) ?_
        refine js_S rfl rfl (.inr ⟨_, _, rfl, rfl⟩) (xv_move rfl ⟨rfl, rfl⟩) ?_
        refine js_S rfl rfl (.inr ⟨_, _, rfl, rfl⟩) (xv_move rfl ⟨rfl, rfl⟩) ?_
        refine js_S rfl rfl (.inr ⟨_, _, rfl, rfl⟩) (xv_ia (sz := 2) (j := j0) sl95 ty93 rfl rfl rfl Om_ Om_ Om_ ⟨rfl, rfl⟩) ?_
        refine js_R0 rfl rfl (.inr ⟨_, _, rfl, rfl⟩) (xv_loadA ty93 rfl rfl Me_ (ca_get eShare_len (k := j0) (by rw [hA1.size]; (first|omega|(dsimp only at *;omega)|(simp at *;omega)))) rfl ⟨rfl, rfl⟩) ?_
        refine js_S rfl rfl (.inr ⟨_, _, rfl, rfl⟩) (xv_move rfl ⟨rfl, rfl⟩) ?_
        refine js_S rfl rfl (.inr ⟨_, _, rfl, rfl⟩) (xv_move rfl ⟨rfl, rfl⟩) ?_
        refine js_S rfl rfl (.inr ⟨_, _, rfl, rfl⟩) (xv_ia (sz := 2) (j := a) sl95 ty93 rfl rfl rfl Om_ Om_ Om_ ⟨rfl, rfl⟩) ?_
        refine js_R0 rfl rfl (.inr ⟨_, _, rfl, rfl⟩) (xv_loadA ty93 rfl rfl Me_ (ca_get eShare_len (k := a) (by rw [hA1.size]; (first|omega|(dsimp only at *;omega)|(simp at *;omega)))) rfl ⟨rfl, rfl⟩) ?_
        refine js_R0 rfl rfl (.inr ⟨_, _, rfl, rfl⟩) (xv_fn rfl rfl (hf _ _ (hA1.all _ Om_) (hA1.all _ Om_) _ _ (by intro z hz; ((repeat first|exact z_0|assumption|refine z_1 ?_|(refine z_l ?_;(repeat first|exact z_0|assumption|refine z_1 ?_);done)|refine z_r ?_);done)) (up_ret ⟨rfl, rfl⟩))) ?_
        refine js_O0 rfl rfl (.inr ⟨_, _, rfl, rfl⟩) (xv_lss2 rfl rfl (fun hq => ?_) (fun hq => ?_))
        · refine js_S rfl rfl (.inr ⟨_, _, rfl, rfl⟩) (xv_not rfl ⟨rfl, rfl⟩) ?_
          refine js_S rfl rfl (.inl rfl) (xv_pick rfl rfl ⟨rfl, rfl⟩) ?_
          refine j_end0 ?_
          refine th_n ?_
          refine xc_false rfl ?_
          refine xc_exit ?_
          refine th_x ?_
          refine th_x ?_
          refine bk_same ?_
          exact jn_n j0 ⟨by (first|omega|(dsimp only at *;omega)|(simp at *;omega)), by (first|omega|(dsimp only at *;omega)|(simp at *;omega)), by
            rw [← hd0]; first | exact scanDown_stop (p := (fun x => !ltc cm x (Go.Sort.swp d a pivot)[a]!)) (d := (Go.Sort.swp d a pivot)) (.inl Om_) | exact scanDown_stop (p := (fun x => !ltc cm x (Go.Sort.swp d a pivot)[a]!)) (d := (Go.Sort.swp d a pivot)) (.inr (notF (ltc_T Om_)))⟩ (le_put (le_put (le_put (le_put (le_put (le_emp _) rfl) rfl) rfl) rfl) rfl) Su_
        · refine js_S rfl rfl (.inr ⟨_, _, rfl, rfl⟩) (xv_not rfl ⟨rfl, rfl⟩) ?_
          refine js_S rfl rfl (.inl rfl) (xv_pick rfl rfl ⟨rfl, rfl⟩) ?_
          refine j_end0 ?_
          refine th_n ?_
          refine xc_true rfl ?_
          refine xc_skip ?_
          refine th_n ?_
          refine xc_block ?_
          refine xc_region ?_
          refine xr_op rfl rfl (xv_move rfl ?_)
          refine xr_op rfl rfl (xv_sub rfl rfl (wrap_i64 Om_ Om_) ?_)
          refine xr_op rfl rfl (xv_assign rfl ?_)
          refine xr_end rfl ?_
          refine bk_n ?_
          exact rnd (j0 - 1) ⟨by (first|omega|(dsimp only at *;omega)|(simp at *;omega)), by (first|omega|(dsimp only at *;omega)|(simp at *;omega)), (scanDown_step (p := (fun x => !ltc cm x (Go.Sort.swp d a pivot)[a]!)) (d := (Go.Sort.swp d a pivot)) Om_ Om_ (notT (ltc_F Om_))).symm.trans hd0⟩ Om_ (le_put (le_put (le_put (le_put (le_put (le_emp _) rfl) rfl) rfl) rfl) (by rw [show ((j0 - 1 : Nat) : Int) = (j0 : Int) - 1 by (first|omega|(dsimp only at *;omega)|(simp at *;omega))]; rfl)) Su_
      · refine js_S rfl rfl (.inl rfl) (xv_move rfl ⟨rfl, rfl⟩) ?_
        refine js_Ss rfl rfl ⟨_, _, _, rfl, rfl, rfl⟩ ?_
        refine js_Ss rfl rfl ⟨_, _, _, rfl, rfl, rfl⟩ ?_
        refine js_Ss rfl rfl ⟨_, _, _, rfl, rfl, rfl⟩ ?_
        refine js_Ss rfl rfl ⟨_, _, _, rfl, rfl, rfl⟩ ?_
        refine js_Rs rfl rfl ⟨_, _, _, rfl, rfl, rfl⟩ ?_
        refine js_Ss rfl rfl ⟨_, _, _, rfl, rfl, rfl⟩ ?_
        refine js_Ss rfl rfl ⟨_, _, _, rfl, rfl, rfl⟩ ?_
        refine js_Ss rfl rfl ⟨_, _, _, rfl, rfl, rfl⟩ ?_
        refine js_Rs rfl rfl ⟨_, _, _, rfl, rfl, rfl⟩ ?_
        refine js_Rs rfl rfl ⟨_, _, _, rfl, rfl, rfl⟩ ?_
        refine js_Os rfl rfl ⟨_, _, _, rfl, rfl, rfl⟩ ?_
        refine js_Ss rfl rfl ⟨_, _, _, rfl, rfl, rfl⟩ ?_
        refine js_S rfl rfl (.inl rfl) (xv_pick rfl rfl ⟨rfl, rfl⟩) ?_
        refine j_end0 ?_
        refine th_n ?_
        refine xc_false rfl ?_
        refine xc_exit ?_
        refine th_x ?_
        refine th_x ?_
        refine bk_same ?_
        exact jn_n j0 ⟨by (first|omega|(dsimp only at *;omega)|(simp at *;omega)), by (first|omega|(dsimp only at *;omega)|(simp at *;omega)), by
          rw [← hd0]; first | exact scanDown_stop (p := (fun x => !ltc cm x (Go.Sort.swp d a pivot)[a]!)) (d := (Go.Sort.swp d a pivot)) (.inl Om_) | exact scanDown_stop (p := (fun x => !ltc cm x (Go.Sort.swp d a pivot)[a]!)) (d := (Go.Sort.swp d a pivot)) (.inr (notF (ltc_T Om_)))⟩ (le_put (le_put (le_put (le_put (le_put (le_emp _) rfl) rfl) rfl) rfl) rfl) Su_
    · rintro j0 ⟨hj01, hj02, hd02⟩
      refine xc_seq ?_
      refine xc_seq (xc_region ?_)
      refine xr_op rfl rfl (xv_move rfl ?_)
      refine xr_op rfl rfl (xv_move rfl ?_)
      refine xr_op rfl rfl (xv_gtr2 rfl rfl (fun q1 => ?_) (fun q1 => ?_))
      · refine xr_end rfl ?_
        refine th_n ?_
        refine xc_true rfl ?_
        refine xc_seq ?_
        refine xc_draw0 [(0, .S), (1, .S), (2, .S), (3, .S), (4, .S), (5, .S), (6, .S), (7, .R), (8, .S), (9, .S), (10, .S), (11, .R), (12, .S), (13, .O), (14, .S), (15, .O)] mixed (by kernel_rfl) ?_
        have hres := part_res1 hu02 hd02 Om_
        refine js_S rfl rfl (.inl rfl) (xv_move rfl ⟨rfl, rfl⟩) ?_
        refine js_S rfl rfl (.inl rfl) (xv_move rfl ⟨rfl, rfl⟩) ?_
        refine js_S rfl rfl (.inl rfl) (xv_move rfl ⟨rfl, rfl⟩) ?_
        refine js_S rfl rfl (.inl rfl) (xv_move rfl ⟨rfl, rfl⟩) ?_
        refine js_S rfl rfl (.inl rfl) (xv_move rfl ⟨rfl, rfl⟩) ?_
        refine js_S rfl rfl (.inl rfl) (xv_move rfl ⟨rfl, rfl⟩) ?_
        refine js_S rfl rfl (.inl rfl) (xv_ia (sz := 2) (j := a) sl95 ty93 rfl rfl rfl Om_ Om_ Om_ ⟨rfl, rfl⟩) ?_
        refine js_R0 rfl rfl (.inl rfl) (xv_loadA ty93 rfl rfl Me_ (ca_get eShare_len (k := a) (by rw [hA1.size]; (first|omega|(dsimp only at *;omega)|(simp at *;omega)))) rfl ⟨rfl, rfl⟩) ?_
        refine js_S rfl rfl (.inl rfl) (xv_move rfl ⟨rfl, rfl⟩) ?_
        refine js_S rfl rfl (.inl rfl) (xv_move rfl ⟨rfl, rfl⟩) ?_
        refine js_S rfl rfl (.inl rfl) (xv_ia (sz := 2) (j := j0) sl95 ty93 rfl rfl rfl Om_ Om_ Om_ ⟨rfl, rfl⟩) ?_
        refine js_R0 rfl rfl (.inl rfl) (xv_loadA ty93 rfl rfl Me_ (ca_get eShare_len (k := j0) (by rw [hA1.size]; (first|omega|(dsimp only at *;omega)|(simp at *;omega)))) rfl ⟨rfl, rfl⟩) ?_
        refine js_S rfl rfl (.inl rfl) (xv_ia (sz := 2) (j := j0) sl95 ty93 rfl rfl rfl Om_ Om_ Om_ ⟨rfl, rfl⟩) ?_
        refine js_O0 rfl rfl (.inl rfl) (xv_s ty93 rfl rfl Up_ rfl (by rfl) (by rfl) (ca_room eShare_len (k := j0) (by rw [hA1.size]; (first|omega|(dsimp only at *;omega)|(simp at *;omega)))) (ca_splice eShare_len (k := j0) (by rw [hA1.size]; (first|omega|(dsimp only at *;omega)|(simp at *;omega)))) ?_)
        refine js_S rfl rfl (.inl rfl) (xv_ia (sz := 2) (j := a) sl95 ty93 rfl rfl rfl Om_ Om_ Om_ ⟨rfl, rfl⟩) ?_
        refine js_O0 rfl rfl (.inl rfl) (xv_s ty93 rfl rfl Up_ rfl (by rfl) (by rfl) (ca_room eShare_len (k := a) (by rw [Array.size_setIfInBounds, hA1.size]; (first|omega|(dsimp only at *;omega)|(simp at *;omega)))) (ca_splice eShare_len (k := a) (by rw [Array.size_setIfInBounds, hA1.size]; (first|omega|(dsimp only at *;omega)|(simp at *;omega)))) ?_)
        refine j_end0 ?_
        refine th_n ?_
        refine xc_seq (xc_region ?_)
        refine xr_op rfl rfl (xv_move rfl ?_)
        refine xr_op rfl rfl (xv_assign rfl ?_)
        refine xr_op rfl rfl (xv_assign rfl ?_)
        refine xr_end rfl ?_
        refine th_n ?_
        refine xc_ret ?_
        refine th_r ?_
        refine body_ret (h' := ((bb, .cells ⟨(Go.Sort.swp (Go.Sort.swp d a pivot) j0 a).toList.flatMap eShare ++ sp⟩ 76) :: L)) rfl (ro_tmp rfl (ro_tmp rfl ro_nil)) Su_ ?_
        first | (rw [hres] at H; exact H Om_ Om_ (hA1.swp Om_ Om_)) | (rw [hres] at H; exact H Om_ Om_ (hA2.swp Om_ Om_))
      · refine xr_end rfl ?_
        refine th_n ?_
        refine xc_false rfl ?_
        refine xc_skip ?_
        refine th_n ?_
        refine xc_seq ?_
        refine xc_draw0 [(0, .S), (1, .S), (2, .S), (3, .S), (4, .S), (5, .S), (6, .S), (7, .R), (8, .S), (9, .S), (10, .S), (11, .R), (12, .S), (13, .O), (14, .S), (15, .O)] mixed (by kernel_rfl) ?_
        refine js_S rfl rfl (.inl rfl) (xv_move rfl ⟨rfl, rfl⟩) ?_
        refine js_S rfl rfl (.inl rfl) (xv_move rfl ⟨rfl, rfl⟩) ?_
        refine js_S rfl rfl (.inl rfl) (xv_move rfl ⟨rfl, rfl⟩) ?_
        refine js_S rfl rfl (.inl rfl) (xv_move rfl ⟨rfl, rfl⟩) ?_
        refine js_S rfl rfl (.inl rfl) (xv_move rfl ⟨rfl, rfl⟩) ?_
        refine js_S rfl rfl (.inl rfl) (xv_move rfl ⟨rfl, rfl⟩) ?_
        refine js_S rfl rfl (.inl rfl) (xv_ia (sz := 2) (j := j0) sl95 ty93 rfl rfl rfl Om_ Om_ Om_ ⟨rfl, rfl⟩) ?_
        refine js_R0 rfl rfl (.inl rfl) (xv_loadA ty93 rfl rfl Me_ (ca_get eShare_len (k := j0) (by rw [hA1.size]; (first|omega|(dsimp only at *;omega)|(simp at *;omega)))) rfl ⟨rfl, rfl⟩) ?_
        refine js_S rfl rfl (.inl rfl) (xv_move rfl ⟨rfl, rfl⟩) ?_
        refine js_S rfl rfl (.inl rfl) (xv_move rfl ⟨rfl, rfl⟩) ?_
        refine js_S rfl rfl (.inl rfl) (xv_ia (sz := 2) (j := i0) sl95 ty93 rfl rfl rfl Om_ Om_ Om_ ⟨rfl, rfl⟩) ?_
        refine js_R0 rfl rfl (.inl rfl) (xv_loadA ty93 rfl rfl Me_ (ca_get eShare_len (k := i0) (by rw [hA1.size]; (first|omega|(dsimp only at *;omega)|(simp at *;omega)))) rfl ⟨rfl, rfl⟩) ?_
        refine js_S rfl rfl (.inl rfl) (xv_ia (sz := 2) (j := i0) sl95 ty93 rfl rfl rfl Om_ Om_ Om_ ⟨rfl, rfl⟩) ?_
        refine js_O0 rfl rfl (.inl rfl) (xv_s ty93 rfl rfl Up_ rfl (by rfl) (by rfl) (ca_room eShare_len (k := i0) (by rw [hA1.size]; (first|omega|(dsimp only at *;omega)|(simp at *;omega)))) (ca_splice eShare_len (k := i0) (by rw [hA1.size]; (first|omega|(dsimp only at *;omega)|(simp at *;omega)))) ?_)
        refine js_S rfl rfl (.inl rfl) (xv_ia (sz := 2) (j := j0) sl95 ty93 rfl rfl rfl Om_ Om_ Om_ ⟨rfl, rfl⟩) ?_
        refine js_O0 rfl rfl (.inl rfl) (xv_s ty93 rfl rfl Up_ rfl (by rfl) (by rfl) (ca_room eShare_len (k := j0) (by rw [Array.size_setIfInBounds, hA1.size]; (first|omega|(dsimp only at *;omega)|(simp at *;omega)))) (ca_splice eShare_len (k := j0) (by rw [Array.size_setIfInBounds, hA1.size]; (first|omega|(dsimp only at *;omega)|(simp at *;omega)))) ?_)
        refine j_end0 ?_
        refine th_n ?_
        refine xc_seq (xc_region ?_)
        refine xr_op rfl rfl (xv_move rfl ?_)
        refine xr_op rfl rfl (xv_add rfl rfl (wrap_i64 Om_ Om_) ?_)
        refine xr_op rfl rfl (xv_assign rfl ?_)
        refine xr_end rfl ?_
        refine th_n ?_
        refine xc_seq (xc_region ?_)
        refine xr_op rfl rfl (xv_move rfl ?_)
        refine xr_op rfl rfl (xv_sub rfl rfl (wrap_i64 Om_ Om_) ?_)
        refine xr_op rfl rfl (xv_assign rfl ?_)
        refine xr_end rfl ?_
        refine th_n ?_
        refine xc_seq ?_
        refine xc_block ?_
        refine xc_loop (σ := Nat × Nat × Array Share) (fun z => a + 1 ≤ z.1 ∧ z.1 ≤ b ∧ a ≤ z.2.1 ∧ z.2.1 + 1 ≤ b ∧ Arr N p z.2.2 ∧ Go.Sort.partLoop (ltc cm) a z.1 z.2.1 z.2.2 = Go.Sort.partLoop (ltc cm) a (i0 + 1) (j0 - 1) (Go.Sort.swp (Go.Sort.swp d a pivot) i0 j0)) (fun z => (((((emp.put (some 0) (.slice (some ⟨bb, 0, none⟩) N cap)).put (some 1) (I a)).put (some 4) (f)).put (some 12) (I z.1)).put (some 13) (I z.2.1))) (fun z => ((bb, .cells ⟨(z.2.2).toList.flatMap eShare ++ sp⟩ 76) :: L)) (fun z => z.2.1 + 1 - z.1) ((i0 + 1, j0 - 1, Go.Sort.swp (Go.Sort.swp d a pivot) i0 j0) : Nat × Nat × Array Share) ⟨by dsimp only; omega, by dsimp only; (first|omega|(dsimp only at *;omega)|(simp at *;omega)), by dsimp only; (first|omega|(dsimp only at *;omega)|(simp at *;omega)), by dsimp only; (first|omega|(dsimp only at *;omega)|(simp at *;omega)), hA1.swp Om_ Om_, rfl⟩ (le_put (le_put (le_put (le_put (le_put (le_emp _) rfl) rfl) rfl) rfl) (by dsimp only; rw [show ((j0 - 1 : Nat) : Int) = (j0 : Int) - 1 by (first|omega|(dsimp only at *;omega)|(simp at *;omega))]; rfl)) Su_ ?_
        rintro ⟨i1, j1, d2⟩ ⟨ho1, ho2, ho3, ho4, hA2, heq⟩
        dsimp only at ho1 ho2 ho3 ho4 hA2 heq
        refine xc_block ?_
        refine xc_join (σ := Nat) (fun i => a + 1 ≤ i ∧ i ≤ b ∧ Go.Sort.scanUp (fun x => ltc cm x d2[a]!) d2 j1 i1 = i) (fun i => (((((emp.put (some 0) (.slice (some ⟨bb, 0, none⟩) N cap)).put (some 1) (I a)).put (some 4) (f)).put (some 12) (I i)).put (some 13) (I ((j1 : Nat) : Int)))) (fun i => ((bb, .cells ⟨(d2).toList.flatMap eShare ++ sp⟩ 76) :: L)) ?_ ?_
        · refine xc_block ?_
          refine xc_loop (σ := Nat) (fun i => a + 1 ≤ i ∧ i ≤ b ∧ Go.Sort.scanUp (fun x => ltc cm x d2[a]!) d2 j1 i = Go.Sort.scanUp (fun x => ltc cm x d2[a]!) d2 j1 i1) (fun i => (((((emp.put (some 0) (.slice (some ⟨bb, 0, none⟩) N cap)).put (some 1) (I a)).put (some 4) (f)).put (some 12) (I i)).put (some 13) (I ((j1 : Nat) : Int)))) (fun i => ((bb, .cells ⟨(d2).toList.flatMap eShare ++ sp⟩ 76) :: L)) (fun i => b - i) i1 ⟨by (first|omega|(dsimp only at *;omega)|(simp at *;omega)), by (first|omega|(dsimp only at *;omega)|(simp at *;omega)), rfl⟩ (le_put (le_put (le_put (le_put (le_put (le_emp _) rfl) rfl) rfl) rfl) (by first | rfl | (rw [show ((j1 : Nat) : Int) = (b : Int) - 1 by omega]; rfl))) Su_ ?_
          rintro i ⟨hi1, hi2, hup⟩
          refine xc_seq ?_
          refine xc_seq ?_
          refine xc_draw0 [(0, .S), (1, .S), (2, .O), (3, .S), (4, .S), (5, .S), (6, .S), (7, .S), (8, .R), (9, .S), (10, .S), (11, .S), (12, .R), (13, .R), (14, .O), (15, .S)] mixed (by kernel_rfl) ?_
          refine js_S rfl rfl (.inl rfl) (xv_move rfl ⟨rfl, rfl⟩) ?_
          refine js_S rfl rfl (.inl rfl) (xv_move rfl ⟨rfl, rfl⟩) ?_
          refine js_O0 rfl rfl (.inl rfl) (xv_leq2 rfl rfl (fun hq => ?_) (fun hq => ?_))
          · refine js_S rfl rfl (.inl rfl) (xv_move rfl ⟨rfl, rfl⟩) ?_
            refine js_S rfl rfl (.inr ⟨_, _, rfl, rfl⟩) (xv_move rfl ⟨rfl, rfl⟩) ?_
            refine js_S rfl rfl (.inr ⟨_, _, rfl, rfl⟩) (xv_move rfl ⟨rfl, rfl⟩) ?_
            refine js_S rfl rfl (.inr ⟨_, _, rfl, rfl⟩) (xv_move rfl ⟨rfl, rfl⟩) ?_
            refine js_S rfl rfl (.inr ⟨_, _, rfl, rfl⟩) (xv_ia (sz := 2) (j := i) sl95 ty93 rfl rfl rfl Om_ Om_ Om_ ⟨rfl, rfl⟩) ?_
            refine js_R0 rfl rfl (.inr ⟨_, _, rfl, rfl⟩) (xv_loadA ty93 rfl rfl Me_ (ca_get eShare_len (k := i) (by rw [hA2.size]; (first|omega|(dsimp only at *;omega)|(simp at *;omega)))) rfl ⟨rfl, rfl⟩) ?_
            refine js_S rfl rfl (.inr ⟨_, _, rfl, rfl⟩) (xv_move rfl ⟨rfl, rfl⟩) ?_
            refine js_S rfl rfl (.inr ⟨_, _, rfl, rfl⟩) (xv_move rfl ⟨rfl, rfl⟩) ?_
            refine js_S rfl rfl (.inr ⟨_, _, rfl, rfl⟩) (xv_ia (sz := 2) (j := a) sl95 ty93 rfl rfl rfl Om_ Om_ Om_ ⟨rfl, rfl⟩) ?_
            refine js_R0 rfl rfl (.inr ⟨_, _, rfl, rfl⟩) (xv_loadA ty93 rfl rfl Me_ (ca_get eShare_len (k := a) (by rw [hA2.size]; (first|omega|(dsimp only at *;omega)|(simp at *;omega)))) rfl ⟨rfl, rfl⟩) ?_
            refine js_R0 rfl rfl (.inr ⟨_, _, rfl, rfl⟩) (xv_fn rfl rfl (hf _ _ (hA2.all _ Om_) (hA2.all _ Om_) _ _ (by intro z hz; ((repeat first|exact z_0|assumption|refine z_1 ?_|(refine z_l ?_;(repeat first|exact z_0|assumption|refine z_1 ?_);done)|refine z_r ?_);done)) (up_ret ⟨rfl, rfl⟩))) ?_
            refine js_O0 rfl rfl (.inr ⟨_, _, rfl, rfl⟩) (xv_lss2 rfl rfl (fun hq => ?_) (fun hq => ?_))
            · refine js_S rfl rfl (.inl rfl) (xv_pick rfl rfl ⟨rfl, rfl⟩) ?_
              refine j_end0 ?_
              refine th_n ?_
              refine xc_true rfl ?_
              refine xc_skip ?_
              refine th_n ?_
              refine xc_block ?_
              refine xc_region ?_
              refine xr_op rfl rfl (xv_move rfl ?_)
              refine xr_op rfl rfl (xv_add rfl rfl (wrap_i64 Om_ Om_) ?_)
              refine xr_op rfl rfl (xv_assign rfl ?_)
              refine xr_end rfl ?_
              refine bk_n ?_
              exact rnd (i + 1) ⟨by (first|omega|(dsimp only at *;omega)|(simp at *;omega)), by (first|omega|(dsimp only at *;omega)|(simp at *;omega)), (scanUp_step (p := (fun x => ltc cm x d2[a]!)) (d := d2) Om_ (ltc_T Om_)).symm.trans hup⟩ Om_ (le_put (le_put (le_put (le_put (le_put (le_emp _) rfl) rfl) rfl) rfl) rfl) Su_
            · refine js_S rfl rfl (.inl rfl) (xv_pick rfl rfl ⟨rfl, rfl⟩) ?_
              refine j_end0 ?_
              refine th_n ?_
              refine xc_false rfl ?_
              refine xc_exit ?_
              refine th_x ?_
              refine th_x ?_
              refine bk_same ?_
              exact jn_n i ⟨by (first|omega|(dsimp only at *;omega)|(simp at *;omega)), by (first|omega|(dsimp only at *;omega)|(simp at *;omega)), by
                rw [← hup]; first | exact scanUp_stop (p := (fun x => ltc cm x d2[a]!)) (d := d2) (.inl Om_) | exact scanUp_stop (p := (fun x => ltc cm x d2[a]!)) (d := d2) (.inr (ltc_F Om_))⟩ (le_put (le_put (le_put (le_put (le_put (le_emp _) rfl) rfl) rfl) rfl) rfl) Su_
          · refine js_S rfl rfl (.inl rfl) (xv_move rfl ⟨rfl, rfl⟩) ?_
            refine js_Ss rfl rfl ⟨_, _, _, rfl, rfl, rfl⟩ ?_
            refine js_Ss rfl rfl ⟨_, _, _, rfl, rfl, rfl⟩ ?_
            refine js_Ss rfl rfl ⟨_, _, _, rfl, rfl, rfl⟩ ?_
            refine js_Ss rfl rfl ⟨_, _, _, rfl, rfl, rfl⟩ ?_
            refine js_Rs rfl rfl ⟨_, _, _, rfl, rfl, rfl⟩ ?_
            refine js_Ss rfl rfl ⟨_, _, _, rfl, rfl, rfl⟩ ?_
            refine js_Ss rfl rfl ⟨_, _, _, rfl, rfl, rfl⟩ ?_
            refine js_Ss rfl rfl ⟨_, _, _, rfl, rfl, rfl⟩ ?_
            refine js_Rs rfl rfl ⟨_, _, _, rfl, rfl, rfl⟩ ?_
            refine js_Rs rfl rfl ⟨_, _, _, rfl, rfl, rfl⟩ ?_
            refine js_Os rfl rfl ⟨_, _, _, rfl, rfl, rfl⟩ ?_
            refine js_S rfl rfl (.inl rfl) (xv_pick rfl rfl ⟨rfl, rfl⟩) ?_
            refine j_end0 ?_
            refine th_n ?_
            refine xc_false rfl ?_
            refine xc_exit ?_
            refine th_x ?_
            refine th_x ?_
            refine bk_same ?_
            exact jn_n i ⟨by (first|omega|(dsimp only at *;omega)|(simp at *;omega)), by (first|omega|(dsimp only at *;omega)|(simp at *;omega)), by
              rw [← hup]; first | exact scanUp_stop (p := (fun x => ltc cm x d2[a]!)) (d := d2) (.inl Om_) | exact scanUp_stop (p := (fun x => ltc cm x d2[a]!)) (d := d2) (.inr (ltc_F Om_))⟩ (le_put (le_put (le_put (le_put (le_put (le_emp _) rfl) rfl) rfl) rfl) rfl) Su_
        · rintro i ⟨hi1, hi2, hup2⟩
          refine xc_join (σ := Nat) (fun j => a ≤ j ∧ j ≤ j1 ∧ Go.Sort.scanDown (fun x => !ltc cm x d2[a]!) d2 i j1 = j) (fun j => (((((emp.put (some 0) (.slice (some ⟨bb, 0, none⟩) N cap)).put (some 1) (I a)).put (some 4) (f)).put (some 12) (I i)).put (some 13) (I j))) (fun j => ((bb, .cells ⟨(d2).toList.flatMap eShare ++ sp⟩ 76) :: L)) ?_ ?_
          · refine xc_block ?_
            refine xc_loop (σ := Nat) (fun j => a ≤ j ∧ j ≤ j1 ∧ Go.Sort.scanDown (fun x => !ltc cm x d2[a]!) d2 i j = Go.Sort.scanDown (fun x => !ltc cm x d2[a]!) d2 i j1) (fun j => (((((emp.put (some 0) (.slice (some ⟨bb, 0, none⟩) N cap)).put (some 1) (I a)).put (some 4) (f)).put (some 12) (I i)).put (some 13) (I j))) (fun j => ((bb, .cells ⟨(d2).toList.flatMap eShare ++ sp⟩ 76) :: L)) (fun j => j) j1 ⟨by (first|omega|(dsimp only at *;omega)|(simp at *;omega)), Nat.le_refl _, rfl⟩ (le_put (le_put (le_put (le_put (le_put (le_emp _) rfl) rfl) rfl) rfl) rfl) Su_ ?_
            rintro j ⟨hj1, hj2, hdn⟩
            refine xc_seq ?_
            refine xc_seq ?_
            refine xc_draw0 [(0, .S), (1, .S), (2, .O), (3, .S), (4, .S), (5, .S), (6, .S), (7, .S), (8, .R), (9, .S), (10, .S), (11, .S), (12, .R), (13, .R), (14, .O), (15, .S), (16, .S)] mixed (by kernel_rfl) ?_
            refine js_S rfl rfl (.inl rfl) (xv_move rfl ⟨rfl, rfl⟩) ?_
            refine js_S rfl rfl (.inl rfl) (xv_move rfl ⟨rfl, rfl⟩) ?_
            refine js_O0 rfl rfl (.inl rfl) (xv_leq2 rfl rfl (fun hq => ?_) (fun hq => ?_))
            · refine js_S rfl rfl (.inl rfl) (xv_move rfl ⟨rfl, rfl⟩) ?_
              refine js_S rfl rfl (.inr ⟨_, _, rfl, rfl⟩) (xv_move rfl ⟨rfl, rfl⟩) ?_
              refine js_S rfl rfl (.inr ⟨_, _, rfl, rfl⟩) (xv_move rfl ⟨rfl, rfl⟩) ?_
              refine js_S rfl rfl (.inr ⟨_, _, rfl, rfl⟩) (xv_move rfl ⟨rfl, rfl⟩) ?_
              refine js_S rfl rfl (.inr ⟨_, _, rfl, rfl⟩) (xv_ia (sz := 2) (j := j) sl95 ty93 rfl rfl rfl Om_ Om_ Om_ ⟨rfl, rfl⟩) ?_
              refine js_R0 rfl rfl (.inr ⟨_, _, rfl, rfl⟩) (xv_loadA ty93 rfl rfl Me_ (ca_get eShare_len (k := j) (by rw [hA2.size]; (first|omega|(dsimp only at *;omega)|(simp at *;omega)))) rfl ⟨rfl, rfl⟩) ?_
              refine js_S rfl rfl (.inr ⟨_, _, rfl, rfl⟩) (xv_move rfl ⟨rfl, rfl⟩) ?_
              refine js_S rfl rfl (.inr ⟨_, _, rfl, rfl⟩) (xv_move rfl ⟨rfl, rfl⟩) ?_
              refine js_S rfl rfl (.inr ⟨_, _, rfl, rfl⟩) (xv_ia (sz := 2) (j := a) sl95 ty93 rfl rfl rfl Om_ Om_ Om_ ⟨rfl, rfl⟩) ?_
              refine js_R0 rfl rfl (.inr ⟨_, _, rfl, rfl⟩) (xv_loadA ty93 rfl rfl Me_ (ca_get eShare_len (k := a) (by rw [hA2.size]; (first|omega|(dsimp only at *;omega)|(simp at *;omega)))) rfl ⟨rfl, rfl⟩) ?_
              refine js_R0 rfl rfl (.inr ⟨_, _, rfl, rfl⟩) (xv_fn rfl rfl (hf _ _ (hA2.all _ Om_) (hA2.all _ Om_) _ _ (by intro z hz; ((repeat first|exact z_0|assumption|refine z_1 ?_|(refine z_l ?_;(repeat first|exact z_0|assumption|refine z_1 ?_);done)|refine z_r ?_);done)) (up_ret ⟨rfl, rfl⟩))) ?_
              refine js_O0 rfl rfl (.inr ⟨_, _, rfl, rfl⟩) (xv_lss2 rfl rfl (fun hq => ?_) (fun hq => ?_))
              · refine js_S rfl rfl (.inr ⟨_, _, rfl, rfl⟩) (xv_not rfl ⟨rfl, rfl⟩) ?_
                refine js_S rfl rfl (.inl rfl) (xv_pick rfl rfl ⟨rfl, rfl⟩) ?_
                refine j_end0 ?_
                refine th_n ?_
                refine xc_false rfl ?_
                refine xc_exit ?_
                refine th_x ?_
                refine th_x ?_
                refine bk_same ?_
                exact jn_n j ⟨by (first|omega|(dsimp only at *;omega)|(simp at *;omega)), by (first|omega|(dsimp only at *;omega)|(simp at *;omega)), by
                  rw [← hdn]; first | exact scanDown_stop (p := (fun x => !ltc cm x d2[a]!)) (d := d2) (.inl Om_) | exact scanDown_stop (p := (fun x => !ltc cm x d2[a]!)) (d := d2) (.inr (notF (ltc_T Om_)))⟩ (le_put (le_put (le_put (le_put (le_put (le_emp _) rfl) rfl) rfl) rfl) rfl) Su_
              · refine js_S rfl rfl (.inr ⟨_, _, rfl, rfl⟩) (xv_not rfl ⟨rfl, rfl⟩) ?_
                refine js_S rfl rfl (.inl rfl) (xv_pick rfl rfl ⟨rfl, rfl⟩) ?_
                refine j_end0 ?_
                refine th_n ?_
                refine xc_true rfl ?_
                refine xc_skip ?_
                refine th_n ?_
                refine xc_block ?_
                refine xc_region ?_
                refine xr_op rfl rfl (xv_move rfl ?_)
                refine xr_op rfl rfl (xv_sub rfl rfl (wrap_i64 Om_ Om_) ?_)
                refine xr_op rfl rfl (xv_assign rfl ?_)
                refine xr_end rfl ?_
                refine bk_n ?_
                exact rnd (j - 1) ⟨by (first|omega|(dsimp only at *;omega)|(simp at *;omega)), by (first|omega|(dsimp only at *;omega)|(simp at *;omega)), (scanDown_step (p := (fun x => !ltc cm x d2[a]!)) (d := d2) Om_ Om_ (notT (ltc_F Om_))).symm.trans hdn⟩ Om_ (le_put (le_put (le_put (le_put (le_put (le_emp _) rfl) rfl) rfl) rfl) (by rw [show ((j - 1 : Nat) : Int) = (j : Int) - 1 by (first|omega|(dsimp only at *;omega)|(simp at *;omega))]; rfl)) Su_
            · refine js_S rfl rfl (.inl rfl) (xv_move rfl ⟨rfl, rfl⟩) ?_
              refine js_Ss rfl rfl ⟨_, _, _, rfl, rfl, rfl⟩ ?_
              refine js_Ss rfl rfl ⟨_, _, _, rfl, rfl, rfl⟩ ?_
              refine js_Ss rfl rfl ⟨_, _, _, rfl, rfl, rfl⟩ ?_
              refine js_Ss rfl rfl ⟨_, _, _, rfl, rfl, rfl⟩ ?_
              refine js_Rs rfl rfl ⟨_, _, _, rfl, rfl, rfl⟩ ?_
              refine js_Ss rfl rfl ⟨_, _, _, rfl, rfl, rfl⟩ ?_
              refine js_Ss rfl rfl ⟨_, _, _, rfl, rfl, rfl⟩ ?_
              refine js_Ss rfl rfl ⟨_, _, _, rfl, rfl, rfl⟩ ?_
              refine js_Rs rfl rfl ⟨_, _, _, rfl, rfl, rfl⟩ ?_
              refine js_Rs rfl rfl ⟨_, _, _, rfl, rfl, rfl⟩ ?_
              refine js_Os rfl rfl ⟨_, _, _, rfl, rfl, rfl⟩ ?_
              refine js_Ss rfl rfl ⟨_, _, _, rfl, rfl, rfl⟩ ?_
              refine js_S rfl rfl (.inl rfl) (xv_pick rfl rfl ⟨rfl, rfl⟩) ?_
              refine j_end0 ?_
              refine th_n ?_
              refine xc_false rfl ?_
              refine xc_exit ?_
              refine th_x ?_
              refine th_x ?_
              refine bk_same ?_
              exact jn_n j ⟨by (first|omega|(dsimp only at *;omega)|(simp at *;omega)), by (first|omega|(dsimp only at *;omega)|(simp at *;omega)), by
                rw [← hdn]; first | exact scanDown_stop (p := (fun x => !ltc cm x d2[a]!)) (d := d2) (.inl Om_) | exact scanDown_stop (p := (fun x => !ltc cm x d2[a]!)) (d := d2) (.inr (notF (ltc_T Om_)))⟩ (le_put (le_put (le_put (le_put (le_put (le_emp _) rfl) rfl) rfl) rfl) rfl) Su_
          · rintro j ⟨hj1, hj2, hdn2⟩
            refine xc_seq ?_
            refine xc_seq (xc_region ?_)
            refine xr_op rfl rfl (xv_move rfl ?_)
            refine xr_op rfl rfl (xv_move rfl ?_)
            refine xr_op rfl rfl (xv_gtr2 rfl rfl (fun q2 => ?_) (fun q2 => ?_))
            · refine xr_end rfl ?_
              refine th_n ?_
              refine xc_true rfl ?_
              refine xc_exit ?_
              refine th_x ?_
              refine bk_other rfl ?_
              refine th_x ?_
              refine bk_same ?_
              refine th_n ?_
              refine xc_seq ?_
              refine xc_draw0 [(0, .S), (1, .S), (2, .S), (3, .S), (4, .S), (5, .S), (6, .S), (7, .R), (8, .S), (9, .S), (10, .S), (11, .R), (12, .S), (13, .O), (14, .S), (15, .O)] mixed (by kernel_rfl) ?_
              have hres := part_res2 hu02 hd02 Om_ (heq.symm.trans (part_stop2 hup2 hdn2 Om_))
              refine js_S rfl rfl (.inl rfl) (xv_move rfl ⟨rfl, rfl⟩) ?_
              refine js_S rfl rfl (.inl rfl) (xv_move rfl ⟨rfl, rfl⟩) ?_
              refine js_S rfl rfl (.inl rfl) (xv_move rfl ⟨rfl, rfl⟩) ?_
              refine js_S rfl rfl (.inl rfl) (xv_move rfl ⟨rfl, rfl⟩) ?_
              refine js_S rfl rfl (.inl rfl) (xv_move rfl ⟨rfl, rfl⟩) ?_
              refine js_S rfl rfl (.inl rfl) (xv_move rfl ⟨rfl, rfl⟩) ?_
              refine js_S rfl rfl (.inl rfl) (xv_ia (sz := 2) (j := a) sl95 ty93 rfl rfl rfl Om_ Om_ Om_ ⟨rfl, rfl⟩) ?_
              refine js_R0 rfl rfl (.inl rfl) (xv_loadA ty93 rfl rfl Me_ (ca_get eShare_len (k := a) (by rw [hA2.size]; (first|omega|(dsimp only at *;omega)|(simp at *;omega)))) rfl ⟨rfl, rfl⟩) ?_
              refine js_S rfl rfl (.inl rfl) (xv_move rfl ⟨rfl, rfl⟩) ?_
              refine js_S rfl rfl (.inl rfl) (xv_move rfl ⟨rfl, rfl⟩) ?_
              refine js_S rfl rfl (.inl rfl) (xv_ia (sz := 2) (j := j) sl95 ty93 rfl rfl rfl Om_ Om_ Om_ ⟨rfl, rfl⟩) ?_
              refine js_R0 rfl rfl (.inl rfl) (xv_loadA ty93 rfl rfl Me_ (ca_get eShare_len (k := j) (by rw [hA2.size]; (first|omega|(dsimp only at *;omega)|(simp at *;omega)))) rfl ⟨rfl, rfl⟩) ?_
              refine js_S rfl rfl (.inl rfl) (xv_ia (sz := 2) (j := j) sl95 ty93 rfl rfl rfl Om_ Om_ Om_ ⟨rfl, rfl⟩) ?_
              refine js_O0 rfl rfl (.inl rfl) (xv_s ty93 rfl rfl Up_ rfl (by rfl) (by rfl) (ca_room eShare_len (k := j) (by rw [hA2.size]; (first|omega|(dsimp only at *;omega)|(simp at *;omega)))) (ca_splice eShare_len (k := j) (by rw [hA2.size]; (first|omega|(dsimp only at *;omega)|(simp at *;omega)))) ?_)
              refine js_S rfl rfl (.inl rfl) (xv_ia (sz := 2) (j := a) sl95 ty93 rfl rfl rfl Om_ Om_ Om_ ⟨rfl, rfl⟩) ?_
              refine js_O0 rfl rfl (.inl rfl) (xv_s ty93 rfl rfl Up_ rfl (by rfl) (by rfl) (ca_room eShare_len (k := a) (by rw [Array.size_setIfInBounds, hA2.size]; (first|omega|(dsimp only at *;omega)|(simp at *;omega)))) (ca_splice eShare_len (k := a) (by rw [Array.size_setIfInBounds, hA2.size]; (first|omega|(dsimp only at *;omega)|(simp at *;omega)))) ?_)
              refine j_end0 ?_
              refine th_n ?_
              refine xc_seq (xc_region ?_)
              refine xr_op rfl rfl (xv_move rfl ?_)
              refine xr_op rfl rfl (xv_assign rfl ?_)
              refine xr_op rfl rfl (xv_assign rfl ?_)
              refine xr_end rfl ?_
              refine th_n ?_
              refine xc_ret ?_
              refine body_ret (h' := ((bb, .cells ⟨(Go.Sort.swp d2 j a).toList.flatMap eShare ++ sp⟩ 76) :: L)) rfl (ro_tmp rfl (ro_tmp rfl ro_nil)) Su_ ?_
              first | (rw [hres] at H; exact H Om_ Om_ (hA1.swp Om_ Om_)) | (rw [hres] at H; exact H Om_ Om_ (hA2.swp Om_ Om_))
            · refine xr_end rfl ?_
              refine th_n ?_
              refine xc_false rfl ?_
              refine xc_skip ?_
              refine th_n ?_
              refine xc_seq ?_
              refine xc_draw0 [(0, .S), (1, .S), (2, .S), (3, .S), (4, .S), (5, .S), (6, .S), (7, .R), (8, .S), (9, .S), (10, .S), (11, .R), (12, .S), (13, .O), (14, .S), (15, .O)] mixed (by kernel_rfl) ?_
              refine js_S rfl rfl (.inl rfl) (xv_move rfl ⟨rfl, rfl⟩) ?_
              refine js_S rfl rfl (.inl rfl) (xv_move rfl ⟨rfl, rfl⟩) ?_
              refine js_S rfl rfl (.inl rfl) (xv_move rfl ⟨rfl, rfl⟩) ?_
              refine js_S rfl rfl (.inl rfl) (xv_move rfl ⟨rfl, rfl⟩) ?_
              refine js_S rfl rfl (.inl rfl) (xv_move rfl ⟨rfl, rfl⟩) ?_
              refine js_S rfl rfl (.inl rfl) (xv_move rfl ⟨rfl, rfl⟩) ?_
              refine js_S rfl rfl (.inl rfl) (xv_ia (sz := 2) (j := j) sl95 ty93 rfl rfl rfl Om_ Om_ Om_ ⟨rfl, rfl⟩) ?_
              refine js_R0 rfl rfl (.inl rfl) (xv_loadA ty93 rfl rfl Me_ (ca_get eShare_len (k := j) (by rw [hA2.size]; (first|omega|(dsimp only at *;omega)|(simp at *;omega)))) rfl ⟨rfl, rfl⟩) ?_
              refine js_S rfl rfl (.inl rfl) (xv_move rfl ⟨rfl, rfl⟩) ?_
              refine js_S rfl rfl (.inl rfl) (xv_move rfl ⟨rfl, rfl⟩) ?_
              refine js_S rfl rfl (.inl rfl) (xv_ia (sz := 2) (j := i) sl95 ty93 rfl rfl rfl Om_ Om_ Om_ ⟨rfl, rfl⟩) ?_
              refine js_R0 rfl rfl (.inl rfl) (xv_loadA ty93 rfl rfl Me_ (ca_get eShare_len (k := i) (by rw [hA2.size]; (first|omega|(dsimp only at *;omega)|(simp at *;omega)))) rfl ⟨rfl, rfl⟩) ?_
              refine js_S rfl rfl (.inl rfl) (xv_ia (sz := 2) (j := i) sl95 ty93 rfl rfl rfl Om_ Om_ Om_ ⟨rfl, rfl⟩) ?_
              refine js_O0 rfl rfl (.inl rfl) (xv_s ty93 rfl rfl Up_ rfl (by rfl) (by rfl) (ca_room eShare_len (k := i) (by rw [hA2.size]; (first|omega|(dsimp only at *;omega)|(simp at *;omega)))) (ca_splice eShare_len (k := i) (by rw [hA2.size]; (first|omega|(dsimp only at *;omega)|(simp at *;omega)))) ?_)
              refine js_S rfl rfl (.inl rfl) (xv_ia (sz := 2) (j := j) sl95 ty93 rfl rfl rfl Om_ Om_ Om_ ⟨rfl, rfl⟩) ?_
              refine js_O0 rfl rfl (.inl rfl) (xv_s ty93 rfl rfl Up_ rfl (by rfl) (by rfl) (ca_room eShare_len (k := j) (by rw [Array.size_setIfInBounds, hA2.size]; (first|omega|(dsimp only at *;omega)|(simp at *;omega)))) (ca_splice eShare_len (k := j) (by rw [Array.size_setIfInBounds, hA2.size]; (first|omega|(dsimp only at *;omega)|(simp at *;omega)))) ?_)
              refine j_end0 ?_
              refine th_n ?_
              refine xc_seq (xc_region ?_)
              refine xr_op rfl rfl (xv_move rfl ?_)
              refine xr_op rfl rfl (xv_add rfl rfl (wrap_i64 Om_ Om_) ?_)
              refine xr_op rfl rfl (xv_assign rfl ?_)
              refine xr_end rfl ?_
              refine th_n ?_
              refine xc_region ?_
              refine xr_op rfl rfl (xv_move rfl ?_)
              refine xr_op rfl rfl (xv_sub rfl rfl (wrap_i64 Om_ Om_) ?_)
              refine xr_op rfl rfl (xv_assign rfl ?_)
              refine xr_end rfl ?_
              refine bk_n ?_
              exact rnd ((i + 1, j - 1, Go.Sort.swp d2 i j) : Nat × Nat × Array Share) ⟨by (first|omega|(dsimp only at *;omega)|(simp at *;omega)), by (first|omega|(dsimp only at *;omega)|(simp at *;omega)), by (first|omega|(dsimp only at *;omega)|(simp at *;omega)), by (first|omega|(dsimp only at *;omega)|(simp at *;omega)), hA2.swp Om_ Om_, (part_step hup2 hdn2 Om_).symm.trans heq⟩ (by have := scanUp_ge (p := (fun x => ltc cm x d2[a]!)) (d := d2) (j := j1) (i := i1) rfl; rw [hup2] at this; (first|omega|(dsimp only at *;omega)|(simp at *;omega))) (le_put (le_put (le_put (le_put (le_put (le_emp _) rfl) rfl) rfl) rfl) (by dsimp only; rw [show ((j - 1 : Nat) : Int) = (j : Int) - 1 by (first|omega|(dsimp only at *;omega)|(simp at *;omega))]; rfl)) Su_

end Go.Proofs.Ytmaldhbjhomdkaa.Coal
