/-
  Walks.
-/
import Derived.Test.YtjbfdfmngampdaaW7
import Derived.Test.YtjbfdfmngampdaaP5
namespace Go.Proofs.Ytjbfdfmngampdaa
open Go Go.H
set_option maxRecDepth 100000
set_option maxHeartbeats 8000000
set_option linter.all false
theorem backIt {core : Hp} {l : List Supply} {a : Option Addr} {c : Nat} {bl : Nat} (hbl : (bl, .cells ⟨[.slice a l.length c]⟩ 22 (0, 0)) ∈ core) (hc : SlV core 5 eSup a l) (hlen : l.length ≤ 1000) :
    Iter Try.prog 60 [] [.pointer (some ⟨bl, 0, none⟩)] (fun z => [I (((z.1 : Nat) : Int) - 1), .agg ⟨eSup z.2⟩]) (backL l) (fun h' => core ⊆ h') := by
  intro y J Jx h hRd hy hJ
  show ACalls Try.prog 60 ⟨[y, .pointer (some ⟨bl, 0, none⟩)]⟩ h _
  refine calls_of_xc (N := 19) Try.func60 rfl (by rfl) ?_
  have hc0 := hRd _ _ hJ
  have m1 := hc0 hbl
  refine xc_seq (xc_region ?_)
  refine xr_op rfl rfl (xv_load1 ty22 rfl rfl (by ((repeat first|exact z_0|assumption|refine z_1 ?_|(refine z_l ?_;(repeat first|exact z_0|assumption|refine z_1 ?_);done)|refine z_r ?_);done)) (by rfl) ?_)
  refine xr_op rfl rfl (xv_len sl22 rfl ?_)
  refine xr_op rfl rfl (xv_sub rfl rfl (wrap_i64 (by (first | omega | (dsimp only at *; omega) | (simp at *; omega))) (by (first | omega | (dsimp only at *; omega) | (simp at *; omega)))) ?_)
  refine xr_op rfl rfl (xv_assign rfl ?_)
  refine xr_end rfl ?_
  refine th_n ?_
  refine xc_block ?_
  refine xc_loop (σ := Nat × Hp) (fun z => z.1 ≤ l.length ∧ J (l.length - z.1) z.2) (fun z => (((emp.put (some 0) (y)).put (some 1) (.pointer (some ⟨bl, 0, none⟩))).put (some 3) (I ((z.1 : Int) - 1)))) (fun z => z.2) (fun z => z.1) ((l.length, h) : Nat × Hp) ⟨Nat.le_refl _, by dsimp only; rw [Nat.sub_self]; exact hJ⟩ (le_put (le_put (le_put (le_emp _) rfl) rfl) rfl) (by (first|((repeat first|exact s_0|exact s_1|exact s_3|refine s_4 ?_|refine s_5 ?_|refine s_6 ?_|refine s_7 ?_);done)|((repeat first|exact s_0|exact s_1|exact s_3|refine s_4 ?_|refine s_5 ?_|refine s_6 ?_|refine s_8 ?_);done))) ?_
  rintro ⟨j, h1⟩ ⟨hj, hJ1⟩
  dsimp only at hj hJ1
  have hc1 := hRd _ _ hJ1
  have m2 := hc1 hbl
  refine xc_seq ?_
  refine xc_seq (xc_region ?_)
  refine xr_op rfl rfl (xv_move rfl ?_)
  refine xr_op rfl rfl (xv_geq2 rfl rfl (fun q1 => ?_) (fun q1 => ?_))
  · refine xr_end rfl ?_
    refine th_n ?_
    refine xc_true rfl ?_
    refine xc_skip ?_
    refine th_n ?_
    refine xc_seq ?_
    refine xc_block ?_
    refine xc_seq (xc_region ?_)
    refine xr_op rfl rfl (xv_move rfl ?_)
    refine xr_op rfl rfl (xv_move rfl ?_)
    refine xr_op rfl rfl (xv_load1 ty22 rfl rfl (by ((repeat first|exact z_0|assumption|refine z_1 ?_|(refine z_l ?_;(repeat first|exact z_0|assumption|refine z_1 ?_);done)|refine z_r ?_);done)) (by rfl) ?_)
    have hj1 : 1 ≤ j := by (first | omega | (dsimp only at *; omega) | (simp at *; omega))
    have hlto : (j - 1) < l.length := by (first | omega | (dsimp only at *; omega) | (simp at *; omega))
    obtain ⟨bo, oo, lo, to, fzo, hao, hmo, hxo⟩ := (hc.sub hc1).at hlto
    obtain ⟨xo, hko⟩ : ∃ qq_, l[(j - 1)]? = some qq_ := ⟨_, List.getElem?_eq_getElem hlto⟩
    have hz := back_at (l := l) (k := l.length - j) (i := j - 1) (by omega) hko
    rw [show j - 1 + 1 = j by omega] at hz
    refine xr_op rfl rfl (xv_move rfl ?_)
    refine xr_op rfl rfl (xv_ia (sz := 5) (j := j - 1) sl22 ty28 rfl (by rw [hao]; rfl) rfl (by (first | omega | (dsimp only at *; omega) | (simp at *; omega))) (by (first | omega | (dsimp only at *; omega) | (simp at *; omega))) (by (first | omega | (dsimp only at *; omega) | (simp at *; omega))) ?_)
    refine xr_op rfl rfl (xv_loadA ty28 rfl rfl (by ((repeat first|exact z_0|assumption|refine z_1 ?_|(refine z_l ?_;(repeat first|exact z_0|assumption|refine z_1 ?_);done)|refine z_r ?_);done)) (hxo (j - 1) xo hko) rfl ?_)
    refine xr_op rfl rfl (xv_fn rfl rfl (yieldTo (g := []) (hy _ _ hz _ hJ1) (fun h3 hJ3 => up_ret ?_) (fun h3 hJ3 => up_ret ?_)))
    · refine xr_op rfl rfl (xv_not rfl ?_)
      refine xr_end rfl ?_
      refine th_n ?_
      refine xc_false rfl ?_
      refine xc_skip ?_
      refine bk_n ?_
      refine th_n ?_
      refine xc_region ?_
      refine xr_op rfl rfl (xv_move rfl ?_)
      refine xr_op rfl rfl (xv_sub rfl rfl (wrap_i64 (by (first | omega | (dsimp only at *; omega) | (simp at *; omega))) (by (first | omega | (dsimp only at *; omega) | (simp at *; omega)))) ?_)
      refine xr_op rfl rfl (xv_assign rfl ?_)
      refine xr_end rfl ?_
      exact rnd ((j - 1, h3) : Nat × Hp) ⟨by (first | omega | (dsimp only at *; omega) | (simp at *; omega)), by dsimp only; rw [show l.length - (j - 1) = l.length - j + 1 by omega]; exact hJ3⟩ (by (first | omega | (dsimp only at *; omega) | (simp at *; omega))) (le_put (le_put (le_put (le_emp _) rfl) rfl) (by rw [show ((j - 1 : Nat) : Int) = (j : Int) - 1 by omega]; rfl)) (by (first|((repeat first|exact s_0|exact s_1|exact s_3|refine s_4 ?_|refine s_5 ?_|refine s_6 ?_|refine s_7 ?_);done)|((repeat first|exact s_0|exact s_1|exact s_3|refine s_4 ?_|refine s_5 ?_|refine s_6 ?_|refine s_8 ?_);done)))
    · refine xr_op rfl rfl (xv_not rfl ?_)
      refine xr_end rfl ?_
      refine th_n ?_
      refine xc_true rfl ?_
      refine xc_ret ?_
      refine bk_r ?_
      refine th_r ?_
      refine th_r ?_
      refine bk_r ?_
      refine body_ret (h' := h3) rfl ro_nil (by (first|((repeat first|exact s_0|exact s_1|exact s_3|refine s_4 ?_|refine s_5 ?_|refine s_6 ?_|refine s_7 ?_);done)|((repeat first|exact s_0|exact s_1|exact s_3|refine s_4 ?_|refine s_5 ?_|refine s_6 ?_|refine s_8 ?_);done))) ?_
      exact ⟨⟨_, rfl⟩, .inr ⟨_, (List.getElem?_eq_some_iff.1 hz).1, hJ3⟩⟩
  · refine xr_end rfl ?_
    refine th_n ?_
    refine xc_false rfl ?_
    refine xc_exit ?_
    refine th_x ?_
    refine th_x ?_
    refine bk_same ?_
    refine body_end (h' := h1) rfl ro_nil (by (first|((repeat first|exact s_0|exact s_1|exact s_3|refine s_4 ?_|refine s_5 ?_|refine s_6 ?_|refine s_7 ?_);done)|((repeat first|exact s_0|exact s_1|exact s_3|refine s_4 ?_|refine s_5 ?_|refine s_6 ?_|refine s_8 ?_);done))) ?_
    exact ⟨⟨_, rfl⟩, .inl (by have hk9 : j = 0 := (by (first | omega | (dsimp only at *; omega) | (simp at *; omega))); rw [hk9, Nat.sub_zero] at hJ1; rw [back_len]; exact hJ1)⟩

theorem back_c {l : List Supply} {a : Option Addr} {c : Nat} {h : Hp} {R : Ending → Hp → Prop} (H : ∀ bq, R (.returned (.func (.func 60) ⟨[]⟩ ⟨[.pointer (some ⟨bq, 0, none⟩)]⟩)) ((bq, .cells ⟨[.slice a l.length c]⟩ 22) :: h)) : ACalls Try.prog 36 ⟨[.slice a l.length c]⟩ h R := by
  refine calls_of_xc (N := 4) Try.func36 rfl (by rfl) ?_
  refine xc_seq (xc_region ?_)
  refine xr_op rfl rfl (xv_box rfl (fun bq hbq => ?_))
  refine xr_op rfl rfl (xv_assign rfl ?_)
  refine xr_end rfl ?_
  refine th_n ?_
  refine xc_seq (xc_region ?_)
  refine xr_op rfl rfl (xv_func rfl rfl ?_)
  refine xr_op rfl rfl (xv_assign rfl ?_)
  refine xr_end rfl ?_
  refine th_n ?_
  refine xc_ret ?_
  refine body_ret (h' := ((bq, .cells ⟨[.slice a l.length c]⟩ 22) :: h)) rfl (ro_tmp rfl ro_nil) (by (first|((repeat first|exact s_0|exact s_1|exact s_3|refine s_4 ?_|refine s_5 ?_|refine s_6 ?_|refine s_7 ?_);done)|((repeat first|exact s_0|exact s_1|exact s_3|refine s_4 ?_|refine s_5 ?_|refine s_6 ?_|refine s_8 ?_);done))) ?_
  exact H bq

theorem cloneI_c {l : List Int} {a : Option Addr} {c : Nat} {h : Hp} {R : Ending → Hp → Prop} (hl : SlV h 1 eI a l) (hlen : l.length ≤ 1000) (H : ∀ V, Vec.ok V 1 l.length (l.flatMap eI) → R (.returned (V.val l.length)) (V.hp 3 (l.flatMap eI) ++ h)) : ACalls Try.prog 38 ⟨[.slice a l.length c]⟩ h R := by
  refine calls_of_xc (N := 8) Try.func38 rfl (by rfl) ?_
  refine xc_seq (xc_region ?_)
  refine xr_op rfl rfl (xv_assign rfl ?_)
  refine xr_end rfl ?_
  refine th_n ?_
  refine xc_seq ?_
  refine xc_seq (xc_region ?_)
  cases a
  · refine xr_op rfl rfl (xv_move rfl ?_)
    refine xr_op rfl rfl (xv_eqNilS (b := true) sl29 rfl rfl rfl ?_)
    refine xr_end rfl ?_
    refine th_n ?_
    refine xc_true rfl ?_
    refine xc_seq (xc_region ?_)
    have hl0 := slv_none hl
    subst hl0
    refine xr_op rfl rfl (xv_assign rfl ?_)
    refine xr_end rfl ?_
    refine th_n ?_
    refine xc_ret ?_
    refine th_r ?_
    refine body_ret (h' := h) rfl (ro_tmp rfl ro_nil) (by (first|((repeat first|exact s_0|exact s_1|exact s_3|refine s_4 ?_|refine s_5 ?_|refine s_6 ?_|refine s_7 ?_);done)|((repeat first|exact s_0|exact s_1|exact s_3|refine s_4 ?_|refine s_5 ?_|refine s_6 ?_|refine s_8 ?_);done))) ?_
    first | exact H .nil ⟨rfl, rfl⟩ | exact H V hV
  · refine xr_op rfl rfl (xv_move rfl ?_)
    refine xr_op rfl rfl (xv_eqNilS (b := false) sl29 rfl rfl rfl ?_)
    refine xr_end rfl ?_
    refine th_n ?_
    refine xc_false rfl ?_
    refine xc_skip ?_
    refine th_n ?_
    refine xc_seq (xc_region ?_)
    refine xr_op rfl rfl ((al_buildSlice sl29 ty3 rfl rfl rfl rfl rfl (by ((try apply evl_some rfl);(repeat (first|exact (rfl : _ = [])|apply evl_cons rfl (by (first|exact v_1|exact v_2|exact v_3|exact v_4|exact v_5|exact v_6|exact v_7|exact v_8|exact v_9|exact rfl))|exact rfl))))).xv (fun b1 hb1 => ?_))
    refine xr_op rfl rfl (xv_move rfl ?_)
    refine xr_op rfl rfl (xv_copy (enc := eI) (xs := l) sl29 ty3 rfl rfl rfl rfl hl eI_len eI_1 (by (first | omega | (dsimp only at *; omega) | (simp at *; omega))) (by (first | omega | (dsimp only at *; omega) | (simp at *; omega))) (fun V hV => ?_))
    refine xr_op rfl rfl (xv_assign rfl ?_)
    refine xr_end rfl ?_
    refine th_n ?_
    refine xc_ret ?_
    refine body_ret (h' := (V.hp 3 (l.flatMap eI) ++ h)) rfl (ro_tmp rfl ro_nil) (by (first|((repeat first|exact s_0|exact s_1|exact s_3|refine s_4 ?_|refine s_5 ?_|refine s_6 ?_|refine s_7 ?_);done)|((repeat first|exact s_0|exact s_1|exact s_3|refine s_4 ?_|refine s_5 ?_|refine s_6 ?_|refine s_8 ?_);done))) ?_
    first | exact H .nil ⟨rfl, rfl⟩ | exact H V hV

theorem cloneV_c {W : Vec} {p : List Int} {h : Hp} {R : Ending → Hp → Prop} (hW : W.ok 1 p.length (p.flatMap eI)) (hs : W.hp 3 (p.flatMap eI) ⊆ h) (hlen : p.length ≤ 1000) (H : ∀ V, Vec.ok V 1 p.length (p.flatMap eI) → R (.returned (V.val p.length)) (V.hp 3 (p.flatMap eI) ++ h)) : ACalls Try.prog 38 ⟨[W.val p.length]⟩ h R := by
  obtain ⟨a, c, hv, hsl⟩ := Vec.slv (enc := eI) (t := 3) (V := W) (xs := p) (h := h) eI_len hW hs
  rw [hv]
  exact cloneI_c hsl hlen H

end Go.Proofs.Ytjbfdfmngampdaa
