/-
  Walks.
-/
import Derived.Test.YtckaaaebegemoaaDoorW6
import Derived.Test.YtckaaaebegemoaaDoorW7
namespace Go.Proofs.YtckaaaebegemoaaDoor
open Go Go.H
set_option maxRecDepth 100000
set_option maxHeartbeats 2000000
set_option linter.all false
theorem eCard_num (c : Card) : ∀ y ∈ eCard c, Num y := by
  intro y hy
  simp only [eCard, List.mem_cons, List.not_mem_nil, or_false] at hy
  rcases hy with rfl | rfl | rfl <;> exact ⟨_, rfl⟩
theorem eqc_card (x y : Card) : eqc (eCard x) (eCard y) = decide (x = y) := by
  cases x; cases y
  have hb : ∀ a b : Int, (a == b) = decide (a = b) := fun a b => by by_cases h : a = b <;> simp [h]
  simp only [eqc, eCard, Card.mk.injEq, Bool.decide_and, Bool.and_true, hb]
theorem key59 : KeyOk Tryd.prog 59 3 := keyOk3 Tryd.underlying59 rfl rfl ty3 rfl rfl rfl rfl rfl
theorem once_pre (cs : List Card) (house : Int) (k : Nat) : ∃ t, onceL cs house = onceL (cs.take k) house ++ t := by
  induction cs using snoc_ind with
  | h0 => exact ⟨[], by simp [onceL]⟩
  | h1 cs c ih =>
    obtain ⟨t, ht⟩ := ih
    by_cases hk : k ≤ cs.length
    · rw [List.take_append_of_le_length hk, once_snoc]
      split
      · exact ⟨t ++ [c], by rw [ht, List.append_assoc]⟩
      · exact ⟨t, ht⟩
    · rw [List.take_of_length_le (by rw [List.length_append]; simp; omega)]
      exact ⟨[], by simp⟩
theorem once_get {cs : List Card} {house : Int} {k : Nat} {c : Card} (hk : cs[k]? = some c) (hh : c.house = house) (hn : c ∉ onceL (cs.take k) house) : (onceL cs house)[(onceL (cs.take k) house).length]? = some c := by
  obtain ⟨t, ht⟩ := once_pre cs house (k + 1)
  rw [once_take hk, if_pos ⟨hh, hn⟩] at ht
  rw [ht, List.append_assoc, List.getElem?_append_right (Nat.le_refl _)]
  simp

theorem ofIt {core : Hp} {cs : List Card} {a : Option Addr} {c : Nat} {house : Int} {bl bh : Nat} (hbl : (bl, .cells ⟨[.slice a cs.length c]⟩ 23 (0, 0)) ∈ core) (hbh : (bh, .cells ⟨[I house]⟩ 3 (0, 0)) ∈ core) (hc : SlV core 3 eCard a cs) (hlen : cs.length ≤ 1000) :
    Iter Tryd.prog 55 [] [.pointer (some ⟨bl, 0, none⟩), .pointer (some ⟨bh, 0, none⟩)] (fun x => [.agg ⟨eCard x⟩]) (onceL cs house) (fun h' => core ⊆ h') := by
  intro y J Jx h hRd hy hJ
  show ACalls Tryd.prog 55 ⟨[y, .pointer (some ⟨bl, 0, none⟩), .pointer (some ⟨bh, 0, none⟩)]⟩ h _
  refine calls_of_xc (N := 30) Tryd.func55 rfl (by rfl) ?_
  have hc0 := hRd _ _ hJ
  have m1 := hc0 hbl
  refine xc_seq (xc_region ?_)
  refine xr_op rfl rfl (xv_makeMap (fun bm hbm => ?_))
  refine xr_op rfl rfl (xv_assign rfl ?_)
  refine xr_end rfl ?_
  refine th_n ?_
  refine xc_seq (xc_region ?_)
  refine xr_op rfl rfl (xv_load1 ty23 rfl rfl (by ((repeat first|exact z_0|assumption|refine z_1 ?_|(refine z_l ?_;(repeat first|exact z_0|assumption|refine z_1 ?_);done)|refine z_r ?_);done)) (by rfl) ?_)
  refine xr_op rfl rfl (xv_len sl23 rfl ?_)
  refine xr_op rfl rfl (xv_move rfl ?_)
  refine xr_end rfl ?_
  refine th_n ?_
  refine xc_block ?_
  refine xc_loop (σ := Nat × Hp × List MapEntry × Nat) (fun z => z.1 ≤ cs.length ∧ J (onceL (cs.take z.1) house).length z.2.1 ∧ Keys eCard (.bool true) (onceL (cs.take z.1) house) z.2.2.1) (fun z => (((((((emp.put (some 0) (y)).put (some 1) (.pointer (some ⟨bl, 0, none⟩))).put (some 2) (.pointer (some ⟨bh, 0, none⟩))).put (some 4) (.map (some bm))).put (some 8) (.slice a cs.length c)).put (some 9) (I cs.length)).put (some 10) (I z.1))) (fun z => ((bm, .map ⟨z.2.2.1⟩ z.2.2.2) :: z.2.1)) (fun z => cs.length - z.1) ((0, h, [], 0) : Nat × Hp × List MapEntry × Nat) ⟨Nat.zero_le _, hJ, rfl⟩ (le_put (le_put (le_put (le_put (le_put (le_put (le_put (le_emp _) rfl) rfl) rfl) rfl) rfl) rfl) rfl) (by (first|((repeat first|exact s_0|exact s_1|exact s_3|refine s_4 ?_|refine s_5 ?_|refine s_6 ?_|refine s_7 ?_);done)|((repeat first|exact s_0|exact s_1|exact s_3|refine s_4 ?_|refine s_5 ?_|refine s_6 ?_|refine s_8 ?_);done))) ?_
  rintro ⟨k, h1, es, cc⟩ ⟨hk, hJ1, hks⟩
  dsimp only at hk hJ1 hks
  have hc1 := hRd _ _ hJ1
  have m2 := hc1 hbh
  refine xc_seq (xc_region ?_)
  refine xr_op rfl rfl (xv_lss2 rfl rfl (fun q1 => ?_) (fun q1 => ?_))
  · refine xr_end rfl ?_
    refine th_n ?_
    refine xc_seq ?_
    refine xc_true rfl ?_
    refine xc_skip ?_
    refine th_n ?_
    refine xc_seq ?_
    refine xc_block ?_
    refine xc_seq (xc_region ?_)
    have hlto : k < cs.length := by (first | omega | (dsimp only at *; omega) | (simp at *; omega))
    obtain ⟨bo, oo, lo, to, fzo, hao, hmo, hxo⟩ := (hc.sub hc1).at hlto
    obtain ⟨xo, hko⟩ : ∃ qq_, cs[k]? = some qq_ := ⟨_, List.getElem?_eq_getElem hlto⟩
    refine xr_op rfl rfl (xv_ia (sz := 3) sl23 ty59 rfl (by rw [hao]; rfl) rfl (by (first | assumption | with_reducible exact Int.toNat_natCast _ | with_reducible rfl | rfl)) (by (first | omega | (dsimp only at *; omega) | (simp at *; omega))) (by (first | omega | (dsimp only at *; omega) | (simp at *; omega))) ?_)
    refine xr_op rfl rfl (xv_loadA ty59 rfl rfl (by ((repeat first|exact z_0|assumption|refine z_1 ?_|(refine z_l ?_;(repeat first|exact z_0|assumption|refine z_1 ?_);done)|refine z_r ?_);done)) (hxo (k) xo hko) rfl ?_)
    refine xr_op rfl rfl (xv_alloc ty59 (fun b6 hb6 => ?_))
    refine xr_op rfl rfl (xv_s ty59 rfl rfl (by (first|(apply u_3;(repeat first|exact u_0|assumption|apply u_1|apply u_2);done)|((repeat first|exact u_0|assumption|apply u_1|apply u_2);done)|(apply u_3;apply u_3;(repeat first|exact u_0|assumption|apply u_1|apply u_2);done)|((repeat first|exact u_0|assumption|apply u_3|apply u_1);done))) (by ((try apply evl_some rfl);(repeat (first|exact (rfl : _ = [])|apply evl_cons rfl (by (first|exact v_1|exact v_2|exact v_3|exact v_4|exact v_5|exact v_6|exact v_7|exact v_8|exact v_9|exact rfl))|exact rfl)))) (by rfl) (by rfl) (by rfl) (by ((try apply evl_some rfl);(repeat (first|exact (rfl : _ = [])|apply evl_cons rfl (by (first|exact v_1|exact v_2|exact v_3|exact v_4|exact v_5|exact v_6|exact v_7|exact v_8|exact v_9|exact rfl))|exact rfl)))) ?_)
    refine xr_end rfl ?_
    refine th_n ?_
    refine xc_seq ?_
    refine xc_seq (xc_region ?_)
    refine xr_op rfl rfl (xv_faddr fl59_0 rfl ?_)
    refine xr_op rfl rfl (xv_load1 ty3 rfl rfl (by ((repeat first|exact z_0|assumption|refine z_1 ?_|(refine z_l ?_;(repeat first|exact z_0|assumption|refine z_1 ?_);done)|refine z_r ?_);done)) (by rfl) ?_)
    refine xr_op rfl rfl (xv_load1 ty3 rfl rfl (by ((repeat first|exact z_0|assumption|refine z_1 ?_|(refine z_l ?_;(repeat first|exact z_0|assumption|refine z_1 ?_);done)|refine z_r ?_);done)) (by rfl) ?_)
    refine xr_op rfl rfl (xv_neq2 rfl rfl (fun q2 => ?_) (fun q2 => ?_))
    · refine xr_op rfl rfl (xv_move rfl ?_)
      refine xr_no rfl rfl rfl rfl ?_
      refine xr_no rfl rfl rfl rfl ?_
      refine xr_no rfl rfl rfl rfl ?_
      refine xr_op rfl rfl (xv_pick rfl rfl ?_)
      refine xr_end rfl ?_
      refine th_n ?_
      refine xc_true rfl ?_
      refine xc_exit ?_
      refine th_x ?_
      refine bk_same ?_
      refine th_n ?_
      refine xc_region ?_
      refine xr_op rfl rfl (xv_add rfl rfl (wrap_i64 (by (first | omega | (dsimp only at *; omega) | (simp at *; omega))) (by (first | omega | (dsimp only at *; omega) | (simp at *; omega)))) ?_)
      refine xr_op rfl rfl (xv_move rfl ?_)
      refine xr_end rfl ?_
      have hskip : onceL (cs.take (k + 1)) house = onceL (cs.take k) house := by rw [once_take hko, if_neg (fun hq9 => absurd hq9.1 (by (first | omega | (dsimp only at *; omega) | (simp at *; omega))))]
      exact rnd ((k + 1, h1, es, cc) : Nat × Hp × List MapEntry × Nat) ⟨by (first | omega | (dsimp only at *; omega) | (simp at *; omega)), by dsimp only; rw [hskip]; exact hJ1, by dsimp only; rw [hskip]; exact hks⟩ (by (first | omega | (dsimp only at *; omega) | (simp at *; omega))) (le_put (le_put (le_put (le_put (le_put (le_put (le_put (le_emp _) rfl) rfl) rfl) rfl) rfl) rfl) rfl) (by (first|((repeat first|exact s_0|exact s_1|exact s_3|refine s_4 ?_|refine s_5 ?_|refine s_6 ?_|refine s_7 ?_);done)|((repeat first|exact s_0|exact s_1|exact s_3|refine s_4 ?_|refine s_5 ?_|refine s_6 ?_|refine s_8 ?_);done)))
    · refine xr_op rfl rfl (xv_move rfl ?_)
      refine xr_gd rfl rfl rfl (xv_move rfl ?_)
      refine xr_gd rfl rfl rfl (xv_loadA ty59 rfl rfl (by ((repeat first|exact z_0|assumption|refine z_1 ?_|(refine z_l ?_;(repeat first|exact z_0|assumption|refine z_1 ?_);done)|refine z_r ?_);done)) (by ((try apply evl_some rfl);(repeat (first|exact (rfl : _ = [])|apply evl_cons rfl (by (first|exact v_1|exact v_2|exact v_3|exact v_4|exact v_5|exact v_6|exact v_7|exact v_8|exact v_9|exact rfl))|exact rfl)))) (by rfl) ?_)
      refine xr_gd rfl rfl rfl (xv_has (a := xo) (u := .bool (decide (xo ∈ onceL (cs.take k) house))) Tryd.underlying100 ty59 rfl key59 fq59 rfl eCard_len eCard_num eqc_card ty4 rfl rfl (by ((repeat first|exact z_0|assumption|refine z_1 ?_|(refine z_l ?_;(repeat first|exact z_0|assumption|refine z_1 ?_);done)|refine z_r ?_);done)) hks (by by_cases h9 : xo ∈ onceL (cs.take k) house <;> simp [h9]) ?_)
      refine xr_op rfl rfl (xv_pick rfl rfl ?_)
      refine xr_end rfl ?_
      refine th_n ?_
      refine xc_bool rfl (fun q3 => ?_) (fun q3 => ?_)
      · refine xc_exit ?_
        refine th_x ?_
        refine bk_same ?_
        refine th_n ?_
        refine xc_region ?_
        refine xr_op rfl rfl (xv_add rfl rfl (wrap_i64 (by (first | omega | (dsimp only at *; omega) | (simp at *; omega))) (by (first | omega | (dsimp only at *; omega) | (simp at *; omega)))) ?_)
        refine xr_op rfl rfl (xv_move rfl ?_)
        refine xr_end rfl ?_
        have hmem : xo ∈ onceL (cs.take k) house := of_decide_eq_true (by assumption)
        have hskip : onceL (cs.take (k + 1)) house = onceL (cs.take k) house := by rw [once_take hko, if_neg (fun hq9 => hq9.2 hmem)]
        exact rnd ((k + 1, h1, es, cc) : Nat × Hp × List MapEntry × Nat) ⟨by (first | omega | (dsimp only at *; omega) | (simp at *; omega)), by dsimp only; rw [hskip]; exact hJ1, by dsimp only; rw [hskip]; exact hks⟩ (by (first | omega | (dsimp only at *; omega) | (simp at *; omega))) (le_put (le_put (le_put (le_put (le_put (le_put (le_put (le_emp _) rfl) rfl) rfl) rfl) rfl) rfl) rfl) (by (first|((repeat first|exact s_0|exact s_1|exact s_3|refine s_4 ?_|refine s_5 ?_|refine s_6 ?_|refine s_7 ?_);done)|((repeat first|exact s_0|exact s_1|exact s_3|refine s_4 ?_|refine s_5 ?_|refine s_6 ?_|refine s_8 ?_);done)))
      · refine xc_skip ?_
        refine th_n ?_
        refine xc_seq (xc_region ?_)
        refine xr_op rfl rfl (xv_move rfl ?_)
        refine xr_op rfl rfl (xv_loadA ty59 rfl rfl (by ((repeat first|exact z_0|assumption|refine z_1 ?_|(refine z_l ?_;(repeat first|exact z_0|assumption|refine z_1 ?_);done)|refine z_r ?_);done)) (by ((try apply evl_some rfl);(repeat (first|exact (rfl : _ = [])|apply evl_cons rfl (by (first|exact v_1|exact v_2|exact v_3|exact v_4|exact v_5|exact v_6|exact v_7|exact v_8|exact v_9|exact rfl))|exact rfl)))) (by rfl) ?_)
        have hna : xo ∉ onceL (cs.take k) house := of_decide_eq_false (by assumption)
        have hho : xo.house = house := by (first | omega | (dsimp only at *; omega) | (simp at *; omega))
        have hxg := once_get hko hho hna
        have hput : onceL (cs.take (k + 1)) house = onceL (cs.take k) house ++ [xo] := by rw [once_take hko, if_pos ⟨hho, hna⟩]
        refine xr_op rfl rfl (xv_addKey (a := xo) Tryd.underlying100 ty59 rfl key59 fq59 rfl eCard_len eCard_num eqc_card rfl rfl rfl (fun o2 => by (first|(apply u_3;(repeat first|exact u_0|assumption|apply u_1|apply u_2);done)|((repeat first|exact u_0|assumption|apply u_1|apply u_2);done)|(apply u_3;apply u_3;(repeat first|exact u_0|assumption|apply u_1|apply u_2);done)|((repeat first|exact u_0|assumption|apply u_3|apply u_1);done))) hks hna (fun es1 cc1 hks2 => ?_))
        refine xr_end rfl ?_
        refine th_n ?_
        refine xc_seq (xc_region ?_)
        refine xr_op rfl rfl (xv_move rfl ?_)
        refine xr_op rfl rfl (xv_loadA ty59 rfl rfl (by ((repeat first|exact z_0|assumption|refine z_1 ?_|(refine z_l ?_;(repeat first|exact z_0|assumption|refine z_1 ?_);done)|refine z_r ?_);done)) (by ((try apply evl_some rfl);(repeat (first|exact (rfl : _ = [])|apply evl_cons rfl (by (first|exact v_1|exact v_2|exact v_3|exact v_4|exact v_5|exact v_6|exact v_7|exact v_8|exact v_9|exact rfl))|exact rfl)))) (by rfl) ?_)
        refine xr_op rfl rfl (xv_fn rfl rfl (yieldTo (g := [_, _]) (hy _ _ hxg _ hJ1) (fun h3 hJ3 => up_ret ?_) (fun h3 hJ3 => up_ret ?_)))
        · refine xr_op rfl rfl (xv_not rfl ?_)
          refine xr_end rfl ?_
          refine th_n ?_
          refine xc_false rfl ?_
          refine xc_skip ?_
          refine bk_n ?_
          refine th_n ?_
          refine xc_region ?_
          refine xr_op rfl rfl (xv_add rfl rfl (wrap_i64 (by (first | omega | (dsimp only at *; omega) | (simp at *; omega))) (by (first | omega | (dsimp only at *; omega) | (simp at *; omega)))) ?_)
          refine xr_op rfl rfl (xv_move rfl ?_)
          refine xr_end rfl ?_
          exact rnd ((k + 1, h3, es1, cc1) : Nat × Hp × List MapEntry × Nat) ⟨by (first | omega | (dsimp only at *; omega) | (simp at *; omega)), by dsimp only; rw [hput, List.length_append]; exact hJ3, by dsimp only; rw [hput]; exact hks2⟩ (by (first | omega | (dsimp only at *; omega) | (simp at *; omega))) (le_put (le_put (le_put (le_put (le_put (le_put (le_put (le_emp _) rfl) rfl) rfl) rfl) rfl) rfl) rfl) (by (first|((repeat first|exact s_0|exact s_1|exact s_3|refine s_4 ?_|refine s_5 ?_|refine s_6 ?_|refine s_7 ?_);done)|((repeat first|exact s_0|exact s_1|exact s_3|refine s_4 ?_|refine s_5 ?_|refine s_6 ?_|refine s_8 ?_);done)))
        · refine xr_op rfl rfl (xv_not rfl ?_)
          refine xr_end rfl ?_
          refine th_n ?_
          refine xc_true rfl ?_
          refine xc_ret ?_
          refine bk_r ?_
          refine th_r ?_
          refine th_r ?_
          refine bk_r ?_
          refine body_ret (h' := h3) rfl ro_nil (by (first|((repeat first|exact s_0|exact s_1|exact s_3|refine s_4 ?_|refine s_5 ?_|refine s_6 ?_|refine s_7 ?_);done)|((repeat first|exact s_0|exact s_1|exact s_3|refine s_4 ?_|refine s_5 ?_|refine s_6 ?_|refine s_8 ?_);done))) ?_
          exact ⟨⟨_, rfl⟩, .inr ⟨_, (List.getElem?_eq_some_iff.1 hxg).1, hJ3⟩⟩
  · refine xr_end rfl ?_
    refine th_n ?_
    refine xc_seq ?_
    refine xc_false rfl ?_
    refine xc_exit ?_
    refine th_x ?_
    refine th_x ?_
    refine bk_same ?_
    refine body_end (h' := h1) rfl ro_nil (by (first|((repeat first|exact s_0|exact s_1|exact s_3|refine s_4 ?_|refine s_5 ?_|refine s_6 ?_|refine s_7 ?_);done)|((repeat first|exact s_0|exact s_1|exact s_3|refine s_4 ?_|refine s_5 ?_|refine s_6 ?_|refine s_8 ?_);done))) ?_
    exact ⟨⟨_, rfl⟩, .inl (by have hk9 : k = cs.length := (by (first | omega | (dsimp only at *; omega) | (simp at *; omega))); rw [hk9, List.take_length] at hJ1; exact hJ1)⟩

theorem of_c {cs : List Card} {a : Option Addr} {c : Nat} {house : Int} {h : Hp} {R : Ending → Hp → Prop}
    (H : ∀ bl bh, R (.returned (.func (.func 55) ⟨[]⟩ ⟨[.pointer (some ⟨bl, 0, none⟩), .pointer (some ⟨bh, 0, none⟩)]⟩)) ((bh, .cells ⟨[I house]⟩ 3) :: (bl, .cells ⟨[.slice a cs.length c]⟩ 23) :: h)) : ACalls Tryd.prog 45 ⟨[.slice a cs.length c, I house]⟩ h R := by
  refine calls_of_xc (N := 6) Tryd.func45 rfl (by rfl) ?_
  refine xc_seq (xc_region ?_)
  refine xr_op rfl rfl (xv_box rfl (fun bl hbl => ?_))
  refine xr_op rfl rfl (xv_box rfl (fun bh hbh => ?_))
  refine xr_op rfl rfl (xv_assign rfl ?_)
  refine xr_end rfl ?_
  refine th_n ?_
  refine xc_seq (xc_region ?_)
  refine xr_op rfl rfl (xv_func rfl rfl ?_)
  refine xr_op rfl rfl (xv_assign rfl ?_)
  refine xr_end rfl ?_
  refine th_n ?_
  refine xc_ret ?_
  refine body_ret (h' := ((bh, .cells ⟨[I house]⟩ 3) :: (bl, .cells ⟨[.slice a cs.length c]⟩ 23) :: h)) rfl (ro_tmp rfl ro_nil) (by (first|((repeat first|exact s_0|exact s_1|exact s_3|refine s_4 ?_|refine s_5 ?_|refine s_6 ?_|refine s_7 ?_);done)|((repeat first|exact s_0|exact s_1|exact s_3|refine s_4 ?_|refine s_5 ?_|refine s_6 ?_|refine s_8 ?_);done))) ?_
  exact H bl bh

end Go.Proofs.YtckaaaebegemoaaDoor
