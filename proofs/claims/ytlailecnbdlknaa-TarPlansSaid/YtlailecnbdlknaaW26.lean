/-
  Walks.
-/
import Derived.Test.YtlailecnbdlknaaP14
namespace Go.Proofs.Ytlailecnbdlknaa
open Go Go.H
set_option maxRecDepth 100000
set_option maxHeartbeats 2000000
set_option linter.all false
theorem plans_step {y : Yard} (hy : GoodYard y) {m : Nat} (ih : ∀ j, j < m → PlansOk y j) : PlansOk y m := by
  intro L a c n no pre V out R hpn hon hnm hv hp hout hV hcap H
  subst hpn
  refine calls_of_xc (N := 40) Try.func28 rfl (by rfl) ?_
  have hs4 := hy.s4
  have hpm : 0 < 9 ^ m := Nat.pow_pos (by decide)
  have hpm1 : 0 < 9 ^ (m - 1) := Nat.pow_pos (by decide)
  refine xc_seq (xc_region ?_)
  refine xr_op rfl rfl (xv_box rfl (fun b3 hb3 => ?_))
  refine xr_op rfl rfl (xv_assign rfl ?_)
  refine xr_end rfl ?_
  refine th_n ?_
  refine xc_seq (xc_region ?_)
  refine xr_op rfl rfl (xv_move rfl ?_)
  refine xr_op rfl rfl (xv_len sl22 rfl ?_)
  refine xr_op rfl rfl (xv_assign rfl ?_)
  refine xr_end rfl ?_
  refine th_n ?_
  refine xc_seq ?_
  refine xc_seq (xc_region ?_)
  refine xr_op rfl rfl (xv_move rfl ?_)
  refine xr_op rfl rfl (xv_faddr fl26_1 rfl ?_)
  refine xr_op rfl rfl (xv_load1 ty23 rfl rfl (by (first|((repeat first|exact z_0|assumption|refine z_1 ?_|refine z_r ?_);done)|((repeat refine z_1 ?_);refine z_l ?_;(repeat first|exact z_0|assumption|refine z_1 ?_|refine z_r ?_);done)|((repeat refine z_1 ?_);refine z_r ?_;(repeat refine z_1 ?_);refine z_l ?_;(repeat first|exact z_0|assumption|refine z_1 ?_|refine z_r ?_);done)|((repeat first|exact z_0|assumption|refine z_1 ?_|refine z_l ?_);done))) (by rfl) ?_)
  refine xr_op rfl rfl (xv_len sl23 rfl ?_)
  refine xr_op rfl rfl (xv_eql2 rfl rfl (fun q1 => ?_) (fun q1 => ?_))
  · refine xr_end rfl ?_
    refine th_n ?_
    refine xc_true rfl ?_
    refine xc_seq (xc_region ?_)
    refine xr_op rfl rfl (xv_move rfl ?_)
    refine xr_op rfl rfl (xv_move rfl ?_)
    refine xr_op rfl rfl ((al_buildSlice sl71 ty22 rfl rfl rfl rfl rfl (by ((try apply evl_some rfl);(repeat (first|exact (rfl : _ = [])|apply evl_cons rfl (by (first|exact v_1|exact v_2|exact v_3|exact v_4|exact v_5|exact v_6|exact v_7|exact v_8|exact v_9|exact rfl))|exact rfl))))).xv (fun b18 hb18 => ?_))
    refine xr_op rfl rfl (xv_append (V := V) (n := no) (xs := out.flatMap ePS) sl71 ty22 rfl rfl rfl hV (.there (.there .here)) (by (first|((repeat first|exact z_0|assumption|refine z_1 ?_|refine z_r ?_);done)|((repeat refine z_1 ?_);refine z_l ?_;(repeat first|exact z_0|assumption|refine z_1 ?_|refine z_r ?_);done)|((repeat refine z_1 ?_);refine z_r ?_;(repeat refine z_1 ?_);refine z_l ?_;(repeat first|exact z_0|assumption|refine z_1 ?_|refine z_r ?_);done)|((repeat first|exact z_0|assumption|refine z_1 ?_|refine z_l ?_);done))) (by ((try apply evl_some rfl);(repeat (first|exact (rfl : _ = [])|apply evl_cons rfl (by (first|exact v_1|exact v_2|exact v_3|exact v_4|exact v_5|exact v_6|exact v_7|exact v_8|exact v_9|exact rfl))|exact rfl)))) rfl rfl (by omega) (by simp only []; omega) (by omega) (fun V2 hV2 => ?_))
    refine xr_op rfl rfl (xv_assign rfl ?_)
    refine xr_end rfl ?_
    refine th_n ?_
    refine xc_ret ?_
    refine th_r ?_
    refine body_ret (h' := (V2.hp 22 ((out ++ [PS.mk a c pre]).flatMap ePS) ++ ([] ++ L))) rfl (ro_tmp rfl ro_nil) (by first | (rw [List.append_assoc q]; exact List.Sublist.refl _) | (rw [List.flatMap_append]; exact List.Sublist.append_left (List.Sublist.cons _ (List.Sublist.cons _ (List.Sublist.refl _))) _)) ?_
    first | exact H V (q ++ [(b3, .cells ⟨eYard y⟩ 26)]) out2 no2 hon2 hall (fun p hp9 => by rw [List.append_assoc]; exact hout2 p hp9) hV2 (by (first | omega | (dsimp only at *; omega) | (simp at *; omega))) | exact H V2 [] (out ++ [PS.mk a c pre]) (no + 1) (by simp [hon]) (by rw [List.map_append, allG_end (by (first | omega | (dsimp only at *; omega) | (simp at *; omega)))]; rfl) (all_snoc hout hp) (by rw [List.flatMap_append]; exact hV2) (by have := Nat.pow_pos (n := m) (show 0 < 9 by decide); omega)
  · refine xr_end rfl ?_
    refine th_n ?_
    refine xc_false rfl ?_
    refine xc_skip ?_
    refine th_n ?_
    refine xc_seq ?_
    refine xc_seq (xc_region ?_)
    have hlto : pre.length < y.stills.length := by (first | omega | (dsimp only at *; omega) | (simp at *; omega))
    obtain ⟨bo, oo, lo, to, fzo, hao, hmo, hxo⟩ := (hv.stills).at hlto
    obtain ⟨xo, hko⟩ : ∃ qq_, y.stills[pre.length]? = some qq_ := ⟨_, List.getElem?_eq_getElem hlto⟩
    have hso := hy.stills _ xo hko
    have hmo := hso.2.2.2.2.1
    have hm1 : 1 ≤ m := by (first | omega | (dsimp only at *; omega) | (simp at *; omega))
    have hpw : 9 ^ m = 9 * 9 ^ (m - 1) := by rw [show m = (m - 1) + 1 by omega, Nat.pow_succ, Nat.add_sub_cancel]; omega
    refine xr_op rfl rfl (xv_assign rfl ?_)
    refine xr_end rfl ?_
    refine th_n ?_
    refine xc_block ?_
    refine XC.perm (h := V.hp 22 (out.flatMap ePS) ++ (b3, .cells ⟨eYard y⟩ 26) :: L) List.perm_middle ?_
    refine xc_loop (σ := Nat × Vec × List PS × Nat × Hp) (fun z => z.1 ≤ (xo.most + 1).toNat ∧ z.2.2.1.length = z.2.2.2.1 ∧ z.2.2.1.map PS.xs = out.map PS.xs ++ (nums z.1).flatMap (subA y pre) ∧ (∀ p ∈ z.2.2.1, SlV (z.2.2.2.2 ++ (b3, .cells ⟨eYard y⟩ 26) :: L) 1 eI p.a p.xs) ∧ z.2.1.ok 1 z.2.2.2.1 (z.2.2.1.flatMap ePS) ∧ z.2.2.2.1 ≤ no + z.1 * 9 ^ (m - 1)) (fun z => (((((emp.put (some 1) (.slice a pre.length c)).put (some 2) (z.2.1.val z.2.2.2.1)).put (some 3) (.pointer (some ⟨b3, 0, none⟩))).put (some 7) (I pre.length)).put (some 8) (I z.1))) (fun z => (z.2.1.hp 22 (z.2.2.1.flatMap ePS) ++ (z.2.2.2.2 ++ (b3, .cells ⟨eYard y⟩ 26) :: L))) (fun z => (xo.most + 1).toNat - z.1) ((0, V, out, no, []) : Nat × Vec × List PS × Nat × Hp) ⟨Nat.zero_le _, hon, by simp [nums], fun p hp9 => (hout p hp9).sub (List.subset_cons_self _ _), hV, by dsimp only; omega⟩ (le_put (le_put (le_put (le_put (le_put (le_emp _) rfl) rfl) rfl) rfl) rfl) (by dsimp only; (first|((repeat first|exact s_0|exact s_1|exact s_3|refine s_4 ?_|refine s_5 ?_|refine s_6 ?_|refine s_7 ?_);done)|((repeat first|exact s_0|exact s_1|exact s_3|refine s_4 ?_|refine s_5 ?_|refine s_6 ?_|refine s_8 ?_);done))) ?_
    rintro ⟨k, V, out2, no2, q⟩ ⟨hk, hon2, hmap, hout2, hV2, hno⟩
    dsimp only at hk hon2 hmap hout2 hV2 hno
    refine xc_seq ?_
    refine xc_seq (xc_region ?_)
    refine xr_op rfl rfl (xv_move rfl ?_)
    refine xr_op rfl rfl (xv_faddr fl26_1 rfl ?_)
    refine xr_op rfl rfl (xv_load1 ty23 rfl rfl (by (first|((repeat first|exact z_0|assumption|refine z_1 ?_|refine z_r ?_);done)|((repeat refine z_1 ?_);refine z_l ?_;(repeat first|exact z_0|assumption|refine z_1 ?_|refine z_r ?_);done)|((repeat refine z_1 ?_);refine z_r ?_;(repeat refine z_1 ?_);refine z_l ?_;(repeat first|exact z_0|assumption|refine z_1 ?_|refine z_r ?_);done)|((repeat first|exact z_0|assumption|refine z_1 ?_|refine z_l ?_);done))) (by rfl) ?_)
    refine xr_op rfl rfl (xv_move rfl ?_)
    refine xr_op rfl rfl (xv_ia (sz := 5) (j := pre.length) sl23 ty48 rfl (by rw [hao]; rfl) rfl (by (first | assumption | with_reducible exact Int.toNat_natCast _ | with_reducible rfl | rfl)) (by (first | omega | (dsimp only at *; omega) | (simp at *; omega))) (by (first | omega | (dsimp only at *; omega) | (simp at *; omega))) ?_)
    refine xr_op rfl rfl (xv_faddr fl48_4 rfl ?_)
    refine xr_op rfl rfl (xv_load1 ty3 rfl rfl (by (first|((repeat first|exact z_0|assumption|refine z_1 ?_|refine z_r ?_);done)|((repeat refine z_1 ?_);refine z_l ?_;(repeat first|exact z_0|assumption|refine z_1 ?_|refine z_r ?_);done)|((repeat refine z_1 ?_);refine z_r ?_;(repeat refine z_1 ?_);refine z_l ?_;(repeat first|exact z_0|assumption|refine z_1 ?_|refine z_r ?_);done)|((repeat first|exact z_0|assumption|refine z_1 ?_|refine z_l ?_);done))) (take_get (hxo (pre.length) xo hko) (j := 4) rfl) ?_)
    refine xr_op rfl rfl (xv_leq2 rfl rfl (fun q2 => ?_) (fun q2 => ?_))
    · refine xr_end rfl ?_
      refine th_n ?_
      refine xc_true rfl ?_
      refine xc_skip ?_
      refine th_n ?_
      refine xc_seq ?_
      refine xc_block ?_
      refine xc_drawL (L := [(b3, fun o => o = .cells ⟨eYard y⟩ 26 (0, 0))]) [(0, .S), (1, .P), (2, .S), (4, .S), (5, .P), (7, .S), (1, .A), (3, .O), (5, .A), (6, .O), (8, .O), (9, .S)] [] _ mixed (by kernel_rfl) (by rw [List.append_nil]) ((holds1 (by (first|((repeat first|exact z_0|assumption|refine z_1 ?_|refine z_r ?_);done)|((repeat refine z_1 ?_);refine z_l ?_;(repeat first|exact z_0|assumption|refine z_1 ?_|refine z_r ?_);done)|((repeat refine z_1 ?_);refine z_r ?_;(repeat refine z_1 ?_);refine z_l ?_;(repeat first|exact z_0|assumption|refine z_1 ?_|refine z_r ?_);done)|((repeat first|exact z_0|assumption|refine z_1 ?_|refine z_l ?_);done))) rfl)) ?_
      have hk8 : k * 9 ^ (m - 1) ≤ 8 * 9 ^ (m - 1) := Nat.mul_le_mul_right _ (by (first | omega | (dsimp only at *; omega) | (simp at *; omega)))
      refine js_I rfl rfl (.inl rfl) (fun hh hv => by obtain ⟨o, hm, rfl⟩ := hv b3 _ List.mem_cons_self; exact xv_loadA ty26 rfl rfl (List.mem_append_left _ hm) (by ((try apply evl_some rfl);(repeat (first|exact (rfl : _ = [])|apply evl_cons rfl (by (first|exact v_1|exact v_2|exact v_3|exact v_4|exact v_5|exact v_6|exact v_7|exact v_8|exact v_9|exact rfl))|exact rfl)))) (by rfl) ⟨rfl, rfl⟩) ?_
      refine js_P rfl rfl rfl (al_buildSlice sl22 ty3 rfl rfl rfl rfl rfl (by ((try apply evl_some rfl);(repeat (first|exact (rfl : _ = [])|apply evl_cons rfl (by (first|exact v_1|exact v_2|exact v_3|exact v_4|exact v_5|exact v_6|exact v_7|exact v_8|exact v_9|exact rfl))|exact rfl))))) ?_
      refine js_S rfl rfl (.inl rfl) (xv_move rfl ⟨rfl, rfl⟩) ?_
      refine js_S rfl rfl (.inl rfl) (xv_move rfl ⟨rfl, rfl⟩) ?_
      refine js_P rfl rfl rfl (al_buildSlice sl22 ty3 rfl rfl rfl rfl rfl (by ((try apply evl_some rfl);(repeat (first|exact (rfl : _ = [])|apply evl_cons rfl (by (first|exact v_1|exact v_2|exact v_3|exact v_4|exact v_5|exact v_6|exact v_7|exact v_8|exact v_9|exact rfl))|exact rfl))))) ?_
      refine js_S rfl rfl (.inl rfl) (xv_move rfl ⟨rfl, rfl⟩) ?_
      refine js_A0 rfl rfl rfl rfl rfl trivial (fun b31 hb31 => ?_)
      refine js_OL0 rfl rfl (.inl rfl) (xv_copy (enc := eI) (xs := pre) sl22 ty3 rfl rfl rfl rfl (hp.sub (by intro z hz; (first|((repeat first|exact z_0|assumption|refine z_1 ?_|refine z_r ?_);done)|((repeat refine z_1 ?_);refine z_l ?_;(repeat first|exact z_0|assumption|refine z_1 ?_|refine z_r ?_);done)|((repeat refine z_1 ?_);refine z_r ?_;(repeat refine z_1 ?_);refine z_l ?_;(repeat first|exact z_0|assumption|refine z_1 ?_|refine z_r ?_);done)|((repeat first|exact z_0|assumption|refine z_1 ?_|refine z_l ?_);done)))) eI_len eI_1 (by simp only []; omega) (by omega) (fun V5 hV5 => ?_))
      refine ⟨(holds1 (by (first|((repeat first|exact z_0|assumption|refine z_1 ?_|refine z_r ?_);done)|((repeat refine z_1 ?_);refine z_l ?_;(repeat first|exact z_0|assumption|refine z_1 ?_|refine z_r ?_);done)|((repeat refine z_1 ?_);refine z_r ?_;(repeat refine z_1 ?_);refine z_l ?_;(repeat first|exact z_0|assumption|refine z_1 ?_|refine z_r ?_);done)|((repeat first|exact z_0|assumption|refine z_1 ?_|refine z_l ?_);done))) rfl), ?_⟩
      refine js_A0 rfl rfl rfl rfl rfl ⟨rfl, trivial⟩ (fun b35 hb35 => ?_)
      refine js_OL0 rfl rfl (.inl rfl) (xv_append (V := V5) (n := pre.length) (xs := pre.flatMap eI) sl22 ty3 rfl rfl rfl hV5 (.there .here) (by (first|((repeat first|exact z_0|assumption|refine z_1 ?_|refine z_r ?_);done)|((repeat refine z_1 ?_);refine z_l ?_;(repeat first|exact z_0|assumption|refine z_1 ?_|refine z_r ?_);done)|((repeat refine z_1 ?_);refine z_r ?_;(repeat refine z_1 ?_);refine z_l ?_;(repeat first|exact z_0|assumption|refine z_1 ?_|refine z_r ?_);done)|((repeat first|exact z_0|assumption|refine z_1 ?_|refine z_l ?_);done))) (by ((try apply evl_some rfl);(repeat (first|exact (rfl : _ = [])|apply evl_cons rfl (by (first|exact v_1|exact v_2|exact v_3|exact v_4|exact v_5|exact v_6|exact v_7|exact v_8|exact v_9|exact rfl))|exact rfl)))) rfl rfl (by omega) (by simp only []; omega) (by omega) (fun V6 hV6 => ?_))
      refine ⟨(holds1 (by (first|((repeat first|exact z_0|assumption|refine z_1 ?_|refine z_r ?_);done)|((repeat refine z_1 ?_);refine z_l ?_;(repeat first|exact z_0|assumption|refine z_1 ?_|refine z_r ?_);done)|((repeat refine z_1 ?_);refine z_r ?_;(repeat refine z_1 ?_);refine z_l ?_;(repeat first|exact z_0|assumption|refine z_1 ?_|refine z_r ?_);done)|((repeat first|exact z_0|assumption|refine z_1 ?_|refine z_l ?_);done))) rfl), ?_⟩
      have hp1 : (pre ++ [(k : Int)]).length = pre.length + 1 := by simp
      obtain ⟨na, nc, hnv, hns⟩ := slv_vec (t := 3) (enc := eI) (xs := pre ++ [(k : Int)]) eI_len hp1 (by rw [List.flatMap_append]; exact hV6)
      rw [List.flatMap_append] at hns
      rw [hnv]
      refine js_OL0 rfl rfl (.inl rfl) (xv_calls rfl hb28 (ACalls.perm (h := V.hp 22 (out2.flatMap ePS) ++ ((V6.hp 3 (pre.flatMap eI ++ [I k]) ++ (b35, .cells ⟨[I k]⟩ 3) :: (q ++ (b3, .cells ⟨eYard y⟩ 26) :: L)))) perm_k (ih (m - 1) (by omega) hp1 hon2 (by omega) (hv.sub (by intro z hz; (first|((repeat first|exact z_0|assumption|refine z_1 ?_|refine z_r ?_);done)|((repeat refine z_1 ?_);refine z_l ?_;(repeat first|exact z_0|assumption|refine z_1 ?_|refine z_r ?_);done)|((repeat refine z_1 ?_);refine z_r ?_;(repeat refine z_1 ?_);refine z_l ?_;(repeat first|exact z_0|assumption|refine z_1 ?_|refine z_r ?_);done)|((repeat first|exact z_0|assumption|refine z_1 ?_|refine z_l ?_);done)))) (hns.sub (by intro z hz; (first|((repeat first|exact z_0|assumption|refine z_1 ?_|refine z_r ?_);done)|((repeat refine z_1 ?_);refine z_l ?_;(repeat first|exact z_0|assumption|refine z_1 ?_|refine z_r ?_);done)|((repeat refine z_1 ?_);refine z_r ?_;(repeat refine z_1 ?_);refine z_l ?_;(repeat first|exact z_0|assumption|refine z_1 ?_|refine z_r ?_);done)|((repeat first|exact z_0|assumption|refine z_1 ?_|refine z_l ?_);done)))) (fun p hp9 => (hout2 p hp9).sub (fun z hz => List.mem_append_right _ (List.mem_cons_of_mem _ hz))) hV2 (by dsimp only; omega) (fun V7 q7 out3 no3 hon3 hmap3 hout3 hV7 hno3 => up_ret ?_))))
      refine ⟨(holds1 (by (first|((repeat first|exact z_0|assumption|refine z_1 ?_|refine z_r ?_);done)|((repeat refine z_1 ?_);refine z_l ?_;(repeat first|exact z_0|assumption|refine z_1 ?_|refine z_r ?_);done)|((repeat refine z_1 ?_);refine z_r ?_;(repeat refine z_1 ?_);refine z_l ?_;(repeat first|exact z_0|assumption|refine z_1 ?_|refine z_r ?_);done)|((repeat first|exact z_0|assumption|refine z_1 ?_|refine z_l ?_);done))) rfl), ?_⟩
      refine js_S rfl rfl (.inl rfl) (xv_assign rfl ⟨rfl, rfl⟩) ?_
      refine j_end0 ?_
      refine bk_n ?_
      refine th_n ?_
      refine xc_region ?_
      refine xr_op rfl rfl (xv_move rfl ?_)
      refine xr_op rfl rfl (xv_add rfl rfl (wrap_i64 (by (first | omega | (dsimp only at *; omega) | (simp at *; omega))) (by (first | omega | (dsimp only at *; omega) | (simp at *; omega)))) ?_)
      refine xr_op rfl rfl (xv_assign rfl ?_)
      refine xr_end rfl ?_
      dsimp only at hno3
      exact rnd ((k + 1, V7, out3, no3, q7 ++ (V6.hp 3 (pre.flatMap eI ++ [I k]) ++ (b35, .cells ⟨[I k]⟩ 3) :: q)) : Nat × Vec × List PS × Nat × Hp) ⟨by (first | omega | (dsimp only at *; omega) | (simp at *; omega)), hon3, by dsimp only; rw [hmap3, hmap, nums_succ, List.flatMap_append, ← List.append_assoc]; simp only [List.flatMap_cons, List.flatMap_nil, List.append_nil]; rfl, fun p hp9 => (hout3 p hp9).sub (by simp only [List.append_assoc, List.cons_append]; exact fun _ hz => hz), hV7, by dsimp only; rw [Nat.succ_mul]; omega⟩ (by (first | omega | (dsimp only at *; omega) | (simp at *; omega))) (le_put (le_put (le_put (le_put (le_put (le_emp _) rfl) rfl) rfl) rfl) rfl) (by simp only [List.append_assoc, List.cons_append]; exact List.Sublist.refl _)
    · refine xr_end rfl ?_
      refine th_n ?_
      refine xc_false rfl ?_
      refine xc_exit ?_
      refine th_x ?_
      refine th_x ?_
      refine bk_same ?_
      refine th_n ?_
      refine xc_seq (xc_region ?_)
      obtain rfl : k = (xo.most + 1).toNat := by (first | omega | (dsimp only at *; omega) | (simp at *; omega))
      have hall : out2.map PS.xs = out.map PS.xs ++ allG (y.stills.drop pre.length) pre := by rw [hmap, allG_at hko]
      have hk9 : (xo.most + 1).toNat * 9 ^ (m - 1) ≤ 9 * 9 ^ (m - 1) := Nat.mul_le_mul_right _ (by omega)
      refine xr_op rfl rfl (xv_move rfl ?_)
      refine xr_op rfl rfl (xv_assign rfl ?_)
      refine xr_end rfl ?_
      refine th_n ?_
      refine xc_ret ?_
      refine body_ret (h' := (V.hp 22 (out2.flatMap ePS) ++ ((q ++ [(b3, .cells ⟨eYard y⟩ 26)]) ++ L))) rfl (ro_tmp rfl ro_nil) (by first | (rw [List.append_assoc q]; exact List.Sublist.refl _) | (rw [List.flatMap_append]; exact List.Sublist.append_left (List.Sublist.cons _ (List.Sublist.cons _ (List.Sublist.refl _))) _)) ?_
      first | exact H V (q ++ [(b3, .cells ⟨eYard y⟩ 26)]) out2 no2 hon2 hall (fun p hp9 => by rw [List.append_assoc]; exact hout2 p hp9) hV2 (by (first | omega | (dsimp only at *; omega) | (simp at *; omega))) | exact H V2 [] (out ++ [PS.mk a c pre]) (no + 1) (by simp [hon]) (by rw [List.map_append, allG_end (by (first | omega | (dsimp only at *; omega) | (simp at *; omega)))]; rfl) (all_snoc hout hp) (by rw [List.flatMap_append]; exact hV2) (by have := Nat.pow_pos (n := m) (show 0 < 9 by decide); omega)

theorem plans_all {y : Yard} (hy : GoodYard y) (m : Nat) : PlansOk y m := by
  induction m using Nat.strongRecOn with
  | ind m ih => exact plans_step hy ih
theorem refplans_c {y : Yard} {h : Hp} {R : Ending → Hp → Prop} (hy : GoodYard y) (hv : YardV h y) (H : ∀ (V : Vec) (q : Hp) (out : List PS) (no : Nat), out.length = no → out.map PS.xs = allY y → (∀ p ∈ out, SlV (q ++ h) 1 eI p.a p.xs) → V.ok 1 no (out.flatMap ePS) → no ≤ 6561 → R (.returned (V.val no)) (V.hp 22 (out.flatMap ePS) ++ (q ++ h))) :
    ACalls Try.prog 28 ⟨[.agg ⟨eYard y⟩, .slice none 0 0, .slice none 0 0]⟩ h R := by
  have h4 := hy.s4
  have hp : 9 ^ y.stills.length ≤ 9 ^ 4 := Nat.pow_le_pow_right (by decide) h4
  have h9 : (9 : Nat) ^ 4 = 6561 := by decide
  exact plans_all hy y.stills.length (L := h) (a := none) (c := 0) (n := 0) (no := 0) (pre := []) (V := .nil) (out := []) rfl rfl (by omega) hv (.inl rfl) (fun p hp => by cases hp) ⟨rfl, rfl⟩ (by omega) (fun V q out no h1 h2 h3 h4 h5 => H V q out no h1 (by simpa [allY] using h2) h3 h4 (by omega))

end Go.Proofs.Ytlailecnbdlknaa
