/-
  Walks.
-/
import Derived.Test.YtjbfdfmngampdaaW9
namespace Go.Proofs.Ytjbfdfmngampdaa
open Go Go.H
set_option maxRecDepth 100000
set_option maxHeartbeats 8000000
set_option linter.all false
theorem take_all (m : Nat) : TakeOk m := by
  induction m using Nat.strongRecOn with
  | ind m ih => exact take_step ih

theorem Mix_c {l : List Supply} {a : Option Addr} {c : Nat} {q : Ask} {h : Hp} {R : Ending → Hp → Prop} (hl : SlV h 5 eSup a l) (hlen : l.length ≤ 1000)
    (H : ∀ P : Vec, P.ok 1 (mixA l q).1.length ((mixA l q).1.flatMap eI) → R (.returned (.tuple ⟨[P.val (mixA l q).1.length, I (mixA l q).2.1, I (mixA l q).2.2]⟩)) (P.hp 3 ((mixA l q).1.flatMap eI) ++ h)) :
    ACalls Try.prog 11 ⟨[.slice a l.length c, I q.vol, I q.least, I q.most]⟩ h R := by
  refine calls_of_xc (N := 75) Try.func11 rfl (by rfl) ?_
  refine xc_seq (xc_region ?_)
  refine xr_op rfl rfl (xv_box rfl (fun b4 hb4 => ?_))
  refine xr_op rfl rfl (xv_box rfl (fun b5 hb5 => ?_))
  refine xr_op rfl rfl (xv_box rfl (fun b6 hb6 => ?_))
  refine xr_op rfl rfl (xv_box rfl (fun b7 hb7 => ?_))
  refine xr_op rfl rfl (xv_alloc ty29 (fun b8 hb8 => ?_))
  refine xr_op rfl rfl (xv_alloc ty3 (fun b9 hb9 => ?_))
  refine xr_op rfl rfl (xv_assign rfl ?_)
  refine xr_end rfl ?_
  refine th_n ?_
  refine xc_seq ?_
  refine xc_block ?_
  refine xc_seq (xc_region ?_)
  refine xr_op rfl rfl (xv_load1 ty22 rfl rfl (by ((repeat first|exact z_0|assumption|refine z_1 ?_|(refine z_l ?_;(repeat first|exact z_0|assumption|refine z_1 ?_);done)|refine z_r ?_);done)) (by rfl) ?_)
  refine xr_op rfl rfl (xv_len sl22 rfl ?_)
  refine xr_op rfl rfl (xv_gtr2 rfl rfl (fun q1 => ?_) (fun q1 => ?_))
  · refine xr_op rfl rfl (xv_assign rfl ?_)
    refine xr_end rfl ?_
    refine th_n ?_
    refine xc_true rfl ?_
    refine xc_seq (xc_region ?_)
    refine xr_op rfl rfl (xv_s1 ty29 rfl rfl rfl (by (first|(apply u_3;(repeat first|exact u_0|assumption|apply u_1|apply u_2);done)|((repeat first|exact u_0|assumption|apply u_1|apply u_2);done)|(apply u_3;apply u_3;(repeat first|exact u_0|assumption|apply u_1|apply u_2);done)|((repeat first|exact u_0|assumption|apply u_3|apply u_1);done))) (by (first | rfl | exact Vec.one _ _)) (by (first | decide | exact Nat.le_of_ble_eq_true rfl | (simp only [List.length_cons, List.length_nil]; omega) | (simp; done))) (by ((try apply evl_some rfl);(repeat (first|exact (rfl : _ = [])|apply evl_cons rfl (by (first|exact v_1|exact v_2|exact v_3|exact v_4|exact v_5|exact v_6|exact v_7|exact v_8|exact v_9|exact rfl))|exact rfl)))) ?_)
    refine xr_op rfl rfl (xv_s1 ty3 rfl rfl rfl (by (first|(apply u_3;(repeat first|exact u_0|assumption|apply u_1|apply u_2);done)|((repeat first|exact u_0|assumption|apply u_1|apply u_2);done)|(apply u_3;apply u_3;(repeat first|exact u_0|assumption|apply u_1|apply u_2);done)|((repeat first|exact u_0|assumption|apply u_3|apply u_1);done))) (by (first | rfl | exact Vec.one _ _)) (by (first | decide | exact Nat.le_of_ble_eq_true rfl | (simp only [List.length_cons, List.length_nil]; omega) | (simp; done))) (by ((try apply evl_some rfl);(repeat (first|exact (rfl : _ = [])|apply evl_cons rfl (by (first|exact v_1|exact v_2|exact v_3|exact v_4|exact v_5|exact v_6|exact v_7|exact v_8|exact v_9|exact rfl))|exact rfl)))) ?_)
    refine xr_op rfl rfl (xv_assign rfl ?_)
    refine xr_end rfl ?_
    refine th_n ?_
    refine xc_ret ?_
    refine bk_r ?_
    refine th_r ?_
    refine body_ret (h' := h) rfl (ro_cell ty29 rfl rfl (by ((repeat first|exact z_0|assumption|refine z_1 ?_|(refine z_l ?_;(repeat first|exact z_0|assumption|refine z_1 ?_);done)|refine z_r ?_);done)) (by rfl) (ro_cell ty3 rfl rfl (by ((repeat first|exact z_0|assumption|refine z_1 ?_|(refine z_l ?_;(repeat first|exact z_0|assumption|refine z_1 ?_);done)|refine z_r ?_);done)) (by rfl) (ro_tmp rfl ro_nil))) (by (first|((repeat first|exact s_0|exact s_1|exact s_3|refine s_4 ?_|refine s_5 ?_|refine s_6 ?_|refine s_7 ?_);done)|((repeat first|exact s_0|exact s_1|exact s_3|refine s_4 ?_|refine s_5 ?_|refine s_6 ?_|refine s_8 ?_);done))) ?_
    first | (rw [mixA_3 (by omega)] at H; exact H .nil ⟨rfl, rfl⟩) | (rw [mixA_1 (by omega) (fun hq9 => of_nay_T hsb (hq9 sx hsx))] at H; exact H .nil ⟨rfl, rfl⟩) | (rw [mixA_2 (by omega) (fun x hx => of_nay_F (hsa x hx)) (fun hq9 => by unfold MixB at hq9; omega)] at H; exact H .nil ⟨rfl, rfl⟩) | (rw [mixA_n (by omega) hsup hmb hbn] at H; exact H .nil ⟨rfl, rfl⟩) | (rw [mixA_s (by omega) hsup hmb hbs] at H; rw [hbs]; exact H _ hpok)
  · refine xr_op rfl rfl (xv_assign rfl ?_)
    refine xr_end rfl ?_
    refine th_n ?_
    refine xc_false rfl ?_
    refine xc_seq (xc_region ?_)
    refine xr_op rfl rfl (xv_load1 ty22 rfl rfl (by ((repeat first|exact z_0|assumption|refine z_1 ?_|(refine z_l ?_;(repeat first|exact z_0|assumption|refine z_1 ?_);done)|refine z_r ?_);done)) (by rfl) ?_)
    refine xr_op rfl rfl (xv_calls rfl hb32 (containsSupply_c (p := fun x => nay (supOk x)) (hl.sub (by intro z hz; ((repeat first|exact z_0|assumption|refine z_1 ?_|(refine z_l ?_;(repeat first|exact z_0|assumption|refine z_1 ?_);done)|refine z_r ?_);done))) (by omega) (fun x _ R2 h2 => afn_func (fi := []) (lb := []) hb33 (noSup_c x h2)) (fun sx hsx hsb => up_ret ?_) (fun hsa => up_ret ?_)))
    · refine xr_op rfl rfl (xv_assign rfl ?_)
      refine xr_end rfl ?_
      refine th_n ?_
      refine xc_true rfl ?_
      refine xc_seq (xc_region ?_)
      refine xr_op rfl rfl (xv_s1 ty29 rfl rfl rfl (by (first|(apply u_3;(repeat first|exact u_0|assumption|apply u_1|apply u_2);done)|((repeat first|exact u_0|assumption|apply u_1|apply u_2);done)|(apply u_3;apply u_3;(repeat first|exact u_0|assumption|apply u_1|apply u_2);done)|((repeat first|exact u_0|assumption|apply u_3|apply u_1);done))) (by (first | rfl | exact Vec.one _ _)) (by (first | decide | exact Nat.le_of_ble_eq_true rfl | (simp only [List.length_cons, List.length_nil]; omega) | (simp; done))) (by ((try apply evl_some rfl);(repeat (first|exact (rfl : _ = [])|apply evl_cons rfl (by (first|exact v_1|exact v_2|exact v_3|exact v_4|exact v_5|exact v_6|exact v_7|exact v_8|exact v_9|exact rfl))|exact rfl)))) ?_)
      refine xr_op rfl rfl (xv_s1 ty3 rfl rfl rfl (by (first|(apply u_3;(repeat first|exact u_0|assumption|apply u_1|apply u_2);done)|((repeat first|exact u_0|assumption|apply u_1|apply u_2);done)|(apply u_3;apply u_3;(repeat first|exact u_0|assumption|apply u_1|apply u_2);done)|((repeat first|exact u_0|assumption|apply u_3|apply u_1);done))) (by (first | rfl | exact Vec.one _ _)) (by (first | decide | exact Nat.le_of_ble_eq_true rfl | (simp only [List.length_cons, List.length_nil]; omega) | (simp; done))) (by ((try apply evl_some rfl);(repeat (first|exact (rfl : _ = [])|apply evl_cons rfl (by (first|exact v_1|exact v_2|exact v_3|exact v_4|exact v_5|exact v_6|exact v_7|exact v_8|exact v_9|exact rfl))|exact rfl)))) ?_)
      refine xr_op rfl rfl (xv_assign rfl ?_)
      refine xr_end rfl ?_
      refine th_n ?_
      refine xc_ret ?_
      refine bk_r ?_
      refine th_r ?_
      refine body_ret (h' := h) rfl (ro_cell ty29 rfl rfl (by ((repeat first|exact z_0|assumption|refine z_1 ?_|(refine z_l ?_;(repeat first|exact z_0|assumption|refine z_1 ?_);done)|refine z_r ?_);done)) (by rfl) (ro_cell ty3 rfl rfl (by ((repeat first|exact z_0|assumption|refine z_1 ?_|(refine z_l ?_;(repeat first|exact z_0|assumption|refine z_1 ?_);done)|refine z_r ?_);done)) (by rfl) (ro_tmp rfl ro_nil))) (by (first|((repeat first|exact s_0|exact s_1|exact s_3|refine s_4 ?_|refine s_5 ?_|refine s_6 ?_|refine s_7 ?_);done)|((repeat first|exact s_0|exact s_1|exact s_3|refine s_4 ?_|refine s_5 ?_|refine s_6 ?_|refine s_8 ?_);done))) ?_
      first | (rw [mixA_3 (by omega)] at H; exact H .nil ⟨rfl, rfl⟩) | (rw [mixA_1 (by omega) (fun hq9 => of_nay_T hsb (hq9 sx hsx))] at H; exact H .nil ⟨rfl, rfl⟩) | (rw [mixA_2 (by omega) (fun x hx => of_nay_F (hsa x hx)) (fun hq9 => by unfold MixB at hq9; omega)] at H; exact H .nil ⟨rfl, rfl⟩) | (rw [mixA_n (by omega) hsup hmb hbn] at H; exact H .nil ⟨rfl, rfl⟩) | (rw [mixA_s (by omega) hsup hmb hbs] at H; rw [hbs]; exact H _ hpok)
    · refine xr_op rfl rfl (xv_assign rfl ?_)
      refine xr_end rfl ?_
      refine th_n ?_
      refine xc_false rfl ?_
      refine xc_seq (xc_region ?_)
      refine xr_op rfl rfl (xv_load1 ty3 rfl rfl (by ((repeat first|exact z_0|assumption|refine z_1 ?_|(refine z_l ?_;(repeat first|exact z_0|assumption|refine z_1 ?_);done)|refine z_r ?_);done)) (by rfl) ?_)
      refine xr_op rfl rfl (xv_calls rfl hb35 (within_c _ _ _ (fun hl2 hu3 => up_ret ?_) (fun hn4 => up_ret ?_)))
      · refine xr_op rfl rfl (xv_not rfl ?_)
        refine xr_op rfl rfl (xv_move rfl ?_)
        refine xr_gd rfl rfl rfl (xv_load1 ty3 rfl rfl (by ((repeat first|exact z_0|assumption|refine z_1 ?_|(refine z_l ?_;(repeat first|exact z_0|assumption|refine z_1 ?_);done)|refine z_r ?_);done)) (by rfl) ?_)
        refine xr_gd rfl rfl rfl (xv_calls rfl hb35 (within_c _ _ _ (fun hl5 hu6 => up_ret ?_) (fun hn7 => up_ret ?_)))
        · refine xr_gd rfl rfl rfl (xv_not rfl ?_)
          refine xr_op rfl rfl (xv_pick rfl rfl ?_)
          refine xr_op rfl rfl (xv_move rfl ?_)
          refine xr_gd rfl rfl rfl (xv_load1 ty3 rfl rfl (by ((repeat first|exact z_0|assumption|refine z_1 ?_|(refine z_l ?_;(repeat first|exact z_0|assumption|refine z_1 ?_);done)|refine z_r ?_);done)) (by rfl) ?_)
          refine xr_gd rfl rfl rfl (xv_load1 ty3 rfl rfl (by ((repeat first|exact z_0|assumption|refine z_1 ?_|(refine z_l ?_;(repeat first|exact z_0|assumption|refine z_1 ?_);done)|refine z_r ?_);done)) (by rfl) ?_)
          refine xr_gd rfl rfl rfl (xv_calls rfl hb35 (within_c _ _ _ (fun hl8 hu9 => up_ret ?_) (fun hn10 => up_ret ?_)))
          · refine xr_gd rfl rfl rfl (xv_not rfl ?_)
            refine xr_op rfl rfl (xv_pick rfl rfl ?_)
            refine xr_op rfl rfl (xv_assign rfl ?_)
            refine xr_end rfl ?_
            refine th_n ?_
            refine xc_false rfl ?_
            refine xc_skip ?_
            refine bk_n ?_
            refine th_n ?_
            refine xc_seq (xc_region ?_)
            have hl4 : l.length ≤ 4 := by omega
            have hsup : SupsOk l := fun x hx => of_nay_F (hsa x hx)
            have hmb : MixB q := ⟨⟨by omega, by omega⟩, ⟨by omega, by omega⟩, by omega, by omega⟩
            refine xr_op rfl rfl (xv_alloc ty69 (fun b11 hb11 => ?_))
            refine xr_end rfl ?_
            refine th_n ?_
            refine xc_seq ?_
            refine xc_seq (xc_region ?_)
            refine xr_op rfl rfl (xv_load1 ty22 rfl rfl (by ((repeat first|exact z_0|assumption|refine z_1 ?_|(refine z_l ?_;(repeat first|exact z_0|assumption|refine z_1 ?_);done)|refine z_r ?_);done)) (by rfl) ?_)
            refine xr_op rfl rfl (xv_calls rfl hb36 (back_c (fun bq => up_ret ?_)))
            refine xr_end rfl ?_
            refine th_n ?_
            refine xc_block ?_
            refine xc_range2 (γ := Unit) (fun z => [I (((z.1 : Nat) : Int) - 1), .agg ⟨eSup z.2⟩]) (backL l) ((bq, .cells ⟨[.slice a l.length c]⟩ 22) :: h) rfl hb60 (backIt (core := ((bq, .cells ⟨[.slice a l.length c]⟩ 22) :: h)) (by ((repeat first|exact z_0|assumption|refine z_1 ?_|(refine z_l ?_;(repeat first|exact z_0|assumption|refine z_1 ?_);done)|refine z_r ?_);done)) (hl.sub (by intro z hz; ((repeat first|exact z_0|assumption|refine z_1 ?_|(refine z_l ?_;(repeat first|exact z_0|assumption|refine z_1 ?_);done)|refine z_r ?_);done))) (by omega)) (fun x => rfl) (by decide) (((((((emp.put (some 4) (.pointer (some ⟨b4, 0, none⟩))).put (some 5) (.pointer (some ⟨b5, 0, none⟩))).put (some 6) (.pointer (some ⟨b6, 0, none⟩))).put (some 7) (.pointer (some ⟨b7, 0, none⟩))).put (some 8) (.pointer (some ⟨b8, 0, none⟩))).put (some 9) (.pointer (some ⟨b9, 0, none⟩))).put (some 11) (.pointer (some ⟨b11, 0, none⟩))) (fun k g => True) (fun k g => ((bq, .cells ⟨[.slice a l.length c]⟩ 22) :: (b11, .cells ⟨leftC l (l.length - k)⟩ 69) :: (b9, .cells ⟨[I 0]⟩ 3) :: (b8, .cells ⟨[.slice none 0 0]⟩ 29) :: (b7, .cells ⟨[I q.most]⟩ 3) :: (b6, .cells ⟨[I q.least]⟩ 3) :: (b5, .cells ⟨[I q.vol]⟩ 3) :: (b4, .cells ⟨[.slice a l.length c]⟩ 22) :: h)) (fun _ _ _ => False) () (mon_bk (mon_th)) (le_put (le_put (le_put (le_put (le_put (le_put (le_put (le_emp _) rfl) rfl) rfl) rfl) rfl) rfl) rfl) trivial (by rw [Nat.sub_zero, left_init hl4]; (first|((repeat first|exact s_0|exact s_1|exact s_3|refine s_4 ?_|refine s_5 ?_|refine s_6 ?_|refine s_7 ?_);done)|((repeat first|exact s_0|exact s_1|exact s_3|refine s_4 ?_|refine s_5 ?_|refine s_6 ?_|refine s_8 ?_);done))) (fun k g z hz => by simp only [List.mem_cons] at hz ⊢; rcases hz with hz | hz <;> simp [hz]) ?_ (fun _ _ _ _ _ hf _ => hf.elim) ?_
            · intro ll k z gu hkz _i
              obtain ⟨i, x, rfl, hik, hx⟩ := back_get hkz
              rw [show l.length - k = i + 1 by omega]
              obtain ⟨⟨q1, q2, q3⟩, ⟨q4, q5⟩, ⟨q6, q7⟩, q8, q9⟩ := hsup x (List.mem_of_getElem? hx)
              obtain ⟨a1, a2, a3, a4, a5⟩ := (hsup.drop i).f
              have rb1 := restS_bd (f := (·.volume)) (B := 1) (by omega) a1 a5
              have rb2 := restS_bd (f := (·.heat.lo)) (B := 10000) (by omega) a2 a5
              rw [List.length_drop] at rb1 rb2
              obtain ⟨wv0, wv1⟩ := mulx (n := x.most) (y := x.volume) (B := 1) q6 q7 q4 q5
              obtain ⟨wl0, wl1⟩ := mulx (n := x.most) (y := x.heat.lo) (B := 10000) q6 q7 q1 (by omega)
              rw [Int.mul_comm] at wv0 wv1 wl0 wl1
              obtain ⟨lg1, lg2⟩ := left_get (l := l) (k := i + 1) (j := i + 1) (Nat.le_refl _) (by omega)
              refine xc_seq (xc_region ?_)
              refine xr_op rfl rfl (xv_assign rfl ?_)
              refine xr_end rfl ?_
              refine th_n ?_
              refine xc_region ?_
              refine xr_op rfl rfl (xv_alloc ty28 (fun b13 hb13 => ?_))
              refine xr_op rfl rfl (xv_s ty28 rfl rfl (by (first|(apply u_3;(repeat first|exact u_0|assumption|apply u_1|apply u_2);done)|((repeat first|exact u_0|assumption|apply u_1|apply u_2);done)|(apply u_3;apply u_3;(repeat first|exact u_0|assumption|apply u_1|apply u_2);done)|((repeat first|exact u_0|assumption|apply u_3|apply u_1);done))) (by ((try apply evl_some rfl);(repeat (first|exact (rfl : _ = [])|apply evl_cons rfl (by (first|exact v_1|exact v_2|exact v_3|exact v_4|exact v_5|exact v_6|exact v_7|exact v_8|exact v_9|exact rfl))|exact rfl)))) (by rfl) (by rfl) (by rfl) (by ((try apply evl_some rfl);(repeat (first|exact (rfl : _ = [])|apply evl_cons rfl (by (first|exact v_1|exact v_2|exact v_3|exact v_4|exact v_5|exact v_6|exact v_7|exact v_8|exact v_9|exact rfl))|exact rfl)))) ?_)
              refine xr_end rfl ?_
              refine rndA_n ?_
              refine xc_block ?_
              refine xc_draw0 [(0, .S), (1, .S), (2, .S), (3, .S), (4, .S), (5, .R), (6, .S), (7, .R), (8, .S), (9, .R), (10, .S), (11, .S), (12, .S), (13, .S), (14, .S), (15, .S), (16, .R), (17, .S), (18, .S), (19, .R), (20, .S), (21, .R), (22, .S), (23, .S), (24, .S), (25, .S), (26, .O)] mixed (by kernel_rfl) ?_
              refine js_S rfl rfl (.inl rfl) (xv_move rfl ⟨rfl, rfl⟩) ?_
              refine js_S rfl rfl (.inl rfl) (xv_move rfl ⟨rfl, rfl⟩) ?_
              refine js_S rfl rfl (.inl rfl) (xv_add (c := ((i + 1 : Nat) : Int)) rfl rfl (by rw [show (((i + 1 : Nat) : Int) - 1 + 1) = ((i + 1 : Nat) : Int) by omega]; exact wrap_i64 (by omega) (by omega)) ⟨rfl, rfl⟩) ?_
              refine js_S rfl rfl (.inl rfl) (xv_iaA (sz := 2) (j := i + 1) Try.underlying69 ty68 rfl rfl rfl (by (first | omega | (dsimp only at *; omega) | (simp at *; omega))) (by (first | omega | (dsimp only at *; omega) | (simp at *; omega))) (by (first | omega | (dsimp only at *; omega) | (simp at *; omega))) ⟨rfl, rfl⟩) ?_
              refine js_S rfl rfl (.inl rfl) (xv_faddr fl68_0 rfl ⟨rfl, rfl⟩) ?_
              refine js_R0 rfl rfl (.inl rfl) (xv_load1 ty3 rfl rfl (by ((repeat first|exact z_0|assumption|refine z_1 ?_|(refine z_l ?_;(repeat first|exact z_0|assumption|refine z_1 ?_);done)|refine z_r ?_);done)) lg1 ⟨rfl, rfl⟩) ?_
              refine js_S rfl rfl (.inl rfl) (xv_faddr fl28_1 rfl ⟨rfl, rfl⟩) ?_
              refine js_R0 rfl rfl (.inl rfl) (xv_load1 ty3 rfl rfl (by ((repeat first|exact z_0|assumption|refine z_1 ?_|(refine z_l ?_;(repeat first|exact z_0|assumption|refine z_1 ?_);done)|refine z_r ?_);done)) (by rfl) ⟨rfl, rfl⟩) ?_
              refine js_S rfl rfl (.inl rfl) (xv_faddr fl28_2 rfl ⟨rfl, rfl⟩) ?_
              refine js_R0 rfl rfl (.inl rfl) (xv_load1 ty3 rfl rfl (by ((repeat first|exact z_0|assumption|refine z_1 ?_|(refine z_l ?_;(repeat first|exact z_0|assumption|refine z_1 ?_);done)|refine z_r ?_);done)) (by rfl) ⟨rfl, rfl⟩) ?_
              refine js_S rfl rfl (.inl rfl) (xv_mul rfl rfl (wrap_i64 (by (first | omega | (dsimp only at *; omega) | (simp at *; omega))) (by (first | omega | (dsimp only at *; omega) | (simp at *; omega)))) ⟨rfl, rfl⟩) ?_
              refine js_S rfl rfl (.inl rfl) (xv_add (c := restS (·.volume) (l.drop i)) rfl rfl (by rw [show restS (·.volume) (l.drop (i + 1)) + x.volume * x.most = restS (·.volume) (l.drop i) from (rest_step (·.volume) hx).symm]; exact wrap_i64 (by (first | omega | (dsimp only at *; omega) | (simp at *; omega))) (by (first | omega | (dsimp only at *; omega) | (simp at *; omega)))) ⟨rfl, rfl⟩) ?_
              refine js_S rfl rfl (.inl rfl) (xv_move rfl ⟨rfl, rfl⟩) ?_
              refine js_S rfl rfl (.inl rfl) (xv_add (c := ((i + 1 : Nat) : Int)) rfl rfl (by rw [show (((i + 1 : Nat) : Int) - 1 + 1) = ((i + 1 : Nat) : Int) by omega]; exact wrap_i64 (by omega) (by omega)) ⟨rfl, rfl⟩) ?_
              refine js_S rfl rfl (.inl rfl) (xv_iaA (sz := 2) (j := i + 1) Try.underlying69 ty68 rfl rfl rfl (by (first | omega | (dsimp only at *; omega) | (simp at *; omega))) (by (first | omega | (dsimp only at *; omega) | (simp at *; omega))) (by (first | omega | (dsimp only at *; omega) | (simp at *; omega))) ⟨rfl, rfl⟩) ?_
              refine js_S rfl rfl (.inl rfl) (xv_faddr fl68_1 rfl ⟨rfl, rfl⟩) ?_
              refine js_R0 rfl rfl (.inl rfl) (xv_load1 ty3 rfl rfl (by ((repeat first|exact z_0|assumption|refine z_1 ?_|(refine z_l ?_;(repeat first|exact z_0|assumption|refine z_1 ?_);done)|refine z_r ?_);done)) lg2 ⟨rfl, rfl⟩) ?_
              refine js_S rfl rfl (.inl rfl) (xv_faddr fl28_0 rfl ⟨rfl, rfl⟩) ?_
              refine js_S rfl rfl (.inl rfl) (xv_faddr fl26_0 rfl ⟨rfl, rfl⟩) ?_
              refine js_R0 rfl rfl (.inl rfl) (xv_load1 ty3 rfl rfl (by ((repeat first|exact z_0|assumption|refine z_1 ?_|(refine z_l ?_;(repeat first|exact z_0|assumption|refine z_1 ?_);done)|refine z_r ?_);done)) (by rfl) ⟨rfl, rfl⟩) ?_
              refine js_S rfl rfl (.inl rfl) (xv_faddr fl28_2 rfl ⟨rfl, rfl⟩) ?_
              refine js_R0 rfl rfl (.inl rfl) (xv_load1 ty3 rfl rfl (by ((repeat first|exact z_0|assumption|refine z_1 ?_|(refine z_l ?_;(repeat first|exact z_0|assumption|refine z_1 ?_);done)|refine z_r ?_);done)) (by rfl) ⟨rfl, rfl⟩) ?_
              refine js_S rfl rfl (.inl rfl) (xv_mul rfl rfl (wrap_i64 (by (first | omega | (dsimp only at *; omega) | (simp at *; omega))) (by (first | omega | (dsimp only at *; omega) | (simp at *; omega)))) ⟨rfl, rfl⟩) ?_
              refine js_S rfl rfl (.inl rfl) (xv_add (c := restS (·.heat.lo) (l.drop i)) rfl rfl (by rw [show restS (·.heat.lo) (l.drop (i + 1)) + x.heat.lo * x.most = restS (·.heat.lo) (l.drop i) from (rest_step (·.heat.lo) hx).symm]; exact wrap_i64 (by (first | omega | (dsimp only at *; omega) | (simp at *; omega))) (by (first | omega | (dsimp only at *; omega) | (simp at *; omega)))) ⟨rfl, rfl⟩) ?_
              refine js_S rfl rfl (.inl rfl) (xv_build bt68 rfl (by ((try apply evl_some rfl);(repeat (first|exact (rfl : _ = [])|apply evl_cons rfl (by (first|exact v_1|exact v_2|exact v_3|exact v_4|exact v_5|exact v_6|exact v_7|exact v_8|exact v_9|exact rfl))|exact rfl)))) ⟨rfl, rfl⟩) ?_
              refine js_S rfl rfl (.inl rfl) (xv_iaA (sz := 2) (j := i) Try.underlying69 ty68 rfl rfl rfl (by (first | omega | (dsimp only at *; omega) | (simp at *; omega))) (by (first | omega | (dsimp only at *; omega) | (simp at *; omega))) (by (first | omega | (dsimp only at *; omega) | (simp at *; omega))) ⟨rfl, rfl⟩) ?_
              refine js_O0 rfl rfl (.inl rfl) (xv_s ty68 rfl rfl (by (first|(apply u_3;(repeat first|exact u_0|assumption|apply u_1|apply u_2);done)|((repeat first|exact u_0|assumption|apply u_1|apply u_2);done)|(apply u_3;apply u_3;(repeat first|exact u_0|assumption|apply u_1|apply u_2);done)|((repeat first|exact u_0|assumption|apply u_3|apply u_1);done))) rfl (by rfl) (by rfl) (Nat.ble_eq_true_of_le (by rw [left_len]; show 0 + i * 2 + 2 ≤ 10; omega)) (left_set (by omega)) ?_)
              refine j_end0 ?_
              refine bk_n ?_
              have es : l.length - (k + 1) = i := by omega
              exact rndQ_n () trivial (by rw [es]; (first|((repeat first|exact s_0|exact s_1|exact s_3|refine s_4 ?_|refine s_5 ?_|refine s_6 ?_|refine s_7 ?_);done)|((repeat first|exact s_0|exact s_1|exact s_3|refine s_4 ?_|refine s_5 ?_|refine s_6 ?_|refine s_8 ?_);done)))
            · intro kd g hi hkd
              rw [back_len, Nat.sub_self]
              rw [back_len, Nat.sub_self] at hkd
              refine bk_n ?_
              refine th_n ?_
              refine xc_seq (xc_region ?_)
              refine xr_op rfl rfl (xv_alloc ty29 (fun b14 hb14 => ?_))
              refine xr_end rfl ?_
              refine th_n ?_
              refine xc_seq (xc_region ?_)
              refine xr_op rfl rfl (xv_alloc ty73 (fun b15 hb15 => ?_))
              refine xr_end rfl ?_
              refine th_n ?_
              refine xc_seq (xc_region ?_)
              refine xr_op rfl rfl (xv_func rfl rfl ?_)
              refine xr_op rfl rfl (xv_s1 ty73 rfl rfl rfl (by (first|(apply u_3;(repeat first|exact u_0|assumption|apply u_1|apply u_2);done)|((repeat first|exact u_0|assumption|apply u_1|apply u_2);done)|(apply u_3;apply u_3;(repeat first|exact u_0|assumption|apply u_1|apply u_2);done)|((repeat first|exact u_0|assumption|apply u_3|apply u_1);done))) (by (first | rfl | exact Vec.one _ _)) (by (first | decide | exact Nat.le_of_ble_eq_true rfl | (simp only [List.length_cons, List.length_nil]; omega) | (simp; done))) (by ((try apply evl_some rfl);(repeat (first|exact (rfl : _ = [])|apply evl_cons rfl (by (first|exact v_1|exact v_2|exact v_3|exact v_4|exact v_5|exact v_6|exact v_7|exact v_8|exact v_9|exact rfl))|exact rfl)))) ?_)
              refine xr_end rfl ?_
              refine th_n ?_
              refine xc_seq (xc_region ?_)
              refine XR.perm mv1 ?_
              refine XR.perm mv5 ?_
              refine XR.perm mv6 ?_
              have hTC : TakeC ((b15, .cells ⟨[.func (.func 37) ⟨[]⟩ ⟨[.pointer (some ⟨b4, 0, none⟩), .pointer (some ⟨b5, 0, none⟩), .pointer (some ⟨b6, 0, none⟩), .pointer (some ⟨b8, 0, none⟩), .pointer (some ⟨b9, 0, none⟩), .pointer (some ⟨b14, 0, none⟩), .pointer (some ⟨b7, 0, none⟩), .pointer (some ⟨b11, 0, none⟩), .pointer (some ⟨b15, 0, none⟩)]⟩]⟩ 73) :: (kd, .deferred (some [])) :: (bq, .cells ⟨[.slice a l.length c]⟩ 22) :: (b11, .cells ⟨leftC l 0⟩ 69) :: (b7, .cells ⟨[I q.most]⟩ 3) :: (b6, .cells ⟨[I q.least]⟩ 3) :: (b5, .cells ⟨[I q.vol]⟩ 3) :: (b4, .cells ⟨[.slice a l.length c]⟩ 22) :: h) l a c q b4 b5 b6 b7 b8 b9 b14 b11 b15 := ⟨hsup, hl4, hmb, by ((repeat first|exact z_0|assumption|refine z_1 ?_|(refine z_l ?_;(repeat first|exact z_0|assumption|refine z_1 ?_);done)|refine z_r ?_);done), by ((repeat first|exact z_0|assumption|refine z_1 ?_|(refine z_l ?_;(repeat first|exact z_0|assumption|refine z_1 ?_);done)|refine z_r ?_);done), by ((repeat first|exact z_0|assumption|refine z_1 ?_|(refine z_l ?_;(repeat first|exact z_0|assumption|refine z_1 ?_);done)|refine z_r ?_);done), by ((repeat first|exact z_0|assumption|refine z_1 ?_|(refine z_l ?_;(repeat first|exact z_0|assumption|refine z_1 ?_);done)|refine z_r ?_);done), by ((repeat first|exact z_0|assumption|refine z_1 ?_|(refine z_l ?_;(repeat first|exact z_0|assumption|refine z_1 ?_);done)|refine z_r ?_);done), by ((repeat first|exact z_0|assumption|refine z_1 ?_|(refine z_l ?_;(repeat first|exact z_0|assumption|refine z_1 ?_);done)|refine z_r ?_);done), hl.sub (by intro z hz; ((repeat first|exact z_0|assumption|refine z_1 ?_|(refine z_l ?_;(repeat first|exact z_0|assumption|refine z_1 ?_);done)|refine z_r ?_);done))⟩
              refine xr_op rfl rfl (xv_load1 ty73 rfl rfl (by ((repeat first|exact z_0|assumption|refine z_1 ?_|(refine z_l ?_;(repeat first|exact z_0|assumption|refine z_1 ?_);done)|refine z_r ?_);done)) (by rfl) ?_)
              refine xr_op rfl rfl (xv_fn rfl rfl (afn_func (fi := []) (lb := [.pointer (some ⟨b4, 0, none⟩), .pointer (some ⟨b5, 0, none⟩), .pointer (some ⟨b6, 0, none⟩), .pointer (some ⟨b8, 0, none⟩), .pointer (some ⟨b9, 0, none⟩), .pointer (some ⟨b14, 0, none⟩), .pointer (some ⟨b7, 0, none⟩), .pointer (some ⟨b11, 0, none⟩), .pointer (some ⟨b15, 0, none⟩)]) hb37 (take_all l.length hTC (p := []) (b := none) (P := .nil) (W := .nil) (by simp) (inM_nil _) (by rw [sumZ_nil]; exact Int.mul_nonneg (by omega) (by omega)) rfl (sumZ_nil _ _).symm (sumZ_nil _ _).symm (sumZ_nil _ _).symm (sumZ_nil _ _).symm rfl ⟨rfl, rfl⟩ (fun P2 W2 hP2 hW2 => up_ret ?_))))
              refine xr_end rfl ?_
              refine th_n ?_
              refine xc_seq ?_
              refine xc_seq (xc_region ?_)
              rcases rep_cases hP2 with ⟨hbn, rfl⟩ | ⟨bm, bc, bb9, cap9, sp9, hbs, rfl, hpok⟩
              · refine xr_nd fun hnd9 => ?_
                refine xr_op rfl rfl (xv_load1 ty29 rfl rfl (by ((repeat first|exact z_0|assumption|refine z_1 ?_|(refine z_l ?_;(repeat first|exact z_0|assumption|refine z_1 ?_);done)|refine z_r ?_);done)) (by rfl) ?_)
                refine xr_op rfl rfl (xv_eqNilS (b := true) sl29 rfl rfl rfl ?_)
                refine xr_end rfl ?_
                refine th_n ?_
                refine xc_true rfl ?_
                refine xc_seq (xc_region ?_)
                refine xr_op rfl rfl (xv_s1 ty29 rfl rfl rfl (by (first|(apply u_3;(repeat first|exact u_0|assumption|apply u_1|apply u_2);done)|((repeat first|exact u_0|assumption|apply u_1|apply u_2);done)|(apply u_3;apply u_3;(repeat first|exact u_0|assumption|apply u_1|apply u_2);done)|((repeat first|exact u_0|assumption|apply u_3|apply u_1);done))) (by (first | rfl | exact Vec.one _ _)) (by (first | decide | exact Nat.le_of_ble_eq_true rfl | (simp only [List.length_cons, List.length_nil]; omega) | (simp; done))) (by ((try apply evl_some rfl);(repeat (first|exact (rfl : _ = [])|apply evl_cons rfl (by (first|exact v_1|exact v_2|exact v_3|exact v_4|exact v_5|exact v_6|exact v_7|exact v_8|exact v_9|exact rfl))|exact rfl)))) ?_)
                refine xr_op rfl rfl (xv_s1 ty3 rfl rfl rfl (by (first|(apply u_3;(repeat first|exact u_0|assumption|apply u_1|apply u_2);done)|((repeat first|exact u_0|assumption|apply u_1|apply u_2);done)|(apply u_3;apply u_3;(repeat first|exact u_0|assumption|apply u_1|apply u_2);done)|((repeat first|exact u_0|assumption|apply u_3|apply u_1);done))) (by (first | rfl | exact Vec.one _ _)) (by (first | decide | exact Nat.le_of_ble_eq_true rfl | (simp only [List.length_cons, List.length_nil]; omega) | (simp; done))) (by ((try apply evl_some rfl);(repeat (first|exact (rfl : _ = [])|apply evl_cons rfl (by (first|exact v_1|exact v_2|exact v_3|exact v_4|exact v_5|exact v_6|exact v_7|exact v_8|exact v_9|exact rfl))|exact rfl)))) ?_)
                refine xr_op rfl rfl (xv_assign rfl ?_)
                refine xr_end rfl ?_
                refine th_n ?_
                refine xc_ret ?_
                refine th_r ?_
                refine body_retM (h' := h) rfl (ro_cell ty29 rfl rfl (by ((repeat first|exact z_0|assumption|refine z_1 ?_|(refine z_l ?_;(repeat first|exact z_0|assumption|refine z_1 ?_);done)|refine z_r ?_);done)) (by rfl) (ro_cell ty3 rfl rfl (by ((repeat first|exact z_0|assumption|refine z_1 ?_|(refine z_l ?_;(repeat first|exact z_0|assumption|refine z_1 ?_);done)|refine z_r ?_);done)) (by rfl) (ro_tmp rfl ro_nil))) (by (first|((repeat first|exact s_0|exact s_1|exact s_3|refine s_4 ?_|refine s_5 ?_|refine s_6 ?_|refine s_7 ?_);done)|((repeat first|exact s_0|exact s_1|exact s_3|refine s_4 ?_|refine s_5 ?_|refine s_6 ?_|refine s_8 ?_);done))) (by ((repeat first|exact z_0|assumption|refine z_1 ?_|(refine z_l ?_;(repeat first|exact z_0|assumption|refine z_1 ?_);done)|refine z_r ?_);done)) (kd_out (V := []) (by (first|((repeat first|exact s_0|exact s_1|exact s_3|refine s_4 ?_|refine s_5 ?_|refine s_6 ?_|refine s_7 ?_);done)|((repeat first|exact s_0|exact s_1|exact s_3|refine s_4 ?_|refine s_5 ?_|refine s_6 ?_|refine s_8 ?_);done))) hnd9) ?_
                first | (rw [mixA_3 (by omega)] at H; exact H .nil ⟨rfl, rfl⟩) | (rw [mixA_1 (by omega) (fun hq9 => of_nay_T hsb (hq9 sx hsx))] at H; exact H .nil ⟨rfl, rfl⟩) | (rw [mixA_2 (by omega) (fun x hx => of_nay_F (hsa x hx)) (fun hq9 => by unfold MixB at hq9; omega)] at H; exact H .nil ⟨rfl, rfl⟩) | (rw [mixA_n (by omega) hsup hmb hbn] at H; exact H .nil ⟨rfl, rfl⟩) | (rw [mixA_s (by omega) hsup hmb hbs] at H; rw [hbs]; exact H _ hpok)
              · refine xr_nd fun hnd9 => ?_
                refine xr_op rfl rfl (xv_load1 ty29 rfl rfl (by ((repeat first|exact z_0|assumption|refine z_1 ?_|(refine z_l ?_;(repeat first|exact z_0|assumption|refine z_1 ?_);done)|refine z_r ?_);done)) (by rfl) ?_)
                refine xr_op rfl rfl (xv_eqNilS (b := false) sl29 rfl rfl rfl ?_)
                refine xr_end rfl ?_
                refine th_n ?_
                refine xc_false rfl ?_
                refine xc_skip ?_
                refine th_n ?_
                refine xc_seq ?_
                refine xc_drawL (L := [(b9, fun o => o = .cells ⟨[I (bcB (takeF l q none []))]⟩ 3 (0, 0))]) [(0, .R), (1, .S), (2, .O), (3, .O), (4, .S)] [] _ mixed (by kernel_rfl) (by rw [List.append_nil]) (holds1 (by ((repeat first|exact z_0|assumption|refine z_1 ?_|(refine z_l ?_;(repeat first|exact z_0|assumption|refine z_1 ?_);done)|refine z_r ?_);done)) rfl) ?_
                refine js_R0 rfl rfl (.inl rfl) (xv_load1 ty29 rfl rfl (by ((repeat first|exact z_0|assumption|refine z_1 ?_|(refine z_l ?_;(repeat first|exact z_0|assumption|refine z_1 ?_);done)|refine z_r ?_);done)) (by rfl) ⟨rfl, rfl⟩) ?_
                refine js_I rfl rfl (.inl rfl) (fun hh hv => by obtain ⟨o9, hm, rfl⟩ := hv b9 _ (List.mem_cons_self); exact xv_load1 ty3 rfl rfl (List.mem_append_left _ hm) rfl ⟨rfl, rfl⟩) ?_
                refine js_OL0 rfl rfl (.inl rfl) (xv_s1 ty29 rfl rfl rfl (by (first|(apply u_3;(repeat first|exact u_0|assumption|apply u_1|apply u_2);done)|((repeat first|exact u_0|assumption|apply u_1|apply u_2);done)|(apply u_3;apply u_3;(repeat first|exact u_0|assumption|apply u_1|apply u_2);done)|((repeat first|exact u_0|assumption|apply u_3|apply u_1);done))) (by (first | rfl | exact Vec.one _ _)) (by (first | decide | exact Nat.le_of_ble_eq_true rfl | (simp only [List.length_cons, List.length_nil]; omega) | (simp; done))) (by ((try apply evl_some rfl);(repeat (first|exact (rfl : _ = [])|apply evl_cons rfl (by (first|exact v_1|exact v_2|exact v_3|exact v_4|exact v_5|exact v_6|exact v_7|exact v_8|exact v_9|exact rfl))|exact rfl)))) ?_)
                refine ⟨holds1 (by ((repeat first|exact z_0|assumption|refine z_1 ?_|(refine z_l ?_;(repeat first|exact z_0|assumption|refine z_1 ?_);done)|refine z_r ?_);done)) rfl, ?_⟩
                refine js_OL0 rfl rfl (.inl rfl) (xv_s1 ty3 rfl rfl rfl (by (first|(apply u_3;(repeat first|exact u_0|assumption|apply u_1|apply u_2);done)|((repeat first|exact u_0|assumption|apply u_1|apply u_2);done)|(apply u_3;apply u_3;(repeat first|exact u_0|assumption|apply u_1|apply u_2);done)|((repeat first|exact u_0|assumption|apply u_3|apply u_1);done))) (by (first | rfl | exact Vec.one _ _)) (by (first | decide | exact Nat.le_of_ble_eq_true rfl | (simp only [List.length_cons, List.length_nil]; omega) | (simp; done))) (by ((try apply evl_some rfl);(repeat (first|exact (rfl : _ = [])|apply evl_cons rfl (by (first|exact v_1|exact v_2|exact v_3|exact v_4|exact v_5|exact v_6|exact v_7|exact v_8|exact v_9|exact rfl))|exact rfl)))) ?_)
                refine ⟨holds1 (by ((repeat first|exact z_0|assumption|refine z_1 ?_|(refine z_l ?_;(repeat first|exact z_0|assumption|refine z_1 ?_);done)|refine z_r ?_);done)) rfl, ?_⟩
                refine js_S rfl rfl (.inl rfl) (xv_assign rfl ⟨rfl, rfl⟩) ?_
                refine j_end0 ?_
                refine th_n ?_
                refine xc_ret ?_
                refine body_retM (h' := ((Vec.at bb9 cap9 sp9).hp 3 ((bmB (takeF l q none [])).flatMap eI) ++ h)) rfl (ro_cell ty29 rfl rfl (by ((repeat first|exact z_0|assumption|refine z_1 ?_|(refine z_l ?_;(repeat first|exact z_0|assumption|refine z_1 ?_);done)|refine z_r ?_);done)) (by rfl) (ro_cell ty3 rfl rfl (by ((repeat first|exact z_0|assumption|refine z_1 ?_|(refine z_l ?_;(repeat first|exact z_0|assumption|refine z_1 ?_);done)|refine z_r ?_);done)) (by rfl) (ro_tmp rfl ro_nil))) (by (first|((repeat first|exact s_0|exact s_1|exact s_3|refine s_4 ?_|refine s_5 ?_|refine s_6 ?_|refine s_7 ?_);done)|((repeat first|exact s_0|exact s_1|exact s_3|refine s_4 ?_|refine s_5 ?_|refine s_6 ?_|refine s_8 ?_);done))) (by ((repeat first|exact z_0|assumption|refine z_1 ?_|(refine z_l ?_;(repeat first|exact z_0|assumption|refine z_1 ?_);done)|refine z_r ?_);done)) (kd_out (by (first|((repeat first|exact s_0|exact s_1|exact s_3|refine s_4 ?_|refine s_5 ?_|refine s_6 ?_|refine s_7 ?_);done)|((repeat first|exact s_0|exact s_1|exact s_3|refine s_4 ?_|refine s_5 ?_|refine s_6 ?_|refine s_8 ?_);done))) hnd9) ?_
                first | (rw [mixA_3 (by omega)] at H; exact H .nil ⟨rfl, rfl⟩) | (rw [mixA_1 (by omega) (fun hq9 => of_nay_T hsb (hq9 sx hsx))] at H; exact H .nil ⟨rfl, rfl⟩) | (rw [mixA_2 (by omega) (fun x hx => of_nay_F (hsa x hx)) (fun hq9 => by unfold MixB at hq9; omega)] at H; exact H .nil ⟨rfl, rfl⟩) | (rw [mixA_n (by omega) hsup hmb hbn] at H; exact H .nil ⟨rfl, rfl⟩) | (rw [mixA_s (by omega) hsup hmb hbs] at H; rw [hbs]; exact H _ hpok)
          · refine xr_gd rfl rfl rfl (xv_not rfl ?_)
            refine xr_op rfl rfl (xv_pick rfl rfl ?_)
            refine xr_op rfl rfl (xv_assign rfl ?_)
            refine xr_end rfl ?_
            refine th_n ?_
            refine xc_true rfl ?_
            refine xc_seq (xc_region ?_)
            refine xr_op rfl rfl (xv_s1 ty29 rfl rfl rfl (by (first|(apply u_3;(repeat first|exact u_0|assumption|apply u_1|apply u_2);done)|((repeat first|exact u_0|assumption|apply u_1|apply u_2);done)|(apply u_3;apply u_3;(repeat first|exact u_0|assumption|apply u_1|apply u_2);done)|((repeat first|exact u_0|assumption|apply u_3|apply u_1);done))) (by (first | rfl | exact Vec.one _ _)) (by (first | decide | exact Nat.le_of_ble_eq_true rfl | (simp only [List.length_cons, List.length_nil]; omega) | (simp; done))) (by ((try apply evl_some rfl);(repeat (first|exact (rfl : _ = [])|apply evl_cons rfl (by (first|exact v_1|exact v_2|exact v_3|exact v_4|exact v_5|exact v_6|exact v_7|exact v_8|exact v_9|exact rfl))|exact rfl)))) ?_)
            refine xr_op rfl rfl (xv_s1 ty3 rfl rfl rfl (by (first|(apply u_3;(repeat first|exact u_0|assumption|apply u_1|apply u_2);done)|((repeat first|exact u_0|assumption|apply u_1|apply u_2);done)|(apply u_3;apply u_3;(repeat first|exact u_0|assumption|apply u_1|apply u_2);done)|((repeat first|exact u_0|assumption|apply u_3|apply u_1);done))) (by (first | rfl | exact Vec.one _ _)) (by (first | decide | exact Nat.le_of_ble_eq_true rfl | (simp only [List.length_cons, List.length_nil]; omega) | (simp; done))) (by ((try apply evl_some rfl);(repeat (first|exact (rfl : _ = [])|apply evl_cons rfl (by (first|exact v_1|exact v_2|exact v_3|exact v_4|exact v_5|exact v_6|exact v_7|exact v_8|exact v_9|exact rfl))|exact rfl)))) ?_)
            refine xr_op rfl rfl (xv_assign rfl ?_)
            refine xr_end rfl ?_
            refine th_n ?_
            refine xc_ret ?_
            refine bk_r ?_
            refine th_r ?_
            refine body_ret (h' := h) rfl (ro_cell ty29 rfl rfl (by ((repeat first|exact z_0|assumption|refine z_1 ?_|(refine z_l ?_;(repeat first|exact z_0|assumption|refine z_1 ?_);done)|refine z_r ?_);done)) (by rfl) (ro_cell ty3 rfl rfl (by ((repeat first|exact z_0|assumption|refine z_1 ?_|(refine z_l ?_;(repeat first|exact z_0|assumption|refine z_1 ?_);done)|refine z_r ?_);done)) (by rfl) (ro_tmp rfl ro_nil))) (by (first|((repeat first|exact s_0|exact s_1|exact s_3|refine s_4 ?_|refine s_5 ?_|refine s_6 ?_|refine s_7 ?_);done)|((repeat first|exact s_0|exact s_1|exact s_3|refine s_4 ?_|refine s_5 ?_|refine s_6 ?_|refine s_8 ?_);done))) ?_
            first | (rw [mixA_3 (by omega)] at H; exact H .nil ⟨rfl, rfl⟩) | (rw [mixA_1 (by omega) (fun hq9 => of_nay_T hsb (hq9 sx hsx))] at H; exact H .nil ⟨rfl, rfl⟩) | (rw [mixA_2 (by omega) (fun x hx => of_nay_F (hsa x hx)) (fun hq9 => by unfold MixB at hq9; omega)] at H; exact H .nil ⟨rfl, rfl⟩) | (rw [mixA_n (by omega) hsup hmb hbn] at H; exact H .nil ⟨rfl, rfl⟩) | (rw [mixA_s (by omega) hsup hmb hbs] at H; rw [hbs]; exact H _ hpok)
        · refine xr_gd rfl rfl rfl (xv_not rfl ?_)
          refine xr_op rfl rfl (xv_pick rfl rfl ?_)
          refine xr_op rfl rfl (xv_move rfl ?_)
          refine xr_no rfl rfl rfl rfl ?_
          refine xr_no rfl rfl rfl rfl ?_
          refine xr_no rfl rfl rfl rfl ?_
          refine xr_no rfl rfl rfl rfl ?_
          refine xr_op rfl rfl (xv_pick rfl rfl ?_)
          refine xr_op rfl rfl (xv_assign rfl ?_)
          refine xr_end rfl ?_
          refine th_n ?_
          refine xc_true rfl ?_
          refine xc_seq (xc_region ?_)
          refine xr_op rfl rfl (xv_s1 ty29 rfl rfl rfl (by (first|(apply u_3;(repeat first|exact u_0|assumption|apply u_1|apply u_2);done)|((repeat first|exact u_0|assumption|apply u_1|apply u_2);done)|(apply u_3;apply u_3;(repeat first|exact u_0|assumption|apply u_1|apply u_2);done)|((repeat first|exact u_0|assumption|apply u_3|apply u_1);done))) (by (first | rfl | exact Vec.one _ _)) (by (first | decide | exact Nat.le_of_ble_eq_true rfl | (simp only [List.length_cons, List.length_nil]; omega) | (simp; done))) (by ((try apply evl_some rfl);(repeat (first|exact (rfl : _ = [])|apply evl_cons rfl (by (first|exact v_1|exact v_2|exact v_3|exact v_4|exact v_5|exact v_6|exact v_7|exact v_8|exact v_9|exact rfl))|exact rfl)))) ?_)
          refine xr_op rfl rfl (xv_s1 ty3 rfl rfl rfl (by (first|(apply u_3;(repeat first|exact u_0|assumption|apply u_1|apply u_2);done)|((repeat first|exact u_0|assumption|apply u_1|apply u_2);done)|(apply u_3;apply u_3;(repeat first|exact u_0|assumption|apply u_1|apply u_2);done)|((repeat first|exact u_0|assumption|apply u_3|apply u_1);done))) (by (first | rfl | exact Vec.one _ _)) (by (first | decide | exact Nat.le_of_ble_eq_true rfl | (simp only [List.length_cons, List.length_nil]; omega) | (simp; done))) (by ((try apply evl_some rfl);(repeat (first|exact (rfl : _ = [])|apply evl_cons rfl (by (first|exact v_1|exact v_2|exact v_3|exact v_4|exact v_5|exact v_6|exact v_7|exact v_8|exact v_9|exact rfl))|exact rfl)))) ?_)
          refine xr_op rfl rfl (xv_assign rfl ?_)
          refine xr_end rfl ?_
          refine th_n ?_
          refine xc_ret ?_
          refine bk_r ?_
          refine th_r ?_
          refine body_ret (h' := h) rfl (ro_cell ty29 rfl rfl (by ((repeat first|exact z_0|assumption|refine z_1 ?_|(refine z_l ?_;(repeat first|exact z_0|assumption|refine z_1 ?_);done)|refine z_r ?_);done)) (by rfl) (ro_cell ty3 rfl rfl (by ((repeat first|exact z_0|assumption|refine z_1 ?_|(refine z_l ?_;(repeat first|exact z_0|assumption|refine z_1 ?_);done)|refine z_r ?_);done)) (by rfl) (ro_tmp rfl ro_nil))) (by (first|((repeat first|exact s_0|exact s_1|exact s_3|refine s_4 ?_|refine s_5 ?_|refine s_6 ?_|refine s_7 ?_);done)|((repeat first|exact s_0|exact s_1|exact s_3|refine s_4 ?_|refine s_5 ?_|refine s_6 ?_|refine s_8 ?_);done))) ?_
          first | (rw [mixA_3 (by omega)] at H; exact H .nil ⟨rfl, rfl⟩) | (rw [mixA_1 (by omega) (fun hq9 => of_nay_T hsb (hq9 sx hsx))] at H; exact H .nil ⟨rfl, rfl⟩) | (rw [mixA_2 (by omega) (fun x hx => of_nay_F (hsa x hx)) (fun hq9 => by unfold MixB at hq9; omega)] at H; exact H .nil ⟨rfl, rfl⟩) | (rw [mixA_n (by omega) hsup hmb hbn] at H; exact H .nil ⟨rfl, rfl⟩) | (rw [mixA_s (by omega) hsup hmb hbs] at H; rw [hbs]; exact H _ hpok)
      · refine xr_op rfl rfl (xv_not rfl ?_)
        refine xr_op rfl rfl (xv_move rfl ?_)
        refine xr_no rfl rfl rfl rfl ?_
        refine xr_no rfl rfl rfl rfl ?_
        refine xr_no rfl rfl rfl rfl ?_
        refine xr_op rfl rfl (xv_pick rfl rfl ?_)
        refine xr_op rfl rfl (xv_move rfl ?_)
        refine xr_no rfl rfl rfl rfl ?_
        refine xr_no rfl rfl rfl rfl ?_
        refine xr_no rfl rfl rfl rfl ?_
        refine xr_no rfl rfl rfl rfl ?_
        refine xr_op rfl rfl (xv_pick rfl rfl ?_)
        refine xr_op rfl rfl (xv_assign rfl ?_)
        refine xr_end rfl ?_
        refine th_n ?_
        refine xc_true rfl ?_
        refine xc_seq (xc_region ?_)
        refine xr_op rfl rfl (xv_s1 ty29 rfl rfl rfl (by (first|(apply u_3;(repeat first|exact u_0|assumption|apply u_1|apply u_2);done)|((repeat first|exact u_0|assumption|apply u_1|apply u_2);done)|(apply u_3;apply u_3;(repeat first|exact u_0|assumption|apply u_1|apply u_2);done)|((repeat first|exact u_0|assumption|apply u_3|apply u_1);done))) (by (first | rfl | exact Vec.one _ _)) (by (first | decide | exact Nat.le_of_ble_eq_true rfl | (simp only [List.length_cons, List.length_nil]; omega) | (simp; done))) (by ((try apply evl_some rfl);(repeat (first|exact (rfl : _ = [])|apply evl_cons rfl (by (first|exact v_1|exact v_2|exact v_3|exact v_4|exact v_5|exact v_6|exact v_7|exact v_8|exact v_9|exact rfl))|exact rfl)))) ?_)
        refine xr_op rfl rfl (xv_s1 ty3 rfl rfl rfl (by (first|(apply u_3;(repeat first|exact u_0|assumption|apply u_1|apply u_2);done)|((repeat first|exact u_0|assumption|apply u_1|apply u_2);done)|(apply u_3;apply u_3;(repeat first|exact u_0|assumption|apply u_1|apply u_2);done)|((repeat first|exact u_0|assumption|apply u_3|apply u_1);done))) (by (first | rfl | exact Vec.one _ _)) (by (first | decide | exact Nat.le_of_ble_eq_true rfl | (simp only [List.length_cons, List.length_nil]; omega) | (simp; done))) (by ((try apply evl_some rfl);(repeat (first|exact (rfl : _ = [])|apply evl_cons rfl (by (first|exact v_1|exact v_2|exact v_3|exact v_4|exact v_5|exact v_6|exact v_7|exact v_8|exact v_9|exact rfl))|exact rfl)))) ?_)
        refine xr_op rfl rfl (xv_assign rfl ?_)
        refine xr_end rfl ?_
        refine th_n ?_
        refine xc_ret ?_
        refine bk_r ?_
        refine th_r ?_
        refine body_ret (h' := h) rfl (ro_cell ty29 rfl rfl (by ((repeat first|exact z_0|assumption|refine z_1 ?_|(refine z_l ?_;(repeat first|exact z_0|assumption|refine z_1 ?_);done)|refine z_r ?_);done)) (by rfl) (ro_cell ty3 rfl rfl (by ((repeat first|exact z_0|assumption|refine z_1 ?_|(refine z_l ?_;(repeat first|exact z_0|assumption|refine z_1 ?_);done)|refine z_r ?_);done)) (by rfl) (ro_tmp rfl ro_nil))) (by (first|((repeat first|exact s_0|exact s_1|exact s_3|refine s_4 ?_|refine s_5 ?_|refine s_6 ?_|refine s_7 ?_);done)|((repeat first|exact s_0|exact s_1|exact s_3|refine s_4 ?_|refine s_5 ?_|refine s_6 ?_|refine s_8 ?_);done))) ?_
        first | (rw [mixA_3 (by omega)] at H; exact H .nil ⟨rfl, rfl⟩) | (rw [mixA_1 (by omega) (fun hq9 => of_nay_T hsb (hq9 sx hsx))] at H; exact H .nil ⟨rfl, rfl⟩) | (rw [mixA_2 (by omega) (fun x hx => of_nay_F (hsa x hx)) (fun hq9 => by unfold MixB at hq9; omega)] at H; exact H .nil ⟨rfl, rfl⟩) | (rw [mixA_n (by omega) hsup hmb hbn] at H; exact H .nil ⟨rfl, rfl⟩) | (rw [mixA_s (by omega) hsup hmb hbs] at H; rw [hbs]; exact H _ hpok)

end Go.Proofs.Ytjbfdfmngampdaa
