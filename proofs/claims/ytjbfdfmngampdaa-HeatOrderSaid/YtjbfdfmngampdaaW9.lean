/-
  Walks.
-/
import Derived.Test.YtjbfdfmngampdaaW8
namespace Go.Proofs.Ytjbfdfmngampdaa
open Go Go.H
set_option maxRecDepth 100000
set_option maxHeartbeats 8000000
set_option linter.all false
structure TakeC (C : Hp) (l : List Supply) (a : Option Addr) (c : Nat) (q : Ask) (b4 b5 b6 b7 b8 b9 b14 b11 b15 : Nat) : Prop where
  sup : SupsOk l
  len : l.length ≤ 4
  mb : MixB q
  m4 : (b4, .cells ⟨[.slice a l.length c]⟩ 22 (0, 0)) ∈ C
  m5 : (b5, .cells ⟨[I q.vol]⟩ 3 (0, 0)) ∈ C
  m6 : (b6, .cells ⟨[I q.least]⟩ 3 (0, 0)) ∈ C
  m7 : (b7, .cells ⟨[I q.most]⟩ 3 (0, 0)) ∈ C
  m11 : (b11, .cells ⟨leftC l 0⟩ 69 (0, 0)) ∈ C
  m15 : (b15, .cells ⟨[.func (.func 37) ⟨[]⟩ ⟨[.pointer (some ⟨b4, 0, none⟩), .pointer (some ⟨b5, 0, none⟩), .pointer (some ⟨b6, 0, none⟩), .pointer (some ⟨b8, 0, none⟩), .pointer (some ⟨b9, 0, none⟩), .pointer (some ⟨b14, 0, none⟩), .pointer (some ⟨b7, 0, none⟩), .pointer (some ⟨b11, 0, none⟩), .pointer (some ⟨b15, 0, none⟩)]⟩]⟩ 73 (0, 0)) ∈ C
  sl : SlV C 5 eSup a l
def TakeOk (m : Nat) : Prop := ∀ {C : Hp} {l : List Supply} {a : Option Addr} {c : Nat} {q : Ask} {b4 b5 b6 b7 b8 b9 b14 b11 b15 : Nat}, TakeC C l a c q b4 b5 b6 b7 b8 b9 b14 b11 b15 →
  ∀ {p : List Int} {b : Best} {P W : Vec} {iv v low high pay : Int} {R : Ending → Hp → Prop}, p.length + m = l.length → InM l p → sumZ (·.heat.hi) l p ≤ q.most * q.vol → iv = p.length → v = sumZ (·.volume) l p → low = sumZ (·.heat.lo) l p → high = sumZ (·.heat.hi) l p → pay = costM l p → repB b P → W.ok 1 p.length (p.flatMap eI) →
  (∀ P' W' : Vec, repB (takeF l q b p) P' → W'.ok 1 p.length (p.flatMap eI) → R (.returned (.tuple #[])) ((b8, .cells ⟨[P'.val (bmB (takeF l q b p)).length]⟩ 29) :: (b9, .cells ⟨[I (bcB (takeF l q b p))]⟩ 3) :: (b14, .cells ⟨[W'.val p.length]⟩ 29) :: (P'.hp 3 ((bmB (takeF l q b p)).flatMap eI) ++ (W'.hp 3 (p.flatMap eI) ++ C)))) →
  ACalls Try.prog 37 ⟨[I iv, I v, I low, I high, I pay, .pointer (some ⟨b4, 0, none⟩), .pointer (some ⟨b5, 0, none⟩), .pointer (some ⟨b6, 0, none⟩), .pointer (some ⟨b8, 0, none⟩), .pointer (some ⟨b9, 0, none⟩), .pointer (some ⟨b14, 0, none⟩), .pointer (some ⟨b7, 0, none⟩), .pointer (some ⟨b11, 0, none⟩), .pointer (some ⟨b15, 0, none⟩)]⟩ ((b8, .cells ⟨[P.val (bmB b).length]⟩ 29) :: (b9, .cells ⟨[I (bcB b)]⟩ 3) :: (b14, .cells ⟨[W.val p.length]⟩ 29) :: (P.hp 3 ((bmB b).flatMap eI) ++ (W.hp 3 (p.flatMap eI) ++ C))) R
theorem mulx {n y B : Int} (h0 : 0 ≤ n) (h1 : n ≤ 20) (h2 : 0 ≤ y) (h3 : y ≤ B) : 0 ≤ n * y ∧ n * y ≤ 20 * B := ⟨Int.mul_nonneg h0 h2, Int.mul_le_mul h1 h3 h2 (by omega)⟩

theorem take_step {m : Nat} (ih : ∀ j, j < m → TakeOk j) : TakeOk m := by
  intro C l a c q b4 b5 b6 b7 b8 b9 b14 b11 b15 hC p b P W iv v low high pay R hlen hin hhi e1 e2 e3 e4 e5 hP hW H
  subst e1 e2 e3 e4 e5
  refine calls_of_xc (N := 151) Try.func37 rfl (by rfl) ?_
  have m4 := hC.m4
  have m5 := hC.m5
  have m6 := hC.m6
  have m7 := hC.m7
  have m11 := hC.m11
  have m15 := hC.m15
  have hc4 := hC.len
  obtain ⟨⟨v1, v2⟩, ⟨t1, t2⟩, l1, l2⟩ := id hC.mb
  have bd := mix_bd hC.sup hin
  have bd1 := bd.v0
  have bd2 := bd.v1
  have bd3 := bd.l0
  have bd4 := bd.l1
  have bd5 := bd.h0
  have bd6 := bd.h1
  have bd7 := bd.c0
  have bd8 := bd.c1
  have ml := mul_bdI (a := q.least) (A := 10000) (x := q.vol) (B := 80) l1 (by omega) (by omega) v2 (by omega)
  have mm := mul_bdI (a := q.most) (A := 10000) (x := q.vol) (B := 80) t1 t2 (by omega) v2 (by omega)
  refine xc_scope ?_
  refine xc_seq ?_
  refine xc_seq (xc_region ?_)
  refine xr_op rfl rfl (xv_move rfl ?_)
  refine xr_op rfl rfl (xv_load1 ty22 rfl rfl (by ((repeat first|exact z_0|assumption|refine z_1 ?_|(refine z_l ?_;(repeat first|exact z_0|assumption|refine z_1 ?_);done)|refine z_r ?_);done)) (by rfl) ?_)
  refine xr_op rfl rfl (xv_len sl22 rfl ?_)
  refine xr_op rfl rfl (xv_eql2 rfl rfl (fun q1 => ?_) (fun q1 => ?_))
  · refine xr_end rfl ?_
    refine th_n ?_
    refine xc_true rfl ?_
    refine xc_seq ?_
    refine xc_seq (xc_region ?_)
    rcases rep_cases hP with ⟨hbn, rfl⟩ | ⟨bm, bc, bb9, cap9, sp9, hbs, rfl, hpok⟩
    · refine xr_op rfl rfl (xv_move rfl ?_)
      refine xr_op rfl rfl (xv_load1 ty3 rfl rfl (by ((repeat first|exact z_0|assumption|refine z_1 ?_|(refine z_l ?_;(repeat first|exact z_0|assumption|refine z_1 ?_);done)|refine z_r ?_);done)) (by rfl) ?_)
      refine xr_op rfl rfl (xv_eql2 rfl rfl (fun q2 => ?_) (fun q2 => ?_))
      · refine xr_op rfl rfl (xv_move rfl ?_)
        refine xr_gd rfl rfl rfl (xv_move rfl ?_)
        refine xr_gd rfl rfl rfl (xv_load1 ty3 rfl rfl (by ((repeat first|exact z_0|assumption|refine z_1 ?_|(refine z_l ?_;(repeat first|exact z_0|assumption|refine z_1 ?_);done)|refine z_r ?_);done)) (by rfl) ?_)
        refine xr_gd rfl rfl rfl (xv_load1 ty3 rfl rfl (by ((repeat first|exact z_0|assumption|refine z_1 ?_|(refine z_l ?_;(repeat first|exact z_0|assumption|refine z_1 ?_);done)|refine z_r ?_);done)) (by rfl) ?_)
        refine xr_gd rfl rfl rfl (xv_mul rfl rfl (wrap_i64 (by (first | omega | (dsimp only at *; omega) | (simp at *; omega))) (by (first | omega | (dsimp only at *; omega) | (simp at *; omega)))) ?_)
        refine xr_gd rfl rfl rfl (xv_geq2 rfl rfl (fun q3 => ?_) (fun q3 => ?_))
        · refine xr_op rfl rfl (xv_pick rfl rfl ?_)
          refine xr_op rfl rfl (xv_move rfl ?_)
          refine xr_gd rfl rfl rfl (xv_load1 ty29 rfl rfl (by ((repeat first|exact z_0|assumption|refine z_1 ?_|(refine z_l ?_;(repeat first|exact z_0|assumption|refine z_1 ?_);done)|refine z_r ?_);done)) (by rfl) ?_)
          refine xr_gd rfl rfl rfl (xv_eqNilS (b := true) sl29 rfl rfl rfl ?_)
          refine xr_gd rfl rfl rfl (xv_move rfl ?_)
          refine xr_no rfl rfl rfl rfl ?_
          refine xr_no rfl rfl rfl rfl ?_
          refine xr_no rfl rfl rfl rfl ?_
          refine xr_gd rfl rfl rfl (xv_pick rfl rfl ?_)
          refine xr_op rfl rfl (xv_pick rfl rfl ?_)
          refine xr_end rfl ?_
          refine th_n ?_
          refine xc_true rfl ?_
          refine xc_region ?_
          have hless : lessB (costM l p) b := by rw [hbn]; trivial
          have hpp : 0 < p.length := by
            rcases Nat.eq_zero_or_pos p.length with h9 | h9
            · exfalso
              have h8 : sumZ (·.volume) l p = 0 := by rw [List.length_eq_zero_iff.1 h9, sumZ_nil]
              omega
            · exact h9
          refine xr_op rfl rfl (xv_load1 ty29 rfl rfl (by ((repeat first|exact z_0|assumption|refine z_1 ?_|(refine z_l ?_;(repeat first|exact z_0|assumption|refine z_1 ?_);done)|refine z_r ?_);done)) (by rfl) ?_)
          refine xr_op rfl rfl (xv_calls rfl hb38 (cloneV_c hW (by intro z hz; ((repeat first|exact z_0|assumption|refine z_1 ?_|(refine z_l ?_;(repeat first|exact z_0|assumption|refine z_1 ?_);done)|refine z_r ?_);done)) (by omega) (fun P2 hP2 => up_ret ?_)))
          refine xr_op rfl rfl (xv_move rfl ?_)
          refine XR.perm perm_v3 ?_
          refine xr_op rfl rfl (xv_s1 ty29 rfl rfl rfl (by (first|(apply u_3;(repeat first|exact u_0|assumption|apply u_1|apply u_2);done)|((repeat first|exact u_0|assumption|apply u_1|apply u_2);done)|(apply u_3;apply u_3;(repeat first|exact u_0|assumption|apply u_1|apply u_2);done)|((repeat first|exact u_0|assumption|apply u_3|apply u_1);done))) (by (first | rfl | exact Vec.one _ _)) (by (first | decide | exact Nat.le_of_ble_eq_true rfl | (simp only [List.length_cons, List.length_nil]; omega) | (simp; done))) (by ((try apply evl_some rfl);(repeat (first|exact (rfl : _ = [])|apply evl_cons rfl (by (first|exact v_1|exact v_2|exact v_3|exact v_4|exact v_5|exact v_6|exact v_7|exact v_8|exact v_9|exact rfl))|exact rfl)))) ?_)
          refine xr_op rfl rfl (xv_s1 ty3 rfl rfl rfl (by (first|(apply u_3;(repeat first|exact u_0|assumption|apply u_1|apply u_2);done)|((repeat first|exact u_0|assumption|apply u_1|apply u_2);done)|(apply u_3;apply u_3;(repeat first|exact u_0|assumption|apply u_1|apply u_2);done)|((repeat first|exact u_0|assumption|apply u_3|apply u_1);done))) (by (first | rfl | exact Vec.one _ _)) (by (first | decide | exact Nat.le_of_ble_eq_true rfl | (simp only [List.length_cons, List.length_nil]; omega) | (simp; done))) (by ((try apply evl_some rfl);(repeat (first|exact (rfl : _ = [])|apply evl_cons rfl (by (first|exact v_1|exact v_2|exact v_3|exact v_4|exact v_5|exact v_6|exact v_7|exact v_8|exact v_9|exact rfl))|exact rfl)))) ?_)
          refine xr_end rfl ?_
          refine th_n ?_
          refine xc_ret ?_
          refine th_r ?_
          refine sc_r ?_
          refine body_ret (h' := ((b8, .cells ⟨[P2.val (bmB (some (p, costM l p))).length]⟩ 29) :: (b9, .cells ⟨[I (bcB (some (p, costM l p)))]⟩ 3) :: (b14, .cells ⟨[W.val p.length]⟩ 29) :: (P2.hp 3 ((bmB (some (p, costM l p))).flatMap eI) ++ (W.hp 3 (p.flatMap eI) ++ C)))) rfl ro_nil (by (first|((repeat first|exact s_0|exact s_1|exact s_3|refine s_4 ?_|refine s_5 ?_|refine s_6 ?_|refine s_7 ?_);done)|((repeat first|exact s_0|exact s_1|exact s_3|refine s_4 ?_|refine s_5 ?_|refine s_6 ?_|refine s_8 ?_);done))) ?_
          first | (rw [take_leaf (by (first | omega | (dsimp only at *; omega) | (simp at *; omega))), leaf_upd hhi, if_pos ⟨⟨by (first | omega | (dsimp only at *; omega) | (simp at *; omega)), by (first | omega | (dsimp only at *; omega) | (simp at *; omega))⟩, hless⟩] at H; exact H _ _ ⟨Vec.at_pos hP2 (by omega), hP2⟩ hW) | (rw [take_leaf (by (first | omega | (dsimp only at *; omega) | (simp at *; omega))), leaf_upd hhi, if_neg (fun hq9 => by have h9 := hq9.1.1; have h8 := hq9.1.2; omega)] at H; exact H _ _ hP hW) | (rw [take_leaf (by (first | omega | (dsimp only at *; omega) | (simp at *; omega))), leaf_upd hhi, if_neg (fun hq9 => by have h9 := hq9.2; rw [hbs] at h9; have h8 : costM l p < bc := h9; omega)] at H; exact H _ _ hP hW) | (rw [take_steps hx, show (xo.most + 1).toNat = n by (first | omega | (dsimp only at *; omega) | (simp at *; omega))] at H; exact H _ _ hP hW) | (rcases break_none (n := n) (b := b) (q := q) hC.sup hin hx (by first | exact .inl (by (first | omega | (dsimp only at *; omega) | (simp at *; omega))) | exact .inr (.inl (by (first | omega | (dsimp only at *; omega) | (simp at *; omega)))) | exact .inr (.inr ⟨bm, bc, hbs, by (first | omega | (dsimp only at *; omega) | (simp at *; omega))⟩)) with hbk | hbk; (rw [take_steps hx, hbk] at H; exact H _ _ hP hW); (exfalso; (first | omega | (dsimp only at *; omega) | (simp at *; omega))))
        · refine xr_op rfl rfl (xv_pick rfl rfl ?_)
          refine xr_op rfl rfl (xv_move rfl ?_)
          refine xr_no rfl rfl rfl rfl ?_
          refine xr_no rfl rfl rfl rfl ?_
          refine xr_no rfl rfl rfl rfl ?_
          refine xr_nu rfl rfl rfl ?_
          refine xr_nu rfl rfl rfl ?_
          refine xr_nu rfl rfl rfl ?_
          refine xr_no rfl rfl rfl rfl ?_
          refine xr_op rfl rfl (xv_pick rfl rfl ?_)
          refine xr_end rfl ?_
          refine th_n ?_
          refine xc_false rfl ?_
          refine xc_skip ?_
          refine th_n ?_
          refine xc_ret ?_
          refine th_r ?_
          refine sc_r ?_
          refine body_ret (h' := ((b8, .cells ⟨[Vec.nil.val (bmB b).length]⟩ 29) :: (b9, .cells ⟨[I (bcB b)]⟩ 3) :: (b14, .cells ⟨[W.val p.length]⟩ 29) :: (Vec.nil.hp 3 ((bmB b).flatMap eI) ++ (W.hp 3 (p.flatMap eI) ++ C)))) rfl ro_nil (by (first|((repeat first|exact s_0|exact s_1|exact s_3|refine s_4 ?_|refine s_5 ?_|refine s_6 ?_|refine s_7 ?_);done)|((repeat first|exact s_0|exact s_1|exact s_3|refine s_4 ?_|refine s_5 ?_|refine s_6 ?_|refine s_8 ?_);done))) ?_
          first | (rw [take_leaf (by (first | omega | (dsimp only at *; omega) | (simp at *; omega))), leaf_upd hhi, if_pos ⟨⟨by (first | omega | (dsimp only at *; omega) | (simp at *; omega)), by (first | omega | (dsimp only at *; omega) | (simp at *; omega))⟩, hless⟩] at H; exact H _ _ ⟨Vec.at_pos hP2 (by omega), hP2⟩ hW) | (rw [take_leaf (by (first | omega | (dsimp only at *; omega) | (simp at *; omega))), leaf_upd hhi, if_neg (fun hq9 => by have h9 := hq9.1.1; have h8 := hq9.1.2; omega)] at H; exact H _ _ hP hW) | (rw [take_leaf (by (first | omega | (dsimp only at *; omega) | (simp at *; omega))), leaf_upd hhi, if_neg (fun hq9 => by have h9 := hq9.2; rw [hbs] at h9; have h8 : costM l p < bc := h9; omega)] at H; exact H _ _ hP hW) | (rw [take_steps hx, show (xo.most + 1).toNat = n by (first | omega | (dsimp only at *; omega) | (simp at *; omega))] at H; exact H _ _ hP hW) | (rcases break_none (n := n) (b := b) (q := q) hC.sup hin hx (by first | exact .inl (by (first | omega | (dsimp only at *; omega) | (simp at *; omega))) | exact .inr (.inl (by (first | omega | (dsimp only at *; omega) | (simp at *; omega)))) | exact .inr (.inr ⟨bm, bc, hbs, by (first | omega | (dsimp only at *; omega) | (simp at *; omega))⟩)) with hbk | hbk; (rw [take_steps hx, hbk] at H; exact H _ _ hP hW); (exfalso; (first | omega | (dsimp only at *; omega) | (simp at *; omega))))
      · refine xr_op rfl rfl (xv_move rfl ?_)
        refine xr_no rfl rfl rfl rfl ?_
        refine xr_no rfl rfl rfl rfl ?_
        refine xr_no rfl rfl rfl rfl ?_
        refine xr_no rfl rfl rfl rfl ?_
        refine xr_no rfl rfl rfl rfl ?_
        refine xr_op rfl rfl (xv_pick rfl rfl ?_)
        refine xr_op rfl rfl (xv_move rfl ?_)
        refine xr_no rfl rfl rfl rfl ?_
        refine xr_no rfl rfl rfl rfl ?_
        refine xr_no rfl rfl rfl rfl ?_
        refine xr_nu rfl rfl rfl ?_
        refine xr_nu rfl rfl rfl ?_
        refine xr_nu rfl rfl rfl ?_
        refine xr_no rfl rfl rfl rfl ?_
        refine xr_op rfl rfl (xv_pick rfl rfl ?_)
        refine xr_end rfl ?_
        refine th_n ?_
        refine xc_false rfl ?_
        refine xc_skip ?_
        refine th_n ?_
        refine xc_ret ?_
        refine th_r ?_
        refine sc_r ?_
        refine body_ret (h' := ((b8, .cells ⟨[Vec.nil.val (bmB b).length]⟩ 29) :: (b9, .cells ⟨[I (bcB b)]⟩ 3) :: (b14, .cells ⟨[W.val p.length]⟩ 29) :: (Vec.nil.hp 3 ((bmB b).flatMap eI) ++ (W.hp 3 (p.flatMap eI) ++ C)))) rfl ro_nil (by (first|((repeat first|exact s_0|exact s_1|exact s_3|refine s_4 ?_|refine s_5 ?_|refine s_6 ?_|refine s_7 ?_);done)|((repeat first|exact s_0|exact s_1|exact s_3|refine s_4 ?_|refine s_5 ?_|refine s_6 ?_|refine s_8 ?_);done))) ?_
        first | (rw [take_leaf (by (first | omega | (dsimp only at *; omega) | (simp at *; omega))), leaf_upd hhi, if_pos ⟨⟨by (first | omega | (dsimp only at *; omega) | (simp at *; omega)), by (first | omega | (dsimp only at *; omega) | (simp at *; omega))⟩, hless⟩] at H; exact H _ _ ⟨Vec.at_pos hP2 (by omega), hP2⟩ hW) | (rw [take_leaf (by (first | omega | (dsimp only at *; omega) | (simp at *; omega))), leaf_upd hhi, if_neg (fun hq9 => by have h9 := hq9.1.1; have h8 := hq9.1.2; omega)] at H; exact H _ _ hP hW) | (rw [take_leaf (by (first | omega | (dsimp only at *; omega) | (simp at *; omega))), leaf_upd hhi, if_neg (fun hq9 => by have h9 := hq9.2; rw [hbs] at h9; have h8 : costM l p < bc := h9; omega)] at H; exact H _ _ hP hW) | (rw [take_steps hx, show (xo.most + 1).toNat = n by (first | omega | (dsimp only at *; omega) | (simp at *; omega))] at H; exact H _ _ hP hW) | (rcases break_none (n := n) (b := b) (q := q) hC.sup hin hx (by first | exact .inl (by (first | omega | (dsimp only at *; omega) | (simp at *; omega))) | exact .inr (.inl (by (first | omega | (dsimp only at *; omega) | (simp at *; omega)))) | exact .inr (.inr ⟨bm, bc, hbs, by (first | omega | (dsimp only at *; omega) | (simp at *; omega))⟩)) with hbk | hbk; (rw [take_steps hx, hbk] at H; exact H _ _ hP hW); (exfalso; (first | omega | (dsimp only at *; omega) | (simp at *; omega))))
    · refine xr_op rfl rfl (xv_move rfl ?_)
      refine xr_op rfl rfl (xv_load1 ty3 rfl rfl (by ((repeat first|exact z_0|assumption|refine z_1 ?_|(refine z_l ?_;(repeat first|exact z_0|assumption|refine z_1 ?_);done)|refine z_r ?_);done)) (by rfl) ?_)
      refine xr_op rfl rfl (xv_eql2 rfl rfl (fun q4 => ?_) (fun q4 => ?_))
      · refine xr_op rfl rfl (xv_move rfl ?_)
        refine xr_gd rfl rfl rfl (xv_move rfl ?_)
        refine xr_gd rfl rfl rfl (xv_load1 ty3 rfl rfl (by ((repeat first|exact z_0|assumption|refine z_1 ?_|(refine z_l ?_;(repeat first|exact z_0|assumption|refine z_1 ?_);done)|refine z_r ?_);done)) (by rfl) ?_)
        refine xr_gd rfl rfl rfl (xv_load1 ty3 rfl rfl (by ((repeat first|exact z_0|assumption|refine z_1 ?_|(refine z_l ?_;(repeat first|exact z_0|assumption|refine z_1 ?_);done)|refine z_r ?_);done)) (by rfl) ?_)
        refine xr_gd rfl rfl rfl (xv_mul rfl rfl (wrap_i64 (by (first | omega | (dsimp only at *; omega) | (simp at *; omega))) (by (first | omega | (dsimp only at *; omega) | (simp at *; omega)))) ?_)
        refine xr_gd rfl rfl rfl (xv_geq2 rfl rfl (fun q5 => ?_) (fun q5 => ?_))
        · refine xr_op rfl rfl (xv_pick rfl rfl ?_)
          refine xr_op rfl rfl (xv_move rfl ?_)
          refine xr_gd rfl rfl rfl (xv_load1 ty29 rfl rfl (by ((repeat first|exact z_0|assumption|refine z_1 ?_|(refine z_l ?_;(repeat first|exact z_0|assumption|refine z_1 ?_);done)|refine z_r ?_);done)) (by rfl) ?_)
          refine xr_gd rfl rfl rfl (xv_eqNilS (b := false) sl29 rfl rfl rfl ?_)
          refine xr_gd rfl rfl rfl (xv_move rfl ?_)
          have hbc9 : bcB b = bc := by rw [hbs]; rfl
          refine xr_gd rfl rfl rfl (xv_move rfl ?_)
          refine xr_gd rfl rfl rfl (xv_load1 ty3 rfl rfl (by ((repeat first|exact z_0|assumption|refine z_1 ?_|(refine z_l ?_;(repeat first|exact z_0|assumption|refine z_1 ?_);done)|refine z_r ?_);done)) (by rfl) ?_)
          refine xr_gd rfl rfl rfl (xv_lss2 rfl rfl (fun q6 => ?_) (fun q6 => ?_))
          · refine xr_gd rfl rfl rfl (xv_pick rfl rfl ?_)
            refine xr_op rfl rfl (xv_pick rfl rfl ?_)
            refine xr_end rfl ?_
            refine th_n ?_
            refine xc_true rfl ?_
            refine xc_region ?_
            have hless : lessB (costM l p) b := by rw [hbs]; show costM l p < bc; (first | omega | (dsimp only at *; omega) | (simp at *; omega))
            have hpp : 0 < p.length := by
              rcases Nat.eq_zero_or_pos p.length with h9 | h9
              · exfalso
                have h8 : sumZ (·.volume) l p = 0 := by rw [List.length_eq_zero_iff.1 h9, sumZ_nil]
                omega
              · exact h9
            refine xr_op rfl rfl (xv_load1 ty29 rfl rfl (by ((repeat first|exact z_0|assumption|refine z_1 ?_|(refine z_l ?_;(repeat first|exact z_0|assumption|refine z_1 ?_);done)|refine z_r ?_);done)) (by rfl) ?_)
            refine xr_op rfl rfl (xv_calls rfl hb38 (cloneV_c hW (by intro z hz; ((repeat first|exact z_0|assumption|refine z_1 ?_|(refine z_l ?_;(repeat first|exact z_0|assumption|refine z_1 ?_);done)|refine z_r ?_);done)) (by omega) (fun P2 hP2 => up_ret ?_)))
            refine xr_op rfl rfl (xv_move rfl ?_)
            refine XR.perm perm_v3 ?_
            refine xr_op rfl rfl (xv_s1 ty29 rfl rfl rfl (by (first|(apply u_3;(repeat first|exact u_0|assumption|apply u_1|apply u_2);done)|((repeat first|exact u_0|assumption|apply u_1|apply u_2);done)|(apply u_3;apply u_3;(repeat first|exact u_0|assumption|apply u_1|apply u_2);done)|((repeat first|exact u_0|assumption|apply u_3|apply u_1);done))) (by (first | rfl | exact Vec.one _ _)) (by (first | decide | exact Nat.le_of_ble_eq_true rfl | (simp only [List.length_cons, List.length_nil]; omega) | (simp; done))) (by ((try apply evl_some rfl);(repeat (first|exact (rfl : _ = [])|apply evl_cons rfl (by (first|exact v_1|exact v_2|exact v_3|exact v_4|exact v_5|exact v_6|exact v_7|exact v_8|exact v_9|exact rfl))|exact rfl)))) ?_)
            refine xr_op rfl rfl (xv_s1 ty3 rfl rfl rfl (by (first|(apply u_3;(repeat first|exact u_0|assumption|apply u_1|apply u_2);done)|((repeat first|exact u_0|assumption|apply u_1|apply u_2);done)|(apply u_3;apply u_3;(repeat first|exact u_0|assumption|apply u_1|apply u_2);done)|((repeat first|exact u_0|assumption|apply u_3|apply u_1);done))) (by (first | rfl | exact Vec.one _ _)) (by (first | decide | exact Nat.le_of_ble_eq_true rfl | (simp only [List.length_cons, List.length_nil]; omega) | (simp; done))) (by ((try apply evl_some rfl);(repeat (first|exact (rfl : _ = [])|apply evl_cons rfl (by (first|exact v_1|exact v_2|exact v_3|exact v_4|exact v_5|exact v_6|exact v_7|exact v_8|exact v_9|exact rfl))|exact rfl)))) ?_)
            refine xr_end rfl ?_
            refine th_n ?_
            refine xc_ret ?_
            refine th_r ?_
            refine sc_r ?_
            refine body_ret (h' := ((b8, .cells ⟨[P2.val (bmB (some (p, costM l p))).length]⟩ 29) :: (b9, .cells ⟨[I (bcB (some (p, costM l p)))]⟩ 3) :: (b14, .cells ⟨[W.val p.length]⟩ 29) :: (P2.hp 3 ((bmB (some (p, costM l p))).flatMap eI) ++ (W.hp 3 (p.flatMap eI) ++ C)))) rfl ro_nil (by (first|((repeat first|exact s_0|exact s_1|exact s_3|refine s_4 ?_|refine s_5 ?_|refine s_6 ?_|refine s_7 ?_);done)|((repeat first|exact s_0|exact s_1|exact s_3|refine s_4 ?_|refine s_5 ?_|refine s_6 ?_|refine s_8 ?_);done))) ?_
            first | (rw [take_leaf (by (first | omega | (dsimp only at *; omega) | (simp at *; omega))), leaf_upd hhi, if_pos ⟨⟨by (first | omega | (dsimp only at *; omega) | (simp at *; omega)), by (first | omega | (dsimp only at *; omega) | (simp at *; omega))⟩, hless⟩] at H; exact H _ _ ⟨Vec.at_pos hP2 (by omega), hP2⟩ hW) | (rw [take_leaf (by (first | omega | (dsimp only at *; omega) | (simp at *; omega))), leaf_upd hhi, if_neg (fun hq9 => by have h9 := hq9.1.1; have h8 := hq9.1.2; omega)] at H; exact H _ _ hP hW) | (rw [take_leaf (by (first | omega | (dsimp only at *; omega) | (simp at *; omega))), leaf_upd hhi, if_neg (fun hq9 => by have h9 := hq9.2; rw [hbs] at h9; have h8 : costM l p < bc := h9; omega)] at H; exact H _ _ hP hW) | (rw [take_steps hx, show (xo.most + 1).toNat = n by (first | omega | (dsimp only at *; omega) | (simp at *; omega))] at H; exact H _ _ hP hW) | (rcases break_none (n := n) (b := b) (q := q) hC.sup hin hx (by first | exact .inl (by (first | omega | (dsimp only at *; omega) | (simp at *; omega))) | exact .inr (.inl (by (first | omega | (dsimp only at *; omega) | (simp at *; omega)))) | exact .inr (.inr ⟨bm, bc, hbs, by (first | omega | (dsimp only at *; omega) | (simp at *; omega))⟩)) with hbk | hbk; (rw [take_steps hx, hbk] at H; exact H _ _ hP hW); (exfalso; (first | omega | (dsimp only at *; omega) | (simp at *; omega))))
          · refine xr_gd rfl rfl rfl (xv_pick rfl rfl ?_)
            refine xr_op rfl rfl (xv_pick rfl rfl ?_)
            refine xr_end rfl ?_
            refine th_n ?_
            refine xc_false rfl ?_
            refine xc_skip ?_
            refine th_n ?_
            refine xc_ret ?_
            refine th_r ?_
            refine sc_r ?_
            refine body_ret (h' := ((b8, .cells ⟨[(Vec.at bb9 cap9 sp9).val (bmB b).length]⟩ 29) :: (b9, .cells ⟨[I (bcB b)]⟩ 3) :: (b14, .cells ⟨[W.val p.length]⟩ 29) :: ((Vec.at bb9 cap9 sp9).hp 3 ((bmB b).flatMap eI) ++ (W.hp 3 (p.flatMap eI) ++ C)))) rfl ro_nil (by (first|((repeat first|exact s_0|exact s_1|exact s_3|refine s_4 ?_|refine s_5 ?_|refine s_6 ?_|refine s_7 ?_);done)|((repeat first|exact s_0|exact s_1|exact s_3|refine s_4 ?_|refine s_5 ?_|refine s_6 ?_|refine s_8 ?_);done))) ?_
            first | (rw [take_leaf (by (first | omega | (dsimp only at *; omega) | (simp at *; omega))), leaf_upd hhi, if_pos ⟨⟨by (first | omega | (dsimp only at *; omega) | (simp at *; omega)), by (first | omega | (dsimp only at *; omega) | (simp at *; omega))⟩, hless⟩] at H; exact H _ _ ⟨Vec.at_pos hP2 (by omega), hP2⟩ hW) | (rw [take_leaf (by (first | omega | (dsimp only at *; omega) | (simp at *; omega))), leaf_upd hhi, if_neg (fun hq9 => by have h9 := hq9.1.1; have h8 := hq9.1.2; omega)] at H; exact H _ _ hP hW) | (rw [take_leaf (by (first | omega | (dsimp only at *; omega) | (simp at *; omega))), leaf_upd hhi, if_neg (fun hq9 => by have h9 := hq9.2; rw [hbs] at h9; have h8 : costM l p < bc := h9; omega)] at H; exact H _ _ hP hW) | (rw [take_steps hx, show (xo.most + 1).toNat = n by (first | omega | (dsimp only at *; omega) | (simp at *; omega))] at H; exact H _ _ hP hW) | (rcases break_none (n := n) (b := b) (q := q) hC.sup hin hx (by first | exact .inl (by (first | omega | (dsimp only at *; omega) | (simp at *; omega))) | exact .inr (.inl (by (first | omega | (dsimp only at *; omega) | (simp at *; omega)))) | exact .inr (.inr ⟨bm, bc, hbs, by (first | omega | (dsimp only at *; omega) | (simp at *; omega))⟩)) with hbk | hbk; (rw [take_steps hx, hbk] at H; exact H _ _ hP hW); (exfalso; (first | omega | (dsimp only at *; omega) | (simp at *; omega))))
        · refine xr_op rfl rfl (xv_pick rfl rfl ?_)
          refine xr_op rfl rfl (xv_move rfl ?_)
          refine xr_no rfl rfl rfl rfl ?_
          refine xr_no rfl rfl rfl rfl ?_
          refine xr_no rfl rfl rfl rfl ?_
          refine xr_nu rfl rfl rfl ?_
          refine xr_nu rfl rfl rfl ?_
          refine xr_nu rfl rfl rfl ?_
          refine xr_no rfl rfl rfl rfl ?_
          refine xr_op rfl rfl (xv_pick rfl rfl ?_)
          refine xr_end rfl ?_
          refine th_n ?_
          refine xc_false rfl ?_
          refine xc_skip ?_
          refine th_n ?_
          refine xc_ret ?_
          refine th_r ?_
          refine sc_r ?_
          refine body_ret (h' := ((b8, .cells ⟨[(Vec.at bb9 cap9 sp9).val (bmB b).length]⟩ 29) :: (b9, .cells ⟨[I (bcB b)]⟩ 3) :: (b14, .cells ⟨[W.val p.length]⟩ 29) :: ((Vec.at bb9 cap9 sp9).hp 3 ((bmB b).flatMap eI) ++ (W.hp 3 (p.flatMap eI) ++ C)))) rfl ro_nil (by (first|((repeat first|exact s_0|exact s_1|exact s_3|refine s_4 ?_|refine s_5 ?_|refine s_6 ?_|refine s_7 ?_);done)|((repeat first|exact s_0|exact s_1|exact s_3|refine s_4 ?_|refine s_5 ?_|refine s_6 ?_|refine s_8 ?_);done))) ?_
          first | (rw [take_leaf (by (first | omega | (dsimp only at *; omega) | (simp at *; omega))), leaf_upd hhi, if_pos ⟨⟨by (first | omega | (dsimp only at *; omega) | (simp at *; omega)), by (first | omega | (dsimp only at *; omega) | (simp at *; omega))⟩, hless⟩] at H; exact H _ _ ⟨Vec.at_pos hP2 (by omega), hP2⟩ hW) | (rw [take_leaf (by (first | omega | (dsimp only at *; omega) | (simp at *; omega))), leaf_upd hhi, if_neg (fun hq9 => by have h9 := hq9.1.1; have h8 := hq9.1.2; omega)] at H; exact H _ _ hP hW) | (rw [take_leaf (by (first | omega | (dsimp only at *; omega) | (simp at *; omega))), leaf_upd hhi, if_neg (fun hq9 => by have h9 := hq9.2; rw [hbs] at h9; have h8 : costM l p < bc := h9; omega)] at H; exact H _ _ hP hW) | (rw [take_steps hx, show (xo.most + 1).toNat = n by (first | omega | (dsimp only at *; omega) | (simp at *; omega))] at H; exact H _ _ hP hW) | (rcases break_none (n := n) (b := b) (q := q) hC.sup hin hx (by first | exact .inl (by (first | omega | (dsimp only at *; omega) | (simp at *; omega))) | exact .inr (.inl (by (first | omega | (dsimp only at *; omega) | (simp at *; omega)))) | exact .inr (.inr ⟨bm, bc, hbs, by (first | omega | (dsimp only at *; omega) | (simp at *; omega))⟩)) with hbk | hbk; (rw [take_steps hx, hbk] at H; exact H _ _ hP hW); (exfalso; (first | omega | (dsimp only at *; omega) | (simp at *; omega))))
      · refine xr_op rfl rfl (xv_move rfl ?_)
        refine xr_no rfl rfl rfl rfl ?_
        refine xr_no rfl rfl rfl rfl ?_
        refine xr_no rfl rfl rfl rfl ?_
        refine xr_no rfl rfl rfl rfl ?_
        refine xr_no rfl rfl rfl rfl ?_
        refine xr_op rfl rfl (xv_pick rfl rfl ?_)
        refine xr_op rfl rfl (xv_move rfl ?_)
        refine xr_no rfl rfl rfl rfl ?_
        refine xr_no rfl rfl rfl rfl ?_
        refine xr_no rfl rfl rfl rfl ?_
        refine xr_nu rfl rfl rfl ?_
        refine xr_nu rfl rfl rfl ?_
        refine xr_nu rfl rfl rfl ?_
        refine xr_no rfl rfl rfl rfl ?_
        refine xr_op rfl rfl (xv_pick rfl rfl ?_)
        refine xr_end rfl ?_
        refine th_n ?_
        refine xc_false rfl ?_
        refine xc_skip ?_
        refine th_n ?_
        refine xc_ret ?_
        refine th_r ?_
        refine sc_r ?_
        refine body_ret (h' := ((b8, .cells ⟨[(Vec.at bb9 cap9 sp9).val (bmB b).length]⟩ 29) :: (b9, .cells ⟨[I (bcB b)]⟩ 3) :: (b14, .cells ⟨[W.val p.length]⟩ 29) :: ((Vec.at bb9 cap9 sp9).hp 3 ((bmB b).flatMap eI) ++ (W.hp 3 (p.flatMap eI) ++ C)))) rfl ro_nil (by (first|((repeat first|exact s_0|exact s_1|exact s_3|refine s_4 ?_|refine s_5 ?_|refine s_6 ?_|refine s_7 ?_);done)|((repeat first|exact s_0|exact s_1|exact s_3|refine s_4 ?_|refine s_5 ?_|refine s_6 ?_|refine s_8 ?_);done))) ?_
        first | (rw [take_leaf (by (first | omega | (dsimp only at *; omega) | (simp at *; omega))), leaf_upd hhi, if_pos ⟨⟨by (first | omega | (dsimp only at *; omega) | (simp at *; omega)), by (first | omega | (dsimp only at *; omega) | (simp at *; omega))⟩, hless⟩] at H; exact H _ _ ⟨Vec.at_pos hP2 (by omega), hP2⟩ hW) | (rw [take_leaf (by (first | omega | (dsimp only at *; omega) | (simp at *; omega))), leaf_upd hhi, if_neg (fun hq9 => by have h9 := hq9.1.1; have h8 := hq9.1.2; omega)] at H; exact H _ _ hP hW) | (rw [take_leaf (by (first | omega | (dsimp only at *; omega) | (simp at *; omega))), leaf_upd hhi, if_neg (fun hq9 => by have h9 := hq9.2; rw [hbs] at h9; have h8 : costM l p < bc := h9; omega)] at H; exact H _ _ hP hW) | (rw [take_steps hx, show (xo.most + 1).toNat = n by (first | omega | (dsimp only at *; omega) | (simp at *; omega))] at H; exact H _ _ hP hW) | (rcases break_none (n := n) (b := b) (q := q) hC.sup hin hx (by first | exact .inl (by (first | omega | (dsimp only at *; omega) | (simp at *; omega))) | exact .inr (.inl (by (first | omega | (dsimp only at *; omega) | (simp at *; omega)))) | exact .inr (.inr ⟨bm, bc, hbs, by (first | omega | (dsimp only at *; omega) | (simp at *; omega))⟩)) with hbk | hbk; (rw [take_steps hx, hbk] at H; exact H _ _ hP hW); (exfalso; (first | omega | (dsimp only at *; omega) | (simp at *; omega))))
  · refine xr_end rfl ?_
    refine th_n ?_
    refine xc_false rfl ?_
    refine xc_skip ?_
    refine th_n ?_
    refine xc_seq (xc_region ?_)
    refine xr_op rfl rfl (xv_load1 ty22 rfl rfl (by ((repeat first|exact z_0|assumption|refine z_1 ?_|(refine z_l ?_;(repeat first|exact z_0|assumption|refine z_1 ?_);done)|refine z_r ?_);done)) (by rfl) ?_)
    refine xr_op rfl rfl (xv_move rfl ?_)
    have hlto : p.length < l.length := by (first | omega | (dsimp only at *; omega) | (simp at *; omega))
    obtain ⟨bo, oo, lo, to, fzo, hao, hmo, hxo⟩ := (hC.sl).at hlto
    obtain ⟨xo, hko⟩ : ∃ qq_, l[p.length]? = some qq_ := ⟨_, List.getElem?_eq_getElem hlto⟩
    have hx : l[p.length]? = some xo := hko
    obtain ⟨⟨q1, q2, q3⟩, ⟨q4, q5⟩, ⟨q6, q7⟩, q8, q9⟩ := hC.sup xo (List.mem_of_getElem? hx)
    refine xr_op rfl rfl (xv_ia (sz := 5) (j := p.length) sl22 ty28 rfl (by rw [hao]; rfl) rfl (by (first | assumption | with_reducible exact Int.toNat_natCast _ | with_reducible rfl | rfl)) (by (first | omega | (dsimp only at *; omega) | (simp at *; omega))) (by (first | omega | (dsimp only at *; omega) | (simp at *; omega))) ?_)
    refine xr_op rfl rfl (xv_loadA ty28 rfl rfl (by ((repeat first|exact z_0|assumption|refine z_1 ?_|(refine z_l ?_;(repeat first|exact z_0|assumption|refine z_1 ?_);done)|refine z_r ?_);done)) (hxo (p.length) xo hko) rfl ?_)
    refine xr_op rfl rfl (xv_alloc ty28 (fun b19 hb19 => ?_))
    refine xr_op rfl rfl (xv_s ty28 rfl rfl (by (first|(apply u_3;(repeat first|exact u_0|assumption|apply u_1|apply u_2);done)|((repeat first|exact u_0|assumption|apply u_1|apply u_2);done)|(apply u_3;apply u_3;(repeat first|exact u_0|assumption|apply u_1|apply u_2);done)|((repeat first|exact u_0|assumption|apply u_3|apply u_1);done))) (by ((try apply evl_some rfl);(repeat (first|exact (rfl : _ = [])|apply evl_cons rfl (by (first|exact v_1|exact v_2|exact v_3|exact v_4|exact v_5|exact v_6|exact v_7|exact v_8|exact v_9|exact rfl))|exact rfl)))) (by rfl) (by rfl) (by rfl) (by ((try apply evl_some rfl);(repeat (first|exact (rfl : _ = [])|apply evl_cons rfl (by (first|exact v_1|exact v_2|exact v_3|exact v_4|exact v_5|exact v_6|exact v_7|exact v_8|exact v_9|exact rfl))|exact rfl)))) ?_)
    refine xr_end rfl ?_
    refine th_n ?_
    refine xc_seq ?_
    refine xc_label ?_
    refine th_n ?_
    refine xc_seq (xc_region ?_)
    refine xr_op rfl rfl (xv_faddr fl28_2 rfl ?_)
    refine xr_op rfl rfl (xv_load1 ty3 rfl rfl (by ((repeat first|exact z_0|assumption|refine z_1 ?_|(refine z_l ?_;(repeat first|exact z_0|assumption|refine z_1 ?_);done)|refine z_r ?_);done)) (by rfl) ?_)
    refine xr_op rfl rfl (xv_add rfl rfl (wrap_i64 (by (first | omega | (dsimp only at *; omega) | (simp at *; omega))) (by (first | omega | (dsimp only at *; omega) | (simp at *; omega)))) ?_)
    refine xr_op rfl rfl (xv_move rfl ?_)
    refine xr_end rfl ?_
    refine th_n ?_
    refine xc_block ?_
    refine xc_loop (σ := Nat × Vec × Vec) (fun z => (z.1 : Int) ≤ xo.most + 1 ∧ repB (stepsF l q b p z.1) z.2.1 ∧ z.2.2.ok 1 p.length (p.flatMap eI)) (fun z => (((((((((((((((((emp.put (some 0) (I p.length)).put (some 1) (I (sumZ (·.volume) l p))).put (some 2) (I (sumZ (·.heat.lo) l p))).put (some 3) (I (sumZ (·.heat.hi) l p))).put (some 4) (I (costM l p))).put (some 5) (.pointer (some ⟨b4, 0, none⟩))).put (some 6) (.pointer (some ⟨b5, 0, none⟩))).put (some 7) (.pointer (some ⟨b6, 0, none⟩))).put (some 8) (.pointer (some ⟨b8, 0, none⟩))).put (some 9) (.pointer (some ⟨b9, 0, none⟩))).put (some 10) (.pointer (some ⟨b14, 0, none⟩))).put (some 11) (.pointer (some ⟨b7, 0, none⟩))).put (some 12) (.pointer (some ⟨b11, 0, none⟩))).put (some 13) (.pointer (some ⟨b15, 0, none⟩))).put (some 19) (.pointer (some ⟨b19, 0, none⟩))).put (some 56) (I (xo.most + 1))).put (some 57) (I z.1))) (fun z => ((b19, .cells ⟨eSup xo⟩ 28) :: ((b8, .cells ⟨[z.2.1.val (bmB (stepsF l q b p z.1)).length]⟩ 29) :: (b9, .cells ⟨[I (bcB (stepsF l q b p z.1))]⟩ 3) :: (b14, .cells ⟨[z.2.2.val p.length]⟩ 29) :: (z.2.1.hp 3 ((bmB (stepsF l q b p z.1)).flatMap eI) ++ (z.2.2.hp 3 (p.flatMap eI) ++ C))))) (fun z => (xo.most + 1).toNat - z.1) ((0, P, W) : Nat × Vec × Vec) ⟨by dsimp only; omega, hP, hW⟩ (le_put (le_put (le_put (le_put (le_put (le_put (le_put (le_put (le_put (le_put (le_put (le_put (le_put (le_put (le_put (le_put (le_put (le_emp _) rfl) rfl) rfl) rfl) rfl) rfl) rfl) rfl) rfl) rfl) rfl) rfl) rfl) rfl) rfl) rfl) rfl) (by (first|((repeat first|exact s_0|exact s_1|exact s_3|refine s_4 ?_|refine s_5 ?_|refine s_6 ?_|refine s_7 ?_);done)|((repeat first|exact s_0|exact s_1|exact s_3|refine s_4 ?_|refine s_5 ?_|refine s_6 ?_|refine s_8 ?_);done))) ?_
    rintro ⟨n, P, W⟩ ⟨hn, hP, hW⟩
    dsimp only at hn hP hW
    refine xc_seq (xc_region ?_)
    refine xr_op rfl rfl (xv_lss2 rfl rfl (fun q7 => ?_) (fun q7 => ?_))
    · refine xr_end rfl ?_
      refine th_n ?_
      refine xc_seq ?_
      refine xc_true rfl ?_
      refine xc_skip ?_
      refine th_n ?_
      refine xc_seq ?_
      refine xc_block ?_
      refine xc_seq (xc_region ?_)
      refine xr_op rfl rfl (xv_move rfl ?_)
      refine xr_op rfl rfl (xv_assign rfl ?_)
      refine xr_end rfl ?_
      refine th_n ?_
      refine xc_seq (xc_region ?_)
      obtain ⟨wv0, wv1⟩ := mulx (n := (n : Int)) (y := xo.volume) (B := 1) (by omega) (by (first | omega | (dsimp only at *; omega) | (simp at *; omega))) q4 q5
      obtain ⟨wl0, wl1⟩ := mulx (n := (n : Int)) (y := xo.heat.lo) (B := 10000) (by omega) (by (first | omega | (dsimp only at *; omega) | (simp at *; omega))) (by omega) (by omega)
      obtain ⟨wh0, wh1⟩ := mulx (n := (n : Int)) (y := xo.heat.hi) (B := 10000) (by omega) (by (first | omega | (dsimp only at *; omega) | (simp at *; omega))) (by omega) (by omega)
      obtain ⟨wp0, wp1⟩ := mulx (n := (n : Int)) (y := xo.pay) (B := 1000000) (by omega) (by (first | omega | (dsimp only at *; omega) | (simp at *; omega))) q8 q9
      refine xr_op rfl rfl (xv_move rfl ?_)
      refine xr_op rfl rfl (xv_move rfl ?_)
      refine xr_op rfl rfl (xv_faddr fl28_1 rfl ?_)
      refine xr_op rfl rfl (xv_load1 ty3 rfl rfl (by ((repeat first|exact z_0|assumption|refine z_1 ?_|(refine z_l ?_;(repeat first|exact z_0|assumption|refine z_1 ?_);done)|refine z_r ?_);done)) (by rfl) ?_)
      refine xr_op rfl rfl (xv_mul rfl rfl (wrap_i64 (by (first | omega | (dsimp only at *; omega) | (simp at *; omega))) (by (first | omega | (dsimp only at *; omega) | (simp at *; omega)))) ?_)
      refine xr_op rfl rfl (xv_add rfl rfl (wrap_i64 (by (first | omega | (dsimp only at *; omega) | (simp at *; omega))) (by (first | omega | (dsimp only at *; omega) | (simp at *; omega)))) ?_)
      refine xr_op rfl rfl (xv_assign rfl ?_)
      refine xr_end rfl ?_
      refine th_n ?_
      refine xc_seq ?_
      refine xc_draw0 [(0, .S), (1, .S), (2, .S), (3, .S), (4, .R), (5, .S), (6, .S), (7, .S), (8, .S), (9, .S), (10, .S), (11, .R), (12, .S), (13, .S), (14, .S), (15, .S)] mixed (by kernel_rfl) ?_
      refine js_S rfl rfl (.inl rfl) (xv_move rfl ⟨rfl, rfl⟩) ?_
      refine js_S rfl rfl (.inl rfl) (xv_move rfl ⟨rfl, rfl⟩) ?_
      refine js_S rfl rfl (.inl rfl) (xv_faddr fl28_0 rfl ⟨rfl, rfl⟩) ?_
      refine js_S rfl rfl (.inl rfl) (xv_faddr fl26_1 rfl ⟨rfl, rfl⟩) ?_
      refine js_R0 rfl rfl (.inl rfl) (xv_load1 ty3 rfl rfl (by ((repeat first|exact z_0|assumption|refine z_1 ?_|(refine z_l ?_;(repeat first|exact z_0|assumption|refine z_1 ?_);done)|refine z_r ?_);done)) (by rfl) ⟨rfl, rfl⟩) ?_
      refine js_S rfl rfl (.inl rfl) (xv_mul rfl rfl (wrap_i64 (by (first | omega | (dsimp only at *; omega) | (simp at *; omega))) (by (first | omega | (dsimp only at *; omega) | (simp at *; omega)))) ⟨rfl, rfl⟩) ?_
      refine js_S rfl rfl (.inl rfl) (xv_add rfl rfl (wrap_i64 (by (first | omega | (dsimp only at *; omega) | (simp at *; omega))) (by (first | omega | (dsimp only at *; omega) | (simp at *; omega)))) ⟨rfl, rfl⟩) ?_
      refine js_S rfl rfl (.inl rfl) (xv_move rfl ⟨rfl, rfl⟩) ?_
      refine js_S rfl rfl (.inl rfl) (xv_move rfl ⟨rfl, rfl⟩) ?_
      refine js_S rfl rfl (.inl rfl) (xv_faddr fl28_0 rfl ⟨rfl, rfl⟩) ?_
      refine js_S rfl rfl (.inl rfl) (xv_faddr fl26_0 rfl ⟨rfl, rfl⟩) ?_
      refine js_R0 rfl rfl (.inl rfl) (xv_load1 ty3 rfl rfl (by ((repeat first|exact z_0|assumption|refine z_1 ?_|(refine z_l ?_;(repeat first|exact z_0|assumption|refine z_1 ?_);done)|refine z_r ?_);done)) (by rfl) ⟨rfl, rfl⟩) ?_
      refine js_S rfl rfl (.inl rfl) (xv_mul rfl rfl (wrap_i64 (by (first | omega | (dsimp only at *; omega) | (simp at *; omega))) (by (first | omega | (dsimp only at *; omega) | (simp at *; omega)))) ⟨rfl, rfl⟩) ?_
      refine js_S rfl rfl (.inl rfl) (xv_add rfl rfl (wrap_i64 (by (first | omega | (dsimp only at *; omega) | (simp at *; omega))) (by (first | omega | (dsimp only at *; omega) | (simp at *; omega)))) ⟨rfl, rfl⟩) ?_
      refine js_S rfl rfl (.inl rfl) (xv_assign rfl ⟨rfl, rfl⟩) ?_
      refine js_S rfl rfl (.inl rfl) (xv_assign rfl ⟨rfl, rfl⟩) ?_
      refine j_end0 ?_
      refine th_n ?_
      refine xc_seq ?_
      refine xc_block ?_
      refine xc_seq (xc_region ?_)
      rcases rep_cases hP with ⟨hbn, rfl⟩ | ⟨bm, bc, bb9, cap9, sp9, hbs, rfl, hpok⟩
      · refine xr_op rfl rfl (xv_move rfl ?_)
        refine xr_op rfl rfl (xv_load1 ty3 rfl rfl (by ((repeat first|exact z_0|assumption|refine z_1 ?_|(refine z_l ?_;(repeat first|exact z_0|assumption|refine z_1 ?_);done)|refine z_r ?_);done)) (by rfl) ?_)
        refine xr_op rfl rfl (xv_gtr2 rfl rfl (fun q8 => ?_) (fun q8 => ?_))
        · refine xr_op rfl rfl (xv_move rfl ?_)
          refine xr_no rfl rfl rfl rfl ?_
          refine xr_no rfl rfl rfl rfl ?_
          refine xr_no rfl rfl rfl rfl ?_
          refine xr_no rfl rfl rfl rfl ?_
          refine xr_no rfl rfl rfl rfl ?_
          refine xr_op rfl rfl (xv_pick rfl rfl ?_)
          refine xr_op rfl rfl (xv_move rfl ?_)
          refine xr_no rfl rfl rfl rfl ?_
          refine xr_no rfl rfl rfl rfl ?_
          refine xr_no rfl rfl rfl rfl ?_
          refine xr_nu rfl rfl rfl ?_
          refine xr_nu rfl rfl rfl ?_
          refine xr_nu rfl rfl rfl ?_
          refine xr_nu rfl rfl rfl ?_
          refine xr_nu rfl rfl rfl ?_
          refine xr_nu rfl rfl rfl ?_
          refine xr_nu rfl rfl rfl ?_
          refine xr_nu rfl rfl rfl ?_
          refine xr_no rfl rfl rfl rfl ?_
          refine xr_op rfl rfl (xv_pick rfl rfl ?_)
          refine xr_op rfl rfl (xv_assign rfl ?_)
          refine xr_end rfl ?_
          refine th_n ?_
          refine xc_true rfl ?_
          refine xc_exit ?_
          refine bk_other rfl ?_
          refine th_x ?_
          refine bk_other rfl ?_
          refine th_x ?_
          refine th_x ?_
          refine bk_same ?_
          refine sc_n ?_
          refine body_end (h' := ((b8, .cells ⟨[Vec.nil.val (bmB (stepsF l q b p n)).length]⟩ 29) :: (b9, .cells ⟨[I (bcB (stepsF l q b p n))]⟩ 3) :: (b14, .cells ⟨[W.val p.length]⟩ 29) :: (Vec.nil.hp 3 ((bmB (stepsF l q b p n)).flatMap eI) ++ (W.hp 3 (p.flatMap eI) ++ C)))) rfl ro_nil (by (first|((repeat first|exact s_0|exact s_1|exact s_3|refine s_4 ?_|refine s_5 ?_|refine s_6 ?_|refine s_7 ?_);done)|((repeat first|exact s_0|exact s_1|exact s_3|refine s_4 ?_|refine s_5 ?_|refine s_6 ?_|refine s_8 ?_);done))) ?_
          first | (rw [take_leaf (by (first | omega | (dsimp only at *; omega) | (simp at *; omega))), leaf_upd hhi, if_pos ⟨⟨by (first | omega | (dsimp only at *; omega) | (simp at *; omega)), by (first | omega | (dsimp only at *; omega) | (simp at *; omega))⟩, hless⟩] at H; exact H _ _ ⟨Vec.at_pos hP2 (by omega), hP2⟩ hW) | (rw [take_leaf (by (first | omega | (dsimp only at *; omega) | (simp at *; omega))), leaf_upd hhi, if_neg (fun hq9 => by have h9 := hq9.1.1; have h8 := hq9.1.2; omega)] at H; exact H _ _ hP hW) | (rw [take_leaf (by (first | omega | (dsimp only at *; omega) | (simp at *; omega))), leaf_upd hhi, if_neg (fun hq9 => by have h9 := hq9.2; rw [hbs] at h9; have h8 : costM l p < bc := h9; omega)] at H; exact H _ _ hP hW) | (rw [take_steps hx, show (xo.most + 1).toNat = n by (first | omega | (dsimp only at *; omega) | (simp at *; omega))] at H; exact H _ _ hP hW) | (rcases break_none (n := n) (b := b) (q := q) hC.sup hin hx (by first | exact .inl (by (first | omega | (dsimp only at *; omega) | (simp at *; omega))) | exact .inr (.inl (by (first | omega | (dsimp only at *; omega) | (simp at *; omega)))) | exact .inr (.inr ⟨bm, bc, hbs, by (first | omega | (dsimp only at *; omega) | (simp at *; omega))⟩)) with hbk | hbk; (rw [take_steps hx, hbk] at H; exact H _ _ hP hW); (exfalso; (first | omega | (dsimp only at *; omega) | (simp at *; omega))))
        · refine xr_op rfl rfl (xv_move rfl ?_)
          refine xr_gd rfl rfl rfl (xv_move rfl ?_)
          refine xr_gd rfl rfl rfl (xv_load1 ty3 rfl rfl (by ((repeat first|exact z_0|assumption|refine z_1 ?_|(refine z_l ?_;(repeat first|exact z_0|assumption|refine z_1 ?_);done)|refine z_r ?_);done)) (by rfl) ?_)
          refine xr_gd rfl rfl rfl (xv_load1 ty3 rfl rfl (by ((repeat first|exact z_0|assumption|refine z_1 ?_|(refine z_l ?_;(repeat first|exact z_0|assumption|refine z_1 ?_);done)|refine z_r ?_);done)) (by rfl) ?_)
          refine xr_gd rfl rfl rfl (xv_mul rfl rfl (wrap_i64 (by (first | omega | (dsimp only at *; omega) | (simp at *; omega))) (by (first | omega | (dsimp only at *; omega) | (simp at *; omega)))) ?_)
          refine xr_gd rfl rfl rfl (xv_gtr2 rfl rfl (fun q9 => ?_) (fun q9 => ?_))
          · refine xr_op rfl rfl (xv_pick rfl rfl ?_)
            refine xr_op rfl rfl (xv_move rfl ?_)
            refine xr_no rfl rfl rfl rfl ?_
            refine xr_no rfl rfl rfl rfl ?_
            refine xr_no rfl rfl rfl rfl ?_
            refine xr_nu rfl rfl rfl ?_
            refine xr_nu rfl rfl rfl ?_
            refine xr_nu rfl rfl rfl ?_
            refine xr_nu rfl rfl rfl ?_
            refine xr_nu rfl rfl rfl ?_
            refine xr_nu rfl rfl rfl ?_
            refine xr_nu rfl rfl rfl ?_
            refine xr_nu rfl rfl rfl ?_
            refine xr_no rfl rfl rfl rfl ?_
            refine xr_op rfl rfl (xv_pick rfl rfl ?_)
            refine xr_op rfl rfl (xv_assign rfl ?_)
            refine xr_end rfl ?_
            refine th_n ?_
            refine xc_true rfl ?_
            refine xc_exit ?_
            refine bk_other rfl ?_
            refine th_x ?_
            refine bk_other rfl ?_
            refine th_x ?_
            refine th_x ?_
            refine bk_same ?_
            refine sc_n ?_
            refine body_end (h' := ((b8, .cells ⟨[Vec.nil.val (bmB (stepsF l q b p n)).length]⟩ 29) :: (b9, .cells ⟨[I (bcB (stepsF l q b p n))]⟩ 3) :: (b14, .cells ⟨[W.val p.length]⟩ 29) :: (Vec.nil.hp 3 ((bmB (stepsF l q b p n)).flatMap eI) ++ (W.hp 3 (p.flatMap eI) ++ C)))) rfl ro_nil (by (first|((repeat first|exact s_0|exact s_1|exact s_3|refine s_4 ?_|refine s_5 ?_|refine s_6 ?_|refine s_7 ?_);done)|((repeat first|exact s_0|exact s_1|exact s_3|refine s_4 ?_|refine s_5 ?_|refine s_6 ?_|refine s_8 ?_);done))) ?_
            first | (rw [take_leaf (by (first | omega | (dsimp only at *; omega) | (simp at *; omega))), leaf_upd hhi, if_pos ⟨⟨by (first | omega | (dsimp only at *; omega) | (simp at *; omega)), by (first | omega | (dsimp only at *; omega) | (simp at *; omega))⟩, hless⟩] at H; exact H _ _ ⟨Vec.at_pos hP2 (by omega), hP2⟩ hW) | (rw [take_leaf (by (first | omega | (dsimp only at *; omega) | (simp at *; omega))), leaf_upd hhi, if_neg (fun hq9 => by have h9 := hq9.1.1; have h8 := hq9.1.2; omega)] at H; exact H _ _ hP hW) | (rw [take_leaf (by (first | omega | (dsimp only at *; omega) | (simp at *; omega))), leaf_upd hhi, if_neg (fun hq9 => by have h9 := hq9.2; rw [hbs] at h9; have h8 : costM l p < bc := h9; omega)] at H; exact H _ _ hP hW) | (rw [take_steps hx, show (xo.most + 1).toNat = n by (first | omega | (dsimp only at *; omega) | (simp at *; omega))] at H; exact H _ _ hP hW) | (rcases break_none (n := n) (b := b) (q := q) hC.sup hin hx (by first | exact .inl (by (first | omega | (dsimp only at *; omega) | (simp at *; omega))) | exact .inr (.inl (by (first | omega | (dsimp only at *; omega) | (simp at *; omega)))) | exact .inr (.inr ⟨bm, bc, hbs, by (first | omega | (dsimp only at *; omega) | (simp at *; omega))⟩)) with hbk | hbk; (rw [take_steps hx, hbk] at H; exact H _ _ hP hW); (exfalso; (first | omega | (dsimp only at *; omega) | (simp at *; omega))))
          · refine xr_op rfl rfl (xv_pick rfl rfl ?_)
            refine xr_op rfl rfl (xv_move rfl ?_)
            refine xr_gd rfl rfl rfl (xv_load1 ty29 rfl rfl (by ((repeat first|exact z_0|assumption|refine z_1 ?_|(refine z_l ?_;(repeat first|exact z_0|assumption|refine z_1 ?_);done)|refine z_r ?_);done)) (by rfl) ?_)
            refine xr_gd rfl rfl rfl (xv_neNilS (b := false) sl29 rfl rfl rfl ?_)
            refine xr_gd rfl rfl rfl (xv_move rfl ?_)
            refine xr_no rfl rfl rfl rfl ?_
            refine xr_no rfl rfl rfl rfl ?_
            refine xr_no rfl rfl rfl rfl ?_
            refine xr_no rfl rfl rfl rfl ?_
            refine xr_no rfl rfl rfl rfl ?_
            refine xr_no rfl rfl rfl rfl ?_
            refine xr_no rfl rfl rfl rfl ?_
            refine xr_no rfl rfl rfl rfl ?_
            refine xr_gd rfl rfl rfl (xv_pick rfl rfl ?_)
            refine xr_op rfl rfl (xv_pick rfl rfl ?_)
            refine xr_op rfl rfl (xv_assign rfl ?_)
            refine xr_end rfl ?_
            refine th_n ?_
            refine xc_false rfl ?_
            refine xc_seq ?_
            refine xc_draw0 [(0, .S), (1, .S), (2, .S), (3, .S), (4, .S), (5, .R), (6, .S), (7, .R), (8, .O), (9, .S), (10, .S), (11, .S), (12, .S), (13, .S), (14, .S), (15, .R), (16, .S), (17, .R), (18, .R), (19, .S), (20, .O), (21, .S), (22, .S)] mixed (by kernel_rfl) ?_
            obtain ⟨a1, a2, a3, a4, a5⟩ := (hC.sup.drop (p.length + 1)).f
            have rb1 := restS_bd (f := (·.volume)) (B := 1) (by omega) a1 a5
            have rb2 := restS_bd (f := (·.heat.lo)) (B := 10000) (by omega) a2 a5
            rw [List.length_drop] at rb1 rb2
            obtain ⟨lg1, lg2⟩ := left_get (l := l) (k := 0) (j := p.length + 1) (Nat.zero_le _) (by omega)
            refine js_S rfl rfl (.inl rfl) (xv_move rfl ⟨rfl, rfl⟩) ?_
            refine js_S rfl rfl (.inl rfl) (xv_move rfl ⟨rfl, rfl⟩) ?_
            refine js_S rfl rfl (.inl rfl) (xv_add rfl rfl (wrap_i64 (by (first | omega | (dsimp only at *; omega) | (simp at *; omega))) (by (first | omega | (dsimp only at *; omega) | (simp at *; omega)))) ⟨rfl, rfl⟩) ?_
            refine js_S rfl rfl (.inl rfl) (xv_iaA (sz := 2) (j := p.length + 1) Try.underlying69 ty68 rfl rfl rfl (by (first | omega | (dsimp only at *; omega) | (simp at *; omega))) (by (first | omega | (dsimp only at *; omega) | (simp at *; omega))) (by (first | omega | (dsimp only at *; omega) | (simp at *; omega))) ⟨rfl, rfl⟩) ?_
            refine js_S rfl rfl (.inl rfl) (xv_faddr fl68_0 rfl ⟨rfl, rfl⟩) ?_
            refine js_R0 rfl rfl (.inl rfl) (xv_load1 ty3 rfl rfl (by ((repeat first|exact z_0|assumption|refine z_1 ?_|(refine z_l ?_;(repeat first|exact z_0|assumption|refine z_1 ?_);done)|refine z_r ?_);done)) lg1 ⟨rfl, rfl⟩) ?_
            refine js_S rfl rfl (.inl rfl) (xv_add rfl rfl (wrap_i64 (by (first | omega | (dsimp only at *; omega) | (simp at *; omega))) (by (first | omega | (dsimp only at *; omega) | (simp at *; omega)))) ⟨rfl, rfl⟩) ?_
            refine js_R0 rfl rfl (.inl rfl) (xv_load1 ty3 rfl rfl (by ((repeat first|exact z_0|assumption|refine z_1 ?_|(refine z_l ?_;(repeat first|exact z_0|assumption|refine z_1 ?_);done)|refine z_r ?_);done)) (by rfl) ⟨rfl, rfl⟩) ?_
            refine js_O0 rfl rfl (.inl rfl) (xv_lss2 rfl rfl (fun hq => ?_) (fun hq => ?_))
            · refine js_S rfl rfl (.inl rfl) (xv_move rfl ⟨rfl, rfl⟩) ?_
              refine js_Ss rfl rfl ⟨_, _, _, rfl, rfl, rfl⟩ ?_
              refine js_Ss rfl rfl ⟨_, _, _, rfl, rfl, rfl⟩ ?_
              refine js_Ss rfl rfl ⟨_, _, _, rfl, rfl, rfl⟩ ?_
              refine js_Ss rfl rfl ⟨_, _, _, rfl, rfl, rfl⟩ ?_
              refine js_Ss rfl rfl ⟨_, _, _, rfl, rfl, rfl⟩ ?_
              refine js_Rs rfl rfl ⟨_, _, _, rfl, rfl, rfl⟩ ?_
              refine js_Ss rfl rfl ⟨_, _, _, rfl, rfl, rfl⟩ ?_
              refine js_Rs rfl rfl ⟨_, _, _, rfl, rfl, rfl⟩ ?_
              refine js_Rs rfl rfl ⟨_, _, _, rfl, rfl, rfl⟩ ?_
              refine js_Ss rfl rfl ⟨_, _, _, rfl, rfl, rfl⟩ ?_
              refine js_Os rfl rfl ⟨_, _, _, rfl, rfl, rfl⟩ ?_
              refine js_S rfl rfl (.inl rfl) (xv_pick rfl rfl ⟨rfl, rfl⟩) ?_
              refine js_S rfl rfl (.inl rfl) (xv_assign rfl ⟨rfl, rfl⟩) ?_
              refine j_end0 ?_
              refine th_n ?_
              refine xc_true rfl ?_
              refine xc_exit ?_
              refine bk_other rfl ?_
              refine th_x ?_
              refine bk_same ?_
              refine th_n ?_
              refine xc_region ?_
              refine xr_op rfl rfl (xv_add rfl rfl (wrap_i64 (by (first | omega | (dsimp only at *; omega) | (simp at *; omega))) (by (first | omega | (dsimp only at *; omega) | (simp at *; omega)))) ?_)
              refine xr_op rfl rfl (xv_move rfl ?_)
              refine xr_end rfl ?_
              have hst : stepsF l q b p (n + 1) = stepsF l q b p n := by rw [steps_succ]; exact skip_none hC.sup hin hx (by (first | omega | (dsimp only at *; omega) | (simp at *; omega))) (by first | exact .inl (by (first | omega | (dsimp only at *; omega) | (simp at *; omega))) | exact .inr (by (first | omega | (dsimp only at *; omega) | (simp at *; omega))))
              exact rnd ((n + 1, Vec.nil, W) : Nat × Vec × Vec) ⟨by (first | omega | (dsimp only at *; omega) | (simp at *; omega)), by dsimp only; rw [hst]; exact hP, hW⟩ (by (first | omega | (dsimp only at *; omega) | (simp at *; omega))) (le_put (le_put (le_put (le_put (le_put (le_put (le_put (le_put (le_put (le_put (le_put (le_put (le_put (le_put (le_put (le_put (le_put (le_emp _) rfl) rfl) rfl) rfl) rfl) rfl) rfl) rfl) rfl) rfl) rfl) rfl) rfl) rfl) rfl) rfl) rfl) (by dsimp only; rw [hst]; (first|((repeat first|exact s_0|exact s_1|exact s_3|refine s_4 ?_|refine s_5 ?_|refine s_6 ?_|refine s_7 ?_);done)|((repeat first|exact s_0|exact s_1|exact s_3|refine s_4 ?_|refine s_5 ?_|refine s_6 ?_|refine s_8 ?_);done)))
            · refine js_S rfl rfl (.inl rfl) (xv_move rfl ⟨rfl, rfl⟩) ?_
              refine js_S rfl rfl (.inr ⟨_, _, rfl, rfl⟩) (xv_move rfl ⟨rfl, rfl⟩) ?_
              refine js_S rfl rfl (.inr ⟨_, _, rfl, rfl⟩) (xv_move rfl ⟨rfl, rfl⟩) ?_
              refine js_S rfl rfl (.inr ⟨_, _, rfl, rfl⟩) (xv_add rfl rfl (wrap_i64 (by (first | omega | (dsimp only at *; omega) | (simp at *; omega))) (by (first | omega | (dsimp only at *; omega) | (simp at *; omega)))) ⟨rfl, rfl⟩) ?_
              refine js_S rfl rfl (.inr ⟨_, _, rfl, rfl⟩) (xv_iaA (sz := 2) (j := p.length + 1) Try.underlying69 ty68 rfl rfl rfl (by (first | omega | (dsimp only at *; omega) | (simp at *; omega))) (by (first | omega | (dsimp only at *; omega) | (simp at *; omega))) (by (first | omega | (dsimp only at *; omega) | (simp at *; omega))) ⟨rfl, rfl⟩) ?_
              refine js_S rfl rfl (.inr ⟨_, _, rfl, rfl⟩) (xv_faddr fl68_1 rfl ⟨rfl, rfl⟩) ?_
              refine js_R0 rfl rfl (.inr ⟨_, _, rfl, rfl⟩) (xv_load1 ty3 rfl rfl (by ((repeat first|exact z_0|assumption|refine z_1 ?_|(refine z_l ?_;(repeat first|exact z_0|assumption|refine z_1 ?_);done)|refine z_r ?_);done)) lg2 ⟨rfl, rfl⟩) ?_
              refine js_S rfl rfl (.inr ⟨_, _, rfl, rfl⟩) (xv_add rfl rfl (wrap_i64 (by (first | omega | (dsimp only at *; omega) | (simp at *; omega))) (by (first | omega | (dsimp only at *; omega) | (simp at *; omega)))) ⟨rfl, rfl⟩) ?_
              refine js_R0 rfl rfl (.inr ⟨_, _, rfl, rfl⟩) (xv_load1 ty3 rfl rfl (by ((repeat first|exact z_0|assumption|refine z_1 ?_|(refine z_l ?_;(repeat first|exact z_0|assumption|refine z_1 ?_);done)|refine z_r ?_);done)) (by rfl) ⟨rfl, rfl⟩) ?_
              refine js_R0 rfl rfl (.inr ⟨_, _, rfl, rfl⟩) (xv_load1 ty3 rfl rfl (by ((repeat first|exact z_0|assumption|refine z_1 ?_|(refine z_l ?_;(repeat first|exact z_0|assumption|refine z_1 ?_);done)|refine z_r ?_);done)) (by rfl) ⟨rfl, rfl⟩) ?_
              refine js_S rfl rfl (.inr ⟨_, _, rfl, rfl⟩) (xv_mul rfl rfl (wrap_i64 (by (first | omega | (dsimp only at *; omega) | (simp at *; omega))) (by (first | omega | (dsimp only at *; omega) | (simp at *; omega)))) ⟨rfl, rfl⟩) ?_
              refine js_O0 rfl rfl (.inr ⟨_, _, rfl, rfl⟩) (xv_lss2 rfl rfl (fun hq => ?_) (fun hq => ?_))
              · refine js_S rfl rfl (.inl rfl) (xv_pick rfl rfl ⟨rfl, rfl⟩) ?_
                refine js_S rfl rfl (.inl rfl) (xv_assign rfl ⟨rfl, rfl⟩) ?_
                refine j_end0 ?_
                refine th_n ?_
                refine xc_true rfl ?_
                refine xc_exit ?_
                refine bk_other rfl ?_
                refine th_x ?_
                refine bk_same ?_
                refine th_n ?_
                refine xc_region ?_
                refine xr_op rfl rfl (xv_add rfl rfl (wrap_i64 (by (first | omega | (dsimp only at *; omega) | (simp at *; omega))) (by (first | omega | (dsimp only at *; omega) | (simp at *; omega)))) ?_)
                refine xr_op rfl rfl (xv_move rfl ?_)
                refine xr_end rfl ?_
                have hst : stepsF l q b p (n + 1) = stepsF l q b p n := by rw [steps_succ]; exact skip_none hC.sup hin hx (by (first | omega | (dsimp only at *; omega) | (simp at *; omega))) (by first | exact .inl (by (first | omega | (dsimp only at *; omega) | (simp at *; omega))) | exact .inr (by (first | omega | (dsimp only at *; omega) | (simp at *; omega))))
                exact rnd ((n + 1, Vec.nil, W) : Nat × Vec × Vec) ⟨by (first | omega | (dsimp only at *; omega) | (simp at *; omega)), by dsimp only; rw [hst]; exact hP, hW⟩ (by (first | omega | (dsimp only at *; omega) | (simp at *; omega))) (le_put (le_put (le_put (le_put (le_put (le_put (le_put (le_put (le_put (le_put (le_put (le_put (le_put (le_put (le_put (le_put (le_put (le_emp _) rfl) rfl) rfl) rfl) rfl) rfl) rfl) rfl) rfl) rfl) rfl) rfl) rfl) rfl) rfl) rfl) rfl) (by dsimp only; rw [hst]; (first|((repeat first|exact s_0|exact s_1|exact s_3|refine s_4 ?_|refine s_5 ?_|refine s_6 ?_|refine s_7 ?_);done)|((repeat first|exact s_0|exact s_1|exact s_3|refine s_4 ?_|refine s_5 ?_|refine s_6 ?_|refine s_8 ?_);done)))
              · refine js_S rfl rfl (.inl rfl) (xv_pick rfl rfl ⟨rfl, rfl⟩) ?_
                refine js_S rfl rfl (.inl rfl) (xv_assign rfl ⟨rfl, rfl⟩) ?_
                refine j_end0 ?_
                refine th_n ?_
                refine xc_false rfl ?_
                refine xc_skip ?_
                refine bk_n ?_
                refine th_n ?_
                refine xc_seq (xc_region ?_)
                refine xr_op rfl rfl (xv_load1 ty29 rfl rfl (by ((repeat first|exact z_0|assumption|refine z_1 ?_|(refine z_l ?_;(repeat first|exact z_0|assumption|refine z_1 ?_);done)|refine z_r ?_);done)) (by rfl) ?_)
                refine xr_op rfl rfl (xv_move rfl ?_)
                refine xr_op rfl rfl ((al_buildSlice sl29 ty3 rfl rfl rfl rfl rfl (by ((try apply evl_some rfl);(repeat (first|exact (rfl : _ = [])|apply evl_cons rfl (by (first|exact v_1|exact v_2|exact v_3|exact v_4|exact v_5|exact v_6|exact v_7|exact v_8|exact v_9|exact rfl))|exact rfl))))).xv (fun b130 hb130 => ?_))
                refine xr_op rfl rfl (xv_append (V := W) (n := p.length) (xs := p.flatMap eI) sl29 ty3 rfl rfl rfl hW (.there (.there (.there (.there (.there (.skip .here)))))) (by ((repeat first|exact z_0|assumption|refine z_1 ?_|(refine z_l ?_;(repeat first|exact z_0|assumption|refine z_1 ?_);done)|refine z_r ?_);done)) (by ((try apply evl_some rfl);(repeat (first|exact (rfl : _ = [])|apply evl_cons rfl (by (first|exact v_1|exact v_2|exact v_3|exact v_4|exact v_5|exact v_6|exact v_7|exact v_8|exact v_9|exact rfl))|exact rfl)))) rfl rfl (by (first | omega | (dsimp only at *; omega) | (simp at *; omega))) (by simp only []; (first | omega | (dsimp only at *; omega) | (simp at *; omega))) (by (first | omega | (dsimp only at *; omega) | (simp at *; omega))) (fun W2 hW2 => ?_))
                refine xr_op rfl rfl (xv_s1 ty29 rfl rfl rfl (by (first|(apply u_3;(repeat first|exact u_0|assumption|apply u_1|apply u_2);done)|((repeat first|exact u_0|assumption|apply u_1|apply u_2);done)|(apply u_3;apply u_3;(repeat first|exact u_0|assumption|apply u_1|apply u_2);done)|((repeat first|exact u_0|assumption|apply u_3|apply u_1);done))) (by (first | rfl | exact Vec.one _ _)) (by (first | decide | exact Nat.le_of_ble_eq_true rfl | (simp only [List.length_cons, List.length_nil]; omega) | (simp; done))) (by ((try apply evl_some rfl);(repeat (first|exact (rfl : _ = [])|apply evl_cons rfl (by (first|exact v_1|exact v_2|exact v_3|exact v_4|exact v_5|exact v_6|exact v_7|exact v_8|exact v_9|exact rfl))|exact rfl)))) ?_)
                refine xr_end rfl ?_
                refine th_n ?_
                refine xc_seq (xc_region ?_)
                refine XR.perm perm_w5 ?_
                rw [show W2.val (p.length + 1) = W2.val (p ++ [(n : Int)]).length from (by rw [List.length_append]; rfl), show p.flatMap eI ++ [I n] = (p ++ [(n : Int)]).flatMap eI from (by simp [eI])]
                refine xr_op rfl rfl (xv_load1 ty73 rfl rfl (by ((repeat first|exact z_0|assumption|refine z_1 ?_|(refine z_l ?_;(repeat first|exact z_0|assumption|refine z_1 ?_);done)|refine z_r ?_);done)) (by rfl) ?_)
                refine xr_op rfl rfl (xv_move rfl ?_)
                refine xr_op rfl rfl (xv_add rfl rfl (wrap_i64 (by (first | omega | (dsimp only at *; omega) | (simp at *; omega))) (by (first | omega | (dsimp only at *; omega) | (simp at *; omega)))) ?_)
                refine xr_op rfl rfl (xv_move rfl ?_)
                refine xr_op rfl rfl (xv_move rfl ?_)
                refine xr_op rfl rfl (xv_move rfl ?_)
                refine xr_op rfl rfl (xv_move rfl ?_)
                refine xr_op rfl rfl (xv_move rfl ?_)
                refine xr_op rfl rfl (xv_faddr fl28_3 rfl ?_)
                refine xr_op rfl rfl (xv_load1 ty3 rfl rfl (by ((repeat first|exact z_0|assumption|refine z_1 ?_|(refine z_l ?_;(repeat first|exact z_0|assumption|refine z_1 ?_);done)|refine z_r ?_);done)) (by rfl) ?_)
                refine xr_op rfl rfl (xv_mul rfl rfl (wrap_i64 (by (first | omega | (dsimp only at *; omega) | (simp at *; omega))) (by (first | omega | (dsimp only at *; omega) | (simp at *; omega)))) ?_)
                refine xr_op rfl rfl (xv_add rfl rfl (wrap_i64 (by (first | omega | (dsimp only at *; omega) | (simp at *; omega))) (by (first | omega | (dsimp only at *; omega) | (simp at *; omega)))) ?_)
                refine xr_op rfl rfl (xv_fn rfl rfl (afn_func (fi := []) (lb := [.pointer (some ⟨b4, 0, none⟩), .pointer (some ⟨b5, 0, none⟩), .pointer (some ⟨b6, 0, none⟩), .pointer (some ⟨b8, 0, none⟩), .pointer (some ⟨b9, 0, none⟩), .pointer (some ⟨b14, 0, none⟩), .pointer (some ⟨b7, 0, none⟩), .pointer (some ⟨b11, 0, none⟩), .pointer (some ⟨b15, 0, none⟩)]) hb37 (ACalls.framed [_, _] (ih (l.length - p.length - 1) (by omega) hC (p := p ++ [(n : Int)]) (b := stepsF l q b p n) (W := W2) (by rw [List.length_append, List.length_singleton]; omega) (hin.snoc hx (by omega) (by (first | omega | (dsimp only at *; omega) | (simp at *; omega)))) (by rw [sumZ_snoc _ hx]; (first | omega | (dsimp only at *; omega) | (simp at *; omega))) (by simp) (by rw [sumZ_snoc _ hx]) (by rw [sumZ_snoc _ hx]) (by rw [sumZ_snoc _ hx]) (by unfold costM; rw [sumZ_snoc _ hx]) hP (by simpa [eI] using hW2) (fun P3 W3 hP3 hW3 => up_ret ?_)))))
                refine xr_end rfl ?_
                refine th_n ?_
                refine xc_region ?_
                obtain ⟨bw, cw, spw, rfl⟩ := Vec.at_pos hW3 (by rw [List.length_append]; simp)
                rw [hp_at, show (p ++ [(n : Int)]).flatMap eI ++ spw = p.flatMap eI ++ (I n :: spw) by simp [eI]]
                have hW4 : (Vec.at bw cw (I n :: spw)).ok 1 p.length (p.flatMap eI) := by
                  obtain ⟨w1, w2, w3⟩ := hW3
                  rw [List.length_append, List.length_singleton] at w2
                  refine ⟨flat_lenM eI_len _, by omega, ?_⟩
                  rw [← w3]; simp [eI]
                have hlp : ((p ++ [(n : Int)]).length : Int) = p.length + 1 := by simp
                refine xr_op rfl rfl (xv_load1 ty29 rfl rfl (by ((repeat first|exact z_0|assumption|refine z_1 ?_|(refine z_l ?_;(repeat first|exact z_0|assumption|refine z_1 ?_);done)|refine z_r ?_);done)) (by rfl) ?_)
                refine xr_op rfl rfl (xv_load1 ty29 rfl rfl (by ((repeat first|exact z_0|assumption|refine z_1 ?_|(refine z_l ?_;(repeat first|exact z_0|assumption|refine z_1 ?_);done)|refine z_r ?_);done)) (by rfl) ?_)
                refine xr_op rfl rfl (xv_len sl29 rfl ?_)
                refine xr_op rfl rfl (xv_sub rfl rfl (wrap_i64 (by (first | omega | (dsimp only at *; omega) | (simp at *; omega))) (by (first | omega | (dsimp only at *; omega) | (simp at *; omega)))) ?_)
                refine xr_op rfl rfl (xv_sliceToN (m := p.length) sl29 ty3 rfl rfl (by (first | omega | (dsimp only at *; omega) | (simp at *; omega))) (by have := hW4.2.1; (first | omega | (dsimp only at *; omega) | (simp at *; omega))) (by (first | omega | (dsimp only at *; omega) | (simp at *; omega))) ?_)
                refine xr_op rfl rfl (xv_s1 ty29 rfl rfl rfl (by (first|(apply u_3;(repeat first|exact u_0|assumption|apply u_1|apply u_2);done)|((repeat first|exact u_0|assumption|apply u_1|apply u_2);done)|(apply u_3;apply u_3;(repeat first|exact u_0|assumption|apply u_1|apply u_2);done)|((repeat first|exact u_0|assumption|apply u_3|apply u_1);done))) (by (first | rfl | exact Vec.one _ _)) (by (first | decide | exact Nat.le_of_ble_eq_true rfl | (simp only [List.length_cons, List.length_nil]; omega) | (simp; done))) (by ((try apply evl_some rfl);(repeat (first|exact (rfl : _ = [])|apply evl_cons rfl (by (first|exact v_1|exact v_2|exact v_3|exact v_4|exact v_5|exact v_6|exact v_7|exact v_8|exact v_9|exact rfl))|exact rfl)))) ?_)
                refine xr_end rfl ?_
                refine bk_n ?_
                refine th_n ?_
                refine xc_region ?_
                refine xr_op rfl rfl (xv_add rfl rfl (wrap_i64 (by (first | omega | (dsimp only at *; omega) | (simp at *; omega))) (by (first | omega | (dsimp only at *; omega) | (simp at *; omega)))) ?_)
                refine xr_op rfl rfl (xv_move rfl ?_)
                refine xr_end rfl ?_
                have hst := steps_succ l q b p n
                exact rnd ((n + 1, P3, .at bw cw (I n :: spw)) : Nat × Vec × Vec) ⟨by (first | omega | (dsimp only at *; omega) | (simp at *; omega)), by dsimp only; rw [hst]; exact hP3, hW4⟩ (by (first | omega | (dsimp only at *; omega) | (simp at *; omega))) (le_put (le_put (le_put (le_put (le_put (le_put (le_put (le_put (le_put (le_put (le_put (le_put (le_put (le_put (le_put (le_put (le_put (le_emp _) rfl) rfl) rfl) rfl) rfl) rfl) rfl) rfl) rfl) rfl) rfl) rfl) rfl) rfl) rfl) rfl) rfl) (by dsimp only; rw [hst]; (first|((repeat first|exact s_0|exact s_1|exact s_3|refine s_4 ?_|refine s_5 ?_|refine s_6 ?_|refine s_7 ?_);done)|((repeat first|exact s_0|exact s_1|exact s_3|refine s_4 ?_|refine s_5 ?_|refine s_6 ?_|refine s_8 ?_);done)))
      · refine xr_op rfl rfl (xv_move rfl ?_)
        refine xr_op rfl rfl (xv_load1 ty3 rfl rfl (by ((repeat first|exact z_0|assumption|refine z_1 ?_|(refine z_l ?_;(repeat first|exact z_0|assumption|refine z_1 ?_);done)|refine z_r ?_);done)) (by rfl) ?_)
        refine xr_op rfl rfl (xv_gtr2 rfl rfl (fun q10 => ?_) (fun q10 => ?_))
        · refine xr_op rfl rfl (xv_move rfl ?_)
          refine xr_no rfl rfl rfl rfl ?_
          refine xr_no rfl rfl rfl rfl ?_
          refine xr_no rfl rfl rfl rfl ?_
          refine xr_no rfl rfl rfl rfl ?_
          refine xr_no rfl rfl rfl rfl ?_
          refine xr_op rfl rfl (xv_pick rfl rfl ?_)
          refine xr_op rfl rfl (xv_move rfl ?_)
          refine xr_no rfl rfl rfl rfl ?_
          refine xr_no rfl rfl rfl rfl ?_
          refine xr_no rfl rfl rfl rfl ?_
          refine xr_nu rfl rfl rfl ?_
          refine xr_nu rfl rfl rfl ?_
          refine xr_nu rfl rfl rfl ?_
          refine xr_nu rfl rfl rfl ?_
          refine xr_nu rfl rfl rfl ?_
          refine xr_nu rfl rfl rfl ?_
          refine xr_nu rfl rfl rfl ?_
          refine xr_nu rfl rfl rfl ?_
          refine xr_no rfl rfl rfl rfl ?_
          refine xr_op rfl rfl (xv_pick rfl rfl ?_)
          refine xr_op rfl rfl (xv_assign rfl ?_)
          refine xr_end rfl ?_
          refine th_n ?_
          refine xc_true rfl ?_
          refine xc_exit ?_
          refine bk_other rfl ?_
          refine th_x ?_
          refine bk_other rfl ?_
          refine th_x ?_
          refine th_x ?_
          refine bk_same ?_
          refine sc_n ?_
          refine body_end (h' := ((b8, .cells ⟨[(Vec.at bb9 cap9 sp9).val (bmB (stepsF l q b p n)).length]⟩ 29) :: (b9, .cells ⟨[I (bcB (stepsF l q b p n))]⟩ 3) :: (b14, .cells ⟨[W.val p.length]⟩ 29) :: ((Vec.at bb9 cap9 sp9).hp 3 ((bmB (stepsF l q b p n)).flatMap eI) ++ (W.hp 3 (p.flatMap eI) ++ C)))) rfl ro_nil (by (first|((repeat first|exact s_0|exact s_1|exact s_3|refine s_4 ?_|refine s_5 ?_|refine s_6 ?_|refine s_7 ?_);done)|((repeat first|exact s_0|exact s_1|exact s_3|refine s_4 ?_|refine s_5 ?_|refine s_6 ?_|refine s_8 ?_);done))) ?_
          first | (rw [take_leaf (by (first | omega | (dsimp only at *; omega) | (simp at *; omega))), leaf_upd hhi, if_pos ⟨⟨by (first | omega | (dsimp only at *; omega) | (simp at *; omega)), by (first | omega | (dsimp only at *; omega) | (simp at *; omega))⟩, hless⟩] at H; exact H _ _ ⟨Vec.at_pos hP2 (by omega), hP2⟩ hW) | (rw [take_leaf (by (first | omega | (dsimp only at *; omega) | (simp at *; omega))), leaf_upd hhi, if_neg (fun hq9 => by have h9 := hq9.1.1; have h8 := hq9.1.2; omega)] at H; exact H _ _ hP hW) | (rw [take_leaf (by (first | omega | (dsimp only at *; omega) | (simp at *; omega))), leaf_upd hhi, if_neg (fun hq9 => by have h9 := hq9.2; rw [hbs] at h9; have h8 : costM l p < bc := h9; omega)] at H; exact H _ _ hP hW) | (rw [take_steps hx, show (xo.most + 1).toNat = n by (first | omega | (dsimp only at *; omega) | (simp at *; omega))] at H; exact H _ _ hP hW) | (rcases break_none (n := n) (b := b) (q := q) hC.sup hin hx (by first | exact .inl (by (first | omega | (dsimp only at *; omega) | (simp at *; omega))) | exact .inr (.inl (by (first | omega | (dsimp only at *; omega) | (simp at *; omega)))) | exact .inr (.inr ⟨bm, bc, hbs, by (first | omega | (dsimp only at *; omega) | (simp at *; omega))⟩)) with hbk | hbk; (rw [take_steps hx, hbk] at H; exact H _ _ hP hW); (exfalso; (first | omega | (dsimp only at *; omega) | (simp at *; omega))))
        · refine xr_op rfl rfl (xv_move rfl ?_)
          refine xr_gd rfl rfl rfl (xv_move rfl ?_)
          refine xr_gd rfl rfl rfl (xv_load1 ty3 rfl rfl (by ((repeat first|exact z_0|assumption|refine z_1 ?_|(refine z_l ?_;(repeat first|exact z_0|assumption|refine z_1 ?_);done)|refine z_r ?_);done)) (by rfl) ?_)
          refine xr_gd rfl rfl rfl (xv_load1 ty3 rfl rfl (by ((repeat first|exact z_0|assumption|refine z_1 ?_|(refine z_l ?_;(repeat first|exact z_0|assumption|refine z_1 ?_);done)|refine z_r ?_);done)) (by rfl) ?_)
          refine xr_gd rfl rfl rfl (xv_mul rfl rfl (wrap_i64 (by (first | omega | (dsimp only at *; omega) | (simp at *; omega))) (by (first | omega | (dsimp only at *; omega) | (simp at *; omega)))) ?_)
          refine xr_gd rfl rfl rfl (xv_gtr2 rfl rfl (fun q11 => ?_) (fun q11 => ?_))
          · refine xr_op rfl rfl (xv_pick rfl rfl ?_)
            refine xr_op rfl rfl (xv_move rfl ?_)
            refine xr_no rfl rfl rfl rfl ?_
            refine xr_no rfl rfl rfl rfl ?_
            refine xr_no rfl rfl rfl rfl ?_
            refine xr_nu rfl rfl rfl ?_
            refine xr_nu rfl rfl rfl ?_
            refine xr_nu rfl rfl rfl ?_
            refine xr_nu rfl rfl rfl ?_
            refine xr_nu rfl rfl rfl ?_
            refine xr_nu rfl rfl rfl ?_
            refine xr_nu rfl rfl rfl ?_
            refine xr_nu rfl rfl rfl ?_
            refine xr_no rfl rfl rfl rfl ?_
            refine xr_op rfl rfl (xv_pick rfl rfl ?_)
            refine xr_op rfl rfl (xv_assign rfl ?_)
            refine xr_end rfl ?_
            refine th_n ?_
            refine xc_true rfl ?_
            refine xc_exit ?_
            refine bk_other rfl ?_
            refine th_x ?_
            refine bk_other rfl ?_
            refine th_x ?_
            refine th_x ?_
            refine bk_same ?_
            refine sc_n ?_
            refine body_end (h' := ((b8, .cells ⟨[(Vec.at bb9 cap9 sp9).val (bmB (stepsF l q b p n)).length]⟩ 29) :: (b9, .cells ⟨[I (bcB (stepsF l q b p n))]⟩ 3) :: (b14, .cells ⟨[W.val p.length]⟩ 29) :: ((Vec.at bb9 cap9 sp9).hp 3 ((bmB (stepsF l q b p n)).flatMap eI) ++ (W.hp 3 (p.flatMap eI) ++ C)))) rfl ro_nil (by (first|((repeat first|exact s_0|exact s_1|exact s_3|refine s_4 ?_|refine s_5 ?_|refine s_6 ?_|refine s_7 ?_);done)|((repeat first|exact s_0|exact s_1|exact s_3|refine s_4 ?_|refine s_5 ?_|refine s_6 ?_|refine s_8 ?_);done))) ?_
            first | (rw [take_leaf (by (first | omega | (dsimp only at *; omega) | (simp at *; omega))), leaf_upd hhi, if_pos ⟨⟨by (first | omega | (dsimp only at *; omega) | (simp at *; omega)), by (first | omega | (dsimp only at *; omega) | (simp at *; omega))⟩, hless⟩] at H; exact H _ _ ⟨Vec.at_pos hP2 (by omega), hP2⟩ hW) | (rw [take_leaf (by (first | omega | (dsimp only at *; omega) | (simp at *; omega))), leaf_upd hhi, if_neg (fun hq9 => by have h9 := hq9.1.1; have h8 := hq9.1.2; omega)] at H; exact H _ _ hP hW) | (rw [take_leaf (by (first | omega | (dsimp only at *; omega) | (simp at *; omega))), leaf_upd hhi, if_neg (fun hq9 => by have h9 := hq9.2; rw [hbs] at h9; have h8 : costM l p < bc := h9; omega)] at H; exact H _ _ hP hW) | (rw [take_steps hx, show (xo.most + 1).toNat = n by (first | omega | (dsimp only at *; omega) | (simp at *; omega))] at H; exact H _ _ hP hW) | (rcases break_none (n := n) (b := b) (q := q) hC.sup hin hx (by first | exact .inl (by (first | omega | (dsimp only at *; omega) | (simp at *; omega))) | exact .inr (.inl (by (first | omega | (dsimp only at *; omega) | (simp at *; omega)))) | exact .inr (.inr ⟨bm, bc, hbs, by (first | omega | (dsimp only at *; omega) | (simp at *; omega))⟩)) with hbk | hbk; (rw [take_steps hx, hbk] at H; exact H _ _ hP hW); (exfalso; (first | omega | (dsimp only at *; omega) | (simp at *; omega))))
          · refine xr_op rfl rfl (xv_pick rfl rfl ?_)
            refine xr_op rfl rfl (xv_move rfl ?_)
            refine xr_gd rfl rfl rfl (xv_load1 ty29 rfl rfl (by ((repeat first|exact z_0|assumption|refine z_1 ?_|(refine z_l ?_;(repeat first|exact z_0|assumption|refine z_1 ?_);done)|refine z_r ?_);done)) (by rfl) ?_)
            refine xr_gd rfl rfl rfl (xv_neNilS (b := true) sl29 rfl rfl rfl ?_)
            refine xr_gd rfl rfl rfl (xv_move rfl ?_)
            have hbc9 : bcB (stepsF l q b p n) = bc := by rw [hbs]; rfl
            refine xr_gd rfl rfl rfl (xv_move rfl ?_)
            refine xr_gd rfl rfl rfl (xv_move rfl ?_)
            refine xr_gd rfl rfl rfl (xv_faddr fl28_3 rfl ?_)
            refine xr_gd rfl rfl rfl (xv_load1 ty3 rfl rfl (by ((repeat first|exact z_0|assumption|refine z_1 ?_|(refine z_l ?_;(repeat first|exact z_0|assumption|refine z_1 ?_);done)|refine z_r ?_);done)) (by rfl) ?_)
            refine xr_gd rfl rfl rfl (xv_mul rfl rfl (wrap_i64 (by (first | omega | (dsimp only at *; omega) | (simp at *; omega))) (by (first | omega | (dsimp only at *; omega) | (simp at *; omega)))) ?_)
            refine xr_gd rfl rfl rfl (xv_add rfl rfl (wrap_i64 (by (first | omega | (dsimp only at *; omega) | (simp at *; omega))) (by (first | omega | (dsimp only at *; omega) | (simp at *; omega)))) ?_)
            refine xr_gd rfl rfl rfl (xv_load1 ty3 rfl rfl (by ((repeat first|exact z_0|assumption|refine z_1 ?_|(refine z_l ?_;(repeat first|exact z_0|assumption|refine z_1 ?_);done)|refine z_r ?_);done)) (by rfl) ?_)
            refine xr_gd rfl rfl rfl (xv_geq2 rfl rfl (fun q12 => ?_) (fun q12 => ?_))
            · refine xr_gd rfl rfl rfl (xv_pick rfl rfl ?_)
              refine xr_op rfl rfl (xv_pick rfl rfl ?_)
              refine xr_op rfl rfl (xv_assign rfl ?_)
              refine xr_end rfl ?_
              refine th_n ?_
              refine xc_true rfl ?_
              refine xc_exit ?_
              refine bk_other rfl ?_
              refine th_x ?_
              refine bk_other rfl ?_
              refine th_x ?_
              refine th_x ?_
              refine bk_same ?_
              refine sc_n ?_
              refine body_end (h' := ((b8, .cells ⟨[(Vec.at bb9 cap9 sp9).val (bmB (stepsF l q b p n)).length]⟩ 29) :: (b9, .cells ⟨[I (bcB (stepsF l q b p n))]⟩ 3) :: (b14, .cells ⟨[W.val p.length]⟩ 29) :: ((Vec.at bb9 cap9 sp9).hp 3 ((bmB (stepsF l q b p n)).flatMap eI) ++ (W.hp 3 (p.flatMap eI) ++ C)))) rfl ro_nil (by (first|((repeat first|exact s_0|exact s_1|exact s_3|refine s_4 ?_|refine s_5 ?_|refine s_6 ?_|refine s_7 ?_);done)|((repeat first|exact s_0|exact s_1|exact s_3|refine s_4 ?_|refine s_5 ?_|refine s_6 ?_|refine s_8 ?_);done))) ?_
              first | (rw [take_leaf (by (first | omega | (dsimp only at *; omega) | (simp at *; omega))), leaf_upd hhi, if_pos ⟨⟨by (first | omega | (dsimp only at *; omega) | (simp at *; omega)), by (first | omega | (dsimp only at *; omega) | (simp at *; omega))⟩, hless⟩] at H; exact H _ _ ⟨Vec.at_pos hP2 (by omega), hP2⟩ hW) | (rw [take_leaf (by (first | omega | (dsimp only at *; omega) | (simp at *; omega))), leaf_upd hhi, if_neg (fun hq9 => by have h9 := hq9.1.1; have h8 := hq9.1.2; omega)] at H; exact H _ _ hP hW) | (rw [take_leaf (by (first | omega | (dsimp only at *; omega) | (simp at *; omega))), leaf_upd hhi, if_neg (fun hq9 => by have h9 := hq9.2; rw [hbs] at h9; have h8 : costM l p < bc := h9; omega)] at H; exact H _ _ hP hW) | (rw [take_steps hx, show (xo.most + 1).toNat = n by (first | omega | (dsimp only at *; omega) | (simp at *; omega))] at H; exact H _ _ hP hW) | (rcases break_none (n := n) (b := b) (q := q) hC.sup hin hx (by first | exact .inl (by (first | omega | (dsimp only at *; omega) | (simp at *; omega))) | exact .inr (.inl (by (first | omega | (dsimp only at *; omega) | (simp at *; omega)))) | exact .inr (.inr ⟨bm, bc, hbs, by (first | omega | (dsimp only at *; omega) | (simp at *; omega))⟩)) with hbk | hbk; (rw [take_steps hx, hbk] at H; exact H _ _ hP hW); (exfalso; (first | omega | (dsimp only at *; omega) | (simp at *; omega))))
            · refine xr_gd rfl rfl rfl (xv_pick rfl rfl ?_)
              refine xr_op rfl rfl (xv_pick rfl rfl ?_)
              refine xr_op rfl rfl (xv_assign rfl ?_)
              refine xr_end rfl ?_
              refine th_n ?_
              refine xc_false rfl ?_
              refine xc_seq ?_
              refine xc_draw0 [(0, .S), (1, .S), (2, .S), (3, .S), (4, .S), (5, .R), (6, .S), (7, .R), (8, .O), (9, .S), (10, .S), (11, .S), (12, .S), (13, .S), (14, .S), (15, .R), (16, .S), (17, .R), (18, .R), (19, .S), (20, .O), (21, .S), (22, .S)] mixed (by kernel_rfl) ?_
              obtain ⟨a1, a2, a3, a4, a5⟩ := (hC.sup.drop (p.length + 1)).f
              have rb1 := restS_bd (f := (·.volume)) (B := 1) (by omega) a1 a5
              have rb2 := restS_bd (f := (·.heat.lo)) (B := 10000) (by omega) a2 a5
              rw [List.length_drop] at rb1 rb2
              obtain ⟨lg1, lg2⟩ := left_get (l := l) (k := 0) (j := p.length + 1) (Nat.zero_le _) (by omega)
              refine js_S rfl rfl (.inl rfl) (xv_move rfl ⟨rfl, rfl⟩) ?_
              refine js_S rfl rfl (.inl rfl) (xv_move rfl ⟨rfl, rfl⟩) ?_
              refine js_S rfl rfl (.inl rfl) (xv_add rfl rfl (wrap_i64 (by (first | omega | (dsimp only at *; omega) | (simp at *; omega))) (by (first | omega | (dsimp only at *; omega) | (simp at *; omega)))) ⟨rfl, rfl⟩) ?_
              refine js_S rfl rfl (.inl rfl) (xv_iaA (sz := 2) (j := p.length + 1) Try.underlying69 ty68 rfl rfl rfl (by (first | omega | (dsimp only at *; omega) | (simp at *; omega))) (by (first | omega | (dsimp only at *; omega) | (simp at *; omega))) (by (first | omega | (dsimp only at *; omega) | (simp at *; omega))) ⟨rfl, rfl⟩) ?_
              refine js_S rfl rfl (.inl rfl) (xv_faddr fl68_0 rfl ⟨rfl, rfl⟩) ?_
              refine js_R0 rfl rfl (.inl rfl) (xv_load1 ty3 rfl rfl (by ((repeat first|exact z_0|assumption|refine z_1 ?_|(refine z_l ?_;(repeat first|exact z_0|assumption|refine z_1 ?_);done)|refine z_r ?_);done)) lg1 ⟨rfl, rfl⟩) ?_
              refine js_S rfl rfl (.inl rfl) (xv_add rfl rfl (wrap_i64 (by (first | omega | (dsimp only at *; omega) | (simp at *; omega))) (by (first | omega | (dsimp only at *; omega) | (simp at *; omega)))) ⟨rfl, rfl⟩) ?_
              refine js_R0 rfl rfl (.inl rfl) (xv_load1 ty3 rfl rfl (by ((repeat first|exact z_0|assumption|refine z_1 ?_|(refine z_l ?_;(repeat first|exact z_0|assumption|refine z_1 ?_);done)|refine z_r ?_);done)) (by rfl) ⟨rfl, rfl⟩) ?_
              refine js_O0 rfl rfl (.inl rfl) (xv_lss2 rfl rfl (fun hq => ?_) (fun hq => ?_))
              · refine js_S rfl rfl (.inl rfl) (xv_move rfl ⟨rfl, rfl⟩) ?_
                refine js_Ss rfl rfl ⟨_, _, _, rfl, rfl, rfl⟩ ?_
                refine js_Ss rfl rfl ⟨_, _, _, rfl, rfl, rfl⟩ ?_
                refine js_Ss rfl rfl ⟨_, _, _, rfl, rfl, rfl⟩ ?_
                refine js_Ss rfl rfl ⟨_, _, _, rfl, rfl, rfl⟩ ?_
                refine js_Ss rfl rfl ⟨_, _, _, rfl, rfl, rfl⟩ ?_
                refine js_Rs rfl rfl ⟨_, _, _, rfl, rfl, rfl⟩ ?_
                refine js_Ss rfl rfl ⟨_, _, _, rfl, rfl, rfl⟩ ?_
                refine js_Rs rfl rfl ⟨_, _, _, rfl, rfl, rfl⟩ ?_
                refine js_Rs rfl rfl ⟨_, _, _, rfl, rfl, rfl⟩ ?_
                refine js_Ss rfl rfl ⟨_, _, _, rfl, rfl, rfl⟩ ?_
                refine js_Os rfl rfl ⟨_, _, _, rfl, rfl, rfl⟩ ?_
                refine js_S rfl rfl (.inl rfl) (xv_pick rfl rfl ⟨rfl, rfl⟩) ?_
                refine js_S rfl rfl (.inl rfl) (xv_assign rfl ⟨rfl, rfl⟩) ?_
                refine j_end0 ?_
                refine th_n ?_
                refine xc_true rfl ?_
                refine xc_exit ?_
                refine bk_other rfl ?_
                refine th_x ?_
                refine bk_same ?_
                refine th_n ?_
                refine xc_region ?_
                refine xr_op rfl rfl (xv_add rfl rfl (wrap_i64 (by (first | omega | (dsimp only at *; omega) | (simp at *; omega))) (by (first | omega | (dsimp only at *; omega) | (simp at *; omega)))) ?_)
                refine xr_op rfl rfl (xv_move rfl ?_)
                refine xr_end rfl ?_
                have hst : stepsF l q b p (n + 1) = stepsF l q b p n := by rw [steps_succ]; exact skip_none hC.sup hin hx (by (first | omega | (dsimp only at *; omega) | (simp at *; omega))) (by first | exact .inl (by (first | omega | (dsimp only at *; omega) | (simp at *; omega))) | exact .inr (by (first | omega | (dsimp only at *; omega) | (simp at *; omega))))
                exact rnd ((n + 1, (Vec.at bb9 cap9 sp9), W) : Nat × Vec × Vec) ⟨by (first | omega | (dsimp only at *; omega) | (simp at *; omega)), by dsimp only; rw [hst]; exact hP, hW⟩ (by (first | omega | (dsimp only at *; omega) | (simp at *; omega))) (le_put (le_put (le_put (le_put (le_put (le_put (le_put (le_put (le_put (le_put (le_put (le_put (le_put (le_put (le_put (le_put (le_put (le_emp _) rfl) rfl) rfl) rfl) rfl) rfl) rfl) rfl) rfl) rfl) rfl) rfl) rfl) rfl) rfl) rfl) rfl) (by dsimp only; rw [hst]; (first|((repeat first|exact s_0|exact s_1|exact s_3|refine s_4 ?_|refine s_5 ?_|refine s_6 ?_|refine s_7 ?_);done)|((repeat first|exact s_0|exact s_1|exact s_3|refine s_4 ?_|refine s_5 ?_|refine s_6 ?_|refine s_8 ?_);done)))
              · refine js_S rfl rfl (.inl rfl) (xv_move rfl ⟨rfl, rfl⟩) ?_
                refine js_S rfl rfl (.inr ⟨_, _, rfl, rfl⟩) (xv_move rfl ⟨rfl, rfl⟩) ?_
                refine js_S rfl rfl (.inr ⟨_, _, rfl, rfl⟩) (xv_move rfl ⟨rfl, rfl⟩) ?_
                refine js_S rfl rfl (.inr ⟨_, _, rfl, rfl⟩) (xv_add rfl rfl (wrap_i64 (by (first | omega | (dsimp only at *; omega) | (simp at *; omega))) (by (first | omega | (dsimp only at *; omega) | (simp at *; omega)))) ⟨rfl, rfl⟩) ?_
                refine js_S rfl rfl (.inr ⟨_, _, rfl, rfl⟩) (xv_iaA (sz := 2) (j := p.length + 1) Try.underlying69 ty68 rfl rfl rfl (by (first | omega | (dsimp only at *; omega) | (simp at *; omega))) (by (first | omega | (dsimp only at *; omega) | (simp at *; omega))) (by (first | omega | (dsimp only at *; omega) | (simp at *; omega))) ⟨rfl, rfl⟩) ?_
                refine js_S rfl rfl (.inr ⟨_, _, rfl, rfl⟩) (xv_faddr fl68_1 rfl ⟨rfl, rfl⟩) ?_
                refine js_R0 rfl rfl (.inr ⟨_, _, rfl, rfl⟩) (xv_load1 ty3 rfl rfl (by ((repeat first|exact z_0|assumption|refine z_1 ?_|(refine z_l ?_;(repeat first|exact z_0|assumption|refine z_1 ?_);done)|refine z_r ?_);done)) lg2 ⟨rfl, rfl⟩) ?_
                refine js_S rfl rfl (.inr ⟨_, _, rfl, rfl⟩) (xv_add rfl rfl (wrap_i64 (by (first | omega | (dsimp only at *; omega) | (simp at *; omega))) (by (first | omega | (dsimp only at *; omega) | (simp at *; omega)))) ⟨rfl, rfl⟩) ?_
                refine js_R0 rfl rfl (.inr ⟨_, _, rfl, rfl⟩) (xv_load1 ty3 rfl rfl (by ((repeat first|exact z_0|assumption|refine z_1 ?_|(refine z_l ?_;(repeat first|exact z_0|assumption|refine z_1 ?_);done)|refine z_r ?_);done)) (by rfl) ⟨rfl, rfl⟩) ?_
                refine js_R0 rfl rfl (.inr ⟨_, _, rfl, rfl⟩) (xv_load1 ty3 rfl rfl (by ((repeat first|exact z_0|assumption|refine z_1 ?_|(refine z_l ?_;(repeat first|exact z_0|assumption|refine z_1 ?_);done)|refine z_r ?_);done)) (by rfl) ⟨rfl, rfl⟩) ?_
                refine js_S rfl rfl (.inr ⟨_, _, rfl, rfl⟩) (xv_mul rfl rfl (wrap_i64 (by (first | omega | (dsimp only at *; omega) | (simp at *; omega))) (by (first | omega | (dsimp only at *; omega) | (simp at *; omega)))) ⟨rfl, rfl⟩) ?_
                refine js_O0 rfl rfl (.inr ⟨_, _, rfl, rfl⟩) (xv_lss2 rfl rfl (fun hq => ?_) (fun hq => ?_))
                · refine js_S rfl rfl (.inl rfl) (xv_pick rfl rfl ⟨rfl, rfl⟩) ?_
                  refine js_S rfl rfl (.inl rfl) (xv_assign rfl ⟨rfl, rfl⟩) ?_
                  refine j_end0 ?_
                  refine th_n ?_
                  refine xc_true rfl ?_
                  refine xc_exit ?_
                  refine bk_other rfl ?_
                  refine th_x ?_
                  refine bk_same ?_
                  refine th_n ?_
                  refine xc_region ?_
                  refine xr_op rfl rfl (xv_add rfl rfl (wrap_i64 (by (first | omega | (dsimp only at *; omega) | (simp at *; omega))) (by (first | omega | (dsimp only at *; omega) | (simp at *; omega)))) ?_)
                  refine xr_op rfl rfl (xv_move rfl ?_)
                  refine xr_end rfl ?_
                  have hst : stepsF l q b p (n + 1) = stepsF l q b p n := by rw [steps_succ]; exact skip_none hC.sup hin hx (by (first | omega | (dsimp only at *; omega) | (simp at *; omega))) (by first | exact .inl (by (first | omega | (dsimp only at *; omega) | (simp at *; omega))) | exact .inr (by (first | omega | (dsimp only at *; omega) | (simp at *; omega))))
                  exact rnd ((n + 1, (Vec.at bb9 cap9 sp9), W) : Nat × Vec × Vec) ⟨by (first | omega | (dsimp only at *; omega) | (simp at *; omega)), by dsimp only; rw [hst]; exact hP, hW⟩ (by (first | omega | (dsimp only at *; omega) | (simp at *; omega))) (le_put (le_put (le_put (le_put (le_put (le_put (le_put (le_put (le_put (le_put (le_put (le_put (le_put (le_put (le_put (le_put (le_put (le_emp _) rfl) rfl) rfl) rfl) rfl) rfl) rfl) rfl) rfl) rfl) rfl) rfl) rfl) rfl) rfl) rfl) rfl) (by dsimp only; rw [hst]; (first|((repeat first|exact s_0|exact s_1|exact s_3|refine s_4 ?_|refine s_5 ?_|refine s_6 ?_|refine s_7 ?_);done)|((repeat first|exact s_0|exact s_1|exact s_3|refine s_4 ?_|refine s_5 ?_|refine s_6 ?_|refine s_8 ?_);done)))
                · refine js_S rfl rfl (.inl rfl) (xv_pick rfl rfl ⟨rfl, rfl⟩) ?_
                  refine js_S rfl rfl (.inl rfl) (xv_assign rfl ⟨rfl, rfl⟩) ?_
                  refine j_end0 ?_
                  refine th_n ?_
                  refine xc_false rfl ?_
                  refine xc_skip ?_
                  refine bk_n ?_
                  refine th_n ?_
                  refine xc_seq (xc_region ?_)
                  refine xr_op rfl rfl (xv_load1 ty29 rfl rfl (by ((repeat first|exact z_0|assumption|refine z_1 ?_|(refine z_l ?_;(repeat first|exact z_0|assumption|refine z_1 ?_);done)|refine z_r ?_);done)) (by rfl) ?_)
                  refine xr_op rfl rfl (xv_move rfl ?_)
                  refine xr_op rfl rfl ((al_buildSlice sl29 ty3 rfl rfl rfl rfl rfl (by ((try apply evl_some rfl);(repeat (first|exact (rfl : _ = [])|apply evl_cons rfl (by (first|exact v_1|exact v_2|exact v_3|exact v_4|exact v_5|exact v_6|exact v_7|exact v_8|exact v_9|exact rfl))|exact rfl))))).xv (fun b130 hb130 => ?_))
                  refine xr_op rfl rfl (xv_append (V := W) (n := p.length) (xs := p.flatMap eI) sl29 ty3 rfl rfl rfl hW (.there (.there (.there (.there (.there (.skip .here)))))) (by ((repeat first|exact z_0|assumption|refine z_1 ?_|(refine z_l ?_;(repeat first|exact z_0|assumption|refine z_1 ?_);done)|refine z_r ?_);done)) (by ((try apply evl_some rfl);(repeat (first|exact (rfl : _ = [])|apply evl_cons rfl (by (first|exact v_1|exact v_2|exact v_3|exact v_4|exact v_5|exact v_6|exact v_7|exact v_8|exact v_9|exact rfl))|exact rfl)))) rfl rfl (by (first | omega | (dsimp only at *; omega) | (simp at *; omega))) (by simp only []; (first | omega | (dsimp only at *; omega) | (simp at *; omega))) (by (first | omega | (dsimp only at *; omega) | (simp at *; omega))) (fun W2 hW2 => ?_))
                  refine xr_op rfl rfl (xv_s1 ty29 rfl rfl rfl (by (first|(apply u_3;(repeat first|exact u_0|assumption|apply u_1|apply u_2);done)|((repeat first|exact u_0|assumption|apply u_1|apply u_2);done)|(apply u_3;apply u_3;(repeat first|exact u_0|assumption|apply u_1|apply u_2);done)|((repeat first|exact u_0|assumption|apply u_3|apply u_1);done))) (by (first | rfl | exact Vec.one _ _)) (by (first | decide | exact Nat.le_of_ble_eq_true rfl | (simp only [List.length_cons, List.length_nil]; omega) | (simp; done))) (by ((try apply evl_some rfl);(repeat (first|exact (rfl : _ = [])|apply evl_cons rfl (by (first|exact v_1|exact v_2|exact v_3|exact v_4|exact v_5|exact v_6|exact v_7|exact v_8|exact v_9|exact rfl))|exact rfl)))) ?_)
                  refine xr_end rfl ?_
                  refine th_n ?_
                  refine xc_seq (xc_region ?_)
                  refine XR.perm perm_w5 ?_
                  rw [show W2.val (p.length + 1) = W2.val (p ++ [(n : Int)]).length from (by rw [List.length_append]; rfl), show p.flatMap eI ++ [I n] = (p ++ [(n : Int)]).flatMap eI from (by simp [eI])]
                  refine xr_op rfl rfl (xv_load1 ty73 rfl rfl (by ((repeat first|exact z_0|assumption|refine z_1 ?_|(refine z_l ?_;(repeat first|exact z_0|assumption|refine z_1 ?_);done)|refine z_r ?_);done)) (by rfl) ?_)
                  refine xr_op rfl rfl (xv_move rfl ?_)
                  refine xr_op rfl rfl (xv_add rfl rfl (wrap_i64 (by (first | omega | (dsimp only at *; omega) | (simp at *; omega))) (by (first | omega | (dsimp only at *; omega) | (simp at *; omega)))) ?_)
                  refine xr_op rfl rfl (xv_move rfl ?_)
                  refine xr_op rfl rfl (xv_move rfl ?_)
                  refine xr_op rfl rfl (xv_move rfl ?_)
                  refine xr_op rfl rfl (xv_move rfl ?_)
                  refine xr_op rfl rfl (xv_move rfl ?_)
                  refine xr_op rfl rfl (xv_faddr fl28_3 rfl ?_)
                  refine xr_op rfl rfl (xv_load1 ty3 rfl rfl (by ((repeat first|exact z_0|assumption|refine z_1 ?_|(refine z_l ?_;(repeat first|exact z_0|assumption|refine z_1 ?_);done)|refine z_r ?_);done)) (by rfl) ?_)
                  refine xr_op rfl rfl (xv_mul rfl rfl (wrap_i64 (by (first | omega | (dsimp only at *; omega) | (simp at *; omega))) (by (first | omega | (dsimp only at *; omega) | (simp at *; omega)))) ?_)
                  refine xr_op rfl rfl (xv_add rfl rfl (wrap_i64 (by (first | omega | (dsimp only at *; omega) | (simp at *; omega))) (by (first | omega | (dsimp only at *; omega) | (simp at *; omega)))) ?_)
                  refine xr_op rfl rfl (xv_fn rfl rfl (afn_func (fi := []) (lb := [.pointer (some ⟨b4, 0, none⟩), .pointer (some ⟨b5, 0, none⟩), .pointer (some ⟨b6, 0, none⟩), .pointer (some ⟨b8, 0, none⟩), .pointer (some ⟨b9, 0, none⟩), .pointer (some ⟨b14, 0, none⟩), .pointer (some ⟨b7, 0, none⟩), .pointer (some ⟨b11, 0, none⟩), .pointer (some ⟨b15, 0, none⟩)]) hb37 (ACalls.framed [_, _] (ih (l.length - p.length - 1) (by omega) hC (p := p ++ [(n : Int)]) (b := stepsF l q b p n) (W := W2) (by rw [List.length_append, List.length_singleton]; omega) (hin.snoc hx (by omega) (by (first | omega | (dsimp only at *; omega) | (simp at *; omega)))) (by rw [sumZ_snoc _ hx]; (first | omega | (dsimp only at *; omega) | (simp at *; omega))) (by simp) (by rw [sumZ_snoc _ hx]) (by rw [sumZ_snoc _ hx]) (by rw [sumZ_snoc _ hx]) (by unfold costM; rw [sumZ_snoc _ hx]) hP (by simpa [eI] using hW2) (fun P3 W3 hP3 hW3 => up_ret ?_)))))
                  refine xr_end rfl ?_
                  refine th_n ?_
                  refine xc_region ?_
                  obtain ⟨bw, cw, spw, rfl⟩ := Vec.at_pos hW3 (by rw [List.length_append]; simp)
                  rw [hp_at, show (p ++ [(n : Int)]).flatMap eI ++ spw = p.flatMap eI ++ (I n :: spw) by simp [eI]]
                  have hW4 : (Vec.at bw cw (I n :: spw)).ok 1 p.length (p.flatMap eI) := by
                    obtain ⟨w1, w2, w3⟩ := hW3
                    rw [List.length_append, List.length_singleton] at w2
                    refine ⟨flat_lenM eI_len _, by omega, ?_⟩
                    rw [← w3]; simp [eI]
                  have hlp : ((p ++ [(n : Int)]).length : Int) = p.length + 1 := by simp
                  refine xr_op rfl rfl (xv_load1 ty29 rfl rfl (by ((repeat first|exact z_0|assumption|refine z_1 ?_|(refine z_l ?_;(repeat first|exact z_0|assumption|refine z_1 ?_);done)|refine z_r ?_);done)) (by rfl) ?_)
                  refine xr_op rfl rfl (xv_load1 ty29 rfl rfl (by ((repeat first|exact z_0|assumption|refine z_1 ?_|(refine z_l ?_;(repeat first|exact z_0|assumption|refine z_1 ?_);done)|refine z_r ?_);done)) (by rfl) ?_)
                  refine xr_op rfl rfl (xv_len sl29 rfl ?_)
                  refine xr_op rfl rfl (xv_sub rfl rfl (wrap_i64 (by (first | omega | (dsimp only at *; omega) | (simp at *; omega))) (by (first | omega | (dsimp only at *; omega) | (simp at *; omega)))) ?_)
                  refine xr_op rfl rfl (xv_sliceToN (m := p.length) sl29 ty3 rfl rfl (by (first | omega | (dsimp only at *; omega) | (simp at *; omega))) (by have := hW4.2.1; (first | omega | (dsimp only at *; omega) | (simp at *; omega))) (by (first | omega | (dsimp only at *; omega) | (simp at *; omega))) ?_)
                  refine xr_op rfl rfl (xv_s1 ty29 rfl rfl rfl (by (first|(apply u_3;(repeat first|exact u_0|assumption|apply u_1|apply u_2);done)|((repeat first|exact u_0|assumption|apply u_1|apply u_2);done)|(apply u_3;apply u_3;(repeat first|exact u_0|assumption|apply u_1|apply u_2);done)|((repeat first|exact u_0|assumption|apply u_3|apply u_1);done))) (by (first | rfl | exact Vec.one _ _)) (by (first | decide | exact Nat.le_of_ble_eq_true rfl | (simp only [List.length_cons, List.length_nil]; omega) | (simp; done))) (by ((try apply evl_some rfl);(repeat (first|exact (rfl : _ = [])|apply evl_cons rfl (by (first|exact v_1|exact v_2|exact v_3|exact v_4|exact v_5|exact v_6|exact v_7|exact v_8|exact v_9|exact rfl))|exact rfl)))) ?_)
                  refine xr_end rfl ?_
                  refine bk_n ?_
                  refine th_n ?_
                  refine xc_region ?_
                  refine xr_op rfl rfl (xv_add rfl rfl (wrap_i64 (by (first | omega | (dsimp only at *; omega) | (simp at *; omega))) (by (first | omega | (dsimp only at *; omega) | (simp at *; omega)))) ?_)
                  refine xr_op rfl rfl (xv_move rfl ?_)
                  refine xr_end rfl ?_
                  have hst := steps_succ l q b p n
                  exact rnd ((n + 1, P3, .at bw cw (I n :: spw)) : Nat × Vec × Vec) ⟨by (first | omega | (dsimp only at *; omega) | (simp at *; omega)), by dsimp only; rw [hst]; exact hP3, hW4⟩ (by (first | omega | (dsimp only at *; omega) | (simp at *; omega))) (le_put (le_put (le_put (le_put (le_put (le_put (le_put (le_put (le_put (le_put (le_put (le_put (le_put (le_put (le_put (le_put (le_put (le_emp _) rfl) rfl) rfl) rfl) rfl) rfl) rfl) rfl) rfl) rfl) rfl) rfl) rfl) rfl) rfl) rfl) rfl) (by dsimp only; rw [hst]; (first|((repeat first|exact s_0|exact s_1|exact s_3|refine s_4 ?_|refine s_5 ?_|refine s_6 ?_|refine s_7 ?_);done)|((repeat first|exact s_0|exact s_1|exact s_3|refine s_4 ?_|refine s_5 ?_|refine s_6 ?_|refine s_8 ?_);done)))
    · refine xr_end rfl ?_
      refine th_n ?_
      refine xc_seq ?_
      refine xc_false rfl ?_
      refine xc_exit ?_
      refine th_x ?_
      refine th_x ?_
      refine bk_same ?_
      refine sc_n ?_
      refine body_end (h' := ((b8, .cells ⟨[P.val (bmB (stepsF l q b p n)).length]⟩ 29) :: (b9, .cells ⟨[I (bcB (stepsF l q b p n))]⟩ 3) :: (b14, .cells ⟨[W.val p.length]⟩ 29) :: (P.hp 3 ((bmB (stepsF l q b p n)).flatMap eI) ++ (W.hp 3 (p.flatMap eI) ++ C)))) rfl ro_nil (by (first|((repeat first|exact s_0|exact s_1|exact s_3|refine s_4 ?_|refine s_5 ?_|refine s_6 ?_|refine s_7 ?_);done)|((repeat first|exact s_0|exact s_1|exact s_3|refine s_4 ?_|refine s_5 ?_|refine s_6 ?_|refine s_8 ?_);done))) ?_
      first | (rw [take_leaf (by (first | omega | (dsimp only at *; omega) | (simp at *; omega))), leaf_upd hhi, if_pos ⟨⟨by (first | omega | (dsimp only at *; omega) | (simp at *; omega)), by (first | omega | (dsimp only at *; omega) | (simp at *; omega))⟩, hless⟩] at H; exact H _ _ ⟨Vec.at_pos hP2 (by omega), hP2⟩ hW) | (rw [take_leaf (by (first | omega | (dsimp only at *; omega) | (simp at *; omega))), leaf_upd hhi, if_neg (fun hq9 => by have h9 := hq9.1.1; have h8 := hq9.1.2; omega)] at H; exact H _ _ hP hW) | (rw [take_leaf (by (first | omega | (dsimp only at *; omega) | (simp at *; omega))), leaf_upd hhi, if_neg (fun hq9 => by have h9 := hq9.2; rw [hbs] at h9; have h8 : costM l p < bc := h9; omega)] at H; exact H _ _ hP hW) | (rw [take_steps hx, show (xo.most + 1).toNat = n by (first | omega | (dsimp only at *; omega) | (simp at *; omega))] at H; exact H _ _ hP hW) | (rcases break_none (n := n) (b := b) (q := q) hC.sup hin hx (by first | exact .inl (by (first | omega | (dsimp only at *; omega) | (simp at *; omega))) | exact .inr (.inl (by (first | omega | (dsimp only at *; omega) | (simp at *; omega)))) | exact .inr (.inr ⟨bm, bc, hbs, by (first | omega | (dsimp only at *; omega) | (simp at *; omega))⟩)) with hbk | hbk; (rw [take_steps hx, hbk] at H; exact H _ _ hP hW); (exfalso; (first | omega | (dsimp only at *; omega) | (simp at *; omega))))

end Go.Proofs.Ytjbfdfmngampdaa
