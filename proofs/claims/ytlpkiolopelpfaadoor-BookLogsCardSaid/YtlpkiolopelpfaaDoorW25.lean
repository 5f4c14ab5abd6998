/-
  Walks.
-/
import Derived.Test.YtlpkiolopelpfaaDoorW22
import Derived.Test.YtlpkiolopelpfaaDoorD
namespace Go.Proofs.YtlpkiolopelpfaaDoor
open Go Go.H
set_option maxRecDepth 100000
set_option maxHeartbeats 8000000
set_option linter.all false
theorem WriteMeters_c {l : List Leaf} {a : Option Addr} {c : Nat} {h : Hp} {R : Ending → Hp → Prop} (hs : LeavesV h a l) (hl : l.length ≤ 1000000) (hrl : ∀ x ∈ l, x.rds.length ≤ 1000000) (hI : (errL 32 leafOk ltLeaf l) = 0 → ∀ x ∈ l, ItoaC x.house h) (H1 : (errL 32 leafOk ltLeaf l) ≠ 0 → R (.returned (.tuple ⟨[S [], I (errL 32 leafOk ltLeaf l)]⟩)) h)
    (H2 : (errL 32 leafOk ltLeaf l) = 0 → R (.returned (.tuple ⟨[S (mtrS l), I 0]⟩)) h) : ACalls Tryd.prog 13 ⟨[.slice a l.length c]⟩ h R := by
  refine calls_of_xc (N := 50) Tryd.func13 rfl (by rfl) ?_
  refine xc_seq (xc_region ?_)
  refine xr_op rfl rfl (xv_assign rfl ?_)
  refine xr_op rfl rfl (xv_assign rfl ?_)
  refine xr_end rfl ?_
  refine th_n ?_
  refine xc_seq ?_
  refine xc_seq (xc_region ?_)
  refine xr_op rfl rfl (xv_move rfl ?_)
  refine xr_op rfl rfl (xv_calls rfl hb42 (errLeaf_c hs.leaves hl hs.rds hrl (up_ret ?_)))
  refine xr_op rfl rfl (xv_assign rfl ?_)
  refine xr_end rfl ?_
  refine th_n ?_
  refine xc_seq (xc_region ?_)
  refine xr_op rfl rfl (xv_move rfl ?_)
  refine xr_op rfl rfl (xv_neq2 rfl rfl (fun q1 => ?_) (fun q1 => ?_))
  · refine xr_end rfl ?_
    refine th_n ?_
    refine xc_true rfl ?_
    refine xc_seq (xc_region ?_)
    refine xr_op rfl rfl (xv_move rfl ?_)
    refine xr_op rfl rfl (xv_assign rfl ?_)
    refine xr_op rfl rfl (xv_assign rfl ?_)
    refine xr_end rfl ?_
    refine th_n ?_
    refine xc_ret ?_
    refine th_r ?_
    refine body_ret (h' := h) rfl (ro_tmp rfl (ro_tmp rfl ro_nil)) (by (first|((repeat first|exact s_0|exact s_1|exact s_3|refine s_4 ?_|refine s_5 ?_|refine s_6 ?_|refine s_7 ?_);done)|((repeat first|exact s_0|exact s_1|exact s_3|refine s_4 ?_|refine s_5 ?_|refine s_6 ?_|refine s_8 ?_);done))) ?_
    first | exact H1 (by omega) | exact H2 he0
  · refine xr_end rfl ?_
    refine th_n ?_
    refine xc_false rfl ?_
    refine xc_skip ?_
    refine th_n ?_
    refine xc_seq (xc_region ?_)
    have he0 : (errL 32 leafOk ltLeaf l) = 0 := by omega
    obtain ⟨hl32, hok, has9⟩ := errL_is he0
    refine xr_op rfl rfl (xv_alloc ty80 (fun bB hbB => ?_))
    refine xr_end rfl ?_
    refine th_n ?_
    refine xc_seq ?_
    refine xc_seq (xc_region ?_)
    refine xr_op rfl rfl (xv_move rfl ?_)
    refine xr_op rfl rfl (xv_len sl33 rfl ?_)
    refine xr_op rfl rfl (xv_move rfl ?_)
    refine xr_end rfl ?_
    refine th_n ?_
    refine xc_block ?_
    refine xc_loop (σ := Nat × Vec × Option Addr) (fun z => z.1 ≤ l.length ∧ z.2.1.ok 1 (mtrS (l.take z.1)).length ((mtrS (l.take z.1)).flatMap eU) ∧ (z.2.2 = none ∨ z.2.2 = (some ⟨bB, 0, none⟩)) ∧ (mtrS (l.take z.1) = [] → z.2.1 = .nil)) (fun z => ((((emp.put (some 5) (.pointer (some ⟨bB, 0, none⟩))).put (some 18) (.slice a l.length c)).put (some 19) (I l.length)).put (some 20) (I z.1))) (fun z => (z.2.1.hp 5 (List.flatMap eU (mtrS (l.take z.1))) ++ (bB, .cells ⟨[.pointer z.2.2, z.2.1.val (List.length (mtrS (l.take z.1)))]⟩ 80) :: h)) (fun z => l.length - z.1) ((0, .nil, none) : Nat × Vec × Option Addr) ⟨Nat.zero_le _, ⟨rfl, rfl⟩, .inl rfl, fun _ => rfl⟩ (le_put (le_put (le_put (le_put (le_emp _) rfl) rfl) rfl) rfl) (by (first|((repeat first|exact s_0|exact s_1|exact s_3|refine s_4 ?_|refine s_5 ?_|refine s_6 ?_|refine s_7 ?_);done)|((repeat first|exact s_0|exact s_1|exact s_3|refine s_4 ?_|refine s_5 ?_|refine s_6 ?_|refine s_8 ?_);done))) ?_
    rintro ⟨k, V, p⟩ ⟨hk, hV, hp, hne⟩
    dsimp only at hk hV hp hne
    have hmd := mtrS_len (l := l.take k) (fun y hy => hok y (List.mem_of_mem_take hy))
    rw [List.length_take] at hmd
    refine xc_seq (xc_region ?_)
    refine xr_op rfl rfl (xv_lss2 rfl rfl (fun q2 => ?_) (fun q2 => ?_))
    · refine xr_end rfl ?_
      refine th_n ?_
      refine xc_seq ?_
      refine xc_true rfl ?_
      refine xc_skip ?_
      refine th_n ?_
      refine xc_seq ?_
      refine xc_block ?_
      refine xc_seq (xc_region ?_)
      have hlto : k < l.length := by (first|omega|(dsimp only at *;omega)|(simp at *;omega))
      obtain ⟨bo, oo, lo, to, fzo, hao, hmo, hxo⟩ := (hs.leaves).at hlto
      obtain ⟨xo, hko⟩ : ∃ qq_, l[k]? = some qq_ := ⟨_, List.getElem?_eq_getElem hlto⟩
      have hxok := hok xo (List.mem_of_getElem? hko)
      have hlfx := lfS_len hxok
      have hr8 := hxok.2.1
      have hxrd := hs.rds xo (List.mem_of_getElem? hko)
      refine xr_op rfl rfl (xv_ia (sz := 2) (j := k) sl33 ty72 rfl (by rw [hao]; rfl) rfl (by (first | assumption | with_reducible exact Int.toNat_natCast _ | with_reducible rfl | rfl)) (by (first|omega|(dsimp only at *;omega)|(simp at *;omega))) (by (first|omega|(dsimp only at *;omega)|(simp at *;omega))) ?_)
      refine xr_op rfl rfl (xv_loadA ty72 rfl rfl (by ((repeat first|exact z_0|assumption|refine z_1 ?_|(refine z_l ?_;(repeat first|exact z_0|assumption|refine z_1 ?_);done)|refine z_r ?_);done)) (hxo (k) xo hko) rfl ?_)
      refine xr_op rfl rfl (xv_alloc ty72 (fun bX hbX => ?_))
      refine xr_op rfl rfl (xv_s ty72 rfl rfl (by (first|(apply u_3;(repeat first|exact u_0|assumption|apply u_1|apply u_2);done)|((repeat first|exact u_0|assumption|apply u_1|apply u_2);done)|(apply u_3;apply u_3;(repeat first|exact u_0|assumption|apply u_1|apply u_2);done)|((repeat first|exact u_0|assumption|apply u_3|apply u_1);done))) (by ((try apply evl_some rfl);(repeat (first|exact (rfl : _ = [])|apply evl_cons rfl (by (first|exact v_1|exact v_2|exact v_3|exact v_4|exact v_5|exact v_6|exact v_7|exact v_8|exact v_9|exact rfl))|exact rfl)))) (by rfl) (by rfl) (by rfl) (by ((try apply evl_some rfl);(repeat (first|exact (rfl : _ = [])|apply evl_cons rfl (by (first|exact v_1|exact v_2|exact v_3|exact v_4|exact v_5|exact v_6|exact v_7|exact v_8|exact v_9|exact rfl))|exact rfl)))) ?_)
      refine xr_end rfl ?_
      refine th_n ?_
      refine xc_seq (xc_region ?_)
      refine xr_op rfl rfl (xv_faddr fl72_0 rfl ?_)
      refine xr_op rfl rfl (xv_load1 ty3 rfl rfl (by ((repeat first|exact z_0|assumption|refine z_1 ?_|(refine z_l ?_;(repeat first|exact z_0|assumption|refine z_1 ?_);done)|refine z_r ?_);done)) (by rfl) ?_)
      refine xr_op rfl rfl ((al_buildSlice sl60 ty3 rfl rfl rfl rfl rfl (by ((try apply evl_some rfl);(repeat (first|exact (rfl : _ = [])|apply evl_cons rfl (by (first|exact v_1|exact v_2|exact v_3|exact v_4|exact v_5|exact v_6|exact v_7|exact v_8|exact v_9|exact rfl))|exact rfl))))).xv (fun bR hbR => ?_))
      refine xr_op rfl rfl (xv_calls rfl hb40 (text_c (l := [xo.house]) (slvL eI_len (by ((repeat first|exact z_0|assumption|refine z_1 ?_|(refine z_l ?_;(repeat first|exact z_0|assumption|refine z_1 ?_);done)|refine z_r ?_);done))) (by show 1 ≤ 1000; decide) (fun n9 hn9 => by rw [List.mem_singleton.1 hn9]; exact (hI he0 xo (List.mem_of_getElem? hko)).sub (by intro z9 hz9; ((repeat first|exact z_0|assumption|refine z_1 ?_|(refine z_l ?_;(repeat first|exact z_0|assumption|refine z_1 ?_);done)|refine z_r ?_);done))) (fun V1 hV1 => up_ret ?_)))
      refine xr_op rfl rfl (xv_assign rfl ?_)
      refine xr_end rfl ?_
      refine th_n ?_
      refine xc_seq (xc_region ?_)
      refine xr_op rfl rfl (xv_alloc ty93 (fun bW hbW => ?_))
      refine xr_end rfl ?_
      refine th_n ?_
      refine xc_seq ?_
      refine xc_seq (xc_region ?_)
      refine xr_op rfl rfl (xv_faddr fl72_1 rfl ?_)
      refine xr_op rfl rfl (xv_load1 ty60 rfl rfl (by ((repeat first|exact z_0|assumption|refine z_1 ?_|(refine z_l ?_;(repeat first|exact z_0|assumption|refine z_1 ?_);done)|refine z_r ?_);done)) (by rfl) ?_)
      refine xr_op rfl rfl (xv_len sl60 rfl ?_)
      refine xr_op rfl rfl (xv_move rfl ?_)
      refine xr_end rfl ?_
      refine th_n ?_
      refine xc_block ?_
      refine XC.perm (h := (V1.hp 9 ((lfW xo 0).flatMap eStr) ++ (bW, .cells ⟨(prevF xo.rds 0).flatMap eB⟩ 93) :: (bR, .cells ⟨[I xo.house]⟩ 3) :: (bX, .cells ⟨eLeaf xo⟩ 72) :: (V.hp 5 (List.flatMap eU (mtrS (l.take k))) ++ (bB, .cells ⟨[.pointer p, V.val (List.length (mtrS (l.take k)))]⟩ 80) :: h))) List.perm_middle ?_
      refine xc_loop (σ := Nat × Vec) (fun z => z.1 ≤ xo.rds.length ∧ z.2.ok 1 (z.1 + 1) ((lfW xo z.1).flatMap eStr)) (fun z => (((((((((emp.put (some 5) (.pointer (some ⟨bB, 0, none⟩))).put (some 18) (.slice a l.length c)).put (some 19) (I l.length)).put (some 20) (I k)).put (some 8) (z.2.val (z.1 + 1))).put (some 9) (.pointer (some ⟨bW, 0, none⟩))).put (some 29) (.slice xo.ra xo.rds.length xo.rc)).put (some 30) (I xo.rds.length)).put (some 31) (I z.1))) (fun z => (z.2.hp 9 ((lfW xo z.1).flatMap eStr) ++ (bW, .cells ⟨(prevF xo.rds z.1).flatMap eB⟩ 93) :: (bR, .cells ⟨[I xo.house]⟩ 3) :: (bX, .cells ⟨eLeaf xo⟩ 72) :: (V.hp 5 (List.flatMap eU (mtrS (l.take k))) ++ (bB, .cells ⟨[.pointer p, V.val (List.length (mtrS (l.take k)))]⟩ 80) :: h))) (fun z => xo.rds.length - z.1) ((0, V1) : Nat × Vec) ⟨Nat.zero_le _, hV1⟩ (le_put (le_put (le_put (le_put (le_put (le_put (le_put (le_put (le_put (le_emp _) rfl) rfl) rfl) rfl) (by exact congrArg some (Vec.val_ad hV1).symm)) rfl) rfl) rfl) rfl) (by (first|((repeat first|exact s_0|exact s_1|exact s_3|refine s_4 ?_|refine s_5 ?_|refine s_6 ?_|refine s_7 ?_);done)|((repeat first|exact s_0|exact s_1|exact s_3|refine s_4 ?_|refine s_5 ?_|refine s_6 ?_|refine s_8 ?_);done))) ?_
      rintro ⟨j, W⟩ ⟨hj, hW⟩
      dsimp only at hj hW
      refine xc_seq (xc_region ?_)
      refine xr_op rfl rfl (xv_lss2 rfl rfl (fun q3 => ?_) (fun q3 => ?_))
      · refine xr_end rfl ?_
        refine th_n ?_
        refine xc_seq ?_
        refine xc_true rfl ?_
        refine xc_skip ?_
        refine th_n ?_
        refine xc_seq ?_
        refine xc_block ?_
        refine xc_seq (xc_region ?_)
        have hltp : j < xo.rds.length := by (first|omega|(dsimp only at *;omega)|(simp at *;omega))
        obtain ⟨bp, op, lp, tp, fzp, hap, hmp, hxp⟩ := (hxrd).at hltp
        obtain ⟨xp, hkp⟩ : ∃ qq_, xo.rds[j]? = some qq_ := ⟨_, List.getElem?_eq_getElem hltp⟩
        have hpok := hxok.2.2 xp (List.mem_of_getElem? hkp)
        unfold rdOk at hpok
        refine xr_op rfl rfl (xv_ia (sz := 1) (j := j) sl60 ty3 rfl (by rw [hap]; rfl) rfl (by (first | assumption | with_reducible exact Int.toNat_natCast _ | with_reducible rfl | rfl)) (by (first|omega|(dsimp only at *;omega)|(simp at *;omega))) (by (first|omega|(dsimp only at *;omega)|(simp at *;omega))) ?_)
        refine xr_op rfl rfl (xv_load1 ty3 rfl rfl (by ((repeat first|exact z_0|assumption|refine z_1 ?_|(refine z_l ?_;(repeat first|exact z_0|assumption|refine z_1 ?_);done)|refine z_r ?_);done)) (show _ = some (I ((xp.toNat : Nat) : Int)) by rw [show ((xp.toNat : Nat) : Int) = xp by omega]; exact take_get (hxp j xp hkp) (j := 0) rfl) ?_)
        refine xr_op rfl rfl (xv_assign rfl ?_)
        refine xr_end rfl ?_
        refine th_n ?_
        refine xc_seq (xc_region ?_)
        refine xr_op rfl rfl (xv_move rfl ?_)
        refine xr_op rfl rfl (xv_calls rfl hb45 (figures_c (n := xp.toNat) (by omega) (up_ret ?_)))
        refine xr_op rfl rfl (xv_alloc ty93 (fun bN hbN => ?_))
        refine xr_op rfl rfl (xv_s ty93 rfl rfl (by (first|(apply u_3;(repeat first|exact u_0|assumption|apply u_1|apply u_2);done)|((repeat first|exact u_0|assumption|apply u_1|apply u_2);done)|(apply u_3;apply u_3;(repeat first|exact u_0|assumption|apply u_1|apply u_2);done)|((repeat first|exact u_0|assumption|apply u_3|apply u_1);done))) (by ((try apply evl_some rfl);(repeat (first|exact (rfl : _ = [])|apply evl_cons rfl (by (first|exact v_1|exact v_2|exact v_3|exact v_4|exact v_5|exact v_6|exact v_7|exact v_8|exact v_9|exact rfl))|exact rfl)))) (by rfl) (by rfl) (by rfl) (by ((try apply evl_some rfl);(repeat (first|exact (rfl : _ = [])|apply evl_cons rfl (by (first|exact v_1|exact v_2|exact v_3|exact v_4|exact v_5|exact v_6|exact v_7|exact v_8|exact v_9|exact rfl))|exact rfl)))) ?_)
        refine xr_end rfl ?_
        refine th_n ?_
        refine xc_drawX0 [(6, [(bN, fun o => o = .cells ⟨(figs xp.toNat).flatMap eB⟩ 93 (0, 0))])] [(0, .S), (1, .R), (2, .R), (3, .R), (4, .P), (6, .S), (4, .A), (5, .O), (7, .S), (8, .O)] mixed (by kernel_rfl) (iv_cons (holds1 (by ((repeat first|exact z_0|assumption|refine z_1 ?_|(refine z_l ?_;(repeat first|exact z_0|assumption|refine z_1 ?_);done)|refine z_r ?_);done)) rfl) iv_nil) ?_
        refine jx_S rfl rfl (.inl rfl) (xv_move rfl ⟨rfl, rfl⟩) ?_
        refine jx_R rfl rfl (.inl rfl) (xv_loadA (l' := (figs xp.toNat).flatMap eB) ty93 rfl rfl (by ((repeat first|exact z_0|assumption|refine z_1 ?_|(refine z_l ?_;(repeat first|exact z_0|assumption|refine z_1 ?_);done)|refine z_r ?_);done)) rfl rfl ⟨rfl, rfl⟩) ?_
        refine jx_R rfl rfl (.inl rfl) (xv_loadA (l' := (prevF xo.rds j).flatMap eB) ty93 rfl rfl (by ((repeat first|exact z_0|assumption|refine z_1 ?_|(refine z_l ?_;(repeat first|exact z_0|assumption|refine z_1 ?_);done)|refine z_r ?_);done)) (by rw [List.drop_zero]; exact List.take_of_length_le (by show _ ≤ 5; rw [eB_flen, prevF_len]; exact Nat.le_refl _)) (by rw [eB_flen, prevF_len]) ⟨rfl, rfl⟩) ?_
        refine jx_R rfl rfl (.inl rfl) (xv_calls rfl hb46 (word_c (f := figs xp.toNat) (w := prevF xo.rds j) rfl (prevF_len _ _) (figs_byt _) (up_ret ⟨rfl, rfl⟩))) ?_
        refine jx_P rfl rfl rfl (al_buildSlice sl86 ty9 rfl rfl rfl rfl rfl (by ((try apply evl_some rfl);(repeat (first|exact (rfl : _ = [])|apply evl_cons rfl (by (first|exact v_1|exact v_2|exact v_3|exact v_4|exact v_5|exact v_6|exact v_7|exact v_8|exact v_9|exact rfl))|exact rfl))))) ?_
        refine jx_I rfl rfl (.inl rfl) (fun hh hv => by have hv2 : Holds [(bN, fun o => o = .cells ⟨(figs xp.toNat).flatMap eB⟩ 93 (0, 0))] hh := hv; obtain ⟨o9, hm9, e9⟩ := hv2 _ _ List.mem_cons_self; subst e9; exact xv_loadA (l' := (figs xp.toNat).flatMap eB) ty93 rfl rfl hm9 rfl rfl ⟨rfl, rfl⟩) ?_
        refine jx_A rfl rfl rfl rfl rfl ⟨rfl, trivial⟩ (fun bM hbM => ?_)
        refine jx_O rfl rfl (.inl rfl) (xv_append (V := W) (n := j + 1) (xs := (lfW xo j).flatMap eStr) sl86 ty9 rfl rfl rfl hW (.there (.there .here)) (by ((repeat first|exact z_0|assumption|refine z_1 ?_|(refine z_l ?_;(repeat first|exact z_0|assumption|refine z_1 ?_);done)|refine z_r ?_);done)) (by ((try apply evl_some rfl);(repeat (first|exact (rfl : _ = [])|apply evl_cons rfl (by (first|exact v_1|exact v_2|exact v_3|exact v_4|exact v_5|exact v_6|exact v_7|exact v_8|exact v_9|exact rfl))|exact rfl)))) rfl rfl (by (first|omega|(dsimp only at *;omega)|(simp at *;omega))) (by simp only []; (first|omega|(dsimp only at *;omega)|(simp at *;omega))) (by (first|omega|(dsimp only at *;omega)|(simp at *;omega))) (fun W2 hW2 => ?_))
        refine ⟨(kp_in (holds1 (by ((repeat first|exact z_0|assumption|refine z_1 ?_|(refine z_l ?_;(repeat first|exact z_0|assumption|refine z_1 ?_);done)|refine z_r ?_);done)) rfl) kp_nil), ?_⟩
        refine jx_S rfl rfl (.inl rfl) (xv_assign rfl ⟨rfl, rfl⟩) ?_
        refine jx_O rfl rfl (.inl rfl) (xv_s (l' := (figs xp.toNat).flatMap eB) (vs := (figs xp.toNat).flatMap eB) ty93 rfl rfl (by (first|(apply u_3;(repeat first|exact u_0|assumption|apply u_1|apply u_2);done)|((repeat first|exact u_0|assumption|apply u_1|apply u_2);done)|(apply u_3;apply u_3;(repeat first|exact u_0|assumption|apply u_1|apply u_2);done)|((repeat first|exact u_0|assumption|apply u_3|apply u_1);done))) rfl rfl rfl (by rw [eB_flen, prevF_len]; rfl) (splice_all (by rw [eB_flen, eB_flen, prevF_len]; rfl)) ?_)
        refine ⟨(kp_go (by kernel_rfl) kp_nil), ?_⟩
        refine jx_end ?_
        refine bk_n ?_
        refine th_n ?_
        refine xc_region ?_
        refine xr_op rfl rfl (xv_add rfl rfl (wrap_i64 (by (first|omega|(dsimp only at *;omega)|(simp at *;omega))) (by (first|omega|(dsimp only at *;omega)|(simp at *;omega)))) ?_)
        refine xr_op rfl rfl (xv_move rfl ?_)
        refine xr_end rfl ?_
        have epf := prevF_succ hkp
        have ewd : (lfW xo (j + 1)).flatMap eStr = (lfW xo j).flatMap eStr ++ [S (wordS (figs xp.toNat) (prevF xo.rds j))] := by rw [show lfW xo (j + 1) = lfW xo j ++ [wordS (prevF xo.rds (j + 1)) (prevF xo.rds j)] from rfl, epf, List.flatMap_append]; rfl
        exact rnd ((j + 1, W2) : Nat × Vec) ⟨by (first|omega|(dsimp only at *;omega)|(simp at *;omega)), by dsimp only; rw [ewd]; exact hW2⟩ (by (first|omega|(dsimp only at *;omega)|(simp at *;omega))) (le_put (le_put (le_put (le_put (le_put (le_put (le_put (le_put (le_put (le_emp _) rfl) rfl) rfl) rfl) rfl) rfl) rfl) rfl) rfl) (by dsimp only; rw [ewd, epf]; (first|((repeat first|exact s_0|exact s_1|exact s_3|refine s_4 ?_|refine s_5 ?_|refine s_6 ?_|refine s_7 ?_);done)|((repeat first|exact s_0|exact s_1|exact s_3|refine s_4 ?_|refine s_5 ?_|refine s_6 ?_|refine s_8 ?_);done)))
      · refine xr_end rfl ?_
        refine th_n ?_
        refine xc_seq ?_
        refine xc_false rfl ?_
        refine xc_exit ?_
        refine th_x ?_
        refine th_x ?_
        refine bk_same ?_
        refine th_n ?_
        refine xc_region ?_
        obtain rfl : j = xo.rds.length := by (first|omega|(dsimp only at *;omega)|(simp at *;omega))
        have elw : (lfW xo xo.rds.length).length = xo.rds.length + 1 := by rw [lfW, List.length_cons, wdL_len]
        rw [Vec.val_ad hW, ← elw]
        refine xr_op rfl rfl (xv_move rfl ?_)
        refine xr_op rfl rfl (xv_calls rfl hb39 (line_c (ws := lfW xo xo.rds.length) ((Vec.slvA (t := 9) eStr_len elw hW).sub (by intro z9 hz9; ((repeat first|exact z_0|assumption|refine z_1 ?_|(refine z_l ?_;(repeat first|exact z_0|assumption|refine z_1 ?_);done)|refine z_r ?_);done))) (by rw [elw]; exact Vec.le_cp hW) (by rw [elw]; omega) (lfW_short hxok _) (up_ret ?_)))
        refine xr_op rfl rfl (xv_calls rfl hb38 (wstrP_c (V := V) (bs := mtrS (l.take k)) (l := lfS xo) hp hV (by omega) permB3 (fun V2 hV2 => up_ret ?_)))
        refine xr_end rfl ?_
        refine bk_n ?_
        refine th_n ?_
        refine xc_region ?_
        refine xr_op rfl rfl (xv_add rfl rfl (wrap_i64 (by (first|omega|(dsimp only at *;omega)|(simp at *;omega))) (by (first|omega|(dsimp only at *;omega)|(simp at *;omega)))) ?_)
        refine xr_op rfl rfl (xv_move rfl ?_)
        refine xr_end rfl ?_
        have etk : mtrS (l.take (k + 1)) = mtrS (l.take k) ++ lfS xo := by rw [List.take_add_one, hko]; exact mtrS_snoc _ _
        exact rnd ((k + 1, V2, (some ⟨bB, 0, none⟩)) : Nat × Vec × Option Addr) ⟨by (first|omega|(dsimp only at *;omega)|(simp at *;omega)), by dsimp only; rw [etk]; exact hV2, .inr rfl, fun h9 => by (have h8 : mtrS (l.take k) ++ lfS xo = [] := by rw [← etk]; exact h9); unfold lfS lineS at h8; simp at h8⟩ (by (first|omega|(dsimp only at *;omega)|(simp at *;omega))) (le_put (le_put (le_put (le_put (le_emp _) rfl) rfl) rfl) rfl) (by dsimp only; rw [etk]; (first|((repeat first|exact s_0|exact s_1|exact s_3|refine s_4 ?_|refine s_5 ?_|refine s_6 ?_|refine s_7 ?_);done)|((repeat first|exact s_0|exact s_1|exact s_3|refine s_4 ?_|refine s_5 ?_|refine s_6 ?_|refine s_8 ?_);done)))
    · refine xr_end rfl ?_
      refine th_n ?_
      refine xc_seq ?_
      refine xc_false rfl ?_
      refine xc_exit ?_
      refine th_x ?_
      refine th_x ?_
      refine bk_same ?_
      refine th_n ?_
      refine xc_seq (xc_region ?_)
      obtain rfl : k = l.length := by (first|omega|(dsimp only at *;omega)|(simp at *;omega))
      rw [List.take_length] at hV hmd hne ⊢
      refine xr_op rfl rfl (xv_calls rfl hb41 (bstr_c (bs := mtrS l) (g := h) hV hne (by omega) (List.Perm.refl _) (up_ret ?_)))
      refine xr_op rfl rfl (xv_assign rfl ?_)
      refine xr_op rfl rfl (xv_assign rfl ?_)
      refine xr_end rfl ?_
      refine th_n ?_
      refine xc_ret ?_
      refine body_ret (h' := h) rfl (ro_tmp rfl (ro_tmp rfl ro_nil)) (by (first|((repeat first|exact s_0|exact s_1|exact s_3|refine s_4 ?_|refine s_5 ?_|refine s_6 ?_|refine s_7 ?_);done)|((repeat first|exact s_0|exact s_1|exact s_3|refine s_4 ?_|refine s_5 ?_|refine s_6 ?_|refine s_8 ?_);done))) ?_
      first | exact H1 (by omega) | exact H2 he0

end Go.Proofs.YtlpkiolopelpfaaDoor

/-
  Walks.
-/
namespace Go.Proofs.YtlpkiolopelpfaaDoor
open Go Go.H
set_option maxRecDepth 100000
set_option maxHeartbeats 8000000
set_option linter.all false
theorem loads_c {h : Hp} {R : Ending → Hp → Prop} (H : ∀ b, R (.returned (.slice (some ⟨b, 0, none⟩) 3 3)) ((b, .cells ⟨exL.flatMap eLoad⟩ 75) :: h)) : ACalls Tryd.prog 14 ⟨[]⟩ h R := by
  refine calls_of_xc (N := 5) Tryd.func14 rfl (by rfl) ?_
  refine xc_seq (xc_region ?_)
  refine xr_op rfl rfl (xv_assign rfl ?_)
  refine xr_end rfl ?_
  refine th_n ?_
  refine xc_seq (xc_region ?_)
  refine xr_op rfl rfl (xv_build bt75 rfl (by ((try apply evl_some rfl);(repeat (first|exact (rfl : _ = [])|apply evl_cons rfl (by (first|exact v_1|exact v_2|exact v_3|exact v_4|exact v_5|exact v_6|exact v_7|exact v_8|exact v_9|exact rfl))|exact rfl)))) ?_)
  refine xr_op rfl rfl (xv_build bt75 rfl (by ((try apply evl_some rfl);(repeat (first|exact (rfl : _ = [])|apply evl_cons rfl (by (first|exact v_1|exact v_2|exact v_3|exact v_4|exact v_5|exact v_6|exact v_7|exact v_8|exact v_9|exact rfl))|exact rfl)))) ?_)
  refine xr_op rfl rfl (xv_build bt75 rfl (by ((try apply evl_some rfl);(repeat (first|exact (rfl : _ = [])|apply evl_cons rfl (by (first|exact v_1|exact v_2|exact v_3|exact v_4|exact v_5|exact v_6|exact v_7|exact v_8|exact v_9|exact rfl))|exact rfl)))) ?_)
  refine xr_op rfl rfl ((al_buildSlice sl32 ty75 rfl rfl rfl rfl rfl (by ((try apply evl_some rfl);(repeat (first|exact (rfl : _ = [])|apply evl_cons rfl (by (first|exact v_1|exact v_2|exact v_3|exact v_4|exact v_5|exact v_6|exact v_7|exact v_8|exact v_9|exact rfl))|exact rfl))))).xv (fun bs hbs => ?_))
  refine xr_op rfl rfl (xv_assign rfl ?_)
  refine xr_end rfl ?_
  refine th_n ?_
  refine xc_ret ?_
  refine body_ret (h' := ((bs, .cells ⟨exL.flatMap eLoad⟩ 75) :: h)) rfl (ro_tmp rfl ro_nil) (by (first|((repeat first|exact s_0|exact s_1|exact s_3|refine s_4 ?_|refine s_5 ?_|refine s_6 ?_|refine s_7 ?_);done)|((repeat first|exact s_0|exact s_1|exact s_3|refine s_4 ?_|refine s_5 ?_|refine s_6 ?_|refine s_8 ?_);done))) ?_
  exact H bs

theorem sights_c {h : Hp} {R : Ending → Hp → Prop} (H : ∀ b, R (.returned (.slice (some ⟨b, 0, none⟩) 3 3)) ((b, .cells ⟨exS.flatMap eSight⟩ 44) :: h)) : ACalls Tryd.prog 15 ⟨[]⟩ h R := by
  refine calls_of_xc (N := 5) Tryd.func15 rfl (by rfl) ?_
  refine xc_seq (xc_region ?_)
  refine xr_op rfl rfl (xv_assign rfl ?_)
  refine xr_end rfl ?_
  refine th_n ?_
  refine xc_seq (xc_region ?_)
  refine xr_op rfl rfl (xv_build bt44 rfl (by ((try apply evl_some rfl);(repeat (first|exact (rfl : _ = [])|apply evl_cons rfl (by (first|exact v_1|exact v_2|exact v_3|exact v_4|exact v_5|exact v_6|exact v_7|exact v_8|exact v_9|exact rfl))|exact rfl)))) ?_)
  refine xr_op rfl rfl (xv_build bt44 rfl (by ((try apply evl_some rfl);(repeat (first|exact (rfl : _ = [])|apply evl_cons rfl (by (first|exact v_1|exact v_2|exact v_3|exact v_4|exact v_5|exact v_6|exact v_7|exact v_8|exact v_9|exact rfl))|exact rfl)))) ?_)
  refine xr_op rfl rfl (xv_build bt44 rfl (by ((try apply evl_some rfl);(repeat (first|exact (rfl : _ = [])|apply evl_cons rfl (by (first|exact v_1|exact v_2|exact v_3|exact v_4|exact v_5|exact v_6|exact v_7|exact v_8|exact v_9|exact rfl))|exact rfl)))) ?_)
  refine xr_op rfl rfl ((al_buildSlice sl22 ty44 rfl rfl rfl rfl rfl (by ((try apply evl_some rfl);(repeat (first|exact (rfl : _ = [])|apply evl_cons rfl (by (first|exact v_1|exact v_2|exact v_3|exact v_4|exact v_5|exact v_6|exact v_7|exact v_8|exact v_9|exact rfl))|exact rfl))))).xv (fun bs hbs => ?_))
  refine xr_op rfl rfl (xv_assign rfl ?_)
  refine xr_end rfl ?_
  refine th_n ?_
  refine xc_ret ?_
  refine body_ret (h' := ((bs, .cells ⟨exS.flatMap eSight⟩ 44) :: h)) rfl (ro_tmp rfl ro_nil) (by (first|((repeat first|exact s_0|exact s_1|exact s_3|refine s_4 ?_|refine s_5 ?_|refine s_6 ?_|refine s_7 ?_);done)|((repeat first|exact s_0|exact s_1|exact s_3|refine s_4 ?_|refine s_5 ?_|refine s_6 ?_|refine s_8 ?_);done))) ?_
  exact H bs

theorem leaves_c {h : Hp} {R : Ending → Hp → Prop} (H : ∀ b b2, R (.returned (.slice (some ⟨b, 0, none⟩) 1 1)) ((b, .cells ⟨(exM b2).flatMap eLeaf⟩ 72) :: (b2, .cells ⟨[I 1234, I 1240, I 1240, I 11240]⟩ 3) :: h)) : ACalls Tryd.prog 16 ⟨[]⟩ h R := by
  refine calls_of_xc (N := 4) Tryd.func16 rfl (by rfl) ?_
  refine xc_seq (xc_region ?_)
  refine xr_op rfl rfl (xv_assign rfl ?_)
  refine xr_end rfl ?_
  refine th_n ?_
  refine xc_seq (xc_region ?_)
  refine xr_op rfl rfl ((al_buildSlice sl60 ty3 rfl rfl rfl rfl rfl (by ((try apply evl_some rfl);(repeat (first|exact (rfl : _ = [])|apply evl_cons rfl (by (first|exact v_1|exact v_2|exact v_3|exact v_4|exact v_5|exact v_6|exact v_7|exact v_8|exact v_9|exact rfl))|exact rfl))))).xv (fun br hbr => ?_))
  refine xr_op rfl rfl (xv_build bt72 rfl (by ((try apply evl_some rfl);(repeat (first|exact (rfl : _ = [])|apply evl_cons rfl (by (first|exact v_1|exact v_2|exact v_3|exact v_4|exact v_5|exact v_6|exact v_7|exact v_8|exact v_9|exact rfl))|exact rfl)))) ?_)
  refine xr_op rfl rfl ((al_buildSlice sl33 ty72 rfl rfl rfl rfl rfl (by ((try apply evl_some rfl);(repeat (first|exact (rfl : _ = [])|apply evl_cons rfl (by (first|exact v_1|exact v_2|exact v_3|exact v_4|exact v_5|exact v_6|exact v_7|exact v_8|exact v_9|exact rfl))|exact rfl))))).xv (fun bs hbs => ?_))
  refine xr_op rfl rfl (xv_assign rfl ?_)
  refine xr_end rfl ?_
  refine th_n ?_
  refine xc_ret ?_
  refine body_ret (h' := ((bs, .cells ⟨(exM br).flatMap eLeaf⟩ 72) :: (br, .cells ⟨[I 1234, I 1240, I 1240, I 11240]⟩ 3) :: h)) rfl (ro_tmp rfl ro_nil) (by (first|((repeat first|exact s_0|exact s_1|exact s_3|refine s_4 ?_|refine s_5 ?_|refine s_6 ?_|refine s_7 ?_);done)|((repeat first|exact s_0|exact s_1|exact s_3|refine s_4 ?_|refine s_5 ?_|refine s_6 ?_|refine s_8 ?_);done))) ?_
  exact H bs br

theorem SightsT_c {a a2 : Option Addr} {c c2 n n2 : Nat} {xs ys : List Sight} {h : Hp} {R : Ending → Hp → Prop} (hn : n = xs.length) (hn2 : n2 = ys.length) (hs : SlV h 2 eSight a xs) (hs2 : SlV h 2 eSight a2 ys) (he : xs = ys) (hl : n ≤ 1000000) (H : R (.returned (.bool true)) h) : ACalls Tryd.prog 10 ⟨[.slice a n c, .slice a2 n2 c2]⟩ h R := by
  subst hn hn2
  refine Sights_c hs hs2 hl (by rw [← he]; omega) ?_
  rw [decide_eq_true he]; exact H

theorem alive_c {h : Hp} {R : Ending → Hp → Prop} (H : R (.returned (.bool true)) h) : ACalls Tryd.prog 5 ⟨[]⟩ h R := by
  refine calls_of_xc (N := 61) Tryd.func5 rfl (by rfl) ?_
  refine xc_seq (xc_region ?_)
  refine xr_op rfl rfl (xv_assign rfl ?_)
  refine xr_end rfl ?_
  refine th_n ?_
  refine xc_seq (xc_region ?_)
  refine xr_op rfl rfl (xv_calls rfl hb14 (loads_c (fun bl => up_ret ?_)))
  refine xr_op rfl rfl (xv_calls rfl hb12 (WriteCharges_c (l := exL) (slvL eLoad_len (by ((repeat first|exact z_0|assumption|refine z_1 ?_|(refine z_l ?_;(repeat first|exact z_0|assumption|refine z_1 ?_);done)|refine z_r ?_);done))) (by decide) (fun _ n9 hn9 => itoaS (ex_small n9 hn9).1 (ex_small n9 hn9).2) (fun h9 => absurd exL_ok h9) (fun _hc => up_ret ?_)))
  refine xr_op rfl rfl (xv_move rfl ?_)
  refine xr_op rfl rfl (xv_extract rfl rfl ?_)
  refine xr_op rfl rfl (xv_extract rfl rfl ?_)
  refine xr_op rfl rfl (xv_assign rfl ?_)
  refine xr_op rfl rfl (xv_assign rfl ?_)
  refine xr_end rfl ?_
  refine th_n ?_
  refine xc_seq (xc_region ?_)
  refine xr_op rfl rfl (xv_calls rfl hb15 (sights_c (fun bg => up_ret ?_)))
  refine xr_op rfl rfl (xv_calls rfl hb6 (WriteLog_c (xs := exS) (slvL eSight_len (by ((repeat first|exact z_0|assumption|refine z_1 ?_|(refine z_l ?_;(repeat first|exact z_0|assumption|refine z_1 ?_);done)|refine z_r ?_);done))) (by decide) (fun h9 => absurd exS_ok h9) (fun _hc V1 hV1 => up_ret ?_)))
  refine xr_op rfl rfl (xv_move rfl ?_)
  refine xr_op rfl rfl (xv_extract rfl rfl ?_)
  refine xr_op rfl rfl (xv_extract rfl rfl ?_)
  refine xr_op rfl rfl (xv_assign rfl ?_)
  refine xr_op rfl rfl (xv_assign rfl ?_)
  refine xr_end rfl ?_
  refine th_n ?_
  refine xc_seq (xc_region ?_)
  refine xr_op rfl rfl (xv_calls rfl hb16 (leaves_c (fun bv br => up_ret ?_)))
  refine xr_op rfl rfl (xv_calls rfl hb13 (WriteMeters_c (l := exM br) ⟨slvL eLeaf_len (by ((repeat first|exact z_0|assumption|refine z_1 ?_|(refine z_l ?_;(repeat first|exact z_0|assumption|refine z_1 ?_);done)|refine z_r ?_);done)), fun x9 hx9 => by rw [List.mem_singleton.1 hx9]; exact slvL eI_len (xs := [1234, 1240, 1240, 11240]) (by ((repeat first|exact z_0|assumption|refine z_1 ?_|(refine z_l ?_;(repeat first|exact z_0|assumption|refine z_1 ?_);done)|refine z_r ?_);done))⟩ (by show 1 ≤ 1000000; decide) (fun x9 hx9 => by rw [List.mem_singleton.1 hx9]; show 4 ≤ 1000000; decide) (fun _ x9 hx9 => by rw [List.mem_singleton.1 hx9]; exact itoaS (by show (0 : Int) ≤ 12; decide) (by show (12 : Int) < 100; decide)) (fun h9 => absurd (exM_ok br) h9) (fun _hc => up_ret ?_)))
  refine xr_op rfl rfl (xv_move rfl ?_)
  refine xr_op rfl rfl (xv_extract rfl rfl ?_)
  refine xr_op rfl rfl (xv_extract rfl rfl ?_)
  refine xr_op rfl rfl (xv_assign rfl ?_)
  refine xr_op rfl rfl (xv_assign rfl ?_)
  refine xr_end rfl ?_
  refine th_n ?_
  refine xc_seq (xc_region ?_)
  refine xr_op rfl rfl (xv_move rfl ?_)
  refine xr_op rfl rfl (xv_calls rfl hb8 (ReadLog_c (bs := logB exS) ((Vec.slvA (t := 5) eB_len rfl hV1).sub (by intro z9 hz9; ((repeat first|exact z_0|assumption|refine z_1 ?_|(refine z_l ?_;(repeat first|exact z_0|assumption|refine z_1 ?_);done)|refine z_r ?_);done))) (by rw [log_ex]; decide) (logB_byt _) (fun h9 => by rw [rd_log exS_ok] at h9; cases h9) (fun l2 V2 hrd hV2 => up_ret ?_)))
  refine xr_op rfl rfl (xv_move rfl ?_)
  refine xr_op rfl rfl (xv_extract rfl rfl ?_)
  refine xr_op rfl rfl (xv_extract rfl rfl ?_)
  refine xr_op rfl rfl (xv_assign rfl ?_)
  refine xr_op rfl rfl (xv_assign rfl ?_)
  refine xr_end rfl ?_
  refine th_n ?_
  refine xc_seq (xc_region ?_)
  obtain rfl : l2 = exS := by rw [rd_log exS_ok] at hrd; exact (Option.some.inj hrd).symm
  rw [Vec.val_ad hV2]
  refine xr_op rfl rfl (xv_move rfl ?_)
  refine xr_op rfl rfl (xv_eqS (a := chgS exL) (c := [53, 32, 49, 32, 48, 32, 54, 10, 53, 32, 50, 32, 49, 32, 55, 10, 54, 32, 49, 32, 48, 32, 54, 10, 116, 111, 116, 97, 108, 32, 51, 32, 49, 57, 10]) rfl rfl (decide_eq_true chg_ex) ?_)
  refine xr_op rfl rfl (xv_move rfl ?_)
  refine xr_gd rfl rfl rfl (xv_move rfl ?_)
  refine xr_gd rfl rfl rfl (xv_eqlT rfl rfl rfl ?_)
  refine xr_op rfl rfl (xv_pick rfl rfl ?_)
  refine xr_op rfl rfl (xv_move rfl ?_)
  refine xr_gd rfl rfl rfl (xv_move rfl ?_)
  refine xr_gd rfl rfl rfl (xv_cvB (bs := logB exS) sl23 Tryd.underlying5 Tryd.underlying9 rfl rfl (logB_byt _) ((Vec.slvA (t := 5) eB_len rfl hV1).sub (by intro z9 hz9; ((repeat first|exact z_0|assumption|refine z_1 ?_|(refine z_l ?_;(repeat first|exact z_0|assumption|refine z_1 ?_);done)|refine z_r ?_);done))) ?_)
  refine xr_gd rfl rfl rfl (xv_eqS (a := u8 (logB exS)) (c := [53, 164, 4, 39, 161]) rfl rfl (decide_eq_true log_exU) ?_)
  refine xr_op rfl rfl (xv_pick rfl rfl ?_)
  refine xr_op rfl rfl (xv_move rfl ?_)
  refine xr_gd rfl rfl rfl (xv_move rfl ?_)
  refine xr_gd rfl rfl rfl (xv_eqlT rfl rfl rfl ?_)
  refine xr_op rfl rfl (xv_pick rfl rfl ?_)
  refine xr_op rfl rfl (xv_move rfl ?_)
  refine xr_gd rfl rfl rfl (xv_move rfl ?_)
  refine xr_gd rfl rfl rfl (xv_eqS (a := mtrS (exM br)) (c := [49, 50, 32, 48, 49, 50, 51, 52, 32, 52, 48, 32, 46, 32, 49, 49, 50, 52, 48, 10]) rfl rfl (decide_eq_true (mtr_ex br)) ?_)
  refine xr_op rfl rfl (xv_pick rfl rfl ?_)
  refine xr_op rfl rfl (xv_move rfl ?_)
  refine xr_gd rfl rfl rfl (xv_move rfl ?_)
  refine xr_gd rfl rfl rfl (xv_eqlT rfl rfl rfl ?_)
  refine xr_op rfl rfl (xv_pick rfl rfl ?_)
  refine xr_op rfl rfl (xv_move rfl ?_)
  refine xr_gd rfl rfl rfl (xv_move rfl ?_)
  refine xr_gd rfl rfl rfl (xv_calls rfl hb15 (sights_c (fun bg2 => up_ret ?_)))
  refine xr_gd rfl rfl rfl (xv_calls rfl hb10 (SightsT_c rfl rfl ((Vec.slvA (t := 44) eSight_len rfl hV2).sub (by intro z9 hz9; ((repeat first|exact z_0|assumption|refine z_1 ?_|(refine z_l ?_;(repeat first|exact z_0|assumption|refine z_1 ?_);done)|refine z_r ?_);done))) (slvL eSight_len (by ((repeat first|exact z_0|assumption|refine z_1 ?_|(refine z_l ?_;(repeat first|exact z_0|assumption|refine z_1 ?_);done)|refine z_r ?_);done))) rfl (by decide) (up_ret ?_)))
  refine xr_op rfl rfl (xv_pick rfl rfl ?_)
  refine xr_op rfl rfl (xv_move rfl ?_)
  refine xr_gd rfl rfl rfl (xv_move rfl ?_)
  refine xr_gd rfl rfl rfl (xv_eqlT rfl rfl rfl ?_)
  refine xr_op rfl rfl (xv_pick rfl rfl ?_)
  refine xr_op rfl rfl (xv_assign rfl ?_)
  refine xr_end rfl ?_
  refine th_n ?_
  refine xc_ret ?_
  refine body_ret (h' := h) rfl (ro_tmp rfl ro_nil) (by (first|((repeat first|exact s_0|exact s_1|exact s_3|refine s_4 ?_|refine s_5 ?_|refine s_6 ?_|refine s_7 ?_);done)|((repeat first|exact s_0|exact s_1|exact s_3|refine s_4 ?_|refine s_5 ?_|refine s_6 ?_|refine s_8 ?_);done))) ?_
  exact H

end Go.Proofs.YtlpkiolopelpfaaDoor

/-
  Walks.
-/
namespace Go.Proofs.YtlpkiolopelpfaaDoor
open Go Go.H
set_option maxRecDepth 100000
set_option maxHeartbeats 8000000
set_option linter.all false
theorem BookLogs_c {xs : List Sight} {bs : List Int} {a b : Option Addr} {c d : Nat} {h : Hp} {R : Ending → Hp → Prop} (hs : SlV h 2 eSight a xs) (hb : SlV h 1 eB b bs) (hbb : byt bs) (H : R (.returned (.bool true)) h) : ACalls Tryd.prog 3 ⟨[.slice a xs.length c, .slice b bs.length d]⟩ h R := by
  refine calls_of_xc (N := 65) Tryd.func3 rfl (by rfl) ?_
  refine xc_seq (xc_region ?_)
  refine xr_op rfl rfl (xv_assign rfl ?_)
  refine xr_end rfl ?_
  refine th_n ?_
  refine xc_seq ?_
  refine xc_seq (xc_region ?_)
  refine xr_op rfl rfl (xv_move rfl ?_)
  refine xr_op rfl rfl (xv_len sl22 rfl ?_)
  refine xr_op rfl rfl (xv_gtr2 rfl rfl (fun q1 => ?_) (fun q1 => ?_))
  · refine xr_op rfl rfl (xv_move rfl ?_)
    refine xr_no rfl rfl rfl rfl ?_
    refine xr_no rfl rfl rfl rfl ?_
    refine xr_no rfl rfl rfl rfl ?_
    refine xr_op rfl rfl (xv_pick rfl rfl ?_)
    refine xr_end rfl ?_
    refine th_n ?_
    refine xc_true rfl ?_
    refine xc_seq (xc_region ?_)
    refine xr_op rfl rfl (xv_calls rfl hb5 (alive_c (up_ret ?_)))
    refine xr_op rfl rfl (xv_assign rfl ?_)
    refine xr_end rfl ?_
    refine th_n ?_
    refine xc_ret ?_
    refine th_r ?_
    refine body_ret (h' := h) rfl (ro_tmp rfl ro_nil) (by (first|((repeat first|exact s_0|exact s_1|exact s_3|refine s_4 ?_|refine s_5 ?_|refine s_6 ?_|refine s_7 ?_);done)|((repeat first|exact s_0|exact s_1|exact s_3|refine s_4 ?_|refine s_5 ?_|refine s_6 ?_|refine s_8 ?_);done))) ?_
    exact H
  · refine xr_op rfl rfl (xv_move rfl ?_)
    refine xr_gd rfl rfl rfl (xv_move rfl ?_)
    refine xr_gd rfl rfl rfl (xv_len sl23 rfl ?_)
    refine xr_gd rfl rfl rfl (xv_gtr2 rfl rfl (fun q2 => ?_) (fun q2 => ?_))
    · refine xr_op rfl rfl (xv_pick rfl rfl ?_)
      refine xr_end rfl ?_
      refine th_n ?_
      refine xc_true rfl ?_
      refine xc_seq (xc_region ?_)
      refine xr_op rfl rfl (xv_calls rfl hb5 (alive_c (up_ret ?_)))
      refine xr_op rfl rfl (xv_assign rfl ?_)
      refine xr_end rfl ?_
      refine th_n ?_
      refine xc_ret ?_
      refine th_r ?_
      refine body_ret (h' := h) rfl (ro_tmp rfl ro_nil) (by (first|((repeat first|exact s_0|exact s_1|exact s_3|refine s_4 ?_|refine s_5 ?_|refine s_6 ?_|refine s_7 ?_);done)|((repeat first|exact s_0|exact s_1|exact s_3|refine s_4 ?_|refine s_5 ?_|refine s_6 ?_|refine s_8 ?_);done))) ?_
      exact H
    · refine xr_op rfl rfl (xv_pick rfl rfl ?_)
      refine xr_end rfl ?_
      refine th_n ?_
      refine xc_false rfl ?_
      refine xc_skip ?_
      refine th_n ?_
      refine xc_seq (xc_region ?_)
      refine xr_op rfl rfl (xv_move rfl ?_)
      refine xr_op rfl rfl (xv_calls rfl hb6 (WriteLog_c hs (by omega) (fun hne => up_ret ?_) (fun he V1 hV1 => up_ret ?_)))
      · refine xr_op rfl rfl (xv_move rfl ?_)
        refine xr_op rfl rfl (xv_extract rfl rfl ?_)
        refine xr_op rfl rfl (xv_extract rfl rfl ?_)
        refine xr_op rfl rfl (xv_assign rfl ?_)
        refine xr_op rfl rfl (xv_assign rfl ?_)
        refine xr_end rfl ?_
        refine th_n ?_
        refine xc_seq (xc_region ?_)
        refine xr_op rfl rfl (xv_move rfl ?_)
        refine xr_op rfl rfl (xv_calls rfl hb7 (RWriteLog_c (hs.sub (by intro z9 hz9; ((repeat first|exact z_0|assumption|refine z_1 ?_|(refine z_l ?_;(repeat first|exact z_0|assumption|refine z_1 ?_);done)|refine z_r ?_);done))) (by omega) (H2 := fun h9 => absurd h9 hne) (fun _h8 => up_ret ?_)))
        refine xr_op rfl rfl (xv_move rfl ?_)
        refine xr_op rfl rfl (xv_extract rfl rfl ?_)
        refine xr_op rfl rfl (xv_extract rfl rfl ?_)
        refine xr_op rfl rfl (xv_assign rfl ?_)
        refine xr_op rfl rfl (xv_assign rfl ?_)
        refine xr_end rfl ?_
        refine th_n ?_
        refine xc_seq (xc_region ?_)
        refine xr_op rfl rfl (xv_move rfl ?_)
        refine xr_op rfl rfl (xv_calls rfl hb8 (ReadLog_c (hb.sub (by intro z9 hz9; ((repeat first|exact z_0|assumption|refine z_1 ?_|(refine z_l ?_;(repeat first|exact z_0|assumption|refine z_1 ?_);done)|refine z_r ?_);done))) (by omega) hbb (fun hrd => up_ret ?_) (fun l V3 hrd hV3 => up_ret ?_)))
        · refine xr_op rfl rfl (xv_move rfl ?_)
          refine xr_op rfl rfl (xv_extract rfl rfl ?_)
          refine xr_op rfl rfl (xv_extract rfl rfl ?_)
          refine xr_op rfl rfl (xv_assign rfl ?_)
          refine xr_op rfl rfl (xv_assign rfl ?_)
          refine xr_end rfl ?_
          refine th_n ?_
          refine xc_seq (xc_region ?_)
          refine xr_op rfl rfl (xv_move rfl ?_)
          refine xr_op rfl rfl (xv_calls rfl hb9 (RReadLog_c (hb.sub (by intro z9 hz9; ((repeat first|exact z_0|assumption|refine z_1 ?_|(refine z_l ?_;(repeat first|exact z_0|assumption|refine z_1 ?_);done)|refine z_r ?_);done))) (by omega) hbb (H2 := fun l9 V9 h9 _ => (by rw [refRead_eq hbb, hrd] at h9; cases h9)) (fun _h7 => up_ret ?_)))
          refine xr_op rfl rfl (xv_move rfl ?_)
          refine xr_op rfl rfl (xv_extract rfl rfl ?_)
          refine xr_op rfl rfl (xv_extract rfl rfl ?_)
          refine xr_op rfl rfl (xv_assign rfl ?_)
          refine xr_op rfl rfl (xv_assign rfl ?_)
          refine xr_end rfl ?_
          refine th_n ?_
          refine xc_seq (xc_region ?_)
          refine xr_op rfl rfl (xv_move rfl ?_)
          refine xr_op rfl rfl (xv_cvBS0 sl23 Tryd.underlying5 Tryd.underlying9 rfl ?_)
          refine xr_op rfl rfl (xv_move rfl ?_)
          refine xr_op rfl rfl (xv_cvBS0 sl23 Tryd.underlying5 Tryd.underlying9 rfl ?_)
          refine xr_op rfl rfl (xv_eqS rfl rfl (decide_eq_true rfl) ?_)
          refine xr_op rfl rfl (xv_move rfl ?_)
          refine xr_gd rfl rfl rfl (xv_move rfl ?_)
          refine xr_gd rfl rfl rfl (xv_move rfl ?_)
          refine xr_gd rfl rfl rfl (xv_eqlT rfl rfl rfl ?_)
          refine xr_op rfl rfl (xv_pick rfl rfl ?_)
          refine xr_op rfl rfl (xv_move rfl ?_)
          refine xr_gd rfl rfl rfl (xv_move rfl ?_)
          refine xr_gd rfl rfl rfl (xv_move rfl ?_)
          refine xr_gd rfl rfl rfl (xv_calls rfl hb10 (SightsT_c (xs := []) (ys := []) rfl rfl (.inl rfl) (.inl rfl) rfl (by decide) (up_ret ?_)))
          refine xr_op rfl rfl (xv_pick rfl rfl ?_)
          refine xr_op rfl rfl (xv_move rfl ?_)
          refine xr_gd rfl rfl rfl (xv_move rfl ?_)
          refine xr_gd rfl rfl rfl (xv_move rfl ?_)
          refine xr_gd rfl rfl rfl (xv_eqlT rfl rfl rfl ?_)
          refine xr_op rfl rfl (xv_pick rfl rfl ?_)
          refine xr_op rfl rfl (xv_move rfl ?_)
          refine xr_gd rfl rfl rfl (xv_calls rfl hb5 (alive_c (up_ret ?_)))
          refine xr_op rfl rfl (xv_pick rfl rfl ?_)
          refine xr_op rfl rfl (xv_assign rfl ?_)
          refine xr_end rfl ?_
          refine th_n ?_
          refine xc_ret ?_
          refine body_ret (h' := h) rfl (ro_tmp rfl ro_nil) (by (first|((repeat first|exact s_0|exact s_1|exact s_3|refine s_4 ?_|refine s_5 ?_|refine s_6 ?_|refine s_7 ?_);done)|((repeat first|exact s_0|exact s_1|exact s_3|refine s_4 ?_|refine s_5 ?_|refine s_6 ?_|refine s_8 ?_);done))) ?_
          exact H
        · refine xr_op rfl rfl (xv_move rfl ?_)
          refine xr_op rfl rfl (xv_extract rfl rfl ?_)
          refine xr_op rfl rfl (xv_extract rfl rfl ?_)
          refine xr_op rfl rfl (xv_assign rfl ?_)
          refine xr_op rfl rfl (xv_assign rfl ?_)
          refine xr_end rfl ?_
          refine th_n ?_
          refine xc_seq (xc_region ?_)
          refine xr_op rfl rfl (xv_move rfl ?_)
          refine xr_op rfl rfl (xv_calls rfl hb9 (RReadLog_c (hb.sub (by intro z9 hz9; ((repeat first|exact z_0|assumption|refine z_1 ?_|(refine z_l ?_;(repeat first|exact z_0|assumption|refine z_1 ?_);done)|refine z_r ?_);done))) (by omega) hbb (fun h9 => (by rw [refRead_eq hbb, hrd] at h9; cases h9)) (fun l4 V4 hr4 hV4 => up_ret ?_)))
          refine xr_op rfl rfl (xv_move rfl ?_)
          refine xr_op rfl rfl (xv_extract rfl rfl ?_)
          refine xr_op rfl rfl (xv_extract rfl rfl ?_)
          refine xr_op rfl rfl (xv_assign rfl ?_)
          refine xr_op rfl rfl (xv_assign rfl ?_)
          refine xr_end rfl ?_
          refine th_n ?_
          refine xc_seq (xc_region ?_)
          obtain rfl : l = l4 := by rw [refRead_eq hbb, hrd] at hr4; exact Option.some.inj hr4
          have hl60 := (errL_is (rd_only hbb hrd).1).1
          rw [Vec.val_ad hV3]
          refine xr_op rfl rfl (xv_move rfl ?_)
          refine xr_op rfl rfl (xv_cvBS0 sl23 Tryd.underlying5 Tryd.underlying9 rfl ?_)
          refine xr_op rfl rfl (xv_move rfl ?_)
          refine xr_op rfl rfl (xv_cvBS0 sl23 Tryd.underlying5 Tryd.underlying9 rfl ?_)
          refine xr_op rfl rfl (xv_eqS rfl rfl (decide_eq_true rfl) ?_)
          refine xr_op rfl rfl (xv_move rfl ?_)
          refine xr_gd rfl rfl rfl (xv_move rfl ?_)
          refine xr_gd rfl rfl rfl (xv_move rfl ?_)
          refine xr_gd rfl rfl rfl (xv_eqlT rfl rfl rfl ?_)
          refine xr_op rfl rfl (xv_pick rfl rfl ?_)
          refine xr_op rfl rfl (xv_move rfl ?_)
          refine xr_gd rfl rfl rfl (xv_move rfl ?_)
          refine xr_gd rfl rfl rfl (xv_move rfl ?_)
          refine xr_gd rfl rfl rfl (xv_calls rfl hb10 (SightsT_c (xs := l) (ys := l) rfl rfl ((Vec.slvA (t := 44) eSight_len rfl hV3).sub (by intro z9 hz9; ((repeat first|exact z_0|assumption|refine z_1 ?_|(refine z_l ?_;(repeat first|exact z_0|assumption|refine z_1 ?_);done)|refine z_r ?_);done))) ((Vec.slvA (t := 44) eSight_len rfl hV4).sub (by intro z9 hz9; ((repeat first|exact z_0|assumption|refine z_1 ?_|(refine z_l ?_;(repeat first|exact z_0|assumption|refine z_1 ?_);done)|refine z_r ?_);done))) rfl (by omega) (up_ret ?_)))
          refine xr_op rfl rfl (xv_pick rfl rfl ?_)
          refine xr_op rfl rfl (xv_move rfl ?_)
          refine xr_gd rfl rfl rfl (xv_move rfl ?_)
          refine xr_gd rfl rfl rfl (xv_move rfl ?_)
          refine xr_gd rfl rfl rfl (xv_eqlT rfl rfl rfl ?_)
          refine xr_op rfl rfl (xv_pick rfl rfl ?_)
          refine xr_op rfl rfl (xv_move rfl ?_)
          refine xr_gd rfl rfl rfl (xv_calls rfl hb5 (alive_c (up_ret ?_)))
          refine xr_op rfl rfl (xv_pick rfl rfl ?_)
          refine xr_op rfl rfl (xv_assign rfl ?_)
          refine xr_end rfl ?_
          refine th_n ?_
          refine xc_ret ?_
          refine body_ret (h' := h) rfl (ro_tmp rfl ro_nil) (by (first|((repeat first|exact s_0|exact s_1|exact s_3|refine s_4 ?_|refine s_5 ?_|refine s_6 ?_|refine s_7 ?_);done)|((repeat first|exact s_0|exact s_1|exact s_3|refine s_4 ?_|refine s_5 ?_|refine s_6 ?_|refine s_8 ?_);done))) ?_
          exact H
      · refine xr_op rfl rfl (xv_move rfl ?_)
        refine xr_op rfl rfl (xv_extract rfl rfl ?_)
        refine xr_op rfl rfl (xv_extract rfl rfl ?_)
        refine xr_op rfl rfl (xv_assign rfl ?_)
        refine xr_op rfl rfl (xv_assign rfl ?_)
        refine xr_end rfl ?_
        refine th_n ?_
        refine xc_seq (xc_region ?_)
        refine xr_op rfl rfl (xv_move rfl ?_)
        refine xr_op rfl rfl (xv_calls rfl hb7 (RWriteLog_c (hs.sub (by intro z9 hz9; ((repeat first|exact z_0|assumption|refine z_1 ?_|(refine z_l ?_;(repeat first|exact z_0|assumption|refine z_1 ?_);done)|refine z_r ?_);done))) (by omega) (fun h9 => absurd he h9) (fun _h8 V2 hV2 => up_ret ?_)))
        refine xr_op rfl rfl (xv_move rfl ?_)
        refine xr_op rfl rfl (xv_extract rfl rfl ?_)
        refine xr_op rfl rfl (xv_extract rfl rfl ?_)
        refine xr_op rfl rfl (xv_assign rfl ?_)
        refine xr_op rfl rfl (xv_assign rfl ?_)
        refine xr_end rfl ?_
        refine th_n ?_
        refine xc_seq (xc_region ?_)
        refine xr_op rfl rfl (xv_move rfl ?_)
        refine xr_op rfl rfl (xv_calls rfl hb8 (ReadLog_c (hb.sub (by intro z9 hz9; ((repeat first|exact z_0|assumption|refine z_1 ?_|(refine z_l ?_;(repeat first|exact z_0|assumption|refine z_1 ?_);done)|refine z_r ?_);done))) (by omega) hbb (fun hrd => up_ret ?_) (fun l V3 hrd hV3 => up_ret ?_)))
        · refine xr_op rfl rfl (xv_move rfl ?_)
          refine xr_op rfl rfl (xv_extract rfl rfl ?_)
          refine xr_op rfl rfl (xv_extract rfl rfl ?_)
          refine xr_op rfl rfl (xv_assign rfl ?_)
          refine xr_op rfl rfl (xv_assign rfl ?_)
          refine xr_end rfl ?_
          refine th_n ?_
          refine xc_seq (xc_region ?_)
          refine xr_op rfl rfl (xv_move rfl ?_)
          refine xr_op rfl rfl (xv_calls rfl hb9 (RReadLog_c (hb.sub (by intro z9 hz9; ((repeat first|exact z_0|assumption|refine z_1 ?_|(refine z_l ?_;(repeat first|exact z_0|assumption|refine z_1 ?_);done)|refine z_r ?_);done))) (by omega) hbb (H2 := fun l9 V9 h9 _ => (by rw [refRead_eq hbb, hrd] at h9; cases h9)) (fun _h7 => up_ret ?_)))
          refine xr_op rfl rfl (xv_move rfl ?_)
          refine xr_op rfl rfl (xv_extract rfl rfl ?_)
          refine xr_op rfl rfl (xv_extract rfl rfl ?_)
          refine xr_op rfl rfl (xv_assign rfl ?_)
          refine xr_op rfl rfl (xv_assign rfl ?_)
          refine xr_end rfl ?_
          refine th_n ?_
          refine xc_seq (xc_region ?_)
          refine xr_op rfl rfl (xv_move rfl ?_)
          refine xr_op rfl rfl (xv_cvB (bs := logB xs) sl23 Tryd.underlying5 Tryd.underlying9 rfl rfl (logB_byt _) ((Vec.slvA (t := 5) eB_len rfl hV1).sub (by intro z9 hz9; ((repeat first|exact z_0|assumption|refine z_1 ?_|(refine z_l ?_;(repeat first|exact z_0|assumption|refine z_1 ?_);done)|refine z_r ?_);done))) ?_)
          refine xr_op rfl rfl (xv_move rfl ?_)
          refine xr_op rfl rfl (xv_cvB (bs := logB xs) sl23 Tryd.underlying5 Tryd.underlying9 rfl rfl (logB_byt _) ((Vec.slvA (t := 5) eB_len rfl hV2).sub (by intro z9 hz9; ((repeat first|exact z_0|assumption|refine z_1 ?_|(refine z_l ?_;(repeat first|exact z_0|assumption|refine z_1 ?_);done)|refine z_r ?_);done))) ?_)
          refine xr_op rfl rfl (xv_eqS rfl rfl (decide_eq_true rfl) ?_)
          refine xr_op rfl rfl (xv_move rfl ?_)
          refine xr_gd rfl rfl rfl (xv_move rfl ?_)
          refine xr_gd rfl rfl rfl (xv_move rfl ?_)
          refine xr_gd rfl rfl rfl (xv_eqlT rfl rfl rfl ?_)
          refine xr_op rfl rfl (xv_pick rfl rfl ?_)
          refine xr_op rfl rfl (xv_move rfl ?_)
          refine xr_gd rfl rfl rfl (xv_move rfl ?_)
          refine xr_gd rfl rfl rfl (xv_move rfl ?_)
          refine xr_gd rfl rfl rfl (xv_calls rfl hb10 (SightsT_c (xs := []) (ys := []) rfl rfl (.inl rfl) (.inl rfl) rfl (by decide) (up_ret ?_)))
          refine xr_op rfl rfl (xv_pick rfl rfl ?_)
          refine xr_op rfl rfl (xv_move rfl ?_)
          refine xr_gd rfl rfl rfl (xv_move rfl ?_)
          refine xr_gd rfl rfl rfl (xv_move rfl ?_)
          refine xr_gd rfl rfl rfl (xv_eqlT rfl rfl rfl ?_)
          refine xr_op rfl rfl (xv_pick rfl rfl ?_)
          refine xr_op rfl rfl (xv_move rfl ?_)
          refine xr_gd rfl rfl rfl (xv_calls rfl hb5 (alive_c (up_ret ?_)))
          refine xr_op rfl rfl (xv_pick rfl rfl ?_)
          refine xr_op rfl rfl (xv_assign rfl ?_)
          refine xr_end rfl ?_
          refine th_n ?_
          refine xc_ret ?_
          refine body_ret (h' := h) rfl (ro_tmp rfl ro_nil) (by (first|((repeat first|exact s_0|exact s_1|exact s_3|refine s_4 ?_|refine s_5 ?_|refine s_6 ?_|refine s_7 ?_);done)|((repeat first|exact s_0|exact s_1|exact s_3|refine s_4 ?_|refine s_5 ?_|refine s_6 ?_|refine s_8 ?_);done))) ?_
          exact H
        · refine xr_op rfl rfl (xv_move rfl ?_)
          refine xr_op rfl rfl (xv_extract rfl rfl ?_)
          refine xr_op rfl rfl (xv_extract rfl rfl ?_)
          refine xr_op rfl rfl (xv_assign rfl ?_)
          refine xr_op rfl rfl (xv_assign rfl ?_)
          refine xr_end rfl ?_
          refine th_n ?_
          refine xc_seq (xc_region ?_)
          refine xr_op rfl rfl (xv_move rfl ?_)
          refine xr_op rfl rfl (xv_calls rfl hb9 (RReadLog_c (hb.sub (by intro z9 hz9; ((repeat first|exact z_0|assumption|refine z_1 ?_|(refine z_l ?_;(repeat first|exact z_0|assumption|refine z_1 ?_);done)|refine z_r ?_);done))) (by omega) hbb (fun h9 => (by rw [refRead_eq hbb, hrd] at h9; cases h9)) (fun l4 V4 hr4 hV4 => up_ret ?_)))
          refine xr_op rfl rfl (xv_move rfl ?_)
          refine xr_op rfl rfl (xv_extract rfl rfl ?_)
          refine xr_op rfl rfl (xv_extract rfl rfl ?_)
          refine xr_op rfl rfl (xv_assign rfl ?_)
          refine xr_op rfl rfl (xv_assign rfl ?_)
          refine xr_end rfl ?_
          refine th_n ?_
          refine xc_seq (xc_region ?_)
          obtain rfl : l = l4 := by rw [refRead_eq hbb, hrd] at hr4; exact Option.some.inj hr4
          have hl60 := (errL_is (rd_only hbb hrd).1).1
          rw [Vec.val_ad hV3]
          refine xr_op rfl rfl (xv_move rfl ?_)
          refine xr_op rfl rfl (xv_cvB (bs := logB xs) sl23 Tryd.underlying5 Tryd.underlying9 rfl rfl (logB_byt _) ((Vec.slvA (t := 5) eB_len rfl hV1).sub (by intro z9 hz9; ((repeat first|exact z_0|assumption|refine z_1 ?_|(refine z_l ?_;(repeat first|exact z_0|assumption|refine z_1 ?_);done)|refine z_r ?_);done))) ?_)
          refine xr_op rfl rfl (xv_move rfl ?_)
          refine xr_op rfl rfl (xv_cvB (bs := logB xs) sl23 Tryd.underlying5 Tryd.underlying9 rfl rfl (logB_byt _) ((Vec.slvA (t := 5) eB_len rfl hV2).sub (by intro z9 hz9; ((repeat first|exact z_0|assumption|refine z_1 ?_|(refine z_l ?_;(repeat first|exact z_0|assumption|refine z_1 ?_);done)|refine z_r ?_);done))) ?_)
          refine xr_op rfl rfl (xv_eqS rfl rfl (decide_eq_true rfl) ?_)
          refine xr_op rfl rfl (xv_move rfl ?_)
          refine xr_gd rfl rfl rfl (xv_move rfl ?_)
          refine xr_gd rfl rfl rfl (xv_move rfl ?_)
          refine xr_gd rfl rfl rfl (xv_eqlT rfl rfl rfl ?_)
          refine xr_op rfl rfl (xv_pick rfl rfl ?_)
          refine xr_op rfl rfl (xv_move rfl ?_)
          refine xr_gd rfl rfl rfl (xv_move rfl ?_)
          refine xr_gd rfl rfl rfl (xv_move rfl ?_)
          refine xr_gd rfl rfl rfl (xv_calls rfl hb10 (SightsT_c (xs := l) (ys := l) rfl rfl ((Vec.slvA (t := 44) eSight_len rfl hV3).sub (by intro z9 hz9; ((repeat first|exact z_0|assumption|refine z_1 ?_|(refine z_l ?_;(repeat first|exact z_0|assumption|refine z_1 ?_);done)|refine z_r ?_);done))) ((Vec.slvA (t := 44) eSight_len rfl hV4).sub (by intro z9 hz9; ((repeat first|exact z_0|assumption|refine z_1 ?_|(refine z_l ?_;(repeat first|exact z_0|assumption|refine z_1 ?_);done)|refine z_r ?_);done))) rfl (by omega) (up_ret ?_)))
          refine xr_op rfl rfl (xv_pick rfl rfl ?_)
          refine xr_op rfl rfl (xv_move rfl ?_)
          refine xr_gd rfl rfl rfl (xv_move rfl ?_)
          refine xr_gd rfl rfl rfl (xv_move rfl ?_)
          refine xr_gd rfl rfl rfl (xv_eqlT rfl rfl rfl ?_)
          refine xr_op rfl rfl (xv_pick rfl rfl ?_)
          refine xr_op rfl rfl (xv_move rfl ?_)
          refine xr_gd rfl rfl rfl (xv_calls rfl hb5 (alive_c (up_ret ?_)))
          refine xr_op rfl rfl (xv_pick rfl rfl ?_)
          refine xr_op rfl rfl (xv_assign rfl ?_)
          refine xr_end rfl ?_
          refine th_n ?_
          refine xc_ret ?_
          refine body_ret (h' := h) rfl (ro_tmp rfl ro_nil) (by (first|((repeat first|exact s_0|exact s_1|exact s_3|refine s_4 ?_|refine s_5 ?_|refine s_6 ?_|refine s_7 ?_);done)|((repeat first|exact s_0|exact s_1|exact s_3|refine s_4 ?_|refine s_5 ?_|refine s_6 ?_|refine s_8 ?_);done))) ?_
          exact H

end Go.Proofs.YtlpkiolopelpfaaDoor
