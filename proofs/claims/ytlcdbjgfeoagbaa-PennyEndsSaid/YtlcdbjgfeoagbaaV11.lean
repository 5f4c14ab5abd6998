/-
  Walks.
-/
import Derived.Test.YtlcdbjgfeoagbaaW10
import Derived.Test.YtlcdbjgfeoagbaaW7
import Derived.Shelf.Sort.Plain
import Derived.Ground.Names2Prog
import Derived.Shelf.Slices.In.SortNone
import Derived.KernelRfl
import Derived.Test.YtlcdbjgfeoagbaaP1
import Derived.Laws.CopyRow
import Derived.Laws.IdiomCopy
import Derived.Sort.OwnSortedInts
import Derived.Test.YtlcdbjgfeoagbaaP8
namespace Go.Proofs.Ytlcdbjgfeoagbaa
open Go Go.H
set_option maxRecDepth 100000
set_option maxHeartbeats 8000000
set_option linter.all false
theorem RBought_c {s : Slot} {h : Hp} {R : Ending → Hp → Prop} (hs : SlotV h s) (hsm : Small s) (H1 : errD s ≠ 0 → R (.returned (.tuple ⟨[.agg ⟨eSpan ⟨0, 0⟩⟩, I (errD s)]⟩)) h)
    (H2 : errD s = 0 → R (.returned (.tuple ⟨[.agg ⟨eSpan (boughtS s)⟩, I 0]⟩)) h) :
    ACalls Try.prog 21 ⟨[.agg ⟨eSlot s⟩]⟩ h R := by
  refine calls_of_xc (N := 54) Try.func21 rfl (by rfl) ?_
  obtain ⟨hsl9, hsk⟩ := id hsm
  refine xc_seq (xc_region ?_)
  refine xr_op rfl rfl (xv_box rfl (fun b1 hb1 => ?_))
  refine xr_op rfl rfl (xv_alloc ty30 (fun b2 hb2 => ?_))
  refine xr_op rfl rfl (xv_assign rfl ?_)
  refine xr_end rfl ?_
  refine th_n ?_
  refine xc_seq (xc_region ?_)
  refine xr_op rfl rfl (xv_loadA ty25 rfl rfl (by ((repeat first|exact z_0|assumption|refine z_1 ?_|(refine z_l ?_;(repeat first|exact z_0|assumption|refine z_1 ?_);done)|refine z_r ?_);done)) (by ((try apply evl_some rfl);(repeat (first|exact (rfl : _ = [])|apply evl_cons rfl (by (first|exact v_1|exact v_2|exact v_3|exact v_4|exact v_5|exact v_6|exact v_7|exact v_8|exact v_9|exact rfl))|exact rfl)))) (by rfl) ?_)
  refine xr_op rfl rfl (xv_calls rfl hb44 (divisions_c (hs.sub (by intro z hz; ((repeat first|exact z_0|assumption|refine z_1 ?_|(refine z_l ?_;(repeat first|exact z_0|assumption|refine z_1 ?_);done)|refine z_r ?_);done))) hsm (fun hed => up_ret ?_) (fun he0 hdn hds V P hdv hV hP => up_ret ?_)))
  · refine xr_op rfl rfl (xv_move rfl ?_)
    refine xr_op rfl rfl (xv_extract rfl rfl ?_)
    refine xr_op rfl rfl (xv_extract rfl rfl ?_)
    refine xr_op rfl rfl (xv_assign rfl ?_)
    refine xr_op rfl rfl (xv_assign rfl ?_)
    refine xr_end rfl ?_
    refine th_n ?_
    refine xc_seq ?_
    refine xc_seq (xc_region ?_)
    refine xr_op rfl rfl (xv_move rfl ?_)
    refine xr_op rfl rfl (xv_neqT rfl rfl hed ?_)
    refine xr_end rfl ?_
    refine th_n ?_
    refine xc_true rfl ?_
    refine xc_seq (xc_region ?_)
    refine xr_op rfl rfl (xv_build bt30 rfl (by ((try apply evl_some rfl);(repeat (first|exact (rfl : _ = [])|apply evl_cons rfl (by (first|exact v_1|exact v_2|exact v_3|exact v_4|exact v_5|exact v_6|exact v_7|exact v_8|exact v_9|exact rfl))|exact rfl)))) ?_)
    refine xr_op rfl rfl (xv_move rfl ?_)
    refine xr_op rfl rfl (xv_s ty30 rfl rfl (by (first|(apply u_3;(repeat first|exact u_0|assumption|apply u_1|apply u_2);done)|((repeat first|exact u_0|assumption|apply u_1|apply u_2);done)|(apply u_3;apply u_3;(repeat first|exact u_0|assumption|apply u_1|apply u_2);done)|((repeat first|exact u_0|assumption|apply u_3|apply u_1);done))) (by ((try apply evl_some rfl);(repeat (first|exact (rfl : _ = [])|apply evl_cons rfl (by (first|exact v_1|exact v_2|exact v_3|exact v_4|exact v_5|exact v_6|exact v_7|exact v_8|exact v_9|exact rfl))|exact rfl)))) (by rfl) (by rfl) (by rfl) (by ((try apply evl_some rfl);(repeat (first|exact (rfl : _ = [])|apply evl_cons rfl (by (first|exact v_1|exact v_2|exact v_3|exact v_4|exact v_5|exact v_6|exact v_7|exact v_8|exact v_9|exact rfl))|exact rfl)))) ?_)
    refine xr_op rfl rfl (xv_assign rfl ?_)
    refine xr_end rfl ?_
    refine th_n ?_
    refine xc_ret ?_
    refine th_r ?_
    refine body_ret (h' := h) rfl (ro_cellA ty30 rfl rfl (by ((repeat first|exact z_0|assumption|refine z_1 ?_|(refine z_l ?_;(repeat first|exact z_0|assumption|refine z_1 ?_);done)|refine z_r ?_);done)) (by rfl) (by rfl) (ro_tmp rfl ro_nil)) (by (first|((repeat first|exact s_0|exact s_1|exact s_3|refine s_4 ?_|refine s_5 ?_|refine s_6 ?_|refine s_7 ?_);done)|((repeat first|exact s_0|exact s_1|exact s_3|refine s_4 ?_|refine s_5 ?_|refine s_6 ?_|refine s_8 ?_);done))) ?_
    first | exact H1 hed | exact H2 hed
  · refine xr_op rfl rfl (xv_move rfl ?_)
    refine xr_op rfl rfl (xv_extract rfl rfl ?_)
    refine xr_op rfl rfl (xv_extract rfl rfl ?_)
    refine xr_op rfl rfl (xv_assign rfl ?_)
    refine xr_op rfl rfl (xv_assign rfl ?_)
    refine xr_end rfl ?_
    refine th_n ?_
    refine xc_seq ?_
    refine xc_seq (xc_region ?_)
    refine xr_op rfl rfl (xv_move rfl ?_)
    refine xr_op rfl rfl (xv_neqF rfl rfl rfl ?_)
    refine xr_end rfl ?_
    refine th_n ?_
    refine xc_false rfl ?_
    refine xc_skip ?_
    refine th_n ?_
    refine xc_seq ?_
    refine xc_draw0 [(0, .R), (1, .S), (2, .S), (3, .R), (4, .R), (5, .R), (6, .S), (7, .S), (8, .R), (9, .R), (10, .S), (11, .P), (11, .A), (12, .O)] mixed (by kernel_rfl) ?_
    obtain ⟨qa, qc, hqv, hqs⟩ := Vec.slv (enc := eHd) (t := 26) (h := V.hp 26 (hds.flatMap eHd)) eHd_len hV (fun _ hz => hz)
    rw [hqv]
    have hdl : hds.length = (divsS s).length := by rw [← hdv, List.length_map]
    have hd0 : 0 < hds.length := by rw [hdl]; exact List.length_pos_iff.2 hdn
    have hgs := good_of he0
    have hdb : hds.length ≤ 390625 := by rw [hdl]; exact divs_len hgs
    have hmem : ∀ w ∈ hds, w.m.length = s.tars.length ∧ ∀ x ∈ w.m, 0 ≤ x ∧ x ≤ 24 := fun w hw => divs_mem hgs (by rw [← hdv]; exact List.mem_map.2 ⟨w, hw, rfl⟩)
    refine js_R0 rfl rfl (.inl rfl) (xv_loadA ty25 rfl rfl (by ((repeat first|exact z_0|assumption|refine z_1 ?_|(refine z_l ?_;(repeat first|exact z_0|assumption|refine z_1 ?_);done)|refine z_r ?_);done)) (by ((try apply evl_some rfl);(repeat (first|exact (rfl : _ = [])|apply evl_cons rfl (by (first|exact v_1|exact v_2|exact v_3|exact v_4|exact v_5|exact v_6|exact v_7|exact v_8|exact v_9|exact rfl))|exact rfl)))) (by rfl) ⟨rfl, rfl⟩) ?_
    refine js_S rfl rfl (.inl rfl) (xv_move rfl ⟨rfl, rfl⟩) ?_
    have hltw : 0 < hds.length := hd0
    obtain ⟨bw, ow, lw, tw, fzw, haw, hmw, hxw⟩ := ((hqs.sub (by intro z hz; ((repeat first|exact z_0|assumption|refine z_1 ?_|(refine z_l ?_;(repeat first|exact z_0|assumption|refine z_1 ?_);done)|refine z_r ?_);done)) : SlV (V.hp 26 (hds.flatMap eHd) ++ (P ++ (b2, .cells ⟨[I 0, I 0]⟩ 30) :: (b1, .cells ⟨eSlot s⟩ 25) :: h)) 1 eHd qa hds)).at hltw
    obtain ⟨xw, hkw⟩ : ∃ qq_, hds[0]? = some qq_ := ⟨_, List.getElem?_eq_getElem hltw⟩
    have hmww := hmem xw (List.mem_of_getElem? hkw)
    have hdmw : (divsS s)[0]? = some xw.m := by rw [← hdv, List.getElem?_map, hkw]; rfl
    have hh0 : ((divsS s).map fun n => worthN s n n.length).headD 0 = worthN s xw.m xw.m.length := by rw [List.headD_eq_head?_getD, List.head?_eq_getElem?, List.getElem?_map, hdmw]; rfl
    refine js_S rfl rfl (.inl rfl) (xv_ia (sz := 1) (j := 0) sl82 ty26 rfl (by rw [haw]; rfl) rfl rfl (by (first|omega|(dsimp only at *;omega)|(simp at *;omega))) (by (first|omega|(dsimp only at *;omega)|(simp at *;omega))) ⟨rfl, rfl⟩) ?_
    refine js_R0 rfl rfl (.inl rfl) (xv_load1 ty26 rfl rfl (by ((repeat first|exact z_0|assumption|refine z_1 ?_|(refine z_l ?_;(repeat first|exact z_0|assumption|refine z_1 ?_);done)|refine z_r ?_);done)) (take_get (hxw (0) xw hkw) (j := 0) rfl) ⟨rfl, rfl⟩) ?_
    refine js_R0 rfl rfl (.inl rfl) (xv_calls rfl hb45 (worth_c (hs.sub (by intro z hz; ((repeat first|exact z_0|assumption|refine z_1 ?_|(refine z_l ?_;(repeat first|exact z_0|assumption|refine z_1 ?_);done)|refine z_r ?_);done))) hsm hgs ((hP xw (List.mem_of_getElem? hkw)).sub (by intro z hz; ((repeat first|exact z_0|assumption|refine z_1 ?_|(refine z_l ?_;(repeat first|exact z_0|assumption|refine z_1 ?_);done)|refine z_r ?_);done))) hmww.2 (by (first|omega|(dsimp only at *;omega)|(simp at *;omega))) (up_ret ⟨rfl, rfl⟩))) ?_
    refine js_R0 rfl rfl (.inl rfl) (xv_loadA ty25 rfl rfl (by ((repeat first|exact z_0|assumption|refine z_1 ?_|(refine z_l ?_;(repeat first|exact z_0|assumption|refine z_1 ?_);done)|refine z_r ?_);done)) (by ((try apply evl_some rfl);(repeat (first|exact (rfl : _ = [])|apply evl_cons rfl (by (first|exact v_1|exact v_2|exact v_3|exact v_4|exact v_5|exact v_6|exact v_7|exact v_8|exact v_9|exact rfl))|exact rfl)))) (by rfl) ⟨rfl, rfl⟩) ?_
    refine js_S rfl rfl (.inl rfl) (xv_move rfl ⟨rfl, rfl⟩) ?_
    refine js_S rfl rfl (.inl rfl) (xv_ia (sz := 1) (j := 0) sl82 ty26 rfl (by rw [haw]; rfl) rfl rfl (by (first|omega|(dsimp only at *;omega)|(simp at *;omega))) (by (first|omega|(dsimp only at *;omega)|(simp at *;omega))) ⟨rfl, rfl⟩) ?_
    refine js_R0 rfl rfl (.inl rfl) (xv_load1 ty26 rfl rfl (by ((repeat first|exact z_0|assumption|refine z_1 ?_|(refine z_l ?_;(repeat first|exact z_0|assumption|refine z_1 ?_);done)|refine z_r ?_);done)) (take_get (hxw (0) xw hkw) (j := 0) rfl) ⟨rfl, rfl⟩) ?_
    refine js_R0 rfl rfl (.inl rfl) (xv_calls rfl hb45 (worth_c (hs.sub (by intro z hz; ((repeat first|exact z_0|assumption|refine z_1 ?_|(refine z_l ?_;(repeat first|exact z_0|assumption|refine z_1 ?_);done)|refine z_r ?_);done))) hsm hgs ((hP xw (List.mem_of_getElem? hkw)).sub (by intro z hz; ((repeat first|exact z_0|assumption|refine z_1 ?_|(refine z_l ?_;(repeat first|exact z_0|assumption|refine z_1 ?_);done)|refine z_r ?_);done))) hmww.2 (by (first|omega|(dsimp only at *;omega)|(simp at *;omega))) (up_ret ⟨rfl, rfl⟩))) ?_
    refine js_S rfl rfl (.inl rfl) (xv_build bt30 rfl (by ((try apply evl_some rfl);(repeat (first|exact (rfl : _ = [])|apply evl_cons rfl (by (first|exact v_1|exact v_2|exact v_3|exact v_4|exact v_5|exact v_6|exact v_7|exact v_8|exact v_9|exact rfl))|exact rfl)))) ⟨rfl, rfl⟩) ?_
    refine js_P rfl rfl rfl (al_alloc ty30) ?_
    refine js_A0 rfl rfl rfl rfl rfl trivial (fun b6 hb6 => ?_)
    refine js_O0 rfl rfl (.inl rfl) (xv_s ty30 rfl rfl (by (first|(apply u_3;(repeat first|exact u_0|assumption|apply u_1|apply u_2);done)|((repeat first|exact u_0|assumption|apply u_1|apply u_2);done)|(apply u_3;apply u_3;(repeat first|exact u_0|assumption|apply u_1|apply u_2);done)|((repeat first|exact u_0|assumption|apply u_3|apply u_1);done))) (by ((try apply evl_some rfl);(repeat (first|exact (rfl : _ = [])|apply evl_cons rfl (by (first|exact v_1|exact v_2|exact v_3|exact v_4|exact v_5|exact v_6|exact v_7|exact v_8|exact v_9|exact rfl))|exact rfl)))) (by rfl) (by rfl) (by rfl) (by ((try apply evl_some rfl);(repeat (first|exact (rfl : _ = [])|apply evl_cons rfl (by (first|exact v_1|exact v_2|exact v_3|exact v_4|exact v_5|exact v_6|exact v_7|exact v_8|exact v_9|exact rfl))|exact rfl)))) ?_)
    refine j_end0 ?_
    refine th_n ?_
    refine xc_seq ?_
    refine xc_seq (xc_region ?_)
    refine xr_op rfl rfl (xv_assign rfl ?_)
    refine xr_end rfl ?_
    refine th_n ?_
    refine xc_block ?_
    refine xc_loop (σ := Nat) (fun j => j ≤ hds.length) (fun j => ((((((emp.put (some 1) (.pointer (some ⟨b1, 0, none⟩))).put (some 2) (.pointer (some ⟨b2, 0, none⟩))).put (some 4) (.slice qa hds.length qc)).put (some 5) (I 0)).put (some 6) (.pointer (some ⟨b6, 0, none⟩))).put (some 7) (I j))) (fun j => ((b6, .cells ⟨eSpan (spanN ((divsS s).map fun n => worthN s n n.length) j)⟩ 30) :: (V.hp 26 (hds.flatMap eHd) ++ (P ++ (b2, .cells ⟨[I 0, I 0]⟩ 30) :: (b1, .cells ⟨eSlot s⟩ 25) :: h)))) (fun j => hds.length - j) 0 (Nat.zero_le _) (le_put (le_put (le_put (le_put (le_put (le_put (le_emp _) rfl) rfl) rfl) rfl) rfl) rfl) (by rw [spanN_0, hh0]; (first|((repeat first|exact s_0|exact s_1|exact s_3|refine s_4 ?_|refine s_5 ?_|refine s_6 ?_|refine s_7 ?_);done)|((repeat first|exact s_0|exact s_1|exact s_3|refine s_4 ?_|refine s_5 ?_|refine s_6 ?_|refine s_8 ?_);done))) ?_
    rintro j hj
    refine xc_seq ?_
    refine xc_seq (xc_region ?_)
    refine xr_op rfl rfl (xv_move rfl ?_)
    refine xr_op rfl rfl (xv_move rfl ?_)
    refine xr_op rfl rfl (xv_len sl82 rfl ?_)
    refine xr_op rfl rfl (xv_lss2 rfl rfl (fun q4 => ?_) (fun q4 => ?_))
    · refine xr_end rfl ?_
      refine th_n ?_
      refine xc_true rfl ?_
      refine xc_skip ?_
      refine th_n ?_
      refine xc_seq ?_
      refine xc_block ?_
      have hltw : j < hds.length := by (first|omega|(dsimp only at *;omega)|(simp at *;omega))
      obtain ⟨bw, ow, lw, tw, fzw, haw, hmw, hxw⟩ := ((hqs.sub (by intro z hz; ((repeat first|exact z_0|assumption|refine z_1 ?_|(refine z_l ?_;(repeat first|exact z_0|assumption|refine z_1 ?_);done)|refine z_r ?_);done)) : SlV ((b6, .cells ⟨eSpan (spanN ((divsS s).map fun n => worthN s n n.length) j)⟩ 30) :: (V.hp 26 (hds.flatMap eHd) ++ (P ++ (b2, .cells ⟨[I 0, I 0]⟩ 30) :: (b1, .cells ⟨eSlot s⟩ 25) :: h))) 1 eHd qa hds)).at hltw
      obtain ⟨xw, hkw⟩ : ∃ qq_, hds[j]? = some qq_ := ⟨_, List.getElem?_eq_getElem hltw⟩
      have hmww := hmem xw (List.mem_of_getElem? hkw)
      have hdmw : (divsS s)[j]? = some xw.m := by rw [← hdv, List.getElem?_map, hkw]; rfl
      · refine xc_draw0 [(0, .S), (1, .R), (2, .R), (3, .S), (4, .S), (5, .S), (6, .R), (7, .R), (8, .S), (9, .S), (10, .R), (11, .R), (12, .S), (13, .S), (14, .S), (15, .R), (16, .R), (17, .S), (18, .S), (19, .O)] mixed (by kernel_rfl) ?_
        refine js_S rfl rfl (.inl rfl) (xv_faddr fl30_0 rfl ⟨rfl, rfl⟩) ?_
        refine js_R0 rfl rfl (.inl rfl) (xv_load1 ty3 rfl rfl (by ((repeat first|exact z_0|assumption|refine z_1 ?_|(refine z_l ?_;(repeat first|exact z_0|assumption|refine z_1 ?_);done)|refine z_r ?_);done)) (by rfl) ⟨rfl, rfl⟩) ?_
        refine js_R0 rfl rfl (.inl rfl) (xv_loadA ty25 rfl rfl (by ((repeat first|exact z_0|assumption|refine z_1 ?_|(refine z_l ?_;(repeat first|exact z_0|assumption|refine z_1 ?_);done)|refine z_r ?_);done)) (by ((try apply evl_some rfl);(repeat (first|exact (rfl : _ = [])|apply evl_cons rfl (by (first|exact v_1|exact v_2|exact v_3|exact v_4|exact v_5|exact v_6|exact v_7|exact v_8|exact v_9|exact rfl))|exact rfl)))) (by rfl) ⟨rfl, rfl⟩) ?_
        refine js_S rfl rfl (.inl rfl) (xv_move rfl ⟨rfl, rfl⟩) ?_
        refine js_S rfl rfl (.inl rfl) (xv_move rfl ⟨rfl, rfl⟩) ?_
        refine js_S rfl rfl (.inl rfl) (xv_ia (sz := 1) (j := j) sl82 ty26 rfl (by rw [haw]; rfl) rfl (by (first | assumption | with_reducible exact Int.toNat_natCast _ | with_reducible rfl | rfl)) (by (first|omega|(dsimp only at *;omega)|(simp at *;omega))) (by (first|omega|(dsimp only at *;omega)|(simp at *;omega))) ⟨rfl, rfl⟩) ?_
        refine js_R0 rfl rfl (.inl rfl) (xv_load1 ty26 rfl rfl (by ((repeat first|exact z_0|assumption|refine z_1 ?_|(refine z_l ?_;(repeat first|exact z_0|assumption|refine z_1 ?_);done)|refine z_r ?_);done)) (take_get (hxw (j) xw hkw) (j := 0) rfl) ⟨rfl, rfl⟩) ?_
        refine js_R0 rfl rfl (.inl rfl) (xv_calls rfl hb45 (worth_c (hs.sub (by intro z hz; ((repeat first|exact z_0|assumption|refine z_1 ?_|(refine z_l ?_;(repeat first|exact z_0|assumption|refine z_1 ?_);done)|refine z_r ?_);done))) hsm hgs ((hP xw (List.mem_of_getElem? hkw)).sub (by intro z hz; ((repeat first|exact z_0|assumption|refine z_1 ?_|(refine z_l ?_;(repeat first|exact z_0|assumption|refine z_1 ?_);done)|refine z_r ?_);done))) hmww.2 (by (first|omega|(dsimp only at *;omega)|(simp at *;omega))) (up_ret ⟨rfl, rfl⟩))) ?_
        refine js_S rfl rfl (.inl rfl) (xv_min rfl rfl rfl ⟨rfl, rfl⟩) ?_
        refine js_S rfl rfl (.inl rfl) (xv_faddr fl30_1 rfl ⟨rfl, rfl⟩) ?_
        refine js_R0 rfl rfl (.inl rfl) (xv_load1 ty3 rfl rfl (by ((repeat first|exact z_0|assumption|refine z_1 ?_|(refine z_l ?_;(repeat first|exact z_0|assumption|refine z_1 ?_);done)|refine z_r ?_);done)) (by rfl) ⟨rfl, rfl⟩) ?_
        refine js_R0 rfl rfl (.inl rfl) (xv_loadA ty25 rfl rfl (by ((repeat first|exact z_0|assumption|refine z_1 ?_|(refine z_l ?_;(repeat first|exact z_0|assumption|refine z_1 ?_);done)|refine z_r ?_);done)) (by ((try apply evl_some rfl);(repeat (first|exact (rfl : _ = [])|apply evl_cons rfl (by (first|exact v_1|exact v_2|exact v_3|exact v_4|exact v_5|exact v_6|exact v_7|exact v_8|exact v_9|exact rfl))|exact rfl)))) (by rfl) ⟨rfl, rfl⟩) ?_
        refine js_S rfl rfl (.inl rfl) (xv_move rfl ⟨rfl, rfl⟩) ?_
        refine js_S rfl rfl (.inl rfl) (xv_move rfl ⟨rfl, rfl⟩) ?_
        refine js_S rfl rfl (.inl rfl) (xv_ia (sz := 1) (j := j) sl82 ty26 rfl (by rw [haw]; rfl) rfl (by (first | assumption | with_reducible exact Int.toNat_natCast _ | with_reducible rfl | rfl)) (by (first|omega|(dsimp only at *;omega)|(simp at *;omega))) (by (first|omega|(dsimp only at *;omega)|(simp at *;omega))) ⟨rfl, rfl⟩) ?_
        refine js_R0 rfl rfl (.inl rfl) (xv_load1 ty26 rfl rfl (by ((repeat first|exact z_0|assumption|refine z_1 ?_|(refine z_l ?_;(repeat first|exact z_0|assumption|refine z_1 ?_);done)|refine z_r ?_);done)) (take_get (hxw (j) xw hkw) (j := 0) rfl) ⟨rfl, rfl⟩) ?_
        refine js_R0 rfl rfl (.inl rfl) (xv_calls rfl hb45 (worth_c (hs.sub (by intro z hz; ((repeat first|exact z_0|assumption|refine z_1 ?_|(refine z_l ?_;(repeat first|exact z_0|assumption|refine z_1 ?_);done)|refine z_r ?_);done))) hsm hgs ((hP xw (List.mem_of_getElem? hkw)).sub (by intro z hz; ((repeat first|exact z_0|assumption|refine z_1 ?_|(refine z_l ?_;(repeat first|exact z_0|assumption|refine z_1 ?_);done)|refine z_r ?_);done))) hmww.2 (by (first|omega|(dsimp only at *;omega)|(simp at *;omega))) (up_ret ⟨rfl, rfl⟩))) ?_
        refine js_S rfl rfl (.inl rfl) (xv_max rfl rfl rfl ⟨rfl, rfl⟩) ?_
        refine js_S rfl rfl (.inl rfl) (xv_build bt30 rfl (by ((try apply evl_some rfl);(repeat (first|exact (rfl : _ = [])|apply evl_cons rfl (by (first|exact v_1|exact v_2|exact v_3|exact v_4|exact v_5|exact v_6|exact v_7|exact v_8|exact v_9|exact rfl))|exact rfl)))) ⟨rfl, rfl⟩) ?_
        refine js_O0 rfl rfl (.inl rfl) (xv_s ty30 rfl rfl (by (first|(apply u_3;(repeat first|exact u_0|assumption|apply u_1|apply u_2);done)|((repeat first|exact u_0|assumption|apply u_1|apply u_2);done)|(apply u_3;apply u_3;(repeat first|exact u_0|assumption|apply u_1|apply u_2);done)|((repeat first|exact u_0|assumption|apply u_3|apply u_1);done))) (by ((try apply evl_some rfl);(repeat (first|exact (rfl : _ = [])|apply evl_cons rfl (by (first|exact v_1|exact v_2|exact v_3|exact v_4|exact v_5|exact v_6|exact v_7|exact v_8|exact v_9|exact rfl))|exact rfl)))) (by rfl) (by rfl) (by rfl) (by ((try apply evl_some rfl);(repeat (first|exact (rfl : _ = [])|apply evl_cons rfl (by (first|exact v_1|exact v_2|exact v_3|exact v_4|exact v_5|exact v_6|exact v_7|exact v_8|exact v_9|exact rfl))|exact rfl)))) ?_)
        refine j_end0 ?_
        refine bk_n ?_
        refine th_n ?_
        refine xc_region ?_
        refine xr_op rfl rfl (xv_move rfl ?_)
        refine xr_op rfl rfl (xv_add rfl rfl (wrap_i64 (by (first|omega|(dsimp only at *;omega)|(simp at *;omega))) (by (first|omega|(dsimp only at *;omega)|(simp at *;omega)))) ?_)
        refine xr_op rfl rfl (xv_assign rfl ?_)
        refine xr_end rfl ?_
        have hsj : spanN ((divsS s).map fun n => worthN s n n.length) (j + 1) = ⟨min (spanN ((divsS s).map fun n => worthN s n n.length) j).lo (worthN s xw.m xw.m.length), max (spanN ((divsS s).map fun n => worthN s n n.length) j).hi (worthN s xw.m xw.m.length)⟩ := spanN_more (by rw [List.getElem?_map, hdmw]; rfl)
        exact rnd (j + 1) (by (first|omega|(dsimp only at *;omega)|(simp at *;omega))) (by (first|omega|(dsimp only at *;omega)|(simp at *;omega))) (le_put (le_put (le_put (le_put (le_put (le_put (le_emp _) rfl) rfl) rfl) rfl) rfl) rfl) (by rw [hsj]; (first|((repeat first|exact s_0|exact s_1|exact s_3|refine s_4 ?_|refine s_5 ?_|refine s_6 ?_|refine s_7 ?_);done)|((repeat first|exact s_0|exact s_1|exact s_3|refine s_4 ?_|refine s_5 ?_|refine s_6 ?_|refine s_8 ?_);done)))
    · refine xr_end rfl ?_
      refine th_n ?_
      refine xc_false rfl ?_
      refine xc_exit ?_
      refine th_x ?_
      refine th_x ?_
      refine bk_same ?_
      refine th_n ?_
      refine xc_seq (xc_region ?_)
      obtain rfl : hds.length = j := by (first|omega|(dsimp only at *;omega)|(simp at *;omega))
      have hsa : spanN ((divsS s).map fun n => worthN s n n.length) hds.length = boughtS s := spanN_all (by rw [List.length_map, hdl])
      rw [hsa]
      have hed : errD s = 0 := by unfold errD; rw [if_pos he0, if_neg hdn]
      refine xr_op rfl rfl (xv_loadA ty30 rfl rfl (by ((repeat first|exact z_0|assumption|refine z_1 ?_|(refine z_l ?_;(repeat first|exact z_0|assumption|refine z_1 ?_);done)|refine z_r ?_);done)) (by ((try apply evl_some rfl);(repeat (first|exact (rfl : _ = [])|apply evl_cons rfl (by (first|exact v_1|exact v_2|exact v_3|exact v_4|exact v_5|exact v_6|exact v_7|exact v_8|exact v_9|exact rfl))|exact rfl)))) (by rfl) ?_)
      refine xr_op rfl rfl (xv_s ty30 rfl rfl (by (first|(apply u_3;(repeat first|exact u_0|assumption|apply u_1|apply u_2);done)|((repeat first|exact u_0|assumption|apply u_1|apply u_2);done)|(apply u_3;apply u_3;(repeat first|exact u_0|assumption|apply u_1|apply u_2);done)|((repeat first|exact u_0|assumption|apply u_3|apply u_1);done))) (by ((try apply evl_some rfl);(repeat (first|exact (rfl : _ = [])|apply evl_cons rfl (by (first|exact v_1|exact v_2|exact v_3|exact v_4|exact v_5|exact v_6|exact v_7|exact v_8|exact v_9|exact rfl))|exact rfl)))) (by rfl) (by rfl) (by rfl) (by ((try apply evl_some rfl);(repeat (first|exact (rfl : _ = [])|apply evl_cons rfl (by (first|exact v_1|exact v_2|exact v_3|exact v_4|exact v_5|exact v_6|exact v_7|exact v_8|exact v_9|exact rfl))|exact rfl)))) ?_)
      refine xr_op rfl rfl (xv_assign rfl ?_)
      refine xr_end rfl ?_
      refine th_n ?_
      refine xc_ret ?_
      refine body_ret (h' := h) rfl (ro_cellA ty30 rfl rfl (by ((repeat first|exact z_0|assumption|refine z_1 ?_|(refine z_l ?_;(repeat first|exact z_0|assumption|refine z_1 ?_);done)|refine z_r ?_);done)) (by rfl) (by rfl) (ro_tmp rfl ro_nil)) (by (first|((repeat first|exact s_0|exact s_1|exact s_3|refine s_4 ?_|refine s_5 ?_|refine s_6 ?_|refine s_7 ?_);done)|((repeat first|exact s_0|exact s_1|exact s_3|refine s_4 ?_|refine s_5 ?_|refine s_6 ?_|refine s_8 ?_);done))) ?_
      first | exact H1 hed | exact H2 hed

theorem errD_good {s : Slot} (h : errD s = 0) : GoodSlot s := by
  by_cases h0 : errS s = 0
  · exact good_of h0
  · unfold errD at h; rw [if_neg h0] at h; exact absurd h h0

end Go.Proofs.Ytlcdbjgfeoagbaa

/-
  Walks.
-/
namespace Go.Proofs.Ytlcdbjgfeoagbaa
open Go Go.H
set_option maxRecDepth 100000
set_option maxHeartbeats 8000000
set_option linter.all false
theorem PCoins_c {s : Slot} {h : Hp} {R : Ending → Hp → Prop} (hs : SlotV h s) (hsm : Small s) (H1 : errD s ≠ 0 → R (.returned (.tuple ⟨[.slice none 0 0, I (errD s)]⟩)) h)
    (H2 : errD s = 0 → ∀ V : Vec, V.ok 2 (coinsS s).length ((coinsS s).flatMap eSpan) → R (.returned (.tuple ⟨[V.val (coinsS s).length, I 0]⟩)) (V.hp 30 ((coinsS s).flatMap eSpan) ++ h)) :
    ACalls Try.prog 15 ⟨[.agg ⟨eSlot s⟩]⟩ h R := by
  refine calls_of_xc (N := 24) Try.func15 rfl (by rfl) ?_
  obtain ⟨hsl9, hsk⟩ := id hsm
  have hcl := coins_len s
  refine xc_seq (xc_region ?_)
  refine xr_op rfl rfl (xv_box rfl (fun b1 hb1 => ?_))
  refine xr_op rfl rfl (xv_assign rfl ?_)
  refine xr_op rfl rfl (xv_assign rfl ?_)
  refine xr_end rfl ?_
  refine th_n ?_
  refine xc_seq (xc_region ?_)
  refine xr_op rfl rfl (xv_loadA ty25 rfl rfl (by ((repeat first|exact z_0|assumption|refine z_1 ?_|(refine z_l ?_;(repeat first|exact z_0|assumption|refine z_1 ?_);done)|refine z_r ?_);done)) (by ((try apply evl_some rfl);(repeat (first|exact (rfl : _ = [])|apply evl_cons rfl (by (first|exact v_1|exact v_2|exact v_3|exact v_4|exact v_5|exact v_6|exact v_7|exact v_8|exact v_9|exact rfl))|exact rfl)))) (by rfl) ?_)
  refine xr_op rfl rfl (xv_calls rfl hb42 (settle_c (hs.sub (by intro z hz; ((repeat first|exact z_0|assumption|refine z_1 ?_|(refine z_l ?_;(repeat first|exact z_0|assumption|refine z_1 ?_);done)|refine z_r ?_);done))) hsm (fun hed => up_ret ?_) (fun hed bm ba ma mc G hmet hba => up_ret ?_)))
  · refine xr_op rfl rfl (xv_move rfl ?_)
    refine xr_op rfl rfl (xv_extract rfl rfl ?_)
    refine xr_op rfl rfl (xv_extract rfl rfl ?_)
    refine xr_op rfl rfl (xv_extract rfl rfl ?_)
    refine xr_op rfl rfl (xv_assign rfl ?_)
    refine xr_op rfl rfl (xv_assign rfl ?_)
    refine xr_op rfl rfl (xv_assign rfl ?_)
    refine xr_end rfl ?_
    refine th_n ?_
    refine xc_seq ?_
    refine xc_seq (xc_region ?_)
    refine xr_op rfl rfl (xv_move rfl ?_)
    refine xr_op rfl rfl (xv_neqT rfl rfl hed ?_)
    refine xr_end rfl ?_
    refine th_n ?_
    refine xc_true rfl ?_
    refine xc_seq (xc_region ?_)
    refine xr_op rfl rfl (xv_move rfl ?_)
    refine xr_op rfl rfl (xv_assign rfl ?_)
    refine xr_op rfl rfl (xv_assign rfl ?_)
    refine xr_end rfl ?_
    refine th_n ?_
    refine xc_ret ?_
    refine th_r ?_
    refine body_ret (h' := h) rfl (ro_tmp rfl (ro_tmp rfl ro_nil)) (by (first|((repeat first|exact s_0|exact s_1|exact s_3|refine s_4 ?_|refine s_5 ?_|refine s_6 ?_|refine s_7 ?_);done)|((repeat first|exact s_0|exact s_1|exact s_3|refine s_4 ?_|refine s_5 ?_|refine s_6 ?_|refine s_8 ?_);done))) ?_
    exact H1 hed
  · refine xr_op rfl rfl (xv_move rfl ?_)
    refine xr_op rfl rfl (xv_extract rfl rfl ?_)
    refine xr_op rfl rfl (xv_extract rfl rfl ?_)
    refine xr_op rfl rfl (xv_extract rfl rfl ?_)
    refine xr_op rfl rfl (xv_assign rfl ?_)
    refine xr_op rfl rfl (xv_assign rfl ?_)
    refine xr_op rfl rfl (xv_assign rfl ?_)
    refine xr_end rfl ?_
    refine th_n ?_
    refine xc_seq ?_
    refine xc_seq (xc_region ?_)
    refine xr_op rfl rfl (xv_move rfl ?_)
    refine xr_op rfl rfl (xv_neqF rfl rfl rfl ?_)
    refine xr_end rfl ?_
    refine th_n ?_
    refine xc_false rfl ?_
    refine xc_skip ?_
    refine th_n ?_
    refine xc_seq ?_
    refine xc_draw0 [(0, .S), (1, .S), (2, .S), (3, .S), (4, .R), (5, .S), (6, .S), (7, .O), (8, .S), (9, .S)] mixed (by kernel_rfl) ?_
    have hsz := (errD_good hed).2.1.1
    refine js_S rfl rfl (.inl rfl) (xv_move rfl ⟨rfl, rfl⟩) ?_
    refine js_S rfl rfl (.inl rfl) (xv_nilp rfl ⟨rfl, rfl⟩) ?_
    refine js_S rfl rfl (.inl rfl) (xv_faddr fl81_1 rfl ⟨rfl, rfl⟩) ?_
    refine js_S rfl rfl (.inl rfl) (xv_faddr fl25_4 rfl ⟨rfl, rfl⟩) ?_
    refine js_R0 rfl rfl (.inl rfl) (xv_load1 ty22 rfl rfl (by ((repeat first|exact z_0|assumption|refine z_1 ?_|(refine z_l ?_;(repeat first|exact z_0|assumption|refine z_1 ?_);done)|refine z_r ?_);done)) (by rfl) ⟨rfl, rfl⟩) ?_
    refine js_S rfl rfl (.inl rfl) (xv_len sl22 rfl ⟨rfl, rfl⟩) ?_
    refine js_S rfl rfl (.inl rfl) (xv_sliceArr (m := s.tars.length) Try.underlying79 ty30 rfl rfl (by (first|omega|(dsimp only at *;omega)|(simp at *;omega))) (by (first|omega|(dsimp only at *;omega)|(simp at *;omega))) (by (first | assumption | with_reducible exact Int.toNat_natCast _ | with_reducible rfl | rfl)) ⟨rfl, rfl⟩) ?_
    refine js_O0 rfl rfl (.inl rfl) (xv_calls rfl hb43 (cloneS_c (l := coinsS s) hcl.symm (coins_slv (List.mem_append_left _ hba) (by omega)) (by omega) (fun V hV => up_ret ?_)))
    refine js_S rfl rfl (.inl rfl) (xv_assign rfl ⟨rfl, rfl⟩) ?_
    refine js_S rfl rfl (.inl rfl) (xv_assign rfl ⟨rfl, rfl⟩) ?_
    refine j_end0 ?_
    refine th_n ?_
    refine xc_ret ?_
    refine body_ret (h' := (V.hp 30 ((coinsS s).flatMap eSpan) ++ h)) rfl (ro_tmp rfl (ro_tmp rfl ro_nil)) (by (first|((repeat first|exact s_0|exact s_1|exact s_3|refine s_4 ?_|refine s_5 ?_|refine s_6 ?_|refine s_7 ?_);done)|((repeat first|exact s_0|exact s_1|exact s_3|refine s_4 ?_|refine s_5 ?_|refine s_6 ?_|refine s_8 ?_);done))) ?_
    exact H2 hed V hV

theorem PBought_c {s : Slot} {h : Hp} {R : Ending → Hp → Prop} (hs : SlotV h s) (hsm : Small s) (H1 : errD s ≠ 0 → R (.returned (.tuple ⟨[.agg ⟨eSpan ⟨0, 0⟩⟩, I (errD s)]⟩)) h)
    (H2 : errD s = 0 → R (.returned (.tuple ⟨[.agg ⟨eSpan (boughtS s)⟩, I 0]⟩)) h) :
    ACalls Try.prog 20 ⟨[.agg ⟨eSlot s⟩]⟩ h R := by
  refine calls_of_xc (N := 21) Try.func20 rfl (by rfl) ?_
  obtain ⟨hsl9, hsk⟩ := id hsm
  refine xc_seq (xc_region ?_)
  refine xr_op rfl rfl (xv_box rfl (fun b1 hb1 => ?_))
  refine xr_op rfl rfl (xv_alloc ty30 (fun b2 hb2 => ?_))
  refine xr_op rfl rfl (xv_assign rfl ?_)
  refine xr_end rfl ?_
  refine th_n ?_
  refine xc_seq (xc_region ?_)
  refine xr_op rfl rfl (xv_loadA ty25 rfl rfl (by ((repeat first|exact z_0|assumption|refine z_1 ?_|(refine z_l ?_;(repeat first|exact z_0|assumption|refine z_1 ?_);done)|refine z_r ?_);done)) (by ((try apply evl_some rfl);(repeat (first|exact (rfl : _ = [])|apply evl_cons rfl (by (first|exact v_1|exact v_2|exact v_3|exact v_4|exact v_5|exact v_6|exact v_7|exact v_8|exact v_9|exact rfl))|exact rfl)))) (by rfl) ?_)
  refine xr_op rfl rfl (xv_calls rfl hb42 (settle_c (hs.sub (by intro z hz; ((repeat first|exact z_0|assumption|refine z_1 ?_|(refine z_l ?_;(repeat first|exact z_0|assumption|refine z_1 ?_);done)|refine z_r ?_);done))) hsm (fun hed => up_ret ?_) (fun hed bm ba ma mc G hmet hba => up_ret ?_)))
  · refine xr_op rfl rfl (xv_move rfl ?_)
    refine xr_op rfl rfl (xv_extract rfl rfl ?_)
    refine xr_op rfl rfl (xv_extract rfl rfl ?_)
    refine xr_op rfl rfl (xv_extract rfl rfl ?_)
    refine xr_op rfl rfl (xv_assign rfl ?_)
    refine xr_op rfl rfl (xv_assign rfl ?_)
    refine xr_op rfl rfl (xv_assign rfl ?_)
    refine xr_end rfl ?_
    refine th_n ?_
    refine xc_seq ?_
    refine xc_seq (xc_region ?_)
    refine xr_op rfl rfl (xv_move rfl ?_)
    refine xr_op rfl rfl (xv_neqT rfl rfl hed ?_)
    refine xr_end rfl ?_
    refine th_n ?_
    refine xc_true rfl ?_
    refine xc_seq (xc_region ?_)
    refine xr_op rfl rfl (xv_build bt30 rfl (by ((try apply evl_some rfl);(repeat (first|exact (rfl : _ = [])|apply evl_cons rfl (by (first|exact v_1|exact v_2|exact v_3|exact v_4|exact v_5|exact v_6|exact v_7|exact v_8|exact v_9|exact rfl))|exact rfl)))) ?_)
    refine xr_op rfl rfl (xv_move rfl ?_)
    refine xr_op rfl rfl (xv_s ty30 rfl rfl (by (first|(apply u_3;(repeat first|exact u_0|assumption|apply u_1|apply u_2);done)|((repeat first|exact u_0|assumption|apply u_1|apply u_2);done)|(apply u_3;apply u_3;(repeat first|exact u_0|assumption|apply u_1|apply u_2);done)|((repeat first|exact u_0|assumption|apply u_3|apply u_1);done))) (by ((try apply evl_some rfl);(repeat (first|exact (rfl : _ = [])|apply evl_cons rfl (by (first|exact v_1|exact v_2|exact v_3|exact v_4|exact v_5|exact v_6|exact v_7|exact v_8|exact v_9|exact rfl))|exact rfl)))) (by rfl) (by rfl) (by rfl) (by ((try apply evl_some rfl);(repeat (first|exact (rfl : _ = [])|apply evl_cons rfl (by (first|exact v_1|exact v_2|exact v_3|exact v_4|exact v_5|exact v_6|exact v_7|exact v_8|exact v_9|exact rfl))|exact rfl)))) ?_)
    refine xr_op rfl rfl (xv_assign rfl ?_)
    refine xr_end rfl ?_
    refine th_n ?_
    refine xc_ret ?_
    refine th_r ?_
    refine body_ret (h' := h) rfl (ro_cellA ty30 rfl rfl (by ((repeat first|exact z_0|assumption|refine z_1 ?_|(refine z_l ?_;(repeat first|exact z_0|assumption|refine z_1 ?_);done)|refine z_r ?_);done)) (by rfl) (by rfl) (ro_tmp rfl ro_nil)) (by (first|((repeat first|exact s_0|exact s_1|exact s_3|refine s_4 ?_|refine s_5 ?_|refine s_6 ?_|refine s_7 ?_);done)|((repeat first|exact s_0|exact s_1|exact s_3|refine s_4 ?_|refine s_5 ?_|refine s_6 ?_|refine s_8 ?_);done))) ?_
    first | exact H1 hed | exact H2 hed
  · refine xr_op rfl rfl (xv_move rfl ?_)
    refine xr_op rfl rfl (xv_extract rfl rfl ?_)
    refine xr_op rfl rfl (xv_extract rfl rfl ?_)
    refine xr_op rfl rfl (xv_extract rfl rfl ?_)
    refine xr_op rfl rfl (xv_assign rfl ?_)
    refine xr_op rfl rfl (xv_assign rfl ?_)
    refine xr_op rfl rfl (xv_assign rfl ?_)
    refine xr_end rfl ?_
    refine th_n ?_
    refine xc_seq ?_
    refine xc_seq (xc_region ?_)
    refine xr_op rfl rfl (xv_move rfl ?_)
    refine xr_op rfl rfl (xv_neqF rfl rfl rfl ?_)
    refine xr_end rfl ?_
    refine th_n ?_
    refine xc_false rfl ?_
    refine xc_skip ?_
    refine th_n ?_
    refine xc_seq (xc_region ?_)
    refine xr_op rfl rfl (xv_move rfl ?_)
    refine xr_op rfl rfl (xv_nilp rfl ?_)
    refine xr_op rfl rfl (xv_faddr fl81_2 rfl ?_)
    refine xr_op rfl rfl (xv_loadA ty30 rfl rfl (by ((repeat first|exact z_0|assumption|refine z_1 ?_|(refine z_l ?_;(repeat first|exact z_0|assumption|refine z_1 ?_);done)|refine z_r ?_);done)) (by ((try apply evl_some rfl);(repeat (first|exact (rfl : _ = [])|apply evl_cons rfl (by (first|exact v_1|exact v_2|exact v_3|exact v_4|exact v_5|exact v_6|exact v_7|exact v_8|exact v_9|exact rfl))|exact rfl)))) (by rfl) ?_)
    refine xr_op rfl rfl (xv_s ty30 rfl rfl (by (first|(apply u_3;(repeat first|exact u_0|assumption|apply u_1|apply u_2);done)|((repeat first|exact u_0|assumption|apply u_1|apply u_2);done)|(apply u_3;apply u_3;(repeat first|exact u_0|assumption|apply u_1|apply u_2);done)|((repeat first|exact u_0|assumption|apply u_3|apply u_1);done))) (by ((try apply evl_some rfl);(repeat (first|exact (rfl : _ = [])|apply evl_cons rfl (by (first|exact v_1|exact v_2|exact v_3|exact v_4|exact v_5|exact v_6|exact v_7|exact v_8|exact v_9|exact rfl))|exact rfl)))) (by rfl) (by rfl) (by rfl) (by ((try apply evl_some rfl);(repeat (first|exact (rfl : _ = [])|apply evl_cons rfl (by (first|exact v_1|exact v_2|exact v_3|exact v_4|exact v_5|exact v_6|exact v_7|exact v_8|exact v_9|exact rfl))|exact rfl)))) ?_)
    refine xr_op rfl rfl (xv_assign rfl ?_)
    refine xr_end rfl ?_
    refine th_n ?_
    refine xc_ret ?_
    refine body_ret (h' := h) rfl (ro_cellA ty30 rfl rfl (by ((repeat first|exact z_0|assumption|refine z_1 ?_|(refine z_l ?_;(repeat first|exact z_0|assumption|refine z_1 ?_);done)|refine z_r ?_);done)) (by rfl) (by rfl) (ro_tmp rfl ro_nil)) (by (first|((repeat first|exact s_0|exact s_1|exact s_3|refine s_4 ?_|refine s_5 ?_|refine s_6 ?_|refine s_7 ?_);done)|((repeat first|exact s_0|exact s_1|exact s_3|refine s_4 ?_|refine s_5 ?_|refine s_6 ?_|refine s_8 ?_);done))) ?_
    first | exact H1 hed | exact H2 hed

theorem PLeft_c {s : Slot} {h : Hp} {R : Ending → Hp → Prop} (hs : SlotV h s) (hsm : Small s) (H1 : errD s ≠ 0 → R (.returned (.tuple ⟨[.agg ⟨eSpan ⟨0, 0⟩⟩, I (errD s)]⟩)) h)
    (H2 : errD s = 0 → R (.returned (.tuple ⟨[.agg ⟨eSpan (leftS s)⟩, I 0]⟩)) h) :
    ACalls Try.prog 16 ⟨[.agg ⟨eSlot s⟩]⟩ h R := by
  refine calls_of_xc (N := 34) Try.func16 rfl (by rfl) ?_
  obtain ⟨hsl9, hsk⟩ := id hsm
  refine xc_seq (xc_region ?_)
  refine xr_op rfl rfl (xv_box rfl (fun b1 hb1 => ?_))
  refine xr_op rfl rfl (xv_alloc ty30 (fun b2 hb2 => ?_))
  refine xr_op rfl rfl (xv_assign rfl ?_)
  refine xr_end rfl ?_
  refine th_n ?_
  refine xc_seq (xc_region ?_)
  refine xr_op rfl rfl (xv_loadA ty25 rfl rfl (by ((repeat first|exact z_0|assumption|refine z_1 ?_|(refine z_l ?_;(repeat first|exact z_0|assumption|refine z_1 ?_);done)|refine z_r ?_);done)) (by ((try apply evl_some rfl);(repeat (first|exact (rfl : _ = [])|apply evl_cons rfl (by (first|exact v_1|exact v_2|exact v_3|exact v_4|exact v_5|exact v_6|exact v_7|exact v_8|exact v_9|exact rfl))|exact rfl)))) (by rfl) ?_)
  refine xr_op rfl rfl (xv_calls rfl hb42 (settle_c (hs.sub (by intro z hz; ((repeat first|exact z_0|assumption|refine z_1 ?_|(refine z_l ?_;(repeat first|exact z_0|assumption|refine z_1 ?_);done)|refine z_r ?_);done))) hsm (fun hed => up_ret ?_) (fun hed bm ba ma mc G hmet hba => up_ret ?_)))
  · refine xr_op rfl rfl (xv_move rfl ?_)
    refine xr_op rfl rfl (xv_extract rfl rfl ?_)
    refine xr_op rfl rfl (xv_extract rfl rfl ?_)
    refine xr_op rfl rfl (xv_extract rfl rfl ?_)
    refine xr_op rfl rfl (xv_assign rfl ?_)
    refine xr_op rfl rfl (xv_assign rfl ?_)
    refine xr_op rfl rfl (xv_assign rfl ?_)
    refine xr_end rfl ?_
    refine th_n ?_
    refine xc_seq ?_
    refine xc_seq (xc_region ?_)
    refine xr_op rfl rfl (xv_move rfl ?_)
    refine xr_op rfl rfl (xv_neqT rfl rfl hed ?_)
    refine xr_end rfl ?_
    refine th_n ?_
    refine xc_true rfl ?_
    refine xc_seq (xc_region ?_)
    refine xr_op rfl rfl (xv_build bt30 rfl (by ((try apply evl_some rfl);(repeat (first|exact (rfl : _ = [])|apply evl_cons rfl (by (first|exact v_1|exact v_2|exact v_3|exact v_4|exact v_5|exact v_6|exact v_7|exact v_8|exact v_9|exact rfl))|exact rfl)))) ?_)
    refine xr_op rfl rfl (xv_move rfl ?_)
    refine xr_op rfl rfl (xv_s ty30 rfl rfl (by (first|(apply u_3;(repeat first|exact u_0|assumption|apply u_1|apply u_2);done)|((repeat first|exact u_0|assumption|apply u_1|apply u_2);done)|(apply u_3;apply u_3;(repeat first|exact u_0|assumption|apply u_1|apply u_2);done)|((repeat first|exact u_0|assumption|apply u_3|apply u_1);done))) (by ((try apply evl_some rfl);(repeat (first|exact (rfl : _ = [])|apply evl_cons rfl (by (first|exact v_1|exact v_2|exact v_3|exact v_4|exact v_5|exact v_6|exact v_7|exact v_8|exact v_9|exact rfl))|exact rfl)))) (by rfl) (by rfl) (by rfl) (by ((try apply evl_some rfl);(repeat (first|exact (rfl : _ = [])|apply evl_cons rfl (by (first|exact v_1|exact v_2|exact v_3|exact v_4|exact v_5|exact v_6|exact v_7|exact v_8|exact v_9|exact rfl))|exact rfl)))) ?_)
    refine xr_op rfl rfl (xv_assign rfl ?_)
    refine xr_end rfl ?_
    refine th_n ?_
    refine xc_ret ?_
    refine th_r ?_
    refine body_ret (h' := h) rfl (ro_cellA ty30 rfl rfl (by ((repeat first|exact z_0|assumption|refine z_1 ?_|(refine z_l ?_;(repeat first|exact z_0|assumption|refine z_1 ?_);done)|refine z_r ?_);done)) (by rfl) (by rfl) (ro_tmp rfl ro_nil)) (by (first|((repeat first|exact s_0|exact s_1|exact s_3|refine s_4 ?_|refine s_5 ?_|refine s_6 ?_|refine s_7 ?_);done)|((repeat first|exact s_0|exact s_1|exact s_3|refine s_4 ?_|refine s_5 ?_|refine s_6 ?_|refine s_8 ?_);done))) ?_
    first | exact H1 hed | exact H2 hed
  · refine xr_op rfl rfl (xv_move rfl ?_)
    refine xr_op rfl rfl (xv_extract rfl rfl ?_)
    refine xr_op rfl rfl (xv_extract rfl rfl ?_)
    refine xr_op rfl rfl (xv_extract rfl rfl ?_)
    refine xr_op rfl rfl (xv_assign rfl ?_)
    refine xr_op rfl rfl (xv_assign rfl ?_)
    refine xr_op rfl rfl (xv_assign rfl ?_)
    refine xr_end rfl ?_
    refine th_n ?_
    refine xc_seq ?_
    refine xc_seq (xc_region ?_)
    refine xr_op rfl rfl (xv_move rfl ?_)
    refine xr_op rfl rfl (xv_neqF rfl rfl rfl ?_)
    refine xr_end rfl ?_
    refine th_n ?_
    refine xc_false rfl ?_
    refine xc_skip ?_
    refine th_n ?_
    refine xc_seq ?_
    refine xc_draw0 [(0, .S), (1, .S), (2, .S), (3, .S), (4, .S), (5, .R), (6, .R), (7, .S), (8, .S), (9, .S), (10, .S), (11, .S), (12, .S), (13, .R), (14, .R), (15, .S), (16, .S), (17, .O), (18, .S)] mixed (by kernel_rfl) ?_
    have hbb := bought_bd (errD_good hed) hed
    have hgm := hmet.m
    refine js_S rfl rfl (.inl rfl) (xv_move rfl ⟨rfl, rfl⟩) ?_
    refine js_S rfl rfl (.inl rfl) (xv_move rfl ⟨rfl, rfl⟩) ?_
    refine js_S rfl rfl (.inl rfl) (xv_nilp rfl ⟨rfl, rfl⟩) ?_
    refine js_S rfl rfl (.inl rfl) (xv_faddr fl81_2 rfl ⟨rfl, rfl⟩) ?_
    refine js_S rfl rfl (.inl rfl) (xv_faddr fl30_0 rfl ⟨rfl, rfl⟩) ?_
    refine js_R0 rfl rfl (.inl rfl) (xv_load1 ty3 rfl rfl (by ((repeat first|exact z_0|assumption|refine z_1 ?_|(refine z_l ?_;(repeat first|exact z_0|assumption|refine z_1 ?_);done)|refine z_r ?_);done)) (by rfl) ⟨rfl, rfl⟩) ?_
    refine js_R0 rfl rfl (.inl rfl) (xv_calls rfl hb37 (pcredit_c (by ((repeat first|exact z_0|assumption|refine z_1 ?_|(refine z_l ?_;(repeat first|exact z_0|assumption|refine z_1 ?_);done)|refine z_r ?_);done)) (hmet.dm.sub (by intro z hz; ((repeat first|exact z_0|assumption|refine z_1 ?_|(refine z_l ?_;(repeat first|exact z_0|assumption|refine z_1 ?_);done)|refine z_r ?_);done))) (hs.sub (by intro z hz; ((repeat first|exact z_0|assumption|refine z_1 ?_|(refine z_l ?_;(repeat first|exact z_0|assumption|refine z_1 ?_);done)|refine z_r ?_);done))) hsm (errD_errS hed) (by first | exact hbb.1 | exact hbb.2) (up_ret ⟨rfl, rfl⟩))) ?_
    refine js_S rfl rfl (.inl rfl) (xv_field1 fl30_0 rfl (by rfl) ⟨rfl, rfl⟩) ?_
    refine js_S rfl rfl (.inl rfl) (xv_move rfl ⟨rfl, rfl⟩) ?_
    refine js_S rfl rfl (.inl rfl) (xv_move rfl ⟨rfl, rfl⟩) ?_
    refine js_S rfl rfl (.inl rfl) (xv_nilp rfl ⟨rfl, rfl⟩) ?_
    refine js_S rfl rfl (.inl rfl) (xv_faddr fl81_2 rfl ⟨rfl, rfl⟩) ?_
    refine js_S rfl rfl (.inl rfl) (xv_faddr fl30_1 rfl ⟨rfl, rfl⟩) ?_
    refine js_R0 rfl rfl (.inl rfl) (xv_load1 ty3 rfl rfl (by ((repeat first|exact z_0|assumption|refine z_1 ?_|(refine z_l ?_;(repeat first|exact z_0|assumption|refine z_1 ?_);done)|refine z_r ?_);done)) (by rfl) ⟨rfl, rfl⟩) ?_
    refine js_R0 rfl rfl (.inl rfl) (xv_calls rfl hb37 (pcredit_c (by ((repeat first|exact z_0|assumption|refine z_1 ?_|(refine z_l ?_;(repeat first|exact z_0|assumption|refine z_1 ?_);done)|refine z_r ?_);done)) (hmet.dm.sub (by intro z hz; ((repeat first|exact z_0|assumption|refine z_1 ?_|(refine z_l ?_;(repeat first|exact z_0|assumption|refine z_1 ?_);done)|refine z_r ?_);done))) (hs.sub (by intro z hz; ((repeat first|exact z_0|assumption|refine z_1 ?_|(refine z_l ?_;(repeat first|exact z_0|assumption|refine z_1 ?_);done)|refine z_r ?_);done))) hsm (errD_errS hed) (by first | exact hbb.1 | exact hbb.2) (up_ret ⟨rfl, rfl⟩))) ?_
    refine js_S rfl rfl (.inl rfl) (xv_field1 fl30_1 rfl (by rfl) ⟨rfl, rfl⟩) ?_
    refine js_S rfl rfl (.inl rfl) (xv_build bt30 rfl (by ((try apply evl_some rfl);(repeat (first|exact (rfl : _ = [])|apply evl_cons rfl (by (first|exact v_1|exact v_2|exact v_3|exact v_4|exact v_5|exact v_6|exact v_7|exact v_8|exact v_9|exact rfl))|exact rfl)))) ⟨rfl, rfl⟩) ?_
    refine js_O0 rfl rfl (.inl rfl) (xv_s ty30 rfl rfl (by (first|(apply u_3;(repeat first|exact u_0|assumption|apply u_1|apply u_2);done)|((repeat first|exact u_0|assumption|apply u_1|apply u_2);done)|(apply u_3;apply u_3;(repeat first|exact u_0|assumption|apply u_1|apply u_2);done)|((repeat first|exact u_0|assumption|apply u_3|apply u_1);done))) (by ((try apply evl_some rfl);(repeat (first|exact (rfl : _ = [])|apply evl_cons rfl (by (first|exact v_1|exact v_2|exact v_3|exact v_4|exact v_5|exact v_6|exact v_7|exact v_8|exact v_9|exact rfl))|exact rfl)))) (by rfl) (by rfl) (by rfl) (by ((try apply evl_some rfl);(repeat (first|exact (rfl : _ = [])|apply evl_cons rfl (by (first|exact v_1|exact v_2|exact v_3|exact v_4|exact v_5|exact v_6|exact v_7|exact v_8|exact v_9|exact rfl))|exact rfl)))) ?_)
    refine js_S rfl rfl (.inl rfl) (xv_assign rfl ⟨rfl, rfl⟩) ?_
    refine j_end0 ?_
    refine th_n ?_
    refine xc_ret ?_
    refine body_ret (h' := h) rfl (ro_cellA ty30 rfl rfl (by ((repeat first|exact z_0|assumption|refine z_1 ?_|(refine z_l ?_;(repeat first|exact z_0|assumption|refine z_1 ?_);done)|refine z_r ?_);done)) (by rfl) (by rfl) (ro_tmp rfl ro_nil)) (by (first|((repeat first|exact s_0|exact s_1|exact s_3|refine s_4 ?_|refine s_5 ?_|refine s_6 ?_|refine s_7 ?_);done)|((repeat first|exact s_0|exact s_1|exact s_3|refine s_4 ?_|refine s_5 ?_|refine s_6 ?_|refine s_8 ?_);done))) ?_
    first | exact H1 hed | exact H2 hed

end Go.Proofs.Ytlcdbjgfeoagbaa

/-
  A laying of the kit's shelf, in plain words.
-/
set_option linter.all false
namespace Go.Proofs.Ytlcdbjgfeoagbaa
open Go Go.Proofs Go.Shelf
def lays189_ren : Ren where
  f := fun x => match x with | 189 => 34 | 125 => 54 | 257 => 53 | 128 => 77 | 129 => 78 | 294 => 68 | 295 => 69 | 296 => 70 | 297 => 71 | 298 => 72 | 299 => 73 | 216 => 74 | 300 => 75 | 301 => 76 | 328 => 93 | 329 => 94 | 330 => 95 | 331 => 96 | 332 => 97 | 215 => 67 | 343 => 103 | n => n
  t := fun x => match x with | 28 => 26 | 3 => 3 | 46 => 96 | 0 => 0 | 51 => 57 | 53 => 120 | 4 => 4 | 183 => 112 | 182 => 111 | 131 => 88 | 5 => 5 | 9 => 9 | 218 => 132 | 222 => 136 | 228 => 140 | 229 => 141 | n => n
  g := fun n => n
theorem lays189 : Lays.n189 Try.prog lays189_ren where
  mixed := by kernel_rfl
  f125 := Try.func54.trans (congrArg some (by kernel_rfl))
  f128 := Try.func77.trans (congrArg some (by kernel_rfl))
  f129 := Try.func78.trans (congrArg some (by kernel_rfl))
  f189 := Try.func34.trans (congrArg some (by kernel_rfl))
  f215 := Try.func67.trans (congrArg some (by kernel_rfl))
  f216 := Try.func74.trans (congrArg some (by kernel_rfl))
  f257 := Try.func53.trans (congrArg some (by kernel_rfl))
  f294 := Try.func68.trans (congrArg some (by kernel_rfl))
  f295 := Try.func69.trans (congrArg some (by kernel_rfl))
  f296 := Try.func70.trans (congrArg some (by kernel_rfl))
  f297 := Try.func71.trans (congrArg some (by kernel_rfl))
  f298 := Try.func72.trans (congrArg some (by kernel_rfl))
  f299 := Try.func73.trans (congrArg some (by kernel_rfl))
  f300 := Try.func75.trans (congrArg some (by kernel_rfl))
  f301 := Try.func76.trans (congrArg some (by kernel_rfl))
  f328 := Try.func93.trans (congrArg some (by kernel_rfl))
  f329 := Try.func94.trans (congrArg some (by kernel_rfl))
  f330 := Try.func95.trans (congrArg some (by kernel_rfl))
  f331 := Try.func96.trans (congrArg some (by kernel_rfl))
  f332 := Try.func97.trans (congrArg some (by kernel_rfl))
  f343 := Try.func103.trans (congrArg some (by kernel_rfl))
  t0 := Try.underlying0
  a0 := Try.isAgg0
  z0 := Try.sizeOf0
  v0 := Try.zeroValue0
  t3 := Try.underlying3
  a3 := Try.isAgg3
  z3 := Try.sizeOf3
  v3 := Try.zeroValue3
  t4 := Try.underlying4
  a4 := Try.isAgg4
  z4 := Try.sizeOf4
  v4 := Try.zeroValue4
  t5 := Try.underlying5
  a5 := Try.isAgg5
  z5 := Try.sizeOf5
  v5 := Try.zeroValue5
  t9 := Try.underlying9
  a9 := Try.isAgg9
  z9 := Try.sizeOf9
  v9 := Try.zeroValue9
  t28 := Try.underlying26
  a28 := Try.isAgg26
  z28 := Try.sizeOf26
  v28 := Try.zeroValue26
  t46 := Try.underlying96
  a46 := Try.isAgg96
  z46 := Try.sizeOf96
  v46 := Try.zeroValue96
  t51 := Try.underlying57
  a51 := Try.isAgg57
  z51 := Try.sizeOf57
  v51 := Try.zeroValue57
  t53 := Try.underlying120
  a53 := Try.isAgg120
  z53 := Try.sizeOf120
  v53 := Try.zeroValue120
  t131 := Try.underlying88
  a131 := Try.isAgg88
  z131 := Try.sizeOf88
  v131 := Try.zeroValue88
  t182 := Try.underlying111
  a182 := Try.isAgg111
  z182 := Try.sizeOf111
  v182 := Try.zeroValue111
  t183 := Try.underlying112
  a183 := Try.isAgg112
  z183 := Try.sizeOf112
  v183 := Try.zeroValue112
  t218 := Try.underlying132
  a218 := Try.isAgg132
  z218 := Try.sizeOf132
  v218 := Try.zeroValue132
  t222 := Try.underlying136
  a222 := Try.isAgg136
  z222 := Try.sizeOf136
  v222 := Try.zeroValue136
  t228 := Try.underlying140
  a228 := Try.isAgg140
  z228 := Try.sizeOf140
  v228 := Try.zeroValue140
  t229 := Try.underlying141
  a229 := Try.isAgg141
  z229 := Try.sizeOf141
  v229 := Try.zeroValue141
end Go.Proofs.Ytlcdbjgfeoagbaa

/-
  A copy of numbers; a slice of numbers sorted by the library.
-/
set_option linter.all false
namespace Go.H
open Go
section
variable {P : Program} {r : Option Nat} {E : Env} {h h' g : Hp} {K : Value → Hp → Prop} {T : List PanicEntry → Hp → Prop} {dst : Option Nat} {ty : TypeId} {pos : String} {af : Array Edge} {gd : Option (Nat × Bool)}
theorem xv_copy1 {α : Type} {enc : α → List Value} {x y : Operand} {t u e te : TypeId} {d : TD} {b n c cl : Nat} {al : Option Addr} {ys : List α} {l : List Value} (ht : SlT P t e) (hd : TyOk P e d) (hsz : d.size = 1)
    (hx : ev E x = some (.slice (some ⟨b, 0, none⟩) n c)) (hy : ev E y = some (.slice al n cl)) (hn : n = ys.length) (hs : SlV h 1 enc al ys) (henc : ∀ x, (enc x).length = 1) (h1 : ∀ x, (enc x).all Value.oneCell' = true) (hl : l.length = n)
    (hm : Upd h b (.cells ⟨l⟩ te (0, 0)) (.cells ⟨ys.flatMap enc⟩ te (0, 0)) h') (H : K (.int .i64 n) h') : XV P r ⟨dst, .call ⟨.builtin .copy, #[x, y], #[t, u]⟩, ty, pos, af, gd⟩ K T E h :=
  xv_of_run (by simp [plainOp]) fun w ρ ho he => by
    subst hn
    obtain ⟨i, hi, his, hib, hiz⟩ := hd.info
    have hinf : (P.info? e).map (·.size) = some 1 := by rw [hi]; simp [his, hsz]
    obtain ⟨cs, hcs⟩ := run_builtin (P := P) (dst := dst) (ty := ty) (pos := pos) (af := af) (gd := gd) ρ .copy #[x, y] #[t, u] w
    have hbase : (execOp ρ ⟨dst, .call ⟨.builtin .copy, #[x, y], #[t, u]⟩, ty, pos, af, gd⟩).run P w = ((Builtin.copy_ #[t, u] ty #[.slice (some ⟨b, 0, none⟩) ys.length c, .slice al ys.length cl]).run P w).andThen fun v w' => .ok (.value v) w' := by
      rw [hcs]; simp [builtin, he _ _ hx, he _ _ hy]
    rw [hbase]
    cases ys with
    | nil =>
      have hl0 : l = [] := List.length_eq_zero_iff.1 hl
      subst hl0
      have hr := run_copy_none (P := P) w t u ty e (some ⟨b, 0, none⟩) al ([] : List α).length c ([] : List α).length cl ht hinf rfl
      refine ⟨.int .i64 (([] : List α).length : Int), h', w, by rw [hr]; rfl, H, ?_⟩
      rw [hm.same]; exact .refl ho
    | cons y0 ys0 =>
      obtain ⟨b9, o9, li, t9, fz, hal, hmm, hx9⟩ := hs.at (i := 0) (by simp)
      subst hal
      have hfl := flat_lenM henc (y0 :: ys0)
      rw [Nat.mul_one] at hfl
      have hread := slv_flat2 henc hx9
      have hub := ho.has _ _ hmm
      have hg := ho.has _ _ hm.mem
      have hr := run_copy_row (P := P) w t u ty e b 0 (y0 :: ys0).length c ⟨b9, o9, none⟩ (y0 :: ys0).length cl ⟨l⟩ te ((y0 :: ys0).flatMap enc) ht hinf hg (by rw [hfl]; exact (Nat.min_self _).symm) (cells_read (m := (y0 :: ys0).length) (sz := 1) hub hread (by rw [hfl, Nat.mul_one])) (by rw [hfl]; show 0 + _ ≤ l.length; omega) (List.all_eq_true.1 (flat_all h1 _))
      refine ⟨.int .i64 ((y0 :: ys0).length : Int), h', w.setRow b ⟨(y0 :: ys0).flatMap enc⟩, ?_, H, ?_⟩
      · rw [hr, hfl]
        have hd0 : (⟨l⟩ : Array Value).toList.drop (0 + ((y0 :: ys0)).length) = [] := List.drop_eq_nil_of_le (by show l.length ≤ _; omega)
        rw [hd0, List.append_nil, List.take_zero, List.nil_append]
        rfl
      · have h9 := fol_row ho hm.mem ((y0 :: ys0).flatMap enc)
        rw [hm.set ho.nd] at h9
        exact h9
theorem putCells_all {xs ys : List Int} {sp : List Value} (hl : ys.length = xs.length) : Go.Sort.putCells (Value.int .i64) 0 ys.toArray (⟨xs.map (Value.int .i64) ++ sp⟩ : Array Value) = ⟨ys.map (Value.int .i64) ++ sp⟩ := by
  apply Array.ext'
  apply List.ext_getElem?
  intro k
  simp only [Go.Sort.putCells, Array.getElem?_toList, Array.getElem?_mapIdx]
  by_cases hk : k < ys.length
  · simp [List.getElem?_append_left, hk, hl ▸ hk, ← hl]
  · have h1 : ¬ k < xs.length := by omega
    rw [List.getElem?_append_right (by simpa using hk)]
    have h2 : (xs.map (Value.int .i64) ++ sp)[k]? = sp[k - xs.length]? := by rw [List.getElem?_append_right (by simp; omega)]; simp
    simp [hk, h2, hl, h1]
theorem fol_sorted {w : World} {b n : Nat} {os : Array Obj} {xs ys : List Int} {sp : List Value} {t : TypeId} {L : Hp} (hl : ys.length = xs.length) (ho : Own ((b, .cells ⟨xs.map (Value.int .i64) ++ sp⟩ t (0, 0)) :: L) w) :
    Fol ((b, .cells ⟨xs.map (Value.int .i64) ++ sp⟩ t (0, 0)) :: L) w ((b, .cells ⟨ys.map (Value.int .i64) ++ sp⟩ t (0, 0)) :: L) (Go.Sort.grow (Go.Sort.putRow (Value.int .i64) (Go.Sort.ahead w n) b 0 ys.toArray) os) := by
  have hb := ho.has _ _ List.mem_cons_self
  have hg := Go.grownBy_sortedI (w := w) (g := b) (n := n) (os := os) ys.toArray
  have hs := Go.heap_sortedI (w := w) (g := b) (n := n) (os := os) ys.toArray hb
  rw [putCells_all hl] at hs
  obtain ⟨g1, g2, g3, g4, g5⟩ := hg
  have hnd := ho.nd
  refine ⟨⟨hnd, fun c o hm => ?_⟩, g1, g2, g3, g4, fun k hk hn => ⟨hn, g5 k hk fun e => hn (by rw [Option.some.inj e]; exact List.mem_cons_self)⟩⟩
  rcases List.mem_cons.1 hm with e | hm
  · cases e; exact hs
  · have h1 := ho.has _ _ (List.mem_cons_of_mem _ hm)
    have hne : b ≠ c := fun e => by
      subst e
      have : b ∈ keys L := List.mem_map.2 ⟨_, hm, rfl⟩
      exact (List.nodup_cons.1 hnd).1 this
    rw [g5 c (Array.getElem?_eq_some_iff.1 h1).1 (fun e => hne (Option.some.inj e).symm)]
    exact h1
end
end Go.H

/-
  The library's sort of numbers, as a call over owned blocks.
-/
set_option linter.all false
namespace Go.Proofs.Ytlcdbjgfeoagbaa
open Go Go.H
theorem flat_I (xs : List Int) : xs.flatMap eI = xs.map (Value.int .i64) := by
  induction xs with
  | nil => rfl
  | cons x l ih => rw [List.flatMap_cons, List.map_cons, ih]; rfl
theorem sortI_c {V : Vec} {xs : List Int} {L : Hp} {R : Ending → Hp → Prop} (hV : V.ok 1 xs.length (xs.flatMap eI)) (hn : xs.length < 4611686018427387904)
    (H : ∀ ys : List Int, ys.Perm xs → ys.Pairwise (fun a b => a ≤ b) → V.ok 1 ys.length (ys.flatMap eI) → R (.returned (.tuple #[])) (V.hp 3 (ys.flatMap eI) ++ L)) :
    ACalls Try.prog 34 ⟨[V.val xs.length]⟩ (V.hp 3 (xs.flatMap eI) ++ L) R := by
  cases V with
  | nil =>
    have hx : xs = [] := List.length_eq_zero_iff.1 hV.2
    subst hx
    intro w ho
    refine (Any.slices_Sort_int_none lays189 none 0 w).mono ?_
    rintro e w' ⟨rfl, rfl⟩
    exact ⟨_, H [] .nil .nil hV, .refl ho⟩
  | «at» b cap sp =>
    intro w ho
    have ho2 : Own ((b, .cells ⟨xs.map (Value.int .i64) ++ sp⟩ 3 (0, 0)) :: L) w := by rw [← flat_I]; exact ho
    have hb := ho2.has _ _ List.mem_cons_self
    refine (Any.slices_Sort_int lays189 b 0 cap xs w (Go.holds_of_blockI hb (by simp)) (Array.getElem?_eq_some_iff.1 hb).1 hn).mono ?_
    rintro e w' ⟨rfl, n, os, rfl⟩
    have hp : (xs.mergeSort fun x y => decide (x ≤ y)).Perm xs := List.mergeSort_perm _ _
    have hs : (xs.mergeSort fun x y => decide (x ≤ y)).Pairwise (fun a b => a ≤ b) := by
      have h9 := List.pairwise_mergeSort (le := fun x y : Int => decide (x ≤ y)) (fun a b c h1 h2 => by simp only [decide_eq_true_eq] at *; omega) (fun a b => by simp only [Bool.or_eq_true, decide_eq_true_eq]; omega) xs
      exact h9.imp fun h => by simpa using h
    have hl := hp.length_eq
    refine ⟨_, H _ hp hs ?_, ?_⟩
    · obtain ⟨h1, h2, h3⟩ := hV
      refine ⟨by rw [flat_I, List.length_map, Nat.mul_one], by rw [hl]; exact h2, ?_⟩
      rw [flat_I, List.length_append, List.length_map] at h3
      rw [flat_I, List.length_append, List.length_map, hl]; exact h3
    · show Fol ((b, .cells ⟨xs.flatMap eI ++ sp⟩ 3 (0, 0)) :: L) w ((b, .cells ⟨_ ++ sp⟩ 3 (0, 0)) :: L) _
      rw [flat_I, flat_I]
      exact fol_sorted hl ho2
end Go.Proofs.Ytlcdbjgfeoagbaa

/-
  Pennies put in, in order.
-/
set_option linter.all false
namespace Go.Proofs.Ytlcdbjgfeoagbaa
open Go Go.H
theorem sortOwn_c {x : Nat × Obj} {b n : Nat} {xs : List Int} {L : Hp} {R : Ending → Hp → Prop} (hn : n = xs.length) (h24 : n ≤ 1000)
    (H : ∀ ys : List Int, ys.Perm xs → ys.Pairwise (fun a b => a ≤ b) → R (.returned (.tuple #[])) (x :: (b, .cells ⟨ys.flatMap eI⟩ 3 (0, 0)) :: L)) :
    ACalls Try.prog 34 ⟨[.slice (some ⟨b, 0, none⟩) n n]⟩ (x :: (b, .cells ⟨xs.flatMap eI⟩ 3 (0, 0)) :: L) R := by
  subst hn
  refine ACalls.framed [x] ?_
  have hV : (Vec.at b xs.length []).ok 1 xs.length (xs.flatMap eI) := ⟨by rw [flat_I, List.length_map, Nat.mul_one], Nat.le_refl _, by rw [List.append_nil, flat_I, List.length_map, Nat.mul_one]⟩
  have h9 := sortI_c (V := .at b xs.length []) (xs := xs) (L := L) (R := fun e h' => R e ([x] ++ h')) hV (by omega) (fun ys h1 h2 h3 => by
    simp only [Vec.hp, List.append_nil]
    exact H ys h1 h2)
  simp only [Vec.hp, Vec.val, List.append_nil] at h9
  exact h9
theorem make_ints (n : Nat) : (madeCells (Value.int .i64 0).cells (n * 1)).toList = (List.replicate n (0 : Int)).flatMap eI := by
  have h1 : (madeCells (Value.int .i64 0).cells (n * 1)).toList = List.replicate n (I 0) := by
    refine List.eq_replicate_iff.2 ⟨by simp [madeCells], fun b hb => ?_⟩
    simp only [madeCells, Value.cells, Array.toList_map, List.mem_map] at hb
    obtain ⟨a, _, rfl⟩ := hb
    simp [Nat.mod_one]
  have h2 : ∀ m : Nat, List.replicate m (I 0) = (List.replicate m (0 : Int)).flatMap eI := fun m => by
    induction m with
    | zero => rfl
    | succ m ih => rw [List.replicate_succ, List.replicate_succ, List.flatMap_cons, ← ih]; rfl
  rw [h1, h2]
def sumF (s : Slot) (l : List Int) : Int := (l.map (feetAt s)).sum
theorem sumF_snoc {s : Slot} {l : List Int} {x : Int} : sumF s (l ++ [x]) = sumF s l + feetAt s x := by unfold sumF; rw [List.map_append, List.sum_append_int]; simp
theorem sumF_bd {s : Slot} (hf : FeetOk s) (h : s.tars ≠ []) : ∀ l : List Int, 0 ≤ sumF s l ∧ sumF s l ≤ 10000 * (l.length : Int)
  | [] => by simp [sumF]
  | x :: l => by
    have ih := sumF_bd hf h l
    have h1 := feetAt_bd hf h x
    have e : sumF s (x :: l) = feetAt s x + sumF s l := by unfold sumF; rw [List.map_cons, List.sum_cons]
    rw [e, List.length_cons]; omega
def loF (u : Int) (l : List Int) : List Int := l.filter fun x => x ≤ u
def hiF (u : Int) (l : List Int) : List Int := l.filter fun x => u < x
theorem byH_loF (s : Slot) (u : Int) : ∀ l : List Int, byH s l u = sumF s (loF u l)
  | [] => rfl
  | x :: l => by
    have ih := byH_loF s u l
    unfold byH at *
    rw [List.map_cons, List.sum_cons, ih]
    unfold loF
    by_cases h : x ≤ u
    · rw [if_pos h, List.filter_cons_of_pos (by simpa using h)]; unfold sumF; rw [List.map_cons, List.sum_cons]; rfl
    · rw [if_neg h, List.filter_cons_of_neg (by simpa using h), Int.zero_add]
theorem sum_perm {l q : List Int} (h : l.Perm q) : l.sum = q.sum := by
  induction h with
  | nil => rfl
  | cons x _ ih => rw [List.sum_cons, List.sum_cons, ih]
  | swap x y l => simp only [List.sum_cons]; omega
  | trans _ _ h1 h2 => exact h1.trans h2
theorem byH_perm {s : Slot} {l q : List Int} (h : l.Perm q) (u : Int) : byH s l u = byH s q u := sum_perm (h.map _)
theorem hiF_hiF {p u : Int} (h : p ≤ u) (l : List Int) : hiF u (hiF p l) = hiF u l := by
  unfold hiF
  rw [List.filter_filter]
  refine List.filter_congr fun x _ => ?_
  by_cases hx : u < x
  · simp [hx, show p < x by omega]
  · simp [hx]
theorem sumF_lo {s : Slot} {p u : Int} (h : p ≤ u) : ∀ l : List Int, sumF s (loF p l) + sumF s (loF u (hiF p l)) = sumF s (loF u l)
  | [] => rfl
  | x :: l => by
    have ih := sumF_lo (s := s) h l
    unfold loF hiF at *
    by_cases h1 : x ≤ p
    · rw [List.filter_cons_of_pos (by simpa using h1), List.filter_cons_of_neg (p := fun x => decide (p < x)) (by simp; omega), List.filter_cons_of_pos (p := fun x => decide (x ≤ u)) (by simp; omega)]
      unfold sumF at *
      rw [List.map_cons, List.sum_cons, List.map_cons, List.sum_cons]; omega
    · rw [List.filter_cons_of_neg (by simpa using h1), List.filter_cons_of_pos (p := fun x => decide (p < x)) (by simp; omega)]
      by_cases h2 : x ≤ u
      · rw [List.filter_cons_of_pos (by simpa using h2), List.filter_cons_of_pos (by simpa using h2)]
        unfold sumF at *
        rw [List.map_cons, List.sum_cons, List.map_cons, List.sum_cons]; omega
      · rw [List.filter_cons_of_neg (by simpa using h2), List.filter_cons_of_neg (by simpa using h2)]; exact ih
theorem cut_at {q : List Int} (hs : q.Pairwise fun a b => a ≤ b) {u : Int} {j : Nat} (h1 : ∀ x ∈ q.take j, x ≤ u) (h2 : ∀ x, q[j]? = some x → u < x) : loF u q = q.take j ∧ hiF u q = q.drop j := by
  have hd : ∀ x ∈ q.drop j, u < x := fun x hx => by
    obtain ⟨i, hi⟩ := List.getElem?_of_mem hx
    rw [List.getElem?_drop] at hi
    have hlt := (List.getElem?_eq_some_iff.1 hi)
    obtain ⟨hl, he⟩ := hlt
    have hj : q[j]? = some (q[j]'(by omega)) := List.getElem?_eq_getElem (by omega)
    have := h2 _ hj
    rcases Nat.eq_zero_or_pos i with z | z
    · subst z
      have e : q[j] = x := by simpa using he
      omega
    · have h3 := List.pairwise_iff_getElem.1 hs j (j + i) (by omega) hl (by omega)
      rw [he] at h3; omega
  have e := List.take_append_drop j q
  constructor
  · conv => lhs; rw [← e]
    unfold loF
    rw [List.filter_append, List.filter_eq_self.2 (fun x hx => by simpa using h1 x hx), List.filter_eq_nil_iff.2 (fun x hx => by have := hd x hx; simp; omega), List.append_nil]
  · conv => lhs; rw [← e]
    unfold hiF
    rw [List.filter_append, List.filter_eq_nil_iff.2 (fun x hx => by have := h1 x hx; simp; omega), List.filter_eq_self.2 (fun x hx => by simpa using hd x hx), List.nil_append]
theorem hiF_all {l : List Int} (h : ∀ x ∈ l, 0 ≤ x) : hiF (-1) l = l := List.filter_eq_self.2 fun x hx => by have := h x hx; simp; omega
theorem loF_none {l : List Int} (h : ∀ x ∈ l, 0 ≤ x) : loF (-1) l = [] := List.filter_eq_nil_iff.2 fun x hx => by have := h x hx; simp; omega
theorem hiF_sorted {l : List Int} (h : l.Pairwise fun a b => a ≤ b) (u : Int) : (hiF u l).Pairwise fun a b => a ≤ b := h.filter _
theorem hiF_sub {l : List Int} {u x : Int} (h : x ∈ hiF u l) : x ∈ l := (List.mem_filter.1 h).1
theorem hiF_len (u : Int) (l : List Int) : (hiF u l).length ≤ l.length := List.length_filter_le _ _
theorem strict_at {l : List Mark} (h : strictM l) {i j : Nat} {x y : Mark} (hij : i < j) (hx : l[i]? = some x) (hy : l[j]? = some y) : x.hour < y.hour := by
  obtain ⟨i1, i2⟩ := List.getElem?_eq_some_iff.1 hx
  obtain ⟨j1, j2⟩ := List.getElem?_eq_some_iff.1 hy
  have := List.pairwise_iff_getElem.1 h i j i1 j1 hij
  rw [i2, j2] at this; exact this
end Go.Proofs.Ytlcdbjgfeoagbaa

/-
  Walks.
-/
namespace Go.Proofs.Ytlcdbjgfeoagbaa
open Go Go.H
set_option maxRecDepth 100000
set_option maxHeartbeats 8000000
set_option linter.all false
end Go.Proofs.Ytlcdbjgfeoagbaa

/-
  Walks.
-/
namespace Go.Proofs.Ytlcdbjgfeoagbaa
open Go Go.H
set_option maxRecDepth 100000
set_option maxHeartbeats 8000000
set_option linter.all false
theorem indexI_c {a : Option Addr} {c : Nat} {xs : List Int} {f : Value} {p : Int → Bool} {h : Hp} {R : Ending → Hp → Prop} (hs : SlV h 1 eI a xs) (hlen : xs.length ≤ 4611686018427387904)
    (hf : ∀ x ∈ xs, ∀ R', R' (.returned (.bool (p x))) h → AFn Try.prog f [I x] h R')
    (H1 : ∀ (k : Nat) (x : Int), xs[k]? = some x → p x = true → R (.returned (I k)) h) (H2 : (∀ (k : Nat) (x : Int), xs[k]? = some x → p x = false) → R (.returned (I (-1))) h) :
    ACalls Try.prog 52 ⟨[.slice a xs.length c, f]⟩ h R := by
  refine calls_of_xc (N := 19) Try.func52 rfl (by rfl) ?_
  refine xc_seq (xc_region ?_)
  refine xr_op rfl rfl (xv_assign rfl ?_)
  refine xr_end rfl ?_
  refine th_n ?_
  refine xc_seq ?_
  refine xc_seq (xc_region ?_)
  refine xr_op rfl rfl (xv_move rfl ?_)
  refine xr_op rfl rfl (xv_len sl26 rfl ?_)
  refine xr_op rfl rfl (xv_move rfl ?_)
  refine xr_end rfl ?_
  refine th_n ?_
  refine xc_block ?_
  refine xc_loop (σ := Nat) (fun k => k ≤ xs.length ∧ ∀ j x, j < k → xs[j]? = some x → p x = false) (fun k => ((((emp.put (some 0) (.slice a xs.length c)).put (some 1) (f)).put (some 7) (I xs.length)).put (some 8) (I k))) (fun k => h) (fun k => xs.length - k) 0 ⟨Nat.zero_le _, fun _ _ h0 => absurd h0 (Nat.not_lt_zero _)⟩ (le_put (le_put (le_put (le_put (le_emp _) rfl) rfl) rfl) rfl) (by (first|((repeat first|exact s_0|exact s_1|exact s_3|refine s_4 ?_|refine s_5 ?_|refine s_6 ?_|refine s_7 ?_);done)|((repeat first|exact s_0|exact s_1|exact s_3|refine s_4 ?_|refine s_5 ?_|refine s_6 ?_|refine s_8 ?_);done))) ?_
  rintro k ⟨hk, hall⟩
  refine xc_seq (xc_region ?_)
  refine xr_op rfl rfl (xv_lss2 rfl rfl (fun q1 => ?_) (fun q1 => ?_))
  · refine xr_end rfl ?_
    refine th_n ?_
    refine xc_seq ?_
    refine xc_true rfl ?_
    refine xc_skip ?_
    refine th_n ?_
    refine xc_seq ?_
    refine xc_block ?_
    refine xc_seq (xc_region ?_)
    refine xr_op rfl rfl (xv_move rfl ?_)
    refine xr_op rfl rfl (xv_assign rfl ?_)
    refine xr_end rfl ?_
    refine th_n ?_
    refine xc_seq (xc_region ?_)
    refine xr_op rfl rfl (xv_move rfl ?_)
    refine xr_op rfl rfl (xv_move rfl ?_)
    refine xr_op rfl rfl (xv_move rfl ?_)
    have hlt : k < xs.length := by omega
    obtain ⟨b, o, l, t, fz, rfl, hm, hx⟩ := hs.at hlt
    obtain ⟨x, hkx⟩ : ∃ x, xs[k]? = some x := ⟨_, List.getElem?_eq_getElem hlt⟩
    refine xr_op rfl rfl (xv_ia (sz := 1) sl26 ty3 rfl rfl rfl (by (first | assumption | with_reducible exact Int.toNat_natCast _ | with_reducible rfl | rfl)) (by (first|omega|(dsimp only at *;omega)|(simp at *;omega))) (by (first|omega|(dsimp only at *;omega)|(simp at *;omega))) ?_)
    refine xr_op rfl rfl (xv_load1 ty3 rfl rfl hm (take_get (hx k x hkx) (j := 0) rfl) ?_)
    refine xr_op rfl rfl (xv_fn rfl rfl (hf x (List.mem_of_getElem? hkx) _ (up_ret ?_)))
    refine xr_end rfl ?_
    refine th_n ?_
    refine xc_bool rfl (fun q2 => ?_) (fun q2 => ?_)
    · refine xc_seq (xc_region ?_)
      refine xr_op rfl rfl (xv_move rfl ?_)
      refine xr_op rfl rfl (xv_assign rfl ?_)
      refine xr_end rfl ?_
      refine th_n ?_
      refine xc_ret ?_
      refine bk_r ?_
      refine th_r ?_
      refine th_r ?_
      refine bk_r ?_
      refine th_r ?_
      refine body_ret (h' := h) rfl (ro_tmp rfl ro_nil) (by (first|((repeat first|exact s_0|exact s_1|exact s_3|refine s_4 ?_|refine s_5 ?_|refine s_6 ?_|refine s_7 ?_);done)|((repeat first|exact s_0|exact s_1|exact s_3|refine s_4 ?_|refine s_5 ?_|refine s_6 ?_|refine s_8 ?_);done))) ?_
      first | exact H1 k x hkx (by assumption) | exact H2 (fun j x hj => hall j x (List.getElem?_eq_some_iff.1 hj).1 hj)
    · refine xc_skip ?_
      refine bk_n ?_
      refine th_n ?_
      refine xc_region ?_
      refine xr_op rfl rfl (xv_add rfl rfl (wrap_i64 (by (first|omega|(dsimp only at *;omega)|(simp at *;omega))) (by (first|omega|(dsimp only at *;omega)|(simp at *;omega)))) ?_)
      refine xr_op rfl rfl (xv_move rfl ?_)
      refine xr_end rfl ?_
      exact rnd (k + 1) ⟨by omega, fun j y hj hy => by
        rcases Nat.lt_succ_iff_lt_or_eq.1 hj with hj | rfl
        · exact hall j y hj hy
        · rw [hkx] at hy; cases hy; assumption⟩ (by omega) (le_put (le_put (le_put (le_put (le_emp _) rfl) rfl) rfl) rfl) (by (first|((repeat first|exact s_0|exact s_1|exact s_3|refine s_4 ?_|refine s_5 ?_|refine s_6 ?_|refine s_7 ?_);done)|((repeat first|exact s_0|exact s_1|exact s_3|refine s_4 ?_|refine s_5 ?_|refine s_6 ?_|refine s_8 ?_);done)))
  · refine xr_end rfl ?_
    refine th_n ?_
    refine xc_seq ?_
    refine xc_false rfl ?_
    refine xc_exit ?_
    refine th_x ?_
    refine th_x ?_
    refine bk_same ?_
    refine th_n ?_
    refine xc_seq (xc_region ?_)
    obtain rfl : k = xs.length := by omega
    refine xr_op rfl rfl (xv_assign rfl ?_)
    refine xr_end rfl ?_
    refine th_n ?_
    refine xc_ret ?_
    refine body_ret (h' := h) rfl (ro_tmp rfl ro_nil) (by (first|((repeat first|exact s_0|exact s_1|exact s_3|refine s_4 ?_|refine s_5 ?_|refine s_6 ?_|refine s_7 ?_);done)|((repeat first|exact s_0|exact s_1|exact s_3|refine s_4 ?_|refine s_5 ?_|refine s_6 ?_|refine s_8 ?_);done))) ?_
    first | exact H1 k x hkx (by assumption) | exact H2 (fun j x hj => hall j x (List.getElem?_eq_some_iff.1 hj).1 hj)

theorem containsI_c {a : Option Addr} {c : Nat} {xs : List Int} {f : Value} {p : Int → Bool} {h : Hp} {R : Ending → Hp → Prop} (hs : SlV h 1 eI a xs) (hlen : xs.length ≤ 4611686018427387904)
    (hf : ∀ x ∈ xs, ∀ R', R' (.returned (.bool (p x))) h → AFn Try.prog f [I x] h R')
    (H1 : ∀ x ∈ xs, p x = true → R (.returned (.bool true)) h) (H2 : (∀ x ∈ xs, p x = false) → R (.returned (.bool false)) h) :
    ACalls Try.prog 31 ⟨[.slice a xs.length c, f]⟩ h R := by
  refine calls_of_xc (N := 9) Try.func31 rfl (by rfl) ?_
  refine xc_seq (xc_region ?_)
  refine xr_op rfl rfl (xv_assign rfl ?_)
  refine xr_end rfl ?_
  refine th_n ?_
  refine xc_seq (xc_region ?_)
  refine xr_op rfl rfl (xv_move rfl ?_)
  refine xr_op rfl rfl (xv_move rfl ?_)
  refine xr_op rfl rfl (xv_calls rfl hb52 (indexI_c hs hlen hf (fun k x hkx hpx => up_ret ?_) (fun hno => up_ret ?_)))
  · refine xr_op rfl rfl (xv_geq2 rfl rfl (fun q1 => ?_) (fun q1 => ?_))
    · refine xr_op rfl rfl (xv_assign rfl ?_)
      refine xr_end rfl ?_
      refine th_n ?_
      refine xc_ret ?_
      refine body_ret (h' := h) rfl (ro_tmp rfl ro_nil) (by (first|((repeat first|exact s_0|exact s_1|exact s_3|refine s_4 ?_|refine s_5 ?_|refine s_6 ?_|refine s_7 ?_);done)|((repeat first|exact s_0|exact s_1|exact s_3|refine s_4 ?_|refine s_5 ?_|refine s_6 ?_|refine s_8 ?_);done))) ?_
      first | (exfalso; omega) | exact H1 x (List.mem_of_getElem? hkx) hpx | exact H2 (fun y hy => by obtain ⟨j, hj⟩ := List.getElem?_of_mem hy; exact hno j y hj)
    · refine xr_op rfl rfl (xv_assign rfl ?_)
      refine xr_end rfl ?_
      refine th_n ?_
      refine xc_ret ?_
      refine body_ret (h' := h) rfl (ro_tmp rfl ro_nil) (by (first|((repeat first|exact s_0|exact s_1|exact s_3|refine s_4 ?_|refine s_5 ?_|refine s_6 ?_|refine s_7 ?_);done)|((repeat first|exact s_0|exact s_1|exact s_3|refine s_4 ?_|refine s_5 ?_|refine s_6 ?_|refine s_8 ?_);done))) ?_
      first | (exfalso; omega) | exact H1 x (List.mem_of_getElem? hkx) hpx | exact H2 (fun y hy => by obtain ⟨j, hj⟩ := List.getElem?_of_mem hy; exact hno j y hj)
  · refine xr_op rfl rfl (xv_geq2 rfl rfl (fun q2 => ?_) (fun q2 => ?_))
    · refine xr_op rfl rfl (xv_assign rfl ?_)
      refine xr_end rfl ?_
      refine th_n ?_
      refine xc_ret ?_
      refine body_ret (h' := h) rfl (ro_tmp rfl ro_nil) (by (first|((repeat first|exact s_0|exact s_1|exact s_3|refine s_4 ?_|refine s_5 ?_|refine s_6 ?_|refine s_7 ?_);done)|((repeat first|exact s_0|exact s_1|exact s_3|refine s_4 ?_|refine s_5 ?_|refine s_6 ?_|refine s_8 ?_);done))) ?_
      first | (exfalso; omega) | exact H1 x (List.mem_of_getElem? hkx) hpx | exact H2 (fun y hy => by obtain ⟨j, hj⟩ := List.getElem?_of_mem hy; exact hno j y hj)
    · refine xr_op rfl rfl (xv_assign rfl ?_)
      refine xr_end rfl ?_
      refine th_n ?_
      refine xc_ret ?_
      refine body_ret (h' := h) rfl (ro_tmp rfl ro_nil) (by (first|((repeat first|exact s_0|exact s_1|exact s_3|refine s_4 ?_|refine s_5 ?_|refine s_6 ?_|refine s_7 ?_);done)|((repeat first|exact s_0|exact s_1|exact s_3|refine s_4 ?_|refine s_5 ?_|refine s_6 ?_|refine s_8 ?_);done))) ?_
      first | (exfalso; omega) | exact H1 x (List.mem_of_getElem? hkx) hpx | exact H2 (fun y hy => by obtain ⟨j, hj⟩ := List.getElem?_of_mem hy; exact hno j y hj)

theorem hourC_c {s : Slot} {b2 : Nat} {x : Int} {h : Hp} {R : Ending → Hp → Prop} (hb : (b2, .cells ⟨eSlot s⟩ 25 (0, 0)) ∈ h) (H : R (.returned (.bool (decide (¬ (0 ≤ x ∧ x ≤ s.now))))) h) : ACalls Try.prog 32 ⟨[I x, .pointer (some ⟨b2, 0, none⟩)]⟩ h R := by
  refine calls_of_xc (N := 9) Try.func32 rfl (by rfl) ?_
  refine xc_seq (xc_region ?_)
  refine xr_op rfl rfl (xv_assign rfl ?_)
  refine xr_end rfl ?_
  refine th_n ?_
  refine xc_seq (xc_region ?_)
  refine xr_op rfl rfl (xv_move rfl ?_)
  refine xr_op rfl rfl (xv_faddr fl25_3 rfl ?_)
  refine xr_op rfl rfl (xv_load1 ty3 rfl rfl (by ((repeat first|exact z_0|assumption|refine z_1 ?_|(refine z_l ?_;(repeat first|exact z_0|assumption|refine z_1 ?_);done)|refine z_r ?_);done)) (by rfl) ?_)
  refine xr_op rfl rfl (xv_calls rfl hb33 (within_c _ _ _ (fun hl1 hu2 => up_ret ?_) (fun hn3 => up_ret ?_)))
  · refine xr_op rfl rfl (xv_not rfl ?_)
    refine xr_op rfl rfl (xv_assign rfl ?_)
    refine xr_end rfl ?_
    refine th_n ?_
    refine xc_ret ?_
    refine body_ret (h' := h) rfl (ro_tmp rfl ro_nil) (by (first|((repeat first|exact s_0|exact s_1|exact s_3|refine s_4 ?_|refine s_5 ?_|refine s_6 ?_|refine s_7 ?_);done)|((repeat first|exact s_0|exact s_1|exact s_3|refine s_4 ?_|refine s_5 ?_|refine s_6 ?_|refine s_8 ?_);done))) ?_
    first | (rw [decide_eq_true (show ¬ (0 ≤ x ∧ x ≤ s.now) by (first|omega|(dsimp only at *;omega)|(simp at *;omega)))] at H; exact H) | (rw [decide_eq_false (show ¬ ¬ (0 ≤ x ∧ x ≤ s.now) by (first|omega|(dsimp only at *;omega)|(simp at *;omega)))] at H; exact H)
  · refine xr_op rfl rfl (xv_not rfl ?_)
    refine xr_op rfl rfl (xv_assign rfl ?_)
    refine xr_end rfl ?_
    refine th_n ?_
    refine xc_ret ?_
    refine body_ret (h' := h) rfl (ro_tmp rfl ro_nil) (by (first|((repeat first|exact s_0|exact s_1|exact s_3|refine s_4 ?_|refine s_5 ?_|refine s_6 ?_|refine s_7 ?_);done)|((repeat first|exact s_0|exact s_1|exact s_3|refine s_4 ?_|refine s_5 ?_|refine s_6 ?_|refine s_8 ?_);done))) ?_
    first | (rw [decide_eq_true (show ¬ (0 ≤ x ∧ x ≤ s.now) by (first|omega|(dsimp only at *;omega)|(simp at *;omega)))] at H; exact H) | (rw [decide_eq_false (show ¬ ¬ (0 ≤ x ∧ x ≤ s.now) by (first|omega|(dsimp only at *;omega)|(simp at *;omega)))] at H; exact H)

theorem put_c {s : Slot} {b b2 b8 b9 b10 : Nat} {ma : Option Addr} {mc : Nat} {C D : Hp} {a : Option Addr} {n c : Nat} {q : List Int} {has u : Int} {R : Ending → Hp → Prop} (hsm : Small s) (he : errS s = 0) (m2 : (b2, .cells ⟨eSlot s⟩ 25 (0, 0)) ∈ C) (m8 : (b8, .cells ⟨[.pointer (some ⟨b, 0, none⟩)]⟩ 60 (0, 0)) ∈ C) (mm : (b, .cells ⟨eMet s (.slice ma (dmS s).length mc)⟩ 70 (0, 0)) ∈ C) (hdm : SlV C 2 eMark ma (dmS s)) (hs : SlotV C s)
    (hDC : D ⊆ C) (hq : SlV D 1 eI a q) (hn : n = q.length) (hc : n ≤ c) (hql : q.length ≤ 100) (hq0 : ∀ x ∈ q, 0 ≤ x) (hso : q.Pairwise fun a b => a ≤ b) (hhas : 0 ≤ has ∧ has ≤ 100000000)
    (H : ∀ (a2 : Option Addr) (c2 : Nat), SlV D 1 eI a2 (hiF u q) → (hiF u q).length ≤ c2 → R (.returned (.tuple #[])) ((b10, .cells ⟨[I (has + sumF s (loF u q))]⟩ 3) :: (b9, .cells ⟨[.slice a2 (hiF u q).length c2]⟩ 26) :: C)) :
    ACalls Try.prog 35 ⟨[I u, .pointer (some ⟨b9, 0, none⟩), .pointer (some ⟨b10, 0, none⟩), .pointer (some ⟨b2, 0, none⟩), .pointer (some ⟨b8, 0, none⟩)]⟩ ((b10, .cells ⟨[I has]⟩ 3) :: (b9, .cells ⟨[.slice a n c]⟩ 26) :: C) R := by
  subst hn
  refine calls_of_xc (N := 30) Try.func35 rfl (by rfl) ?_
  obtain ⟨hsl9, hsk⟩ := id hsm
  obtain ⟨hgs, htw, hcr⟩ := errS_0 he
  obtain ⟨⟨hn1, hn2⟩, ⟨hn3, hn4⟩, ⟨hn5, hn6⟩, hn7, hn8⟩ := id hgs.1
  obtain ⟨⟨hz1, hz2⟩, hz3⟩ := id hgs.2.1
  have hdl := dm_len hz3
  refine xc_block ?_
  refine xc_loop (σ := Nat × Option Addr × Nat) (fun z => z.1 ≤ q.length ∧ (∀ x ∈ q.take z.1, x ≤ u) ∧ SlV D 1 eI z.2.1 (q.drop z.1) ∧ q.length - z.1 ≤ z.2.2) (fun z => (((((emp.put (some 0) (I u)).put (some 1) (.pointer (some ⟨b9, 0, none⟩))).put (some 2) (.pointer (some ⟨b10, 0, none⟩))).put (some 3) (.pointer (some ⟨b2, 0, none⟩))).put (some 4) (.pointer (some ⟨b8, 0, none⟩)))) (fun z => ((b10, .cells ⟨[I (has + sumF s (q.take z.1))]⟩ 3) :: (b9, .cells ⟨[.slice z.2.1 (q.length - z.1) z.2.2]⟩ 26) :: C)) (fun z => q.length - z.1) ((0, a, c) : Nat × Option Addr × Nat) ⟨Nat.zero_le _, fun x hx => by simp at hx, by dsimp only; rw [List.drop_zero]; exact hq, by dsimp only; omega⟩ (le_put (le_put (le_put (le_put (le_put (le_emp _) rfl) rfl) rfl) rfl) rfl) (by dsimp only; rw [show has + sumF s (q.take 0) = has by simp [sumF]]; (first|((repeat first|exact s_0|exact s_1|exact s_3|refine s_4 ?_|refine s_5 ?_|refine s_6 ?_|refine s_7 ?_);done)|((repeat first|exact s_0|exact s_1|exact s_3|refine s_4 ?_|refine s_5 ?_|refine s_6 ?_|refine s_8 ?_);done))) ?_
  rintro ⟨j, a1, c1⟩ ⟨hj, hju, hqa, hjc⟩
  dsimp only at hj hju hqa hjc
  have hdl9 : (q.drop j).length = q.length - j := List.length_drop
  refine xc_seq ?_
  refine xc_seq (xc_region ?_)
  refine xr_op rfl rfl (xv_load1 ty26 rfl rfl (by ((repeat first|exact z_0|assumption|refine z_1 ?_|(refine z_l ?_;(repeat first|exact z_0|assumption|refine z_1 ?_);done)|refine z_r ?_);done)) (by rfl) ?_)
  refine xr_op rfl rfl (xv_len sl26 rfl ?_)
  refine xr_op rfl rfl (xv_gtr2 rfl rfl (fun q1 => ?_) (fun q1 => ?_))
  · refine xr_op rfl rfl (xv_move rfl ?_)
    refine xr_gd rfl rfl rfl (xv_load1 ty26 rfl rfl (by ((repeat first|exact z_0|assumption|refine z_1 ?_|(refine z_l ?_;(repeat first|exact z_0|assumption|refine z_1 ?_);done)|refine z_r ?_);done)) (by rfl) ?_)
    have hj9 : j < q.length := by (first|omega|(dsimp only at *;omega)|(simp at *;omega))
    obtain ⟨xo, hko⟩ : ∃ x, q[j]? = some x := ⟨_, List.getElem?_eq_getElem hj9⟩
    have hk0 : (q.drop j)[0]? = some xo := by rw [List.getElem?_drop, Nat.add_zero]; exact hko
    have hltd : 0 < (q.drop j).length := by omega
    obtain ⟨bd, od, ld, td, fzd, had, hmd, hxd⟩ := ((hqa.sub hDC)).at hltd
    obtain ⟨xd, hkd⟩ : ∃ qq_, (q.drop j)[0]? = some qq_ := ⟨_, List.getElem?_eq_getElem hltd⟩
    obtain rfl : xo = xd := Option.some.inj (hk0.symm.trans hkd)
    refine xr_gd rfl rfl rfl (xv_ia (sz := 1) (j := 0) sl26 ty3 rfl (by rw [had]; rfl) rfl rfl (by (first|omega|(dsimp only at *;omega)|(simp at *;omega))) (by (first|omega|(dsimp only at *;omega)|(simp at *;omega))) ?_)
    refine xr_gd rfl rfl rfl (xv_load1 ty3 rfl rfl (by ((repeat first|exact z_0|assumption|refine z_1 ?_|(refine z_l ?_;(repeat first|exact z_0|assumption|refine z_1 ?_);done)|refine z_r ?_);done)) (take_get (hxd (0) xo hk0) (j := 0) rfl) ?_)
    refine xr_gd rfl rfl rfl (xv_move rfl ?_)
    refine xr_gd rfl rfl rfl (xv_leq2 rfl rfl (fun q2 => ?_) (fun q2 => ?_))
    · refine xr_op rfl rfl (xv_pick rfl rfl ?_)
      refine xr_end rfl ?_
      refine th_n ?_
      refine xc_true rfl ?_
      refine xc_skip ?_
      refine th_n ?_
      refine xc_block ?_
      refine xc_seq ?_
      refine xc_draw0 [(0, .R), (1, .S), (2, .R), (3, .R), (4, .R), (5, .S), (6, .R), (7, .R), (8, .S), (9, .S), (10, .R), (11, .S), (12, .O)] mixed (by kernel_rfl) ?_
      have hft := force_lt hgs.ne xo
      have hsf := sumF_bd hgs.feet hgs.ne (q.take j)
      rw [List.length_take] at hsf
      refine js_R0 rfl rfl (.inl rfl) (xv_load1 ty3 rfl rfl (by ((repeat first|exact z_0|assumption|refine z_1 ?_|(refine z_l ?_;(repeat first|exact z_0|assumption|refine z_1 ?_);done)|refine z_r ?_);done)) (by rfl) ⟨rfl, rfl⟩) ?_
      refine js_S rfl rfl (.inl rfl) (xv_faddr fl25_4 rfl ⟨rfl, rfl⟩) ?_
      refine js_R0 rfl rfl (.inl rfl) (xv_load1 ty22 rfl rfl (by ((repeat first|exact z_0|assumption|refine z_1 ?_|(refine z_l ?_;(repeat first|exact z_0|assumption|refine z_1 ?_);done)|refine z_r ?_);done)) (by rfl) ⟨rfl, rfl⟩) ?_
      refine js_R0 rfl rfl (.inl rfl) (xv_load1 ty60 rfl rfl (by ((repeat first|exact z_0|assumption|refine z_1 ?_|(refine z_l ?_;(repeat first|exact z_0|assumption|refine z_1 ?_);done)|refine z_r ?_);done)) (by rfl) ⟨rfl, rfl⟩) ?_
      refine js_R0 rfl rfl (.inl rfl) (xv_load1 ty26 rfl rfl (by ((repeat first|exact z_0|assumption|refine z_1 ?_|(refine z_l ?_;(repeat first|exact z_0|assumption|refine z_1 ?_);done)|refine z_r ?_);done)) (by rfl) ⟨rfl, rfl⟩) ?_
      refine js_S rfl rfl (.inl rfl) (xv_ia (sz := 1) (j := 0) sl26 ty3 rfl (by rw [had]; rfl) rfl rfl (by (first|omega|(dsimp only at *;omega)|(simp at *;omega))) (by (first|omega|(dsimp only at *;omega)|(simp at *;omega))) ⟨rfl, rfl⟩) ?_
      refine js_R0 rfl rfl (.inl rfl) (xv_load1 ty3 rfl rfl (by ((repeat first|exact z_0|assumption|refine z_1 ?_|(refine z_l ?_;(repeat first|exact z_0|assumption|refine z_1 ?_);done)|refine z_r ?_);done)) (take_get (hxd (0) xo hk0) (j := 0) rfl) ⟨rfl, rfl⟩) ?_
      refine js_R0 rfl rfl (.inl rfl) (xv_calls rfl hb36 (force_c (hour := xo) (by ((repeat first|exact z_0|assumption|refine z_1 ?_|(refine z_l ?_;(repeat first|exact z_0|assumption|refine z_1 ?_);done)|refine z_r ?_);done)) (hdm.sub (by intro z hz; ((repeat first|exact z_0|assumption|refine z_1 ?_|(refine z_l ?_;(repeat first|exact z_0|assumption|refine z_1 ?_);done)|refine z_r ?_);done))) (hs.sub (by intro z hz; ((repeat first|exact z_0|assumption|refine z_1 ?_|(refine z_l ?_;(repeat first|exact z_0|assumption|refine z_1 ?_);done)|refine z_r ?_);done))) hsm he (hq0 xo (List.mem_of_getElem? hko)) (up_ret ⟨rfl, rfl⟩))) ?_
      have hltt : (force s.tars xo) < s.tars.length := hft
      obtain ⟨bt, ot, lt, tt, fzt, hat, hmt, hxt⟩ := (hs.tars).at hltt
      obtain ⟨xt, hkt⟩ : ∃ qq_, s.tars[(force s.tars xo)]? = some qq_ := ⟨_, List.getElem?_eq_getElem hltt⟩
      have htf := hgs.feet xt (List.mem_of_getElem? hkt)
      refine js_S rfl rfl (.inl rfl) (xv_ia (sz := 2) (j := force s.tars xo) sl22 ty54 rfl (by rw [hat]; rfl) rfl (by (first | assumption | with_reducible exact Int.toNat_natCast _ | with_reducible rfl | rfl)) (by (first|omega|(dsimp only at *;omega)|(simp at *;omega))) (by (first|omega|(dsimp only at *;omega)|(simp at *;omega))) ⟨rfl, rfl⟩) ?_
      refine js_S rfl rfl (.inl rfl) (xv_faddr fl54_1 rfl ⟨rfl, rfl⟩) ?_
      refine js_R0 rfl rfl (.inl rfl) (xv_load1 ty3 rfl rfl (by ((repeat first|exact z_0|assumption|refine z_1 ?_|(refine z_l ?_;(repeat first|exact z_0|assumption|refine z_1 ?_);done)|refine z_r ?_);done)) (take_get (hxt (force s.tars xo) xt hkt) (j := 1) rfl) ⟨rfl, rfl⟩) ?_
      refine js_S rfl rfl (.inl rfl) (xv_add rfl rfl (wrap_i64 (by (first|omega|(dsimp only at *;omega)|(simp at *;omega))) (by (first|omega|(dsimp only at *;omega)|(simp at *;omega)))) ⟨rfl, rfl⟩) ?_
      refine js_O0 rfl rfl (.inl rfl) (xv_s1 ty3 rfl rfl rfl (by (first|(apply u_3;(repeat first|exact u_0|assumption|apply u_1|apply u_2);done)|((repeat first|exact u_0|assumption|apply u_1|apply u_2);done)|(apply u_3;apply u_3;(repeat first|exact u_0|assumption|apply u_1|apply u_2);done)|((repeat first|exact u_0|assumption|apply u_3|apply u_1);done))) (by (first | rfl | exact Vec.one _ _)) (by (first | decide | exact Nat.le_of_ble_eq_true rfl | (simp only [List.length_cons, List.length_nil]; omega) | (simp; done))) (by ((try apply evl_some rfl);(repeat (first|exact (rfl : _ = [])|apply evl_cons rfl (by (first|exact v_1|exact v_2|exact v_3|exact v_4|exact v_5|exact v_6|exact v_7|exact v_8|exact v_9|exact rfl))|exact rfl)))) ?_)
      refine j_end0 ?_
      refine th_n ?_
      refine xc_region ?_
      refine xr_op rfl rfl (xv_load1 ty26 rfl rfl (by ((repeat first|exact z_0|assumption|refine z_1 ?_|(refine z_l ?_;(repeat first|exact z_0|assumption|refine z_1 ?_);done)|refine z_r ?_);done)) (by rfl) ?_)
      refine xr_op rfl rfl (xv_sliceFrom (m := 1) sl26 ty3 rfl rfl rfl rfl (by decide) (by (first|omega|(dsimp only at *;omega)|(simp at *;omega))) ?_)
      refine xr_op rfl rfl (xv_s1 ty26 rfl rfl rfl (by (first|(apply u_3;(repeat first|exact u_0|assumption|apply u_1|apply u_2);done)|((repeat first|exact u_0|assumption|apply u_1|apply u_2);done)|(apply u_3;apply u_3;(repeat first|exact u_0|assumption|apply u_1|apply u_2);done)|((repeat first|exact u_0|assumption|apply u_3|apply u_1);done))) (by (first | rfl | exact Vec.one _ _)) (by (first | decide | exact Nat.le_of_ble_eq_true rfl | (simp only [List.length_cons, List.length_nil]; omega) | (simp; done))) (by ((try apply evl_some rfl);(repeat (first|exact (rfl : _ = [])|apply evl_cons rfl (by (first|exact v_1|exact v_2|exact v_3|exact v_4|exact v_5|exact v_6|exact v_7|exact v_8|exact v_9|exact rfl))|exact rfl)))) ?_)
      refine xr_end rfl ?_
      refine bk_n ?_
      have hst : sumF s (q.take (j + 1)) = sumF s (q.take j) + xt.feet := by rw [List.take_add_one, hko]; show sumF s (q.take j ++ [xo]) = _; rw [sumF_snoc]; congr 1; unfold feetAt; rw [List.getD_eq_getElem?_getD, hkt]; rfl
      exact rnd ((j + 1, dropA a1 c1 1 1, c1 - 1) : Nat × Option Addr × Nat) ⟨by (first|omega|(dsimp only at *;omega)|(simp at *;omega)), fun x hx => by
        rw [List.take_add_one, hko] at hx
        rcases List.mem_append.1 hx with h9 | h9
        · exact hju x h9
        · obtain rfl : x = xo := by simpa using h9
          (first|omega|(dsimp only at *;omega)|(simp at *;omega)), by dsimp only; rw [show q.drop (j + 1) = (q.drop j).drop 1 by rw [List.drop_drop]]; exact slv_dropA hqa (by omega), by dsimp only; omega⟩ (by (first|omega|(dsimp only at *;omega)|(simp at *;omega))) (le_put (le_put (le_put (le_put (le_put (le_emp _) rfl) rfl) rfl) rfl) rfl) (by dsimp only; rw [hst, ← Int.add_assoc, ← Nat.sub_sub]; (first|((repeat first|exact s_0|exact s_1|exact s_3|refine s_4 ?_|refine s_5 ?_|refine s_6 ?_|refine s_7 ?_);done)|((repeat first|exact s_0|exact s_1|exact s_3|refine s_4 ?_|refine s_5 ?_|refine s_6 ?_|refine s_8 ?_);done)))
    · refine xr_op rfl rfl (xv_pick rfl rfl ?_)
      refine xr_end rfl ?_
      refine th_n ?_
      refine xc_false rfl ?_
      refine xc_exit ?_
      refine th_x ?_
      refine th_x ?_
      refine bk_same ?_
      refine body_end (h' := ((b10, .cells ⟨[I (has + sumF s (q.take j))]⟩ 3) :: (b9, .cells ⟨[.slice a1 (q.length - j) c1]⟩ 26) :: C)) rfl ro_nil (by (first|((repeat first|exact s_0|exact s_1|exact s_3|refine s_4 ?_|refine s_5 ?_|refine s_6 ?_|refine s_7 ?_);done)|((repeat first|exact s_0|exact s_1|exact s_3|refine s_4 ?_|refine s_5 ?_|refine s_6 ?_|refine s_8 ?_);done))) ?_
      (obtain ⟨e1, e2⟩ := cut_at hso (u := u) (j := j) hju (fun x hx => by first | (rw [hko] at hx; cases hx; (first|omega|(dsimp only at *;omega)|(simp at *;omega))) | (exact absurd (List.getElem?_eq_some_iff.1 hx).1 (by (first|omega|(dsimp only at *;omega)|(simp at *;omega))))); have h9 := H a1 c1 (by rw [e2]; exact hqa) (by rw [e2, hdl9]; exact hjc); rw [e1, e2, hdl9] at h9; exact h9)
  · refine xr_op rfl rfl (xv_move rfl ?_)
    refine xr_no rfl rfl rfl rfl ?_
    refine xr_no rfl rfl rfl rfl ?_
    refine xr_no rfl rfl rfl rfl ?_
    refine xr_no rfl rfl rfl rfl ?_
    refine xr_no rfl rfl rfl rfl ?_
    refine xr_op rfl rfl (xv_pick rfl rfl ?_)
    refine xr_end rfl ?_
    refine th_n ?_
    refine xc_false rfl ?_
    refine xc_exit ?_
    refine th_x ?_
    refine th_x ?_
    refine bk_same ?_
    refine body_end (h' := ((b10, .cells ⟨[I (has + sumF s (q.take j))]⟩ 3) :: (b9, .cells ⟨[.slice a1 (q.length - j) c1]⟩ 26) :: C)) rfl ro_nil (by (first|((repeat first|exact s_0|exact s_1|exact s_3|refine s_4 ?_|refine s_5 ?_|refine s_6 ?_|refine s_7 ?_);done)|((repeat first|exact s_0|exact s_1|exact s_3|refine s_4 ?_|refine s_5 ?_|refine s_6 ?_|refine s_8 ?_);done))) ?_
    (obtain ⟨e1, e2⟩ := cut_at hso (u := u) (j := j) hju (fun x hx => by first | (rw [hko] at hx; cases hx; (first|omega|(dsimp only at *;omega)|(simp at *;omega))) | (exact absurd (List.getElem?_eq_some_iff.1 hx).1 (by (first|omega|(dsimp only at *;omega)|(simp at *;omega))))); have h9 := H a1 c1 (by rw [e2]; exact hqa) (by rw [e2, hdl9]; exact hjc); rw [e1, e2, hdl9] at h9; exact h9)

end Go.Proofs.Ytlcdbjgfeoagbaa
