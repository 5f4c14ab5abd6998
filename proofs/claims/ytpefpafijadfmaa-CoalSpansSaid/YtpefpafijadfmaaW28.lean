/-
  Walks.
-/
import Derived.Test.YtpefpafijadfmaaP3
import Derived.Test.YtpefpafijadfmaaW14
import Derived.Test.YtpefpafijadfmaaW21
import Derived.Test.YtpefpafijadfmaaW24
import Derived.Test.YtpefpafijadfmaaP18
namespace Go.Proofs.Ytpefpafijadfmaa
open Go Go.H
set_option maxRecDepth 100000
set_option maxHeartbeats 8000000
set_option linter.all false
theorem ListsT_c {a a2 : Option Addr} {c c2 n n2 : Nat} {xs ys : List Part} {h : Hp} {R : Ending → Hp → Prop} (hn : n = xs.length) (hn2 : n2 = ys.length) (hs : SlV h 2 ePart a xs) (hs2 : SlV h 2 ePart a2 ys) (he : xs = ys) (hl : n ≤ 1000000) (H : R (.returned (.bool true)) h) : ACalls Try.prog 23 ⟨[.slice a n c, .slice a2 n2 c2]⟩ h R := by
  subst hn hn2
  refine Lists_c hs hs2 hl (by rw [← he]; omega) ?_
  rw [decide_eq_true he]; exact H
theorem SpansT_c {a a2 : Option Addr} {c c2 n n2 : Nat} {xs ys : List Span} {h : Hp} {R : Ending → Hp → Prop} (hn : n = xs.length) (hn2 : n2 = ys.length) (hs : SlV h 2 eSpan a xs) (hs2 : SlV h 2 eSpan a2 ys) (he : xs = ys) (hl : n ≤ 1000000) (H : R (.returned (.bool true)) h) : ACalls Try.prog 15 ⟨[.slice a n c, .slice a2 n2 c2]⟩ h R := by
  subst hn hn2
  refine Spans_c hs hs2 hl (by rw [← he]; omega) ?_
  rw [decide_eq_true he]; exact H
theorem blendA_len (y : Yard) (draw : Int) : (blendA y draw).1.length ≤ y.coals.length := by
  unfold blendA
  split
  · split
    · exact Nat.zero_le _
    · split
      · dsimp only; rw [List.length_map, List.length_range]; exact Nat.le_refl _
      · exact Nat.zero_le _
  · exact Nat.zero_le _
theorem RBlendA_c {y : Yard} {h : Hp} {R : Ending → Hp → Prop} (hy : YardV h y) (hs : Small y) {draw : Int} (H : ∀ a n c G, n = (blendA y draw).1.length → SlV G 2 eSpan a (blendA y draw).1 → R (.returned (.tuple ⟨[.slice a n c, I (blendA y draw).2]⟩)) (G ++ h)) : ACalls Try.prog 12 ⟨[.agg ⟨eYard y⟩, I draw]⟩ h R := by
  refine RBlend_c hy hs (fun _ e => H none 0 0 [] (by rw [e]; rfl) (.inl e)) fun e1 e2 b => ?_
  have := H (some ⟨b, 0, none⟩) y.coals.length y.coals.length [(b, .cells ⟨(blendA y draw).1.flatMap eSpan⟩ 33)] e2.symm (slvL eSpan_len List.mem_cons_self)
  rw [e1] at this; exact this
/-! ### The yard of the examples -/
theorem smV {h : Hp} {bc bm : Nat} (m1 : (bm, .cells ⟨smM.flatMap eMove⟩ 63 (0, 0)) ∈ h) (m2 : (bc, .cells ⟨smC.flatMap eCoal⟩ 59 (0, 0)) ∈ h) : YardV h (smY bc bm) := ⟨slvL eCoal_len m2, slvL eMove_len m1⟩
theorem smS (bc bm : Nat) : Small (smY bc bm) := ⟨by show 2 ≤ 1000; decide, by show 5 ≤ 1000; decide⟩
section
variable {h : Hp} {R : Ending → Hp → Prop} {bc bm : Nat} (m1 : (bm, .cells ⟨smM.flatMap eMove⟩ 63 (0, 0)) ∈ h) (m2 : (bc, .cells ⟨smC.flatMap eCoal⟩ 59 (0, 0)) ∈ h)
include m1 m2
theorem aDrawn (H : ∀ a c G, SlV G 2 ePart a [⟨0, 10⟩, ⟨1, 10⟩] → R (.returned (.tuple ⟨[.slice a 2 c, I 0]⟩)) (G ++ h)) : ACalls Try.prog 19 ⟨[.agg ⟨[.slice (some ⟨bc, 0, none⟩) 2 2, .slice (some ⟨bm, 0, none⟩) 5 5]⟩, I 1]⟩ h R :=
  Drawn_c (y := smY bc bm) (smV m1 m2) (smS bc bm) (by rw [sm_drawn]; exact H)
theorem aBlend (H : ∀ a c G, SlV G 2 eSpan a [⟨0, 10⟩, ⟨10, 20⟩] → R (.returned (.tuple ⟨[.slice a 2 c, I 0]⟩)) (G ++ h)) : ACalls Try.prog 11 ⟨[.agg ⟨[.slice (some ⟨bc, 0, none⟩) 2 2, .slice (some ⟨bm, 0, none⟩) 5 5]⟩, I 1]⟩ h R :=
  Blend_c (y := smY bc bm) (smV m1 m2) (smS bc bm) (by rw [sm_blend]; exact H)
theorem aYield1 (H : R (.returned (.tuple ⟨[.agg ⟨[I 18000, I 23000]⟩, I 0]⟩)) h) : ACalls Try.prog 13 ⟨[.agg ⟨[.slice (some ⟨bc, 0, none⟩) 2 2, .slice (some ⟨bm, 0, none⟩) 5 5]⟩, I 0, I 0, I 0]⟩ h R :=
  Yield_c (y := smY bc bm) (smV m1 m2) (smS bc bm) (by rw [sm_yield1]; exact H)
theorem aYield2 (H : R (.returned (.tuple ⟨[.agg ⟨[I 400, I 800]⟩, I 0]⟩)) h) : ACalls Try.prog 13 ⟨[.agg ⟨[.slice (some ⟨bc, 0, none⟩) 2 2, .slice (some ⟨bm, 0, none⟩) 5 5]⟩, I 1, I 1, I 2]⟩ h R :=
  Yield_c (y := smY bc bm) (smV m1 m2) (smS bc bm) (by rw [sm_yield2]; exact H)
theorem aCan {b : Nat} (m3 : (b, .cells ⟨[I 25, I 15]⟩ 3 (0, 0)) ∈ h) (H : R (.returned (.tuple ⟨[.bool true, I 0]⟩)) h) : ACalls Try.prog 17 ⟨[.agg ⟨[.slice (some ⟨bc, 0, none⟩) 2 2, .slice (some ⟨bm, 0, none⟩) 5 5]⟩, I 0, .slice (some ⟨b, 0, none⟩) 2 2]⟩ h R :=
  Can_c (y := smY bc bm) (ts := [25, 15]) (smV m1 m2) (smS bc bm) (slvL eI_len m3) (by rw [sm_can]; exact H)
end

theorem awake_c {h : Hp} {R : Ending → Hp → Prop} (H : R (.returned (.bool true)) h) : ACalls Try.prog 10 ⟨[]⟩ h R := by
  refine calls_of_xc (N := 84) Try.func10 rfl (by rfl) ?_
  refine xc_seq (xc_region ?_)
  refine xr_op rfl rfl (xv_assign rfl ?_)
  refine xr_end rfl ?_
  refine th_n ?_
  refine xc_seq (xc_region ?_)
  refine xr_op rfl rfl (xv_calls rfl hb29 (sample_c (fun bc bm => up_ret ?_)))
  refine xr_op rfl rfl (xv_alloc ty25 (fun b1 hb1 => ?_))
  refine xr_op rfl rfl (xv_s ty25 rfl rfl (by (first|(apply u_3;(repeat first|exact u_0|assumption|apply u_1|apply u_2);done)|((repeat first|exact u_0|assumption|apply u_1|apply u_2);done)|(apply u_3;apply u_3;(repeat first|exact u_0|assumption|apply u_1|apply u_2);done)|((repeat first|exact u_0|assumption|apply u_3|apply u_1);done))) (by ((try apply evl_some rfl);(repeat (first|exact (rfl : _ = [])|apply evl_cons rfl (by (first|exact v_1|exact v_2|exact v_3|exact v_4|exact v_5|exact v_6|exact v_7|exact v_8|exact v_9|exact rfl))|exact rfl)))) (by rfl) (by rfl) (by rfl) (by ((try apply evl_some rfl);(repeat (first|exact (rfl : _ = [])|apply evl_cons rfl (by (first|exact v_1|exact v_2|exact v_3|exact v_4|exact v_5|exact v_6|exact v_7|exact v_8|exact v_9|exact rfl))|exact rfl)))) ?_)
  refine xr_end rfl ?_
  refine th_n ?_
  refine xc_seq (xc_region ?_)
  refine xr_op rfl rfl (xv_loadA ty25 rfl rfl (by ((repeat first|exact z_0|assumption|refine z_1 ?_|(refine z_l ?_;(repeat first|exact z_0|assumption|refine z_1 ?_);done)|refine z_r ?_);done)) (by ((try apply evl_some rfl);(repeat (first|exact (rfl : _ = [])|apply evl_cons rfl (by (first|exact v_1|exact v_2|exact v_3|exact v_4|exact v_5|exact v_6|exact v_7|exact v_8|exact v_9|exact rfl))|exact rfl)))) (by rfl) ?_)
  refine xr_op rfl rfl (xv_calls rfl hb19 (aDrawn (by ((repeat first|exact z_0|assumption|refine z_1 ?_|(refine z_l ?_;(repeat first|exact z_0|assumption|refine z_1 ?_);done)|refine z_r ?_);done)) (by ((repeat first|exact z_0|assumption|refine z_1 ?_|(refine z_l ?_;(repeat first|exact z_0|assumption|refine z_1 ?_);done)|refine z_r ?_);done)) (fun a1 c1 G1 s1 => up_ret ?_)))
  refine xr_op rfl rfl (xv_move rfl ?_)
  refine xr_op rfl rfl (xv_extract rfl rfl ?_)
  refine xr_op rfl rfl (xv_extract rfl rfl ?_)
  refine xr_op rfl rfl (xv_assign rfl ?_)
  refine xr_op rfl rfl (xv_assign rfl ?_)
  refine xr_end rfl ?_
  refine th_n ?_
  refine xc_seq (xc_region ?_)
  refine xr_op rfl rfl (xv_loadA ty25 rfl rfl (by ((repeat first|exact z_0|assumption|refine z_1 ?_|(refine z_l ?_;(repeat first|exact z_0|assumption|refine z_1 ?_);done)|refine z_r ?_);done)) (by ((try apply evl_some rfl);(repeat (first|exact (rfl : _ = [])|apply evl_cons rfl (by (first|exact v_1|exact v_2|exact v_3|exact v_4|exact v_5|exact v_6|exact v_7|exact v_8|exact v_9|exact rfl))|exact rfl)))) (by rfl) ?_)
  refine xr_op rfl rfl (xv_calls rfl hb11 (aBlend (by ((repeat first|exact z_0|assumption|refine z_1 ?_|(refine z_l ?_;(repeat first|exact z_0|assumption|refine z_1 ?_);done)|refine z_r ?_);done)) (by ((repeat first|exact z_0|assumption|refine z_1 ?_|(refine z_l ?_;(repeat first|exact z_0|assumption|refine z_1 ?_);done)|refine z_r ?_);done)) (fun a2 c2 G2 s2 => up_ret ?_)))
  refine xr_op rfl rfl (xv_move rfl ?_)
  refine xr_op rfl rfl (xv_extract rfl rfl ?_)
  refine xr_op rfl rfl (xv_extract rfl rfl ?_)
  refine xr_op rfl rfl (xv_assign rfl ?_)
  refine xr_op rfl rfl (xv_assign rfl ?_)
  refine xr_end rfl ?_
  refine th_n ?_
  refine xc_seq (xc_region ?_)
  refine xr_op rfl rfl (xv_loadA ty25 rfl rfl (by ((repeat first|exact z_0|assumption|refine z_1 ?_|(refine z_l ?_;(repeat first|exact z_0|assumption|refine z_1 ?_);done)|refine z_r ?_);done)) (by ((try apply evl_some rfl);(repeat (first|exact (rfl : _ = [])|apply evl_cons rfl (by (first|exact v_1|exact v_2|exact v_3|exact v_4|exact v_5|exact v_6|exact v_7|exact v_8|exact v_9|exact rfl))|exact rfl)))) (by rfl) ?_)
  refine xr_op rfl rfl (xv_calls rfl hb13 (aYield1 (by ((repeat first|exact z_0|assumption|refine z_1 ?_|(refine z_l ?_;(repeat first|exact z_0|assumption|refine z_1 ?_);done)|refine z_r ?_);done)) (by ((repeat first|exact z_0|assumption|refine z_1 ?_|(refine z_l ?_;(repeat first|exact z_0|assumption|refine z_1 ?_);done)|refine z_r ?_);done)) (up_ret ?_)))
  refine xr_op rfl rfl (xv_move rfl ?_)
  refine xr_op rfl rfl (xv_extract rfl rfl ?_)
  refine xr_op rfl rfl (xv_extract rfl rfl ?_)
  refine xr_op rfl rfl (xv_alloc ty33 (fun b6 hb6 => ?_))
  refine xr_op rfl rfl (xv_s ty33 rfl rfl (by (first|(apply u_3;(repeat first|exact u_0|assumption|apply u_1|apply u_2);done)|((repeat first|exact u_0|assumption|apply u_1|apply u_2);done)|(apply u_3;apply u_3;(repeat first|exact u_0|assumption|apply u_1|apply u_2);done)|((repeat first|exact u_0|assumption|apply u_3|apply u_1);done))) (by ((try apply evl_some rfl);(repeat (first|exact (rfl : _ = [])|apply evl_cons rfl (by (first|exact v_1|exact v_2|exact v_3|exact v_4|exact v_5|exact v_6|exact v_7|exact v_8|exact v_9|exact rfl))|exact rfl)))) (by rfl) (by rfl) (by rfl) (by ((try apply evl_some rfl);(repeat (first|exact (rfl : _ = [])|apply evl_cons rfl (by (first|exact v_1|exact v_2|exact v_3|exact v_4|exact v_5|exact v_6|exact v_7|exact v_8|exact v_9|exact rfl))|exact rfl)))) ?_)
  refine xr_op rfl rfl (xv_assign rfl ?_)
  refine xr_end rfl ?_
  refine th_n ?_
  refine xc_seq (xc_region ?_)
  refine xr_op rfl rfl (xv_loadA ty25 rfl rfl (by ((repeat first|exact z_0|assumption|refine z_1 ?_|(refine z_l ?_;(repeat first|exact z_0|assumption|refine z_1 ?_);done)|refine z_r ?_);done)) (by ((try apply evl_some rfl);(repeat (first|exact (rfl : _ = [])|apply evl_cons rfl (by (first|exact v_1|exact v_2|exact v_3|exact v_4|exact v_5|exact v_6|exact v_7|exact v_8|exact v_9|exact rfl))|exact rfl)))) (by rfl) ?_)
  refine xr_op rfl rfl (xv_calls rfl hb13 (aYield2 (by ((repeat first|exact z_0|assumption|refine z_1 ?_|(refine z_l ?_;(repeat first|exact z_0|assumption|refine z_1 ?_);done)|refine z_r ?_);done)) (by ((repeat first|exact z_0|assumption|refine z_1 ?_|(refine z_l ?_;(repeat first|exact z_0|assumption|refine z_1 ?_);done)|refine z_r ?_);done)) (up_ret ?_)))
  refine xr_op rfl rfl (xv_move rfl ?_)
  refine xr_op rfl rfl (xv_extract rfl rfl ?_)
  refine xr_op rfl rfl (xv_extract rfl rfl ?_)
  refine xr_op rfl rfl (xv_alloc ty33 (fun b8 hb8 => ?_))
  refine xr_op rfl rfl (xv_s ty33 rfl rfl (by (first|(apply u_3;(repeat first|exact u_0|assumption|apply u_1|apply u_2);done)|((repeat first|exact u_0|assumption|apply u_1|apply u_2);done)|(apply u_3;apply u_3;(repeat first|exact u_0|assumption|apply u_1|apply u_2);done)|((repeat first|exact u_0|assumption|apply u_3|apply u_1);done))) (by ((try apply evl_some rfl);(repeat (first|exact (rfl : _ = [])|apply evl_cons rfl (by (first|exact v_1|exact v_2|exact v_3|exact v_4|exact v_5|exact v_6|exact v_7|exact v_8|exact v_9|exact rfl))|exact rfl)))) (by rfl) (by rfl) (by rfl) (by ((try apply evl_some rfl);(repeat (first|exact (rfl : _ = [])|apply evl_cons rfl (by (first|exact v_1|exact v_2|exact v_3|exact v_4|exact v_5|exact v_6|exact v_7|exact v_8|exact v_9|exact rfl))|exact rfl)))) ?_)
  refine xr_op rfl rfl (xv_assign rfl ?_)
  refine xr_end rfl ?_
  refine th_n ?_
  refine xc_seq (xc_region ?_)
  refine xr_op rfl rfl (xv_loadA ty25 rfl rfl (by ((repeat first|exact z_0|assumption|refine z_1 ?_|(refine z_l ?_;(repeat first|exact z_0|assumption|refine z_1 ?_);done)|refine z_r ?_);done)) (by ((try apply evl_some rfl);(repeat (first|exact (rfl : _ = [])|apply evl_cons rfl (by (first|exact v_1|exact v_2|exact v_3|exact v_4|exact v_5|exact v_6|exact v_7|exact v_8|exact v_9|exact rfl))|exact rfl)))) (by rfl) ?_)
  refine xr_op rfl rfl ((al_buildSlice sl38 ty3 rfl rfl rfl rfl rfl (by ((try apply evl_some rfl);(repeat (first|exact (rfl : _ = [])|apply evl_cons rfl (by (first|exact v_1|exact v_2|exact v_3|exact v_4|exact v_5|exact v_6|exact v_7|exact v_8|exact v_9|exact rfl))|exact rfl))))).xv (fun b35 hb35 => ?_))
  refine xr_op rfl rfl (xv_calls rfl hb17 (aCan (by ((repeat first|exact z_0|assumption|refine z_1 ?_|(refine z_l ?_;(repeat first|exact z_0|assumption|refine z_1 ?_);done)|refine z_r ?_);done)) (by ((repeat first|exact z_0|assumption|refine z_1 ?_|(refine z_l ?_;(repeat first|exact z_0|assumption|refine z_1 ?_);done)|refine z_r ?_);done)) (by ((repeat first|exact z_0|assumption|refine z_1 ?_|(refine z_l ?_;(repeat first|exact z_0|assumption|refine z_1 ?_);done)|refine z_r ?_);done)) (up_ret ?_)))
  refine xr_op rfl rfl (xv_move rfl ?_)
  refine xr_op rfl rfl (xv_extract rfl rfl ?_)
  refine xr_op rfl rfl (xv_extract rfl rfl ?_)
  refine xr_op rfl rfl (xv_assign rfl ?_)
  refine xr_op rfl rfl (xv_assign rfl ?_)
  refine xr_end rfl ?_
  refine th_n ?_
  refine xc_seq ?_
  refine xc_draw0 [(0, .S), (1, .S), (2, .S), (3, .P), (3, .A), (4, .R), (5, .S), (6, .S), (7, .S), (8, .S), (9, .S), (10, .S), (11, .R), (12, .R), (13, .O), (14, .R), (15, .S), (16, .S), (17, .S), (18, .S), (19, .S), (20, .S), (21, .R), (22, .R), (23, .S), (24, .S), (25, .S), (26, .S), (27, .S), (28, .S), (29, .S), (30, .R), (31, .R), (32, .S), (33, .S), (34, .S), (35, .S), (36, .S), (37, .S), (38, .S), (39, .S), (40, .S), (41, .S), (42, .S), (43, .S), (44, .S), (45, .S)] mixed (by kernel_rfl) ?_
  refine js_S rfl rfl (.inl rfl) (xv_move rfl ⟨rfl, rfl⟩) ?_
  refine js_S rfl rfl (.inl rfl) (xv_build bt43 rfl (by ((try apply evl_some rfl);(repeat (first|exact (rfl : _ = [])|apply evl_cons rfl (by (first|exact v_1|exact v_2|exact v_3|exact v_4|exact v_5|exact v_6|exact v_7|exact v_8|exact v_9|exact rfl))|exact rfl)))) ⟨rfl, rfl⟩) ?_
  refine js_S rfl rfl (.inl rfl) (xv_build bt43 rfl (by ((try apply evl_some rfl);(repeat (first|exact (rfl : _ = [])|apply evl_cons rfl (by (first|exact v_1|exact v_2|exact v_3|exact v_4|exact v_5|exact v_6|exact v_7|exact v_8|exact v_9|exact rfl))|exact rfl)))) ⟨rfl, rfl⟩) ?_
  refine js_P rfl rfl rfl (al_buildSlice sl39 ty43 rfl rfl rfl rfl rfl (by ((try apply evl_some rfl);(repeat (first|exact (rfl : _ = [])|apply evl_cons rfl (by (first|exact v_1|exact v_2|exact v_3|exact v_4|exact v_5|exact v_6|exact v_7|exact v_8|exact v_9|exact rfl))|exact rfl))))) ?_
  refine js_A0 rfl rfl rfl rfl rfl ⟨rfl, rfl, trivial⟩ (fun b42 hb42 => ?_)
  refine js_R0 rfl rfl (.inl rfl) (xv_calls rfl hb23 (ListsT_c (xs := [⟨0, 10⟩, ⟨1, 10⟩]) (ys := [⟨0, 10⟩, ⟨1, 10⟩]) rfl rfl (s1.sub (by intro z hz; ((repeat first|exact z_0|assumption|refine z_1 ?_|(refine z_l ?_;(repeat first|exact z_0|assumption|refine z_1 ?_);done)|refine z_r ?_);done))) (slvL ePart_len (by ((repeat first|exact z_0|assumption|refine z_1 ?_|(refine z_l ?_;(repeat first|exact z_0|assumption|refine z_1 ?_);done)|refine z_r ?_);done))) rfl (by decide) (up_ret ⟨rfl, rfl⟩))) ?_
  refine js_S rfl rfl (.inl rfl) (xv_move rfl ⟨rfl, rfl⟩) ?_
  refine js_S rfl rfl (.inr ⟨_, _, rfl, rfl⟩) (xv_move rfl ⟨rfl, rfl⟩) ?_
  refine js_S rfl rfl (.inr ⟨_, _, rfl, rfl⟩) (xv_eqlT rfl rfl rfl ⟨rfl, rfl⟩) ?_
  refine js_S rfl rfl (.inl rfl) (xv_pick rfl rfl ⟨rfl, rfl⟩) ?_
  refine js_S rfl rfl (.inl rfl) (xv_move rfl ⟨rfl, rfl⟩) ?_
  refine js_S rfl rfl (.inr ⟨_, _, rfl, rfl⟩) (xv_move rfl ⟨rfl, rfl⟩) ?_
  refine js_R0 rfl rfl (.inr ⟨_, _, rfl, rfl⟩) (xv_calls rfl hb28 (span_c _ _ (up_ret ⟨rfl, rfl⟩))) ?_
  refine js_R0 rfl rfl (.inr ⟨_, _, rfl, rfl⟩) (xv_calls rfl hb28 (span_c _ _ (up_ret ⟨rfl, rfl⟩))) ?_
  refine js_O0 rfl rfl (.inr ⟨_, _, rfl, rfl⟩) ((al_buildSlice sl28 ty33 rfl rfl rfl rfl rfl (by ((try apply evl_some rfl);(repeat (first|exact (rfl : _ = [])|apply evl_cons rfl (by (first|exact v_1|exact v_2|exact v_3|exact v_4|exact v_5|exact v_6|exact v_7|exact v_8|exact v_9|exact rfl))|exact rfl))))).xv (fun b52 hb52 => ?_))
  refine js_R0 rfl rfl (.inr ⟨_, _, rfl, rfl⟩) (xv_calls rfl hb15 (SpansT_c (xs := [⟨0, 10⟩, ⟨10, 20⟩]) (ys := [⟨0, 10⟩, ⟨10, 20⟩]) rfl rfl (s2.sub (by intro z hz; ((repeat first|exact z_0|assumption|refine z_1 ?_|(refine z_l ?_;(repeat first|exact z_0|assumption|refine z_1 ?_);done)|refine z_r ?_);done))) (slvL eSpan_len (by ((repeat first|exact z_0|assumption|refine z_1 ?_|(refine z_l ?_;(repeat first|exact z_0|assumption|refine z_1 ?_);done)|refine z_r ?_);done))) rfl (by decide) (up_ret ⟨rfl, rfl⟩))) ?_
  refine js_S rfl rfl (.inl rfl) (xv_pick rfl rfl ⟨rfl, rfl⟩) ?_
  refine js_S rfl rfl (.inl rfl) (xv_move rfl ⟨rfl, rfl⟩) ?_
  refine js_S rfl rfl (.inr ⟨_, _, rfl, rfl⟩) (xv_move rfl ⟨rfl, rfl⟩) ?_
  refine js_S rfl rfl (.inr ⟨_, _, rfl, rfl⟩) (xv_eqlT rfl rfl rfl ⟨rfl, rfl⟩) ?_
  refine js_S rfl rfl (.inl rfl) (xv_pick rfl rfl ⟨rfl, rfl⟩) ?_
  refine js_S rfl rfl (.inl rfl) (xv_move rfl ⟨rfl, rfl⟩) ?_
  refine js_R0 rfl rfl (.inr ⟨_, _, rfl, rfl⟩) (xv_loadA ty33 rfl rfl (by ((repeat first|exact z_0|assumption|refine z_1 ?_|(refine z_l ?_;(repeat first|exact z_0|assumption|refine z_1 ?_);done)|refine z_r ?_);done)) (by ((try apply evl_some rfl);(repeat (first|exact (rfl : _ = [])|apply evl_cons rfl (by (first|exact v_1|exact v_2|exact v_3|exact v_4|exact v_5|exact v_6|exact v_7|exact v_8|exact v_9|exact rfl))|exact rfl)))) (by rfl) ⟨rfl, rfl⟩) ?_
  refine js_R0 rfl rfl (.inr ⟨_, _, rfl, rfl⟩) (xv_calls rfl hb28 (span_c _ _ (up_ret ⟨rfl, rfl⟩))) ?_
  refine js_S rfl rfl (.inr ⟨_, _, rfl, rfl⟩) (xv_eqA (b := true) fq33 rfl eg33 rfl rfl rfl rfl (by ((repeat' first | assumption | exact numNil | refine numCons ?_ | refine numApp ?_ ?_); done)) (by ((repeat' first | assumption | exact numNil | refine numCons ?_ | refine numApp ?_ ?_); done)) (eqc_self (by ((repeat' first | assumption | exact numNil | refine numCons ?_ | refine numApp ?_ ?_); done))) ⟨rfl, rfl⟩) ?_
  refine js_S rfl rfl (.inl rfl) (xv_pick rfl rfl ⟨rfl, rfl⟩) ?_
  refine js_S rfl rfl (.inl rfl) (xv_move rfl ⟨rfl, rfl⟩) ?_
  refine js_S rfl rfl (.inr ⟨_, _, rfl, rfl⟩) (xv_move rfl ⟨rfl, rfl⟩) ?_
  refine js_S rfl rfl (.inr ⟨_, _, rfl, rfl⟩) (xv_eqlT rfl rfl rfl ⟨rfl, rfl⟩) ?_
  refine js_S rfl rfl (.inl rfl) (xv_pick rfl rfl ⟨rfl, rfl⟩) ?_
  refine js_S rfl rfl (.inl rfl) (xv_move rfl ⟨rfl, rfl⟩) ?_
  refine js_R0 rfl rfl (.inr ⟨_, _, rfl, rfl⟩) (xv_loadA ty33 rfl rfl (by ((repeat first|exact z_0|assumption|refine z_1 ?_|(refine z_l ?_;(repeat first|exact z_0|assumption|refine z_1 ?_);done)|refine z_r ?_);done)) (by ((try apply evl_some rfl);(repeat (first|exact (rfl : _ = [])|apply evl_cons rfl (by (first|exact v_1|exact v_2|exact v_3|exact v_4|exact v_5|exact v_6|exact v_7|exact v_8|exact v_9|exact rfl))|exact rfl)))) (by rfl) ⟨rfl, rfl⟩) ?_
  refine js_R0 rfl rfl (.inr ⟨_, _, rfl, rfl⟩) (xv_calls rfl hb28 (span_c _ _ (up_ret ⟨rfl, rfl⟩))) ?_
  refine js_S rfl rfl (.inr ⟨_, _, rfl, rfl⟩) (xv_eqA (b := true) fq33 rfl eg33 rfl rfl rfl rfl (by ((repeat' first | assumption | exact numNil | refine numCons ?_ | refine numApp ?_ ?_); done)) (by ((repeat' first | assumption | exact numNil | refine numCons ?_ | refine numApp ?_ ?_); done)) (eqc_self (by ((repeat' first | assumption | exact numNil | refine numCons ?_ | refine numApp ?_ ?_); done))) ⟨rfl, rfl⟩) ?_
  refine js_S rfl rfl (.inl rfl) (xv_pick rfl rfl ⟨rfl, rfl⟩) ?_
  refine js_S rfl rfl (.inl rfl) (xv_move rfl ⟨rfl, rfl⟩) ?_
  refine js_S rfl rfl (.inr ⟨_, _, rfl, rfl⟩) (xv_move rfl ⟨rfl, rfl⟩) ?_
  refine js_S rfl rfl (.inr ⟨_, _, rfl, rfl⟩) (xv_eqlT rfl rfl rfl ⟨rfl, rfl⟩) ?_
  refine js_S rfl rfl (.inl rfl) (xv_pick rfl rfl ⟨rfl, rfl⟩) ?_
  refine js_S rfl rfl (.inl rfl) (xv_move rfl ⟨rfl, rfl⟩) ?_
  refine js_S rfl rfl (.inr ⟨_, _, rfl, rfl⟩) (xv_move rfl ⟨rfl, rfl⟩) ?_
  refine js_S rfl rfl (.inl rfl) (xv_pick rfl rfl ⟨rfl, rfl⟩) ?_
  refine js_S rfl rfl (.inl rfl) (xv_move rfl ⟨rfl, rfl⟩) ?_
  refine js_S rfl rfl (.inr ⟨_, _, rfl, rfl⟩) (xv_move rfl ⟨rfl, rfl⟩) ?_
  refine js_S rfl rfl (.inr ⟨_, _, rfl, rfl⟩) (xv_eqlT rfl rfl rfl ⟨rfl, rfl⟩) ?_
  refine js_S rfl rfl (.inl rfl) (xv_pick rfl rfl ⟨rfl, rfl⟩) ?_
  refine js_S rfl rfl (.inl rfl) (xv_assign rfl ⟨rfl, rfl⟩) ?_
  refine j_end0 ?_
  refine th_n ?_
  refine xc_ret ?_
  refine body_ret (h' := h) rfl (ro_tmp rfl ro_nil) (by (first|((repeat first|exact s_0|exact s_1|exact s_3|refine s_4 ?_|refine s_5 ?_|refine s_6 ?_|refine s_7 ?_);done)|((repeat first|exact s_0|exact s_1|exact s_3|refine s_4 ?_|refine s_5 ?_|refine s_6 ?_|refine s_8 ?_);done))) ?_
  exact H

end Go.Proofs.Ytpefpafijadfmaa

/-
  Walks.
-/
namespace Go.Proofs.Ytpefpafijadfmaa
open Go Go.H
set_option maxRecDepth 100000
set_option maxHeartbeats 8000000
set_option linter.all false
theorem of_c {c : Coal} {w : Int} {h : Hp} {R : Ending → Hp → Prop} (h0 : 0 ≤ w) (h1 : w ≤ 3) (H : R (.returned (.agg ⟨eSpan (ofF c w)⟩)) h) : ACalls Try.prog 45 ⟨[.agg ⟨eCoal c⟩, I w]⟩ h R := by
  refine calls_of_xc (N := 19) Try.func45 rfl (by rfl) ?_
  refine xc_seq (xc_region ?_)
  refine xr_op rfl rfl (xv_box rfl (fun b2 hb2 => ?_))
  refine xr_op rfl rfl (xv_alloc ty33 (fun b4 hb4 => ?_))
  refine xr_end rfl ?_
  refine th_n ?_
  refine xc_seq (xc_region ?_)
  refine xr_op rfl rfl (xv_faddr fl59_0 rfl ?_)
  refine xr_op rfl rfl (xv_loadA ty33 rfl rfl (by ((repeat first|exact z_0|assumption|refine z_1 ?_|(refine z_l ?_;(repeat first|exact z_0|assumption|refine z_1 ?_);done)|refine z_r ?_);done)) (by ((try apply evl_some rfl);(repeat (first|exact (rfl : _ = [])|apply evl_cons rfl (by (first|exact v_1|exact v_2|exact v_3|exact v_4|exact v_5|exact v_6|exact v_7|exact v_8|exact v_9|exact rfl))|exact rfl)))) (by rfl) ?_)
  refine xr_op rfl rfl (xv_faddr fl59_1 rfl ?_)
  refine xr_op rfl rfl (xv_loadA ty33 rfl rfl (by ((repeat first|exact z_0|assumption|refine z_1 ?_|(refine z_l ?_;(repeat first|exact z_0|assumption|refine z_1 ?_);done)|refine z_r ?_);done)) (by ((try apply evl_some rfl);(repeat (first|exact (rfl : _ = [])|apply evl_cons rfl (by (first|exact v_1|exact v_2|exact v_3|exact v_4|exact v_5|exact v_6|exact v_7|exact v_8|exact v_9|exact rfl))|exact rfl)))) (by rfl) ?_)
  refine xr_op rfl rfl (xv_faddr fl59_2 rfl ?_)
  refine xr_op rfl rfl (xv_loadA ty33 rfl rfl (by ((repeat first|exact z_0|assumption|refine z_1 ?_|(refine z_l ?_;(repeat first|exact z_0|assumption|refine z_1 ?_);done)|refine z_r ?_);done)) (by ((try apply evl_some rfl);(repeat (first|exact (rfl : _ = [])|apply evl_cons rfl (by (first|exact v_1|exact v_2|exact v_3|exact v_4|exact v_5|exact v_6|exact v_7|exact v_8|exact v_9|exact rfl))|exact rfl)))) (by rfl) ?_)
  refine xr_op rfl rfl (xv_faddr fl59_3 rfl ?_)
  refine xr_op rfl rfl (xv_loadA ty33 rfl rfl (by ((repeat first|exact z_0|assumption|refine z_1 ?_|(refine z_l ?_;(repeat first|exact z_0|assumption|refine z_1 ?_);done)|refine z_r ?_);done)) (by ((try apply evl_some rfl);(repeat (first|exact (rfl : _ = [])|apply evl_cons rfl (by (first|exact v_1|exact v_2|exact v_3|exact v_4|exact v_5|exact v_6|exact v_7|exact v_8|exact v_9|exact rfl))|exact rfl)))) (by rfl) ?_)
  refine xr_op rfl rfl ((al_buildSlice sl28 ty33 rfl rfl rfl rfl rfl (by ((try apply evl_some rfl);(repeat (first|exact (rfl : _ = [])|apply evl_cons rfl (by (first|exact v_1|exact v_2|exact v_3|exact v_4|exact v_5|exact v_6|exact v_7|exact v_8|exact v_9|exact rfl))|exact rfl))))).xv (fun b14 hb14 => ?_))
  refine xr_op rfl rfl (xv_assign rfl ?_)
  refine xr_end rfl ?_
  refine th_n ?_
  refine xc_seq (xc_region ?_)
  refine xr_op rfl rfl (xv_move rfl ?_)
  refine xr_op rfl rfl (xv_move rfl ?_)
  refine xr_op rfl rfl (xv_ia (sz := 2) (j := w.toNat) sl28 ty33 rfl rfl rfl (by omega) (by (first | omega | (dsimp only at *; omega) | (simp at *; omega))) (by (first | omega | (dsimp only at *; omega) | (simp at *; omega))) ?_)
  refine xr_op rfl rfl (xv_loadA (l := (ofL c).flatMap eSpan ++ []) (l' := eSpan (ofF c w)) ty33 rfl rfl (by ((repeat first|exact z_0|assumption|refine z_1 ?_|(refine z_l ?_;(repeat first|exact z_0|assumption|refine z_1 ?_);done)|refine z_r ?_);done)) (flat_at eSpan_len [] (ofL c) w.toNat (ofL_get h0 h1)) rfl ?_)
  refine xr_op rfl rfl (xv_s ty33 rfl rfl (by (first|(apply u_3;(repeat first|exact u_0|assumption|apply u_1|apply u_2);done)|((repeat first|exact u_0|assumption|apply u_1|apply u_2);done)|(apply u_3;apply u_3;(repeat first|exact u_0|assumption|apply u_1|apply u_2);done)|((repeat first|exact u_0|assumption|apply u_3|apply u_1);done))) (by ((try apply evl_some rfl);(repeat (first|exact (rfl : _ = [])|apply evl_cons rfl (by (first|exact v_1|exact v_2|exact v_3|exact v_4|exact v_5|exact v_6|exact v_7|exact v_8|exact v_9|exact rfl))|exact rfl)))) (by rfl) (by rfl) (by rfl) (by ((try apply evl_some rfl);(repeat (first|exact (rfl : _ = [])|apply evl_cons rfl (by (first|exact v_1|exact v_2|exact v_3|exact v_4|exact v_5|exact v_6|exact v_7|exact v_8|exact v_9|exact rfl))|exact rfl)))) ?_)
  refine xr_end rfl ?_
  refine th_n ?_
  refine xc_ret ?_
  refine body_ret (h' := h) rfl (ro_cellA ty33 rfl rfl (by ((repeat first|exact z_0|assumption|refine z_1 ?_|(refine z_l ?_;(repeat first|exact z_0|assumption|refine z_1 ?_);done)|refine z_r ?_);done)) (by rfl) (by rfl) ro_nil) (by (first|((repeat first|exact s_0|exact s_1|exact s_3|refine s_4 ?_|refine s_5 ?_|refine s_6 ?_|refine s_7 ?_);done)|((repeat first|exact s_0|exact s_1|exact s_3|refine s_4 ?_|refine s_5 ?_|refine s_6 ?_|refine s_8 ?_);done))) ?_
  exact H

theorem least_c {room each : List Int} {a a2 : Option Addr} {c c2 : Nat} {need0 : Int} {h : Hp} {R : Ending → Hp → Prop} (hr : SlV h 1 eI a room) (he : SlV h 1 eI a2 each) (hre : each.length = room.length) (hr0 : 0 < room.length) (hrl : room.length ≤ 1000) (hrb : ∀ x ∈ room, 0 ≤ x ∧ x ≤ 1048576000) (heb : ∀ x ∈ each, -100000 ≤ x ∧ x ≤ 100000) (hn0 : 0 ≤ need0) (hn1 : need0 ≤ sumI room)
    (H : ∀ x, Greedy room each need0 x → R (.returned (I (dotI x each))) h) : ACalls Try.prog 46 ⟨[.slice a room.length c, .slice a2 each.length c2, I need0]⟩ h R := by
  refine calls_of_xc (N := 71) Try.func46 rfl (by rfl) ?_
  have hrs := sumI_bd hrb
  have hrs2 : (room.length : Int) * 1048576000 ≤ 1000 * 1048576000 := Int.mul_le_mul (by omega) (by omega) (by omega) (by omega)
  refine xc_seq (xc_region ?_)
  refine xr_op rfl rfl (xv_assign rfl ?_)
  refine xr_end rfl ?_
  refine th_n ?_
  refine xc_seq (xc_region ?_)
  refine xr_op rfl rfl ((al_buildSlice sl38 ty3 rfl rfl rfl rfl rfl (by ((try apply evl_some rfl);(repeat (first|exact (rfl : _ = [])|apply evl_cons rfl (by (first|exact v_1|exact v_2|exact v_3|exact v_4|exact v_5|exact v_6|exact v_7|exact v_8|exact v_9|exact rfl))|exact rfl))))).xv (fun b12 hb12 => ?_))
  refine xr_op rfl rfl (xv_move rfl ?_)
  refine xr_op rfl rfl (xv_appendL (V := .at b12 0 []) (n := 0) (xs := []) (ys := room) sl38 ty3 rfl rfl rfl rfl ⟨rfl, Nat.le_refl _, rfl⟩ .here (hr.sub (by intro z hz; ((repeat first|exact z_0|assumption|refine z_1 ?_|(refine z_l ?_;(repeat first|exact z_0|assumption|refine z_1 ?_);done)|refine z_r ?_);done))) eI_len eI_1 (by simp only []; omega) (by omega) (fun V1 hV1 => ?_))
  refine xr_op rfl rfl (xv_assign rfl ?_)
  refine xr_end rfl ?_
  refine th_n ?_
  refine xc_seq (xc_region ?_)
  have hV1 : V1.ok 1 room.length (room.flatMap eI) := by simpa using hV1
  obtain ⟨bl, cp, sp, rfl⟩ := vec_at hV1 hr0
  rw [show (Vec.at bl cp sp).val (0 + room.length) = .slice (some ⟨bl, 0, none⟩) room.length cp from (by rw [Nat.zero_add]; rfl)]
  rw [show (Vec.at bl cp sp).hp 3 ([] ++ room.flatMap eI) = [(bl, .cells ⟨room.flatMap eI ++ sp⟩ 3 (0, 0))] from rfl]
  refine xr_op rfl rfl (xv_assign rfl ?_)
  refine xr_end rfl ?_
  refine th_n ?_
  refine xc_seq ?_
  refine xc_block ?_
  refine xc_loop (σ := List Int × Int) (fun z => LInv room each need0 z.2 z.1) (fun z => ((((emp.put (some 1) (.slice a2 each.length c2)).put (some 2) (I z.2)).put (some 7) (.slice (some ⟨bl, 0, none⟩) room.length cp)).put (some 8) (I (dotI (subL room z.1) each)))) (fun z => ((bl, .cells ⟨z.1.flatMap eI ++ sp⟩ 3) :: h)) (fun z => z.2.toNat) ((room, need0) : List Int × Int) (linv_0 (fun x hx => (hrb x hx).1) hn0) (le_put (le_put (le_put (le_put (le_emp _) rfl) rfl) rfl) (by rw [subL_self, dot_zero]; rfl)) (by (first|((repeat first|exact s_0|exact s_1|exact s_3|refine s_4 ?_|refine s_5 ?_|refine s_6 ?_|refine s_7 ?_);done)|((repeat first|exact s_0|exact s_1|exact s_3|refine s_4 ?_|refine s_5 ?_|refine s_6 ?_|refine s_8 ?_);done))) ?_
  rintro ⟨lf, need⟩ hI
  dsimp only at hI
  have hll := hI.len
  have hnn := hI.n0
  have hgs := hI.gr.sum
  have hdb := dot_bd (x := subL room lf) (e := each) (fun q hq => by obtain ⟨i, hi⟩ := List.getElem?_of_mem hq; obtain ⟨r9, hr9⟩ : ∃ r, room[i]? = some r := ⟨_, List.getElem?_eq_getElem (by have := (List.getElem?_eq_some_iff.1 hi).1; rw [subL_len hll] at this; exact this)⟩; exact (hI.gr.bd i q r9 hi hr9).1) heb
  refine xc_seq ?_
  refine xc_seq (xc_region ?_)
  refine xr_op rfl rfl (xv_move rfl ?_)
  refine xr_op rfl rfl (xv_gtr2 rfl rfl (fun q1 => ?_) (fun q1 => ?_))
  · refine xr_end rfl ?_
    refine th_n ?_
    refine xc_true rfl ?_
    refine xc_skip ?_
    refine th_n ?_
    refine xc_block ?_
    refine xc_seq (xc_region ?_)
    refine xr_op rfl rfl (xv_assign rfl ?_)
    refine xr_end rfl ?_
    refine th_n ?_
    refine xc_seq ?_
    refine xc_seq (xc_region ?_)
    refine xr_op rfl rfl (xv_assign rfl ?_)
    refine xr_end rfl ?_
    refine th_n ?_
    refine xc_block ?_
    refine xc_loop (σ := Nat × Int) (fun z => z.1 ≤ room.length ∧ ((z.2 = -1 ∧ ∀ (j : Nat) (l : Int), j < z.1 → lf[j]? = some l → ¬ 0 < l) ∨ ∃ (bN : Nat) (lb eb : Int), z.2 = bN ∧ bN < z.1 ∧ lf[bN]? = some lb ∧ 0 < lb ∧ each[bN]? = some eb ∧ ∀ (j : Nat) (l e : Int), j < z.1 → lf[j]? = some l → 0 < l → each[j]? = some e → eb ≤ e)) (fun z => ((((((emp.put (some 1) (.slice a2 each.length c2)).put (some 2) (I need)).put (some 7) (.slice (some ⟨bl, 0, none⟩) room.length cp)).put (some 8) (I (dotI (subL room lf) each))).put (some 9) (I z.2)).put (some 10) (I z.1))) (fun z => ((bl, .cells ⟨lf.flatMap eI ++ sp⟩ 3) :: h)) (fun z => room.length - z.1) ((0, -1) : Nat × Int) ⟨Nat.zero_le _, .inl ⟨rfl, fun j l hj => by omega⟩⟩ (le_put (le_put (le_put (le_put (le_put (le_put (le_emp _) rfl) rfl) rfl) rfl) rfl) rfl) (by (first|((repeat first|exact s_0|exact s_1|exact s_3|refine s_4 ?_|refine s_5 ?_|refine s_6 ?_|refine s_7 ?_);done)|((repeat first|exact s_0|exact s_1|exact s_3|refine s_4 ?_|refine s_5 ?_|refine s_6 ?_|refine s_8 ?_);done))) ?_
    rintro ⟨k, bst⟩ ⟨hk, hbest⟩
    dsimp only at hk hbest
    refine xc_seq ?_
    refine xc_seq (xc_region ?_)
    refine xr_op rfl rfl (xv_move rfl ?_)
    refine xr_op rfl rfl (xv_move rfl ?_)
    refine xr_op rfl rfl (xv_len sl38 rfl ?_)
    refine xr_op rfl rfl (xv_lss2 rfl rfl (fun q2 => ?_) (fun q2 => ?_))
    · refine xr_end rfl ?_
      refine th_n ?_
      refine xc_true rfl ?_
      refine xc_skip ?_
      refine th_n ?_
      refine xc_seq ?_
      refine xc_block ?_
      refine xc_seq ?_
      rcases hbest with ⟨rfl, hbn⟩ | ⟨bN, lb, eb, rfl, hbi, hlb, hl0, heb2, hbm⟩
      · refine xc_draw0 [(0, .S), (1, .S), (2, .S), (3, .R), (4, .O), (5, .S), (6, .S), (7, .O), (8, .S), (9, .S), (10, .S), (11, .S), (12, .R), (13, .S), (14, .S), (15, .S), (16, .R), (17, .O), (18, .S), (19, .S)] mixed (by kernel_rfl) ?_
        obtain ⟨lk, hlk⟩ : ∃ l, lf[k]? = some l := ⟨_, List.getElem?_eq_getElem (by (first | omega | (dsimp only at *; omega) | (simp at *; omega)))⟩
        have hke9 : k < each.length := by (first | omega | (dsimp only at *; omega) | (simp at *; omega))
        have hlte : k < each.length := hke9
        obtain ⟨be, oe, le, te, fze, hae, hme, hxe⟩ := ((he.sub (by intro z hz; ((repeat first|exact z_0|assumption|refine z_1 ?_|(refine z_l ?_;(repeat first|exact z_0|assumption|refine z_1 ?_);done)|refine z_r ?_);done)) : SlV ((bl, .cells ⟨lf.flatMap eI ++ sp⟩ 3) :: h) 1 eI a2 each)).at hlte
        obtain ⟨xe, hke⟩ : ∃ qq_, each[k]? = some qq_ := ⟨_, List.getElem?_eq_getElem hlte⟩
        refine js_S rfl rfl (.inl rfl) (xv_move rfl ⟨rfl, rfl⟩) ?_
        refine js_S rfl rfl (.inl rfl) (xv_move rfl ⟨rfl, rfl⟩) ?_
        refine js_S rfl rfl (.inl rfl) (xv_ia (sz := 1) (j := k) sl38 ty3 rfl rfl rfl (by (first | assumption | with_reducible exact Int.toNat_natCast _ | with_reducible rfl | rfl)) (by (first | omega | (dsimp only at *; omega) | (simp at *; omega))) (by (first | omega | (dsimp only at *; omega) | (simp at *; omega))) ⟨rfl, rfl⟩) ?_
        refine js_R0 rfl rfl (.inl rfl) (xv_load1 ty3 rfl rfl (by ((repeat first|exact z_0|assumption|refine z_1 ?_|(refine z_l ?_;(repeat first|exact z_0|assumption|refine z_1 ?_);done)|refine z_r ?_);done)) (take_get (flat_at eI_len sp lf _ hlk) (j := 0) rfl) ⟨rfl, rfl⟩) ?_
        refine js_O0 rfl rfl (.inl rfl) (xv_gtr2 rfl rfl (fun hq => ?_) (fun hq => ?_))
        · refine js_S rfl rfl (.inl rfl) (xv_move rfl ⟨rfl, rfl⟩) ?_
          refine js_S rfl rfl (.inr ⟨_, _, rfl, rfl⟩) (xv_move rfl ⟨rfl, rfl⟩) ?_
          refine js_O0 rfl rfl (.inr ⟨_, _, rfl, rfl⟩) (xv_cmpK rfl rfl (cmpT (by simp only [cmpP]; (first | omega | (dsimp only at *; omega) | (simp at *; omega)))) ?_)
          refine js_S rfl rfl (.inr ⟨_, _, rfl, rfl⟩) (xv_move rfl ⟨rfl, rfl⟩) ?_
          refine js_Ss rfl rfl ⟨_, _, _, rfl, rfl, rfl⟩ ?_
          refine js_Ss rfl rfl ⟨_, _, _, rfl, rfl, rfl⟩ ?_
          refine js_Ss rfl rfl ⟨_, _, _, rfl, rfl, rfl⟩ ?_
          refine js_Rs rfl rfl ⟨_, _, _, rfl, rfl, rfl⟩ ?_
          refine js_Ss rfl rfl ⟨_, _, _, rfl, rfl, rfl⟩ ?_
          refine js_Ss rfl rfl ⟨_, _, _, rfl, rfl, rfl⟩ ?_
          refine js_Ss rfl rfl ⟨_, _, _, rfl, rfl, rfl⟩ ?_
          refine js_Rs rfl rfl ⟨_, _, _, rfl, rfl, rfl⟩ ?_
          refine js_Os rfl rfl ⟨_, _, _, rfl, rfl, rfl⟩ ?_
          refine js_S rfl rfl (.inr ⟨_, _, rfl, rfl⟩) (xv_pick rfl rfl ⟨rfl, rfl⟩) ?_
          refine js_S rfl rfl (.inl rfl) (xv_pick rfl rfl ⟨rfl, rfl⟩) ?_
          refine j_end0 ?_
          refine th_n ?_
          refine xc_true rfl ?_
          refine xc_region ?_
          refine xr_op rfl rfl (xv_move rfl ?_)
          refine xr_op rfl rfl (xv_assign rfl ?_)
          refine xr_end rfl ?_
          refine bk_n ?_
          refine th_n ?_
          refine xc_region ?_
          refine xr_op rfl rfl (xv_move rfl ?_)
          refine xr_op rfl rfl (xv_add rfl rfl (wrap_i64 (by (first | omega | (dsimp only at *; omega) | (simp at *; omega))) (by (first | omega | (dsimp only at *; omega) | (simp at *; omega)))) ?_)
          refine xr_op rfl rfl (xv_assign rfl ?_)
          refine xr_end rfl ?_
          have hnb : (((k : Int) = -1 ∧ ∀ (j : Nat) (l : Int), j < k + 1 → lf[j]? = some l → ¬ 0 < l) ∨ ∃ (b9 : Nat) (lb eb : Int), (k : Int) = b9 ∧ b9 < k + 1 ∧ lf[b9]? = some lb ∧ 0 < lb ∧ each[b9]? = some eb ∧ ∀ (j : Nat) (l e : Int), j < k + 1 → lf[j]? = some l → 0 < l → each[j]? = some e → eb ≤ e) := .inr ⟨k, lk, xe, rfl, by omega, hlk, by omega, hke, fun j l e hj hj2 hpos hj3 => by
            rcases Nat.lt_succ_iff_lt_or_eq.1 hj with hj | rfl
            · exact absurd hpos (hbn j l hj hj2)
            · rw [hke] at hj3; cases hj3; exact Int.le_refl _⟩
          exact rnd ((k + 1, (k : Int)) : Nat × Int) ⟨by (first | omega | (dsimp only at *; omega) | (simp at *; omega)), hnb⟩ (by (first | omega | (dsimp only at *; omega) | (simp at *; omega))) (le_put (le_put (le_put (le_put (le_put (le_put (le_emp _) rfl) rfl) rfl) rfl) rfl) rfl) (by (first|((repeat first|exact s_0|exact s_1|exact s_3|refine s_4 ?_|refine s_5 ?_|refine s_6 ?_|refine s_7 ?_);done)|((repeat first|exact s_0|exact s_1|exact s_3|refine s_4 ?_|refine s_5 ?_|refine s_6 ?_|refine s_8 ?_);done)))
        · refine js_S rfl rfl (.inl rfl) (xv_move rfl ⟨rfl, rfl⟩) ?_
          refine js_Ss rfl rfl ⟨_, _, _, rfl, rfl, rfl⟩ ?_
          refine js_Os rfl rfl ⟨_, _, _, rfl, rfl, rfl⟩ ?_
          refine js_Ss rfl rfl ⟨_, _, _, rfl, rfl, rfl⟩ ?_
          refine js_Ss rfl rfl ⟨_, _, _, rfl, rfl, rfl⟩ ?_
          refine js_Ss rfl rfl ⟨_, _, _, rfl, rfl, rfl⟩ ?_
          refine js_Ss rfl rfl ⟨_, _, _, rfl, rfl, rfl⟩ ?_
          refine js_Rs rfl rfl ⟨_, _, _, rfl, rfl, rfl⟩ ?_
          refine js_Ss rfl rfl ⟨_, _, _, rfl, rfl, rfl⟩ ?_
          refine js_Ss rfl rfl ⟨_, _, _, rfl, rfl, rfl⟩ ?_
          refine js_Ss rfl rfl ⟨_, _, _, rfl, rfl, rfl⟩ ?_
          refine js_Rs rfl rfl ⟨_, _, _, rfl, rfl, rfl⟩ ?_
          refine js_Os rfl rfl ⟨_, _, _, rfl, rfl, rfl⟩ ?_
          refine js_Ss rfl rfl ⟨_, _, _, rfl, rfl, rfl⟩ ?_
          refine js_S rfl rfl (.inl rfl) (xv_pick rfl rfl ⟨rfl, rfl⟩) ?_
          refine j_end0 ?_
          refine th_n ?_
          refine xc_false rfl ?_
          refine xc_skip ?_
          refine bk_n ?_
          refine th_n ?_
          refine xc_region ?_
          refine xr_op rfl rfl (xv_move rfl ?_)
          refine xr_op rfl rfl (xv_add rfl rfl (wrap_i64 (by (first | omega | (dsimp only at *; omega) | (simp at *; omega))) (by (first | omega | (dsimp only at *; omega) | (simp at *; omega)))) ?_)
          refine xr_op rfl rfl (xv_assign rfl ?_)
          refine xr_end rfl ?_
          have hnb : (((-1 : Int) = -1 ∧ ∀ (j : Nat) (l : Int), j < k + 1 → lf[j]? = some l → ¬ 0 < l) ∨ ∃ (b9 : Nat) (lb eb : Int), (-1 : Int) = b9 ∧ b9 < k + 1 ∧ lf[b9]? = some lb ∧ 0 < lb ∧ each[b9]? = some eb ∧ ∀ (j : Nat) (l e : Int), j < k + 1 → lf[j]? = some l → 0 < l → each[j]? = some e → eb ≤ e) := .inl ⟨rfl, fun j l hj hj2 hpos => by
            rcases Nat.lt_succ_iff_lt_or_eq.1 hj with hj | rfl
            · exact hbn j l hj hj2 hpos
            · rw [hlk] at hj2; cases hj2; omega⟩
          exact rnd ((k + 1, -1) : Nat × Int) ⟨by (first | omega | (dsimp only at *; omega) | (simp at *; omega)), hnb⟩ (by (first | omega | (dsimp only at *; omega) | (simp at *; omega))) (le_put (le_put (le_put (le_put (le_put (le_put (le_emp _) rfl) rfl) rfl) rfl) rfl) rfl) (by (first|((repeat first|exact s_0|exact s_1|exact s_3|refine s_4 ?_|refine s_5 ?_|refine s_6 ?_|refine s_7 ?_);done)|((repeat first|exact s_0|exact s_1|exact s_3|refine s_4 ?_|refine s_5 ?_|refine s_6 ?_|refine s_8 ?_);done)))
      · refine xc_draw0 [(0, .S), (1, .S), (2, .S), (3, .R), (4, .O), (5, .S), (6, .S), (7, .O), (8, .S), (9, .S), (10, .S), (11, .S), (12, .R), (13, .S), (14, .S), (15, .S), (16, .R), (17, .O), (18, .S), (19, .S)] mixed (by kernel_rfl) ?_
        obtain ⟨lk, hlk⟩ : ∃ l, lf[k]? = some l := ⟨_, List.getElem?_eq_getElem (by (first | omega | (dsimp only at *; omega) | (simp at *; omega)))⟩
        have hke9 : k < each.length := by (first | omega | (dsimp only at *; omega) | (simp at *; omega))
        have hlte : k < each.length := hke9
        obtain ⟨be, oe, le, te, fze, hae, hme, hxe⟩ := ((he.sub (by intro z hz; ((repeat first|exact z_0|assumption|refine z_1 ?_|(refine z_l ?_;(repeat first|exact z_0|assumption|refine z_1 ?_);done)|refine z_r ?_);done)) : SlV ((bl, .cells ⟨lf.flatMap eI ++ sp⟩ 3) :: h) 1 eI a2 each)).at hlte
        obtain ⟨xe, hke⟩ : ∃ qq_, each[k]? = some qq_ := ⟨_, List.getElem?_eq_getElem hlte⟩
        refine js_S rfl rfl (.inl rfl) (xv_move rfl ⟨rfl, rfl⟩) ?_
        refine js_S rfl rfl (.inl rfl) (xv_move rfl ⟨rfl, rfl⟩) ?_
        refine js_S rfl rfl (.inl rfl) (xv_ia (sz := 1) (j := k) sl38 ty3 rfl rfl rfl (by (first | assumption | with_reducible exact Int.toNat_natCast _ | with_reducible rfl | rfl)) (by (first | omega | (dsimp only at *; omega) | (simp at *; omega))) (by (first | omega | (dsimp only at *; omega) | (simp at *; omega))) ⟨rfl, rfl⟩) ?_
        refine js_R0 rfl rfl (.inl rfl) (xv_load1 ty3 rfl rfl (by ((repeat first|exact z_0|assumption|refine z_1 ?_|(refine z_l ?_;(repeat first|exact z_0|assumption|refine z_1 ?_);done)|refine z_r ?_);done)) (take_get (flat_at eI_len sp lf _ hlk) (j := 0) rfl) ⟨rfl, rfl⟩) ?_
        refine js_O0 rfl rfl (.inl rfl) (xv_gtr2 rfl rfl (fun hq => ?_) (fun hq => ?_))
        · refine js_S rfl rfl (.inl rfl) (xv_move rfl ⟨rfl, rfl⟩) ?_
          refine js_S rfl rfl (.inr ⟨_, _, rfl, rfl⟩) (xv_move rfl ⟨rfl, rfl⟩) ?_
          refine js_O0 rfl rfl (.inr ⟨_, _, rfl, rfl⟩) (xv_cmpK rfl rfl (cmpF rfl (by simp only [cmpP]; (first | omega | (dsimp only at *; omega) | (simp at *; omega)))) ?_)
          refine js_S rfl rfl (.inr ⟨_, _, rfl, rfl⟩) (xv_move rfl ⟨rfl, rfl⟩) ?_
          refine js_S rfl rfl (.inr ⟨_, _, rfl, rfl⟩) (xv_move rfl ⟨rfl, rfl⟩) ?_
          refine js_S rfl rfl (.inr ⟨_, _, rfl, rfl⟩) (xv_move rfl ⟨rfl, rfl⟩) ?_
          refine js_S rfl rfl (.inr ⟨_, _, rfl, rfl⟩) (xv_ia (sz := 1) (j := k) sl38 ty3 rfl (by rw [hae]; rfl) rfl (by (first | assumption | with_reducible exact Int.toNat_natCast _ | with_reducible rfl | rfl)) (by (first | omega | (dsimp only at *; omega) | (simp at *; omega))) (by (first | omega | (dsimp only at *; omega) | (simp at *; omega))) ⟨rfl, rfl⟩) ?_
          refine js_R0 rfl rfl (.inr ⟨_, _, rfl, rfl⟩) (xv_load1 ty3 rfl rfl (by ((repeat first|exact z_0|assumption|refine z_1 ?_|(refine z_l ?_;(repeat first|exact z_0|assumption|refine z_1 ?_);done)|refine z_r ?_);done)) (take_get (hxe (k) xe hke) (j := 0) rfl) ⟨rfl, rfl⟩) ?_
          have hltq : bN < each.length := (List.getElem?_eq_some_iff.1 heb2).1
          obtain ⟨bq, oq, lq, tq, fzq, haq, hmq, hxq⟩ := ((he.sub (by intro z hz; ((repeat first|exact z_0|assumption|refine z_1 ?_|(refine z_l ?_;(repeat first|exact z_0|assumption|refine z_1 ?_);done)|refine z_r ?_);done)) : SlV ((bl, .cells ⟨lf.flatMap eI ++ sp⟩ 3) :: h) 1 eI a2 each)).at hltq
          obtain ⟨xq, hkq⟩ : ∃ qq_, each[bN]? = some qq_ := ⟨_, List.getElem?_eq_getElem hltq⟩
          have eqx : xq = eb := by rw [heb2] at hkq; exact (Option.some.inj hkq).symm
          refine js_S rfl rfl (.inr ⟨_, _, rfl, rfl⟩) (xv_move rfl ⟨rfl, rfl⟩) ?_
          refine js_S rfl rfl (.inr ⟨_, _, rfl, rfl⟩) (xv_move rfl ⟨rfl, rfl⟩) ?_
          refine js_S rfl rfl (.inr ⟨_, _, rfl, rfl⟩) (xv_ia (sz := 1) (j := bN) sl38 ty3 rfl (by rw [haq]; rfl) rfl (by (first | assumption | with_reducible exact Int.toNat_natCast _ | with_reducible rfl | rfl)) (by (first | omega | (dsimp only at *; omega) | (simp at *; omega))) (by (first | omega | (dsimp only at *; omega) | (simp at *; omega))) ⟨rfl, rfl⟩) ?_
          refine js_R0 rfl rfl (.inr ⟨_, _, rfl, rfl⟩) (xv_load1 ty3 rfl rfl (by ((repeat first|exact z_0|assumption|refine z_1 ?_|(refine z_l ?_;(repeat first|exact z_0|assumption|refine z_1 ?_);done)|refine z_r ?_);done)) (take_get (hxq (bN) xq hkq) (j := 0) rfl) ⟨rfl, rfl⟩) ?_
          refine js_O0 rfl rfl (.inr ⟨_, _, rfl, rfl⟩) (xv_lss2 rfl rfl (fun hq => ?_) (fun hq => ?_))
          · refine js_S rfl rfl (.inr ⟨_, _, rfl, rfl⟩) (xv_pick rfl rfl ⟨rfl, rfl⟩) ?_
            refine js_S rfl rfl (.inl rfl) (xv_pick rfl rfl ⟨rfl, rfl⟩) ?_
            refine j_end0 ?_
            refine th_n ?_
            refine xc_true rfl ?_
            refine xc_region ?_
            refine xr_op rfl rfl (xv_move rfl ?_)
            refine xr_op rfl rfl (xv_assign rfl ?_)
            refine xr_end rfl ?_
            refine bk_n ?_
            refine th_n ?_
            refine xc_region ?_
            refine xr_op rfl rfl (xv_move rfl ?_)
            refine xr_op rfl rfl (xv_add rfl rfl (wrap_i64 (by (first | omega | (dsimp only at *; omega) | (simp at *; omega))) (by (first | omega | (dsimp only at *; omega) | (simp at *; omega)))) ?_)
            refine xr_op rfl rfl (xv_assign rfl ?_)
            refine xr_end rfl ?_
            have hnb : (((k : Int) = -1 ∧ ∀ (j : Nat) (l : Int), j < k + 1 → lf[j]? = some l → ¬ 0 < l) ∨ ∃ (b9 : Nat) (lb eb : Int), (k : Int) = b9 ∧ b9 < k + 1 ∧ lf[b9]? = some lb ∧ 0 < lb ∧ each[b9]? = some eb ∧ ∀ (j : Nat) (l e : Int), j < k + 1 → lf[j]? = some l → 0 < l → each[j]? = some e → eb ≤ e) := .inr ⟨k, lk, xe, rfl, by omega, hlk, by omega, hke, fun j l e hj hj2 hpos hj3 => by
              rcases Nat.lt_succ_iff_lt_or_eq.1 hj with hj | rfl
              · have := hbm j l e hj hj2 hpos hj3; omega
              · rw [hke] at hj3; cases hj3; exact Int.le_refl _⟩
            exact rnd ((k + 1, (k : Int)) : Nat × Int) ⟨by (first | omega | (dsimp only at *; omega) | (simp at *; omega)), hnb⟩ (by (first | omega | (dsimp only at *; omega) | (simp at *; omega))) (le_put (le_put (le_put (le_put (le_put (le_put (le_emp _) rfl) rfl) rfl) rfl) rfl) rfl) (by (first|((repeat first|exact s_0|exact s_1|exact s_3|refine s_4 ?_|refine s_5 ?_|refine s_6 ?_|refine s_7 ?_);done)|((repeat first|exact s_0|exact s_1|exact s_3|refine s_4 ?_|refine s_5 ?_|refine s_6 ?_|refine s_8 ?_);done)))
          · refine js_S rfl rfl (.inr ⟨_, _, rfl, rfl⟩) (xv_pick rfl rfl ⟨rfl, rfl⟩) ?_
            refine js_S rfl rfl (.inl rfl) (xv_pick rfl rfl ⟨rfl, rfl⟩) ?_
            refine j_end0 ?_
            refine th_n ?_
            refine xc_false rfl ?_
            refine xc_skip ?_
            refine bk_n ?_
            refine th_n ?_
            refine xc_region ?_
            refine xr_op rfl rfl (xv_move rfl ?_)
            refine xr_op rfl rfl (xv_add rfl rfl (wrap_i64 (by (first | omega | (dsimp only at *; omega) | (simp at *; omega))) (by (first | omega | (dsimp only at *; omega) | (simp at *; omega)))) ?_)
            refine xr_op rfl rfl (xv_assign rfl ?_)
            refine xr_end rfl ?_
            have hnb : (((bN : Int) = -1 ∧ ∀ (j : Nat) (l : Int), j < k + 1 → lf[j]? = some l → ¬ 0 < l) ∨ ∃ (b9 : Nat) (lb eb : Int), (bN : Int) = b9 ∧ b9 < k + 1 ∧ lf[b9]? = some lb ∧ 0 < lb ∧ each[b9]? = some eb ∧ ∀ (j : Nat) (l e : Int), j < k + 1 → lf[j]? = some l → 0 < l → each[j]? = some e → eb ≤ e) := .inr ⟨bN, lb, eb, rfl, by omega, hlb, hl0, heb2, fun j l e hj hj2 hpos hj3 => by
              rcases Nat.lt_succ_iff_lt_or_eq.1 hj with hj | rfl
              · exact hbm j l e hj hj2 hpos hj3
              · rw [hlk] at hj2; cases hj2; first | omega | (rw [hke] at hj3; cases hj3; omega)⟩
            exact rnd ((k + 1, (bN : Int)) : Nat × Int) ⟨by (first | omega | (dsimp only at *; omega) | (simp at *; omega)), hnb⟩ (by (first | omega | (dsimp only at *; omega) | (simp at *; omega))) (le_put (le_put (le_put (le_put (le_put (le_put (le_emp _) rfl) rfl) rfl) rfl) rfl) rfl) (by (first|((repeat first|exact s_0|exact s_1|exact s_3|refine s_4 ?_|refine s_5 ?_|refine s_6 ?_|refine s_7 ?_);done)|((repeat first|exact s_0|exact s_1|exact s_3|refine s_4 ?_|refine s_5 ?_|refine s_6 ?_|refine s_8 ?_);done)))
        · refine js_S rfl rfl (.inl rfl) (xv_move rfl ⟨rfl, rfl⟩) ?_
          refine js_Ss rfl rfl ⟨_, _, _, rfl, rfl, rfl⟩ ?_
          refine js_Os rfl rfl ⟨_, _, _, rfl, rfl, rfl⟩ ?_
          refine js_Ss rfl rfl ⟨_, _, _, rfl, rfl, rfl⟩ ?_
          refine js_Ss rfl rfl ⟨_, _, _, rfl, rfl, rfl⟩ ?_
          refine js_Ss rfl rfl ⟨_, _, _, rfl, rfl, rfl⟩ ?_
          refine js_Ss rfl rfl ⟨_, _, _, rfl, rfl, rfl⟩ ?_
          refine js_Rs rfl rfl ⟨_, _, _, rfl, rfl, rfl⟩ ?_
          refine js_Ss rfl rfl ⟨_, _, _, rfl, rfl, rfl⟩ ?_
          refine js_Ss rfl rfl ⟨_, _, _, rfl, rfl, rfl⟩ ?_
          refine js_Ss rfl rfl ⟨_, _, _, rfl, rfl, rfl⟩ ?_
          refine js_Rs rfl rfl ⟨_, _, _, rfl, rfl, rfl⟩ ?_
          refine js_Os rfl rfl ⟨_, _, _, rfl, rfl, rfl⟩ ?_
          refine js_Ss rfl rfl ⟨_, _, _, rfl, rfl, rfl⟩ ?_
          refine js_S rfl rfl (.inl rfl) (xv_pick rfl rfl ⟨rfl, rfl⟩) ?_
          refine j_end0 ?_
          refine th_n ?_
          refine xc_false rfl ?_
          refine xc_skip ?_
          refine bk_n ?_
          refine th_n ?_
          refine xc_region ?_
          refine xr_op rfl rfl (xv_move rfl ?_)
          refine xr_op rfl rfl (xv_add rfl rfl (wrap_i64 (by (first | omega | (dsimp only at *; omega) | (simp at *; omega))) (by (first | omega | (dsimp only at *; omega) | (simp at *; omega)))) ?_)
          refine xr_op rfl rfl (xv_assign rfl ?_)
          refine xr_end rfl ?_
          have hnb : (((bN : Int) = -1 ∧ ∀ (j : Nat) (l : Int), j < k + 1 → lf[j]? = some l → ¬ 0 < l) ∨ ∃ (b9 : Nat) (lb eb : Int), (bN : Int) = b9 ∧ b9 < k + 1 ∧ lf[b9]? = some lb ∧ 0 < lb ∧ each[b9]? = some eb ∧ ∀ (j : Nat) (l e : Int), j < k + 1 → lf[j]? = some l → 0 < l → each[j]? = some e → eb ≤ e) := .inr ⟨bN, lb, eb, rfl, by omega, hlb, hl0, heb2, fun j l e hj hj2 hpos hj3 => by
            rcases Nat.lt_succ_iff_lt_or_eq.1 hj with hj | rfl
            · exact hbm j l e hj hj2 hpos hj3
            · rw [hlk] at hj2; cases hj2; first | omega | (rw [hke] at hj3; cases hj3; omega)⟩
          exact rnd ((k + 1, (bN : Int)) : Nat × Int) ⟨by (first | omega | (dsimp only at *; omega) | (simp at *; omega)), hnb⟩ (by (first | omega | (dsimp only at *; omega) | (simp at *; omega))) (le_put (le_put (le_put (le_put (le_put (le_put (le_emp _) rfl) rfl) rfl) rfl) rfl) rfl) (by (first|((repeat first|exact s_0|exact s_1|exact s_3|refine s_4 ?_|refine s_5 ?_|refine s_6 ?_|refine s_7 ?_);done)|((repeat first|exact s_0|exact s_1|exact s_3|refine s_4 ?_|refine s_5 ?_|refine s_6 ?_|refine s_8 ?_);done)))
    · refine xr_end rfl ?_
      refine th_n ?_
      refine xc_false rfl ?_
      refine xc_exit ?_
      refine th_x ?_
      refine th_x ?_
      refine bk_same ?_
      refine th_n ?_
      refine xc_seq (xc_region ?_)
      obtain ⟨bN, lb, eb, rfl, hbi, hlb, hl0, heb2, hbm⟩ : ∃ (bN : Nat) (lb eb : Int), bst = bN ∧ bN < k ∧ lf[bN]? = some lb ∧ 0 < lb ∧ each[bN]? = some eb ∧ ∀ (j : Nat) (l e : Int), j < k → lf[j]? = some l → 0 < l → each[j]? = some e → eb ≤ e := by
        rcases hbest with ⟨_, hbn⟩ | hb
        · exfalso
          obtain ⟨i, v, hi, hv⟩ := hI.some (by omega) hn1
          exact hbn i v (by have := (List.getElem?_eq_some_iff.1 hi).1; (first | omega | (dsimp only at *; omega) | (simp at *; omega))) hi hv
        · exact hb
      have hnx := hI.next hlb hl0 heb2 (fun j l e hj h9 hej => hbm j l e (by have := (List.getElem?_eq_some_iff.1 hj).1; (first | omega | (dsimp only at *; omega) | (simp at *; omega))) hj h9 hej) (by omega)
      have hbl := (List.getElem?_eq_some_iff.1 hlb).1
      have hltq : bN < each.length := (List.getElem?_eq_some_iff.1 heb2).1
      obtain ⟨bq, oq, lq, tq, fzq, haq, hmq, hxq⟩ := ((he.sub (by intro z hz; ((repeat first|exact z_0|assumption|refine z_1 ?_|(refine z_l ?_;(repeat first|exact z_0|assumption|refine z_1 ?_);done)|refine z_r ?_);done)) : SlV ((bl, .cells ⟨lf.flatMap eI ++ sp⟩ 3) :: h) 1 eI a2 each)).at hltq
      obtain ⟨xq, hkq⟩ : ∃ qq_, each[bN]? = some qq_ := ⟨_, List.getElem?_eq_getElem hltq⟩
      have eqx : xq = eb := by rw [heb2] at hkq; exact (Option.some.inj hkq).symm
      rw [← eqx] at hnx
      have heqb := heb xq (List.mem_of_getElem? hkq)
      have hlbb : lb ≤ sumI lf := by have h9 := getD_sum hI.nn bN; rw [List.getD_eq_getElem?_getD, hlb] at h9; exact h9
      have hsl := hI.sum
      have hmb := mul_bdE (n := min need lb) (e := xq) (N := 1048576000000) (by omega) (by omega) heqb
      refine xr_op rfl rfl (xv_move rfl ?_)
      refine xr_op rfl rfl (xv_move rfl ?_)
      refine xr_op rfl rfl (xv_move rfl ?_)
      refine xr_op rfl rfl (xv_ia (sz := 1) (j := bN) sl38 ty3 rfl rfl rfl (by (first | assumption | with_reducible exact Int.toNat_natCast _ | with_reducible rfl | rfl)) (by (first | omega | (dsimp only at *; omega) | (simp at *; omega))) (by (first | omega | (dsimp only at *; omega) | (simp at *; omega))) ?_)
      refine xr_op rfl rfl (xv_load1 ty3 rfl rfl (by ((repeat first|exact z_0|assumption|refine z_1 ?_|(refine z_l ?_;(repeat first|exact z_0|assumption|refine z_1 ?_);done)|refine z_r ?_);done)) (take_get (flat_at eI_len sp lf _ hlb) (j := 0) rfl) ?_)
      refine xr_op rfl rfl (xv_min rfl rfl rfl ?_)
      refine xr_op rfl rfl (xv_assign rfl ?_)
      refine xr_end rfl ?_
      refine th_n ?_
      refine xc_seq (xc_region ?_)
      refine xr_op rfl rfl (xv_move rfl ?_)
      refine xr_op rfl rfl (xv_move rfl ?_)
      refine xr_op rfl rfl (xv_move rfl ?_)
      refine xr_op rfl rfl (xv_move rfl ?_)
      refine xr_op rfl rfl (xv_ia (sz := 1) (j := bN) sl38 ty3 rfl (by rw [haq]; rfl) rfl (by (first | assumption | with_reducible exact Int.toNat_natCast _ | with_reducible rfl | rfl)) (by (first | omega | (dsimp only at *; omega) | (simp at *; omega))) (by (first | omega | (dsimp only at *; omega) | (simp at *; omega))) ?_)
      refine xr_op rfl rfl (xv_load1 ty3 rfl rfl (by ((repeat first|exact z_0|assumption|refine z_1 ?_|(refine z_l ?_;(repeat first|exact z_0|assumption|refine z_1 ?_);done)|refine z_r ?_);done)) (take_get (hxq (bN) xq hkq) (j := 0) rfl) ?_)
      refine xr_op rfl rfl (xv_mul rfl rfl (wrap_i64 (by (first | omega | (dsimp only at *; omega) | (simp at *; omega))) (by (first | omega | (dsimp only at *; omega) | (simp at *; omega)))) ?_)
      refine xr_op rfl rfl (xv_add rfl rfl (wrap_i64 (by (first | omega | (dsimp only at *; omega) | (simp at *; omega))) (by (first | omega | (dsimp only at *; omega) | (simp at *; omega)))) ?_)
      refine xr_op rfl rfl (xv_assign rfl ?_)
      refine xr_end rfl ?_
      refine th_n ?_
      refine xc_seq (xc_region ?_)
      refine xr_op rfl rfl (xv_move rfl ?_)
      refine xr_op rfl rfl (xv_move rfl ?_)
      refine xr_op rfl rfl (xv_move rfl ?_)
      refine xr_op rfl rfl (xv_move rfl ?_)
      refine xr_op rfl rfl (xv_ia (sz := 1) (j := bN) sl38 ty3 rfl rfl rfl (by (first | assumption | with_reducible exact Int.toNat_natCast _ | with_reducible rfl | rfl)) (by (first | omega | (dsimp only at *; omega) | (simp at *; omega))) (by (first | omega | (dsimp only at *; omega) | (simp at *; omega))) ?_)
      refine xr_op rfl rfl (xv_load1 ty3 rfl rfl (by ((repeat first|exact z_0|assumption|refine z_1 ?_|(refine z_l ?_;(repeat first|exact z_0|assumption|refine z_1 ?_);done)|refine z_r ?_);done)) (take_get (flat_at eI_len sp lf _ hlb) (j := 0) rfl) ?_)
      refine xr_op rfl rfl (xv_move rfl ?_)
      refine xr_op rfl rfl (xv_sub rfl rfl (wrap_i64 (by (first | omega | (dsimp only at *; omega) | (simp at *; omega))) (by (first | omega | (dsimp only at *; omega) | (simp at *; omega)))) ?_)
      refine xr_op rfl rfl (xv_ia (sz := 1) (j := bN) sl38 ty3 rfl rfl rfl (by (first | assumption | with_reducible exact Int.toNat_natCast _ | with_reducible rfl | rfl)) (by (first | omega | (dsimp only at *; omega) | (simp at *; omega))) (by (first | omega | (dsimp only at *; omega) | (simp at *; omega))) ?_)
      refine xr_op rfl rfl (xv_s1 (l := lf.flatMap eI ++ sp) (l' := (lf.set bN (lb - min need lb)).flatMap eI ++ sp) ty3 rfl rfl rfl (by (first|(apply u_3;(repeat first|exact u_0|assumption|apply u_1|apply u_2);done)|((repeat first|exact u_0|assumption|apply u_1|apply u_2);done)|(apply u_3;apply u_3;(repeat first|exact u_0|assumption|apply u_1|apply u_2);done)|((repeat first|exact u_0|assumption|apply u_3|apply u_1);done))) rfl (by rw [List.length_append, ints_len]; (first | omega | (dsimp only at *; omega) | (simp at *; omega))) (set_flat (enc := eI) (sz := 1) eI_len (x := lb) (j := 0) sp (by decide) rfl lf bN hlb) ?_)
      refine xr_end rfl ?_
      refine th_n ?_
      refine xc_region ?_
      refine xr_op rfl rfl (xv_move rfl ?_)
      refine xr_op rfl rfl (xv_move rfl ?_)
      refine xr_op rfl rfl (xv_sub rfl rfl (wrap_i64 (by (first | omega | (dsimp only at *; omega) | (simp at *; omega))) (by (first | omega | (dsimp only at *; omega) | (simp at *; omega)))) ?_)
      refine xr_op rfl rfl (xv_assign rfl ?_)
      refine xr_end rfl ?_
      refine bk_n ?_
      exact rnd ((lf.set bN (lb - min need lb), need - min need lb) : List Int × Int) hnx.1 (by (first | omega | (dsimp only at *; omega) | (simp at *; omega))) (le_put (le_put (le_put (le_put (le_emp _) rfl) rfl) rfl) (by dsimp only; rw [hnx.2]; rfl)) (by (first|((repeat first|exact s_0|exact s_1|exact s_3|refine s_4 ?_|refine s_5 ?_|refine s_6 ?_|refine s_7 ?_);done)|((repeat first|exact s_0|exact s_1|exact s_3|refine s_4 ?_|refine s_5 ?_|refine s_6 ?_|refine s_8 ?_);done)))
  · refine xr_end rfl ?_
    refine th_n ?_
    refine xc_false rfl ?_
    refine xc_exit ?_
    refine th_x ?_
    refine th_x ?_
    refine bk_same ?_
    refine th_n ?_
    refine xc_seq (xc_region ?_)
    obtain rfl : need = 0 := by (first | omega | (dsimp only at *; omega) | (simp at *; omega))
    have hG := hI.gr
    rw [Int.sub_zero] at hG
    refine xr_op rfl rfl (xv_move rfl ?_)
    refine xr_op rfl rfl (xv_assign rfl ?_)
    refine xr_end rfl ?_
    refine th_n ?_
    refine xc_ret ?_
    refine body_ret (h' := h) rfl (ro_tmp rfl ro_nil) (by (first|((repeat first|exact s_0|exact s_1|exact s_3|refine s_4 ?_|refine s_5 ?_|refine s_6 ?_|refine s_7 ?_);done)|((repeat first|exact s_0|exact s_1|exact s_3|refine s_4 ?_|refine s_5 ?_|refine s_6 ?_|refine s_8 ?_);done))) ?_
    exact H _ hG

end Go.Proofs.Ytpefpafijadfmaa

/-
  Walks.
-/
namespace Go.Proofs.Ytpefpafijadfmaa
open Go Go.H
set_option maxRecDepth 100000
set_option maxHeartbeats 8000000
set_option linter.all false
theorem leastG_c {room each : List Int} {a a2 : Option Addr} {c c2 n n2 : Nat} {need0 : Int} {h : Hp} {R : Ending → Hp → Prop} (hn : n = room.length) (hn2 : n2 = each.length) (hr : SlV h 1 eI a room) (he : SlV h 1 eI a2 each) (hre : each.length = room.length) (hr0 : 0 < room.length) (hrl : room.length ≤ 1000) (hrb : ∀ x ∈ room, 0 ≤ x ∧ x ≤ 1048576000) (heb : ∀ x ∈ each, -100000 ≤ x ∧ x ≤ 100000) (hn0 : 0 ≤ need0) (hn1 : need0 ≤ sumI room)
    (H : R (.returned (I (gval room each need0))) h) : ACalls Try.prog 46 ⟨[.slice a n c, .slice a2 n2 c2, I need0]⟩ h R := by
  subst hn hn2
  exact least_c hr he hre hr0 hrl hrb heb hn0 hn1 fun x hx => by rw [gval_eq hre hx]; exact H

theorem RYield_c {y : Yard} {h : Hp} {R : Ending → Hp → Prop} (hy : YardV h y) (hs : Small y) {f t w : Int} (H : R (.returned (.tuple ⟨[.agg ⟨eSpan (yieldA y f t w).1⟩, I (yieldA y f t w).2]⟩)) h) : ACalls Try.prog 14 ⟨[.agg ⟨eYard y⟩, I f, I t, I w]⟩ h R := by
  refine calls_of_xc (N := 118) Try.func14 rfl (by rfl) ?_
  obtain ⟨hs1, hs2⟩ := id hs
  refine xc_seq (xc_region ?_)
  refine xr_op rfl rfl (xv_box rfl (fun b4 hb4 => ?_))
  refine xr_op rfl rfl (xv_alloc ty33 (fun b8 hb8 => ?_))
  refine xr_op rfl rfl (xv_assign rfl ?_)
  refine xr_end rfl ?_
  refine th_n ?_
  refine xc_seq (xc_region ?_)
  refine xr_op rfl rfl (xv_loadA ty25 rfl rfl (by ((repeat first|exact z_0|assumption|refine z_1 ?_|(refine z_l ?_;(repeat first|exact z_0|assumption|refine z_1 ?_);done)|refine z_r ?_);done)) (by ((try apply evl_some rfl);(repeat (first|exact (rfl : _ = [])|apply evl_cons rfl (by (first|exact v_1|exact v_2|exact v_3|exact v_4|exact v_5|exact v_6|exact v_7|exact v_8|exact v_9|exact rfl))|exact rfl)))) (by rfl) ?_)
  refine xr_op rfl rfl (xv_calls rfl hb36 (start_c (hy.sub (by intro z hz; ((repeat first|exact z_0|assumption|refine z_1 ?_|(refine z_l ?_;(repeat first|exact z_0|assumption|refine z_1 ?_);done)|refine z_r ?_);done))) hs (fun hng => up_ret ?_) (fun hgy hpn => up_ret ?_) (fun hds V P hgy hP hV hS => up_ret ?_)))
  · refine xr_op rfl rfl (xv_move rfl ?_)
    refine xr_op rfl rfl (xv_extract rfl rfl ?_)
    refine xr_op rfl rfl (xv_extract rfl rfl ?_)
    refine xr_op rfl rfl (xv_assign rfl ?_)
    refine xr_op rfl rfl (xv_assign rfl ?_)
    refine xr_end rfl ?_
    refine th_n ?_
    refine xc_seq ?_
    refine xc_seq (xc_region ?_)
    refine xr_op rfl rfl (xv_move rfl ?_)
    refine xr_op rfl rfl (xv_neqT rfl rfl (by decide) ?_)
    refine xr_end rfl ?_
    refine th_n ?_
    refine xc_true rfl ?_
    refine xc_seq (xc_region ?_)
    refine xr_op rfl rfl (xv_build bt33 rfl (by ((try apply evl_some rfl);(repeat (first|exact (rfl : _ = [])|apply evl_cons rfl (by (first|exact v_1|exact v_2|exact v_3|exact v_4|exact v_5|exact v_6|exact v_7|exact v_8|exact v_9|exact rfl))|exact rfl)))) ?_)
    refine xr_op rfl rfl (xv_move rfl ?_)
    refine xr_op rfl rfl (xv_s ty33 rfl rfl (by (first|(apply u_3;(repeat first|exact u_0|assumption|apply u_1|apply u_2);done)|((repeat first|exact u_0|assumption|apply u_1|apply u_2);done)|(apply u_3;apply u_3;(repeat first|exact u_0|assumption|apply u_1|apply u_2);done)|((repeat first|exact u_0|assumption|apply u_3|apply u_1);done))) (by ((try apply evl_some rfl);(repeat (first|exact (rfl : _ = [])|apply evl_cons rfl (by (first|exact v_1|exact v_2|exact v_3|exact v_4|exact v_5|exact v_6|exact v_7|exact v_8|exact v_9|exact rfl))|exact rfl)))) (by rfl) (by rfl) (by rfl) (by ((try apply evl_some rfl);(repeat (first|exact (rfl : _ = [])|apply evl_cons rfl (by (first|exact v_1|exact v_2|exact v_3|exact v_4|exact v_5|exact v_6|exact v_7|exact v_8|exact v_9|exact rfl))|exact rfl)))) ?_)
    refine xr_op rfl rfl (xv_assign rfl ?_)
    refine xr_end rfl ?_
    refine th_n ?_
    refine xc_ret ?_
    refine th_r ?_
    refine body_ret (h' := h) rfl (ro_cellA ty33 rfl rfl (by ((repeat first|exact z_0|assumption|refine z_1 ?_|(refine z_l ?_;(repeat first|exact z_0|assumption|refine z_1 ?_);done)|refine z_r ?_);done)) (by rfl) (by rfl) (ro_tmp rfl ro_nil)) (by (first|((repeat first|exact s_0|exact s_1|exact s_3|refine s_4 ?_|refine s_5 ?_|refine s_6 ?_|refine s_7 ?_);done)|((repeat first|exact s_0|exact s_1|exact s_3|refine s_4 ?_|refine s_5 ?_|refine s_6 ?_|refine s_8 ?_);done))) ?_
    first | (rw [eans] at H; exact H) | (rw [yieldA_1 hng] at H; exact H) | (rw [yieldA_10 hgy hpn] at H; exact H) | (rw [yieldA_2 hgy hP.is (by rw [List.length_map]; omega)] at H; exact H)
  · refine xr_op rfl rfl (xv_move rfl ?_)
    refine xr_op rfl rfl (xv_extract rfl rfl ?_)
    refine xr_op rfl rfl (xv_extract rfl rfl ?_)
    refine xr_op rfl rfl (xv_assign rfl ?_)
    refine xr_op rfl rfl (xv_assign rfl ?_)
    refine xr_end rfl ?_
    refine th_n ?_
    refine xc_seq ?_
    refine xc_seq (xc_region ?_)
    refine xr_op rfl rfl (xv_move rfl ?_)
    refine xr_op rfl rfl (xv_neqT rfl rfl (by decide) ?_)
    refine xr_end rfl ?_
    refine th_n ?_
    refine xc_true rfl ?_
    refine xc_seq (xc_region ?_)
    refine xr_op rfl rfl (xv_build bt33 rfl (by ((try apply evl_some rfl);(repeat (first|exact (rfl : _ = [])|apply evl_cons rfl (by (first|exact v_1|exact v_2|exact v_3|exact v_4|exact v_5|exact v_6|exact v_7|exact v_8|exact v_9|exact rfl))|exact rfl)))) ?_)
    refine xr_op rfl rfl (xv_move rfl ?_)
    refine xr_op rfl rfl (xv_s ty33 rfl rfl (by (first|(apply u_3;(repeat first|exact u_0|assumption|apply u_1|apply u_2);done)|((repeat first|exact u_0|assumption|apply u_1|apply u_2);done)|(apply u_3;apply u_3;(repeat first|exact u_0|assumption|apply u_1|apply u_2);done)|((repeat first|exact u_0|assumption|apply u_3|apply u_1);done))) (by ((try apply evl_some rfl);(repeat (first|exact (rfl : _ = [])|apply evl_cons rfl (by (first|exact v_1|exact v_2|exact v_3|exact v_4|exact v_5|exact v_6|exact v_7|exact v_8|exact v_9|exact rfl))|exact rfl)))) (by rfl) (by rfl) (by rfl) (by ((try apply evl_some rfl);(repeat (first|exact (rfl : _ = [])|apply evl_cons rfl (by (first|exact v_1|exact v_2|exact v_3|exact v_4|exact v_5|exact v_6|exact v_7|exact v_8|exact v_9|exact rfl))|exact rfl)))) ?_)
    refine xr_op rfl rfl (xv_assign rfl ?_)
    refine xr_end rfl ?_
    refine th_n ?_
    refine xc_ret ?_
    refine th_r ?_
    refine body_ret (h' := h) rfl (ro_cellA ty33 rfl rfl (by ((repeat first|exact z_0|assumption|refine z_1 ?_|(refine z_l ?_;(repeat first|exact z_0|assumption|refine z_1 ?_);done)|refine z_r ?_);done)) (by rfl) (by rfl) (ro_tmp rfl ro_nil)) (by (first|((repeat first|exact s_0|exact s_1|exact s_3|refine s_4 ?_|refine s_5 ?_|refine s_6 ?_|refine s_7 ?_);done)|((repeat first|exact s_0|exact s_1|exact s_3|refine s_4 ?_|refine s_5 ?_|refine s_6 ?_|refine s_8 ?_);done))) ?_
    first | (rw [eans] at H; exact H) | (rw [yieldA_1 hng] at H; exact H) | (rw [yieldA_10 hgy hpn] at H; exact H) | (rw [yieldA_2 hgy hP.is (by rw [List.length_map]; omega)] at H; exact H)
  · refine xr_op rfl rfl (xv_move rfl ?_)
    refine xr_op rfl rfl (xv_extract rfl rfl ?_)
    refine xr_op rfl rfl (xv_extract rfl rfl ?_)
    refine xr_op rfl rfl (xv_assign rfl ?_)
    refine xr_op rfl rfl (xv_assign rfl ?_)
    refine xr_end rfl ?_
    refine th_n ?_
    refine xc_seq ?_
    refine xc_seq (xc_region ?_)
    refine xr_op rfl rfl (xv_move rfl ?_)
    refine xr_op rfl rfl (xv_neqF rfl rfl rfl ?_)
    refine xr_end rfl ?_
    refine th_n ?_
    refine xc_false rfl ?_
    refine xc_skip ?_
    refine th_n ?_
    refine xc_seq ?_
    refine xc_seq (xc_region ?_)
    obtain ⟨qa, qc, hqv, hqs⟩ := Vec.slv (enc := eHd) (t := 38) (h := V.hp 38 (hds.flatMap eHd)) eHd_len hV (fun _ hz => hz)
    rw [hqv]
    have hfew := hP.few
    rw [List.length_map] at hfew
    have hop := opn_le y.moves
    have hg32 := hgy.2.2.2
    have hgc := hgy.2.2.1
    refine xr_op rfl rfl (xv_move rfl ?_)
    refine xr_op rfl rfl (xv_lss2 rfl rfl (fun q1 => ?_) (fun q1 => ?_))
    · refine xr_op rfl rfl (xv_move rfl ?_)
      refine xr_no rfl rfl rfl rfl ?_
      refine xr_no rfl rfl rfl rfl ?_
      refine xr_no rfl rfl rfl rfl ?_
      refine xr_op rfl rfl (xv_pick rfl rfl ?_)
      refine xr_op rfl rfl (xv_move rfl ?_)
      refine xr_no rfl rfl rfl rfl ?_
      refine xr_no rfl rfl rfl rfl ?_
      refine xr_no rfl rfl rfl rfl ?_
      refine xr_no rfl rfl rfl rfl ?_
      refine xr_op rfl rfl (xv_pick rfl rfl ?_)
      refine xr_op rfl rfl (xv_move rfl ?_)
      refine xr_no rfl rfl rfl rfl ?_
      refine xr_no rfl rfl rfl rfl ?_
      refine xr_no rfl rfl rfl rfl ?_
      refine xr_op rfl rfl (xv_pick rfl rfl ?_)
      refine xr_end rfl ?_
      refine th_n ?_
      refine xc_true rfl ?_
      refine xc_seq (xc_region ?_)
      refine xr_op rfl rfl (xv_build bt33 rfl (by ((try apply evl_some rfl);(repeat (first|exact (rfl : _ = [])|apply evl_cons rfl (by (first|exact v_1|exact v_2|exact v_3|exact v_4|exact v_5|exact v_6|exact v_7|exact v_8|exact v_9|exact rfl))|exact rfl)))) ?_)
      refine xr_op rfl rfl (xv_s ty33 rfl rfl (by (first|(apply u_3;(repeat first|exact u_0|assumption|apply u_1|apply u_2);done)|((repeat first|exact u_0|assumption|apply u_1|apply u_2);done)|(apply u_3;apply u_3;(repeat first|exact u_0|assumption|apply u_1|apply u_2);done)|((repeat first|exact u_0|assumption|apply u_3|apply u_1);done))) (by ((try apply evl_some rfl);(repeat (first|exact (rfl : _ = [])|apply evl_cons rfl (by (first|exact v_1|exact v_2|exact v_3|exact v_4|exact v_5|exact v_6|exact v_7|exact v_8|exact v_9|exact rfl))|exact rfl)))) (by rfl) (by rfl) (by rfl) (by ((try apply evl_some rfl);(repeat (first|exact (rfl : _ = [])|apply evl_cons rfl (by (first|exact v_1|exact v_2|exact v_3|exact v_4|exact v_5|exact v_6|exact v_7|exact v_8|exact v_9|exact rfl))|exact rfl)))) ?_)
      refine xr_op rfl rfl (xv_assign rfl ?_)
      refine xr_end rfl ?_
      refine th_n ?_
      refine xc_ret ?_
      refine th_r ?_
      refine body_ret (h' := h) rfl (ro_cellA ty33 rfl rfl (by ((repeat first|exact z_0|assumption|refine z_1 ?_|(refine z_l ?_;(repeat first|exact z_0|assumption|refine z_1 ?_);done)|refine z_r ?_);done)) (by rfl) (by rfl) (ro_tmp rfl ro_nil)) (by (first|((repeat first|exact s_0|exact s_1|exact s_3|refine s_4 ?_|refine s_5 ?_|refine s_6 ?_|refine s_7 ?_);done)|((repeat first|exact s_0|exact s_1|exact s_3|refine s_4 ?_|refine s_5 ?_|refine s_6 ?_|refine s_8 ?_);done))) ?_
      first | (rw [eans] at H; exact H) | (rw [yieldA_1 hng] at H; exact H) | (rw [yieldA_10 hgy hpn] at H; exact H) | (rw [yieldA_2 hgy hP.is (by rw [List.length_map]; omega)] at H; exact H)
    · refine xr_op rfl rfl (xv_move rfl ?_)
      refine xr_gd rfl rfl rfl (xv_move rfl ?_)
      refine xr_gd rfl rfl rfl (xv_move rfl ?_)
      refine xr_gd rfl rfl rfl (xv_gtr2 rfl rfl (fun q2 => ?_) (fun q2 => ?_))
      · refine xr_op rfl rfl (xv_pick rfl rfl ?_)
        refine xr_op rfl rfl (xv_move rfl ?_)
        refine xr_no rfl rfl rfl rfl ?_
        refine xr_no rfl rfl rfl rfl ?_
        refine xr_no rfl rfl rfl rfl ?_
        refine xr_no rfl rfl rfl rfl ?_
        refine xr_op rfl rfl (xv_pick rfl rfl ?_)
        refine xr_op rfl rfl (xv_move rfl ?_)
        refine xr_no rfl rfl rfl rfl ?_
        refine xr_no rfl rfl rfl rfl ?_
        refine xr_no rfl rfl rfl rfl ?_
        refine xr_op rfl rfl (xv_pick rfl rfl ?_)
        refine xr_end rfl ?_
        refine th_n ?_
        refine xc_true rfl ?_
        refine xc_seq (xc_region ?_)
        refine xr_op rfl rfl (xv_build bt33 rfl (by ((try apply evl_some rfl);(repeat (first|exact (rfl : _ = [])|apply evl_cons rfl (by (first|exact v_1|exact v_2|exact v_3|exact v_4|exact v_5|exact v_6|exact v_7|exact v_8|exact v_9|exact rfl))|exact rfl)))) ?_)
        refine xr_op rfl rfl (xv_s ty33 rfl rfl (by (first|(apply u_3;(repeat first|exact u_0|assumption|apply u_1|apply u_2);done)|((repeat first|exact u_0|assumption|apply u_1|apply u_2);done)|(apply u_3;apply u_3;(repeat first|exact u_0|assumption|apply u_1|apply u_2);done)|((repeat first|exact u_0|assumption|apply u_3|apply u_1);done))) (by ((try apply evl_some rfl);(repeat (first|exact (rfl : _ = [])|apply evl_cons rfl (by (first|exact v_1|exact v_2|exact v_3|exact v_4|exact v_5|exact v_6|exact v_7|exact v_8|exact v_9|exact rfl))|exact rfl)))) (by rfl) (by rfl) (by rfl) (by ((try apply evl_some rfl);(repeat (first|exact (rfl : _ = [])|apply evl_cons rfl (by (first|exact v_1|exact v_2|exact v_3|exact v_4|exact v_5|exact v_6|exact v_7|exact v_8|exact v_9|exact rfl))|exact rfl)))) ?_)
        refine xr_op rfl rfl (xv_assign rfl ?_)
        refine xr_end rfl ?_
        refine th_n ?_
        refine xc_ret ?_
        refine th_r ?_
        refine body_ret (h' := h) rfl (ro_cellA ty33 rfl rfl (by ((repeat first|exact z_0|assumption|refine z_1 ?_|(refine z_l ?_;(repeat first|exact z_0|assumption|refine z_1 ?_);done)|refine z_r ?_);done)) (by rfl) (by rfl) (ro_tmp rfl ro_nil)) (by (first|((repeat first|exact s_0|exact s_1|exact s_3|refine s_4 ?_|refine s_5 ?_|refine s_6 ?_|refine s_7 ?_);done)|((repeat first|exact s_0|exact s_1|exact s_3|refine s_4 ?_|refine s_5 ?_|refine s_6 ?_|refine s_8 ?_);done))) ?_
        first | (rw [eans] at H; exact H) | (rw [yieldA_1 hng] at H; exact H) | (rw [yieldA_10 hgy hpn] at H; exact H) | (rw [yieldA_2 hgy hP.is (by rw [List.length_map]; omega)] at H; exact H)
      · refine xr_op rfl rfl (xv_pick rfl rfl ?_)
        refine xr_op rfl rfl (xv_move rfl ?_)
        refine xr_gd rfl rfl rfl (xv_move rfl ?_)
        refine xr_gd rfl rfl rfl (xv_move rfl ?_)
        refine xr_gd rfl rfl rfl (xv_len sl53 rfl ?_)
        refine xr_gd rfl rfl rfl (xv_geq2 rfl rfl (fun q3 => ?_) (fun q3 => ?_))
        · refine xr_op rfl rfl (xv_pick rfl rfl ?_)
          refine xr_op rfl rfl (xv_move rfl ?_)
          refine xr_no rfl rfl rfl rfl ?_
          refine xr_no rfl rfl rfl rfl ?_
          refine xr_no rfl rfl rfl rfl ?_
          refine xr_op rfl rfl (xv_pick rfl rfl ?_)
          refine xr_end rfl ?_
          refine th_n ?_
          refine xc_true rfl ?_
          refine xc_seq (xc_region ?_)
          refine xr_op rfl rfl (xv_build bt33 rfl (by ((try apply evl_some rfl);(repeat (first|exact (rfl : _ = [])|apply evl_cons rfl (by (first|exact v_1|exact v_2|exact v_3|exact v_4|exact v_5|exact v_6|exact v_7|exact v_8|exact v_9|exact rfl))|exact rfl)))) ?_)
          refine xr_op rfl rfl (xv_s ty33 rfl rfl (by (first|(apply u_3;(repeat first|exact u_0|assumption|apply u_1|apply u_2);done)|((repeat first|exact u_0|assumption|apply u_1|apply u_2);done)|(apply u_3;apply u_3;(repeat first|exact u_0|assumption|apply u_1|apply u_2);done)|((repeat first|exact u_0|assumption|apply u_3|apply u_1);done))) (by ((try apply evl_some rfl);(repeat (first|exact (rfl : _ = [])|apply evl_cons rfl (by (first|exact v_1|exact v_2|exact v_3|exact v_4|exact v_5|exact v_6|exact v_7|exact v_8|exact v_9|exact rfl))|exact rfl)))) (by rfl) (by rfl) (by rfl) (by ((try apply evl_some rfl);(repeat (first|exact (rfl : _ = [])|apply evl_cons rfl (by (first|exact v_1|exact v_2|exact v_3|exact v_4|exact v_5|exact v_6|exact v_7|exact v_8|exact v_9|exact rfl))|exact rfl)))) ?_)
          refine xr_op rfl rfl (xv_assign rfl ?_)
          refine xr_end rfl ?_
          refine th_n ?_
          refine xc_ret ?_
          refine th_r ?_
          refine body_ret (h' := h) rfl (ro_cellA ty33 rfl rfl (by ((repeat first|exact z_0|assumption|refine z_1 ?_|(refine z_l ?_;(repeat first|exact z_0|assumption|refine z_1 ?_);done)|refine z_r ?_);done)) (by rfl) (by rfl) (ro_tmp rfl ro_nil)) (by (first|((repeat first|exact s_0|exact s_1|exact s_3|refine s_4 ?_|refine s_5 ?_|refine s_6 ?_|refine s_7 ?_);done)|((repeat first|exact s_0|exact s_1|exact s_3|refine s_4 ?_|refine s_5 ?_|refine s_6 ?_|refine s_8 ?_);done))) ?_
          first | (rw [eans] at H; exact H) | (rw [yieldA_1 hng] at H; exact H) | (rw [yieldA_10 hgy hpn] at H; exact H) | (rw [yieldA_2 hgy hP.is (by rw [List.length_map]; omega)] at H; exact H)
        · refine xr_op rfl rfl (xv_pick rfl rfl ?_)
          refine xr_op rfl rfl (xv_move rfl ?_)
          refine xr_gd rfl rfl rfl (xv_move rfl ?_)
          refine xr_gd rfl rfl rfl (xv_calls rfl hb37 (in_c _ _ _ (fun hl4 hu5 => up_ret ?_) (fun hn6 => up_ret ?_)))
          · refine xr_gd rfl rfl rfl (xv_not rfl ?_)
            refine xr_op rfl rfl (xv_pick rfl rfl ?_)
            refine xr_end rfl ?_
            refine th_n ?_
            refine xc_false rfl ?_
            refine xc_skip ?_
            refine th_n ?_
            refine xc_seq (xc_region ?_)
            refine xr_op rfl rfl (xv_assign rfl ?_)
            refine xr_op rfl rfl (xv_assign rfl ?_)
            refine xr_end rfl ?_
            refine th_n ?_
            refine xc_seq ?_
            refine xc_seq (xc_region ?_)
            refine xr_op rfl rfl (xv_assign rfl ?_)
            refine xr_end rfl ?_
            refine th_n ?_
            refine xc_block ?_
            refine xc_loop (σ := Nat × Vec × Vec) (fun z => z.1 ≤ y.coals.length ∧ z.2.1.ok 1 z.1 (((lows y w).take z.1).flatMap eI) ∧ z.2.2.ok 1 z.1 (((highs y w).take z.1).flatMap eI)) (fun z => (((((((((emp.put (some 1) (I f)).put (some 2) (I t)).put (some 3) (I w)).put (some 4) (.pointer (some ⟨b4, 0, none⟩))).put (some 8) (.pointer (some ⟨b8, 0, none⟩))).put (some 10) (.slice qa hds.length qc)).put (some 12) (z.2.1.val z.1)).put (some 13) (z.2.2.val z.1)).put (some 14) (I z.1))) (fun z => (z.2.2.hp 3 (((highs y w).take z.1).flatMap eI) ++ (z.2.1.hp 3 (((lows y w).take z.1).flatMap eI) ++ (V.hp 38 (hds.flatMap eHd) ++ (P ++ (b8, .cells ⟨[I 0, I 0]⟩ 33) :: (b4, .cells ⟨eYard y⟩ 25) :: h))))) (fun z => y.coals.length - z.1) ((0, .nil, .nil) : Nat × Vec × Vec) ⟨Nat.zero_le _, ⟨rfl, rfl⟩, ⟨rfl, rfl⟩⟩ (le_put (le_put (le_put (le_put (le_put (le_put (le_put (le_put (le_put (le_emp _) rfl) rfl) rfl) rfl) rfl) rfl) rfl) rfl) rfl) (by (first|((repeat first|exact s_0|exact s_1|exact s_3|refine s_4 ?_|refine s_5 ?_|refine s_6 ?_|refine s_7 ?_);done)|((repeat first|exact s_0|exact s_1|exact s_3|refine s_4 ?_|refine s_5 ?_|refine s_6 ?_|refine s_8 ?_);done))) ?_
            rintro ⟨k, A1, A2⟩ ⟨hk, hA1, hA2⟩
            dsimp only at hk hA1 hA2
            refine xc_seq ?_
            refine xc_seq (xc_region ?_)
            refine xr_op rfl rfl (xv_move rfl ?_)
            refine xr_op rfl rfl (xv_faddr fl25_0 rfl ?_)
            refine xr_op rfl rfl (xv_load1 ty22 rfl rfl (by ((repeat first|exact z_0|assumption|refine z_1 ?_|(refine z_l ?_;(repeat first|exact z_0|assumption|refine z_1 ?_);done)|refine z_r ?_);done)) (by rfl) ?_)
            refine xr_op rfl rfl (xv_len sl22 rfl ?_)
            refine xr_op rfl rfl (xv_lss2 rfl rfl (fun q7 => ?_) (fun q7 => ?_))
            · refine xr_end rfl ?_
              refine th_n ?_
              refine xc_true rfl ?_
              refine xc_skip ?_
              refine th_n ?_
              refine xc_seq ?_
              refine xc_block ?_
              refine xc_seq (xc_region ?_)
              refine xr_op rfl rfl (xv_faddr fl25_0 rfl ?_)
              refine xr_op rfl rfl (xv_load1 ty22 rfl rfl (by ((repeat first|exact z_0|assumption|refine z_1 ?_|(refine z_l ?_;(repeat first|exact z_0|assumption|refine z_1 ?_);done)|refine z_r ?_);done)) (by rfl) ?_)
              refine xr_op rfl rfl (xv_move rfl ?_)
              have hlto : k < y.coals.length := by (first | omega | (dsimp only at *; omega) | (simp at *; omega))
              obtain ⟨bo, oo, lo, to, fzo, hao, hmo, hxo⟩ := (hy.coals).at hlto
              obtain ⟨xo, hko⟩ : ∃ qq_, y.coals[k]? = some qq_ := ⟨_, List.getElem?_eq_getElem hlto⟩
              obtain ⟨o1, o2, o3⟩ := ofF_ok (w := w) (hgy.1 xo (List.mem_of_getElem? hko)) (by omega) (by omega)
              refine xr_op rfl rfl (xv_ia (sz := 8) (j := k) sl22 ty59 rfl (by rw [hao]; rfl) rfl (by (first | assumption | with_reducible exact Int.toNat_natCast _ | with_reducible rfl | rfl)) (by (first | omega | (dsimp only at *; omega) | (simp at *; omega))) (by (first | omega | (dsimp only at *; omega) | (simp at *; omega))) ?_)
              refine xr_op rfl rfl (xv_loadA ty59 rfl rfl (by ((repeat first|exact z_0|assumption|refine z_1 ?_|(refine z_l ?_;(repeat first|exact z_0|assumption|refine z_1 ?_);done)|refine z_r ?_);done)) (hxo (k) xo hko) rfl ?_)
              refine xr_op rfl rfl (xv_move rfl ?_)
              refine xr_op rfl rfl (xv_calls rfl hb45 (of_c (by omega) (by omega) (up_ret ?_)))
              refine xr_op rfl rfl (xv_alloc ty33 (fun b15 hb15 => ?_))
              refine xr_op rfl rfl (xv_s ty33 rfl rfl (by (first|(apply u_3;(repeat first|exact u_0|assumption|apply u_1|apply u_2);done)|((repeat first|exact u_0|assumption|apply u_1|apply u_2);done)|(apply u_3;apply u_3;(repeat first|exact u_0|assumption|apply u_1|apply u_2);done)|((repeat first|exact u_0|assumption|apply u_3|apply u_1);done))) (by ((try apply evl_some rfl);(repeat (first|exact (rfl : _ = [])|apply evl_cons rfl (by (first|exact v_1|exact v_2|exact v_3|exact v_4|exact v_5|exact v_6|exact v_7|exact v_8|exact v_9|exact rfl))|exact rfl)))) (by rfl) (by rfl) (by rfl) (by ((try apply evl_some rfl);(repeat (first|exact (rfl : _ = [])|apply evl_cons rfl (by (first|exact v_1|exact v_2|exact v_3|exact v_4|exact v_5|exact v_6|exact v_7|exact v_8|exact v_9|exact rfl))|exact rfl)))) ?_)
              refine xr_end rfl ?_
              refine th_n ?_
              refine xc_seq (xc_region ?_)
              refine xr_op rfl rfl (xv_move rfl ?_)
              refine xr_op rfl rfl (xv_faddr fl33_0 rfl ?_)
              refine xr_op rfl rfl (xv_load1 ty3 rfl rfl (by ((repeat first|exact z_0|assumption|refine z_1 ?_|(refine z_l ?_;(repeat first|exact z_0|assumption|refine z_1 ?_);done)|refine z_r ?_);done)) (by rfl) ?_)
              refine xr_op rfl rfl ((al_buildSlice sl38 ty3 rfl rfl rfl rfl rfl (by ((try apply evl_some rfl);(repeat (first|exact (rfl : _ = [])|apply evl_cons rfl (by (first|exact v_1|exact v_2|exact v_3|exact v_4|exact v_5|exact v_6|exact v_7|exact v_8|exact v_9|exact rfl))|exact rfl))))).xv (fun b66 hb66 => ?_))
              refine xr_op rfl rfl (xv_append (V := A1) (n := k) (xs := ((lows y w).take k).flatMap eI) sl38 ty3 rfl rfl rfl hA1 (.there (.there (.skip .here))) (by ((repeat first|exact z_0|assumption|refine z_1 ?_|(refine z_l ?_;(repeat first|exact z_0|assumption|refine z_1 ?_);done)|refine z_r ?_);done)) (by ((try apply evl_some rfl);(repeat (first|exact (rfl : _ = [])|apply evl_cons rfl (by (first|exact v_1|exact v_2|exact v_3|exact v_4|exact v_5|exact v_6|exact v_7|exact v_8|exact v_9|exact rfl))|exact rfl)))) rfl rfl (by (first | omega | (dsimp only at *; omega) | (simp at *; omega))) (by simp only []; (first | omega | (dsimp only at *; omega) | (simp at *; omega))) (by (first | omega | (dsimp only at *; omega) | (simp at *; omega))) (fun B1 hB1 => ?_))
              refine xr_op rfl rfl (xv_assign rfl ?_)
              refine xr_end rfl ?_
              refine th_n ?_
              refine xc_region ?_
              refine xr_op rfl rfl (xv_move rfl ?_)
              refine xr_op rfl rfl (xv_faddr fl33_1 rfl ?_)
              refine xr_op rfl rfl (xv_load1 ty3 rfl rfl (by ((repeat first|exact z_0|assumption|refine z_1 ?_|(refine z_l ?_;(repeat first|exact z_0|assumption|refine z_1 ?_);done)|refine z_r ?_);done)) (by rfl) ?_)
              refine xr_op rfl rfl (xv_neg rfl (wrap_i64 (by (first | omega | (dsimp only at *; omega) | (simp at *; omega))) (by (first | omega | (dsimp only at *; omega) | (simp at *; omega)))) ?_)
              refine xr_op rfl rfl ((al_buildSlice sl38 ty3 rfl rfl rfl rfl rfl (by ((try apply evl_some rfl);(repeat (first|exact (rfl : _ = [])|apply evl_cons rfl (by (first|exact v_1|exact v_2|exact v_3|exact v_4|exact v_5|exact v_6|exact v_7|exact v_8|exact v_9|exact rfl))|exact rfl))))).xv (fun b72 hb72 => ?_))
              refine xr_op rfl rfl (xv_append (V := A2) (n := k) (xs := ((highs y w).take k).flatMap eI) sl38 ty3 rfl rfl rfl hA2 (.there (.skip (.there (.there .here)))) (by ((repeat first|exact z_0|assumption|refine z_1 ?_|(refine z_l ?_;(repeat first|exact z_0|assumption|refine z_1 ?_);done)|refine z_r ?_);done)) (by ((try apply evl_some rfl);(repeat (first|exact (rfl : _ = [])|apply evl_cons rfl (by (first|exact v_1|exact v_2|exact v_3|exact v_4|exact v_5|exact v_6|exact v_7|exact v_8|exact v_9|exact rfl))|exact rfl)))) rfl rfl (by (first | omega | (dsimp only at *; omega) | (simp at *; omega))) (by simp only []; (first | omega | (dsimp only at *; omega) | (simp at *; omega))) (by (first | omega | (dsimp only at *; omega) | (simp at *; omega))) (fun B2 hB2 => ?_))
              refine xr_op rfl rfl (xv_assign rfl ?_)
              refine xr_end rfl ?_
              refine bk_n ?_
              refine th_n ?_
              refine xc_region ?_
              refine xr_op rfl rfl (xv_move rfl ?_)
              refine xr_op rfl rfl (xv_add rfl rfl (wrap_i64 (by (first | omega | (dsimp only at *; omega) | (simp at *; omega))) (by (first | omega | (dsimp only at *; omega) | (simp at *; omega)))) ?_)
              refine xr_op rfl rfl (xv_assign rfl ?_)
              refine xr_end rfl ?_
              have e1 : ((lows y w).take (k + 1)).flatMap eI = ((lows y w).take k).flatMap eI ++ [I (ofF xo w).lo] := by rw [List.take_add_one, show (lows y w)[k]? = some (ofF xo w).lo from by unfold lows; rw [List.getElem?_map, hko]; rfl, List.flatMap_append]; rfl
              have e2 : ((highs y w).take (k + 1)).flatMap eI = ((highs y w).take k).flatMap eI ++ [I (0 - (ofF xo w).hi)] := by rw [List.take_add_one, show (highs y w)[k]? = some (0 - (ofF xo w).hi) from by unfold highs; rw [List.getElem?_map, hko, Int.zero_sub]; rfl, List.flatMap_append]; rfl
              exact rnd ((k + 1, B1, B2) : Nat × Vec × Vec) ⟨by (first | omega | (dsimp only at *; omega) | (simp at *; omega)), by dsimp only; rw [e1]; exact hB1, by dsimp only; rw [e2]; exact hB2⟩ (by (first | omega | (dsimp only at *; omega) | (simp at *; omega))) (le_put (le_put (le_put (le_put (le_put (le_put (le_put (le_put (le_put (le_emp _) rfl) rfl) rfl) rfl) rfl) rfl) rfl) rfl) rfl) (by dsimp only; rw [e1, e2]; (first|((repeat first|exact s_0|exact s_1|exact s_3|refine s_4 ?_|refine s_5 ?_|refine s_6 ?_|refine s_7 ?_);done)|((repeat first|exact s_0|exact s_1|exact s_3|refine s_4 ?_|refine s_5 ?_|refine s_6 ?_|refine s_8 ?_);done)))
            · refine xr_end rfl ?_
              refine th_n ?_
              refine xc_false rfl ?_
              refine xc_exit ?_
              refine th_x ?_
              refine th_x ?_
              refine bk_same ?_
              refine th_n ?_
              refine xc_seq (xc_region ?_)
              obtain rfl : k = y.coals.length := by (first | omega | (dsimp only at *; omega) | (simp at *; omega))
              have eL : ((lows y w).take y.coals.length) = lows y w := by rw [← lows_len y w, List.take_length]
              have eH : ((highs y w).take y.coals.length) = highs y w := by rw [← highs_len y w, List.take_length]
              rw [eL] at hA1 ⊢
              rw [eH] at hA2 ⊢
              obtain ⟨la, lc, hlv, hls⟩ := Vec.slv (enc := eI) (t := 3) (xs := lows y w) (V := A1) (h := A1.hp 3 ((lows y w).flatMap eI)) eI_len (by rw [lows_len]; exact hA1) (fun _ hz => hz)
              rw [lows_len] at hlv
              rw [hlv]
              obtain ⟨ha, hc, hhv, hhs⟩ := Vec.slv (enc := eI) (t := 3) (xs := highs y w) (V := A2) (h := A2.hp 3 ((highs y w).flatMap eI)) eI_len (by rw [highs_len]; exact hA2) (fun _ hz => hz)
              rw [highs_len] at hhv
              rw [hhv]
              have hnf : ∀ i, 0 ≤ (needF (hds.map Hd.m) f t) i ∧ (needF (hds.map Hd.m) f t) i ≤ 33554432 := fun i => by have h1 := taken_part hP.bd f.toNat (t.toNat + 1 - f.toNat) i; have h2 := taken_bd hP.bd i; rw [List.length_map] at h2; unfold needF; omega
              have hno : ∀ i, i < (opn y.moves).1 → (needF (hds.map Hd.m) f t) i ≤ sumI (contE y i) := fun i hi => by have h1 := taken_part hP.bd f.toNat (t.toNat + 1 - f.toNat) i; have h2 := hP.room i hi; unfold roomR at h2; unfold needF contE; omega
              have eans := yieldA_0 (f := f) (t := t) (w := w) hgy (vs := hds.map Hd.m) hP.is (by rw [List.length_map]; omega)
              refine xr_op rfl rfl (xv_alloc ty33 (fun b16 hb16 => ?_))
              refine xr_end rfl ?_
              refine th_n ?_
              refine xc_seq ?_
              refine xc_seq (xc_region ?_)
              refine xr_op rfl rfl (xv_assign rfl ?_)
              refine xr_end rfl ?_
              refine th_n ?_
              refine xc_block ?_
              refine xc_loop (σ := Nat) (fun j => j ≤ (opn y.moves).1) (fun j => (((((((((emp.put (some 1) (I f)).put (some 2) (I t)).put (some 4) (.pointer (some ⟨b4, 0, none⟩))).put (some 8) (.pointer (some ⟨b8, 0, none⟩))).put (some 10) (.slice qa hds.length qc)).put (some 12) (.slice la y.coals.length lc)).put (some 13) (.slice ha y.coals.length hc)).put (some 16) (.pointer (some ⟨b16, 0, none⟩))).put (some 17) (I j))) (fun j => ((b16, .cells ⟨[I (yLo y w (needF (hds.map Hd.m) f t) j), I (yHi y w (needF (hds.map Hd.m) f t) j)]⟩ 33) :: (A2.hp 3 ((highs y w).flatMap eI) ++ (A1.hp 3 ((lows y w).flatMap eI) ++ (V.hp 38 (hds.flatMap eHd) ++ (P ++ (b8, .cells ⟨[I 0, I 0]⟩ 33) :: (b4, .cells ⟨eYard y⟩ 25) :: h)))))) (fun j => (opn y.moves).1 - j) 0 (Nat.zero_le _) (le_put (le_put (le_put (le_put (le_put (le_put (le_put (le_put (le_put (le_emp _) rfl) rfl) rfl) rfl) rfl) rfl) rfl) rfl) rfl) (by (first|((repeat first|exact s_0|exact s_1|exact s_3|refine s_4 ?_|refine s_5 ?_|refine s_6 ?_|refine s_7 ?_);done)|((repeat first|exact s_0|exact s_1|exact s_3|refine s_4 ?_|refine s_5 ?_|refine s_6 ?_|refine s_8 ?_);done))) ?_
              rintro j hj
              have hcb : ∀ x ∈ contE y j, 0 ≤ x ∧ x ≤ 1048576 * 1000 := fun x hx => by have := contF_bd (j := (j : Int)) (movesOk_mono y.moves.length hgy.2.1) x hx; rw [List.length_take] at this; omega
              have hyb := yield_bd (y := y) (w := w) (need := (needF (hds.map Hd.m) f t)) hgy.1 (by omega) (by omega) hnf j
              refine xc_seq ?_
              refine xc_seq (xc_region ?_)
              refine xr_op rfl rfl (xv_move rfl ?_)
              refine xr_op rfl rfl (xv_loadA ty25 rfl rfl (by ((repeat first|exact z_0|assumption|refine z_1 ?_|(refine z_l ?_;(repeat first|exact z_0|assumption|refine z_1 ?_);done)|refine z_r ?_);done)) (by ((try apply evl_some rfl);(repeat (first|exact (rfl : _ = [])|apply evl_cons rfl (by (first|exact v_1|exact v_2|exact v_3|exact v_4|exact v_5|exact v_6|exact v_7|exact v_8|exact v_9|exact rfl))|exact rfl)))) (by rfl) ?_)
              refine xr_op rfl rfl (xv_calls rfl hb38 (Layers_c (hy.sub (by intro z hz; ((repeat first|exact z_0|assumption|refine z_1 ?_|(refine z_l ?_;(repeat first|exact z_0|assumption|refine z_1 ?_);done)|refine z_r ?_);done))) hgy.2.1 hs2 (up_ret ?_)))
              refine xr_op rfl rfl (xv_lss2 rfl rfl (fun q8 => ?_) (fun q8 => ?_))
              · refine xr_end rfl ?_
                refine th_n ?_
                refine xc_true rfl ?_
                refine xc_skip ?_
                refine th_n ?_
                refine xc_seq ?_
                refine xc_block ?_
                refine xc_seq (xc_region ?_)
                refine xr_op rfl rfl (xv_assign rfl ?_)
                refine xr_end rfl ?_
                refine th_n ?_
                refine xc_seq ?_
                refine xc_seq (xc_region ?_)
                refine xr_op rfl rfl (xv_move rfl ?_)
                refine xr_op rfl rfl (xv_assign rfl ?_)
                refine xr_end rfl ?_
                refine th_n ?_
                refine xc_block ?_
                refine xc_loop (σ := Nat) (fun q => f + (q : Int) ≤ t + 1) (fun q => (((((((((((emp.put (some 1) (I f)).put (some 2) (I t)).put (some 4) (.pointer (some ⟨b4, 0, none⟩))).put (some 8) (.pointer (some ⟨b8, 0, none⟩))).put (some 10) (.slice qa hds.length qc)).put (some 12) (.slice la y.coals.length lc)).put (some 13) (.slice ha y.coals.length hc)).put (some 16) (.pointer (some ⟨b16, 0, none⟩))).put (some 17) (I j)).put (some 18) (I (takenR (((hds.map Hd.m).drop f.toNat).take q) j))).put (some 19) (I (f + (q : Int))))) (fun q => ((b16, .cells ⟨[I (yLo y w (needF (hds.map Hd.m) f t) j), I (yHi y w (needF (hds.map Hd.m) f t) j)]⟩ 33) :: (A2.hp 3 ((highs y w).flatMap eI) ++ (A1.hp 3 ((lows y w).flatMap eI) ++ (V.hp 38 (hds.flatMap eHd) ++ (P ++ (b8, .cells ⟨[I 0, I 0]⟩ 33) :: (b4, .cells ⟨eYard y⟩ 25) :: h)))))) (fun q => t.toNat + 1 - f.toNat - q) 0 (by omega) (le_put (le_put (le_put (le_put (le_put (le_put (le_put (le_put (le_put (le_put (le_put (le_emp _) rfl) rfl) rfl) rfl) rfl) rfl) rfl) rfl) rfl) rfl) (by show _ = some (I (f + 0)); rw [Int.add_zero]; rfl)) (by (first|((repeat first|exact s_0|exact s_1|exact s_3|refine s_4 ?_|refine s_5 ?_|refine s_6 ?_|refine s_7 ?_);done)|((repeat first|exact s_0|exact s_1|exact s_3|refine s_4 ?_|refine s_5 ?_|refine s_6 ?_|refine s_8 ?_);done))) ?_
                rintro q hq
                refine xc_seq ?_
                refine xc_seq (xc_region ?_)
                refine xr_op rfl rfl (xv_move rfl ?_)
                refine xr_op rfl rfl (xv_move rfl ?_)
                refine xr_op rfl rfl (xv_leq2 rfl rfl (fun q9 => ?_) (fun q9 => ?_))
                · refine xr_end rfl ?_
                  refine th_n ?_
                  refine xc_true rfl ?_
                  refine xc_skip ?_
                  refine th_n ?_
                  refine xc_seq ?_
                  refine xc_block ?_
                  refine xc_region ?_
                  refine xr_op rfl rfl (xv_move rfl ?_)
                  refine xr_op rfl rfl (xv_move rfl ?_)
                  have hqn : f.toNat + q < hds.length := by (first | omega | (dsimp only at *; omega) | (simp at *; omega))
                  have hltw : (f.toNat + q) < hds.length := hqn
                  obtain ⟨bw, ow, lw, tw, fzw, haw, hmw, hxw⟩ := ((hqs.sub (by intro z hz; ((repeat first|exact z_0|assumption|refine z_1 ?_|(refine z_l ?_;(repeat first|exact z_0|assumption|refine z_1 ?_);done)|refine z_r ?_);done)) : SlV ((b16, .cells ⟨[I (yLo y w (needF (hds.map Hd.m) f t) j), I (yHi y w (needF (hds.map Hd.m) f t) j)]⟩ 33) :: (A2.hp 3 ((highs y w).flatMap eI) ++ (A1.hp 3 ((lows y w).flatMap eI) ++ (V.hp 38 (hds.flatMap eHd) ++ (P ++ (b8, .cells ⟨[I 0, I 0]⟩ 33) :: (b4, .cells ⟨eYard y⟩ 25) :: h))))) 1 eHd qa hds)).at hltw
                  obtain ⟨xw, hkw⟩ : ∃ qq_, hds[(f.toNat + q)]? = some qq_ := ⟨_, List.getElem?_eq_getElem hltw⟩
                  have hxw9 := List.mem_of_getElem? hkw
                  have hpm : ((hds.map Hd.m).drop f.toNat)[q]? = some xw.m := by rw [List.getElem?_drop, List.getElem?_map, hkw]; rfl
                  have hwl := hP.len xw.m (List.mem_map.2 ⟨xw, hxw9, rfl⟩)
                  have hlte : j < xw.m.length := by (first | omega | (dsimp only at *; omega) | (simp at *; omega))
                  obtain ⟨be, oe, le, te, fze, hae, hme, hxe⟩ := (((hS xw hxw9).sub (by intro z hz; ((repeat first|exact z_0|assumption|refine z_1 ?_|(refine z_l ?_;(repeat first|exact z_0|assumption|refine z_1 ?_);done)|refine z_r ?_);done)) : SlV ((b16, .cells ⟨[I (yLo y w (needF (hds.map Hd.m) f t) j), I (yHi y w (needF (hds.map Hd.m) f t) j)]⟩ 33) :: (A2.hp 3 ((highs y w).flatMap eI) ++ (A1.hp 3 ((lows y w).flatMap eI) ++ (V.hp 38 (hds.flatMap eHd) ++ (P ++ (b8, .cells ⟨[I 0, I 0]⟩ 33) :: (b4, .cells ⟨eYard y⟩ 25) :: h))))) 1 eI xw.a xw.m)).at hlte
                  obtain ⟨xe, hke⟩ : ∃ qq_, xw.m[j]? = some qq_ := ⟨_, List.getElem?_eq_getElem hlte⟩
                  have hebb := hP.bd xw.m (List.mem_map.2 ⟨xw, hxw9, rfl⟩) xe (List.mem_of_getElem? hke)
                  have hgd : xw.m.getD j 0 = xe := by rw [List.getD_eq_getElem?_getD, hke]; rfl
                  have htp := taken_part hP.bd f.toNat q j
                  have htb := taken_bd hP.bd j
                  rw [List.length_map] at htb
                  refine xr_op rfl rfl (xv_move rfl ?_)
                  refine xr_op rfl rfl (xv_ia (sz := 1) (j := f.toNat + q) sl53 ty38 rfl (by rw [haw]; rfl) rfl (by omega) (by (first | omega | (dsimp only at *; omega) | (simp at *; omega))) (by (first | omega | (dsimp only at *; omega) | (simp at *; omega))) ?_)
                  refine xr_op rfl rfl (xv_load1 ty38 rfl rfl (by ((repeat first|exact z_0|assumption|refine z_1 ?_|(refine z_l ?_;(repeat first|exact z_0|assumption|refine z_1 ?_);done)|refine z_r ?_);done)) (take_get (hxw ((f.toNat + q)) xw hkw) (j := 0) rfl) ?_)
                  refine xr_op rfl rfl (xv_move rfl ?_)
                  refine xr_op rfl rfl (xv_ia (sz := 1) (j := j) sl38 ty3 rfl (by rw [hae]; rfl) rfl (by (first | assumption | with_reducible exact Int.toNat_natCast _ | with_reducible rfl | rfl)) (by (first | omega | (dsimp only at *; omega) | (simp at *; omega))) (by (first | omega | (dsimp only at *; omega) | (simp at *; omega))) ?_)
                  refine xr_op rfl rfl (xv_load1 ty3 rfl rfl (by ((repeat first|exact z_0|assumption|refine z_1 ?_|(refine z_l ?_;(repeat first|exact z_0|assumption|refine z_1 ?_);done)|refine z_r ?_);done)) (take_get (hxe (j) xe hke) (j := 0) rfl) ?_)
                  refine xr_op rfl rfl (xv_add rfl rfl (wrap_i64 (by (first | omega | (dsimp only at *; omega) | (simp at *; omega))) (by (first | omega | (dsimp only at *; omega) | (simp at *; omega)))) ?_)
                  refine xr_op rfl rfl (xv_assign rfl ?_)
                  refine xr_end rfl ?_
                  refine bk_n ?_
                  refine th_n ?_
                  refine xc_region ?_
                  refine xr_op rfl rfl (xv_move rfl ?_)
                  refine xr_op rfl rfl (xv_add rfl rfl (wrap_i64 (by (first | omega | (dsimp only at *; omega) | (simp at *; omega))) (by (first | omega | (dsimp only at *; omega) | (simp at *; omega)))) ?_)
                  refine xr_op rfl rfl (xv_assign rfl ?_)
                  refine xr_end rfl ?_
                  exact rnd (q + 1) (by (first | omega | (dsimp only at *; omega) | (simp at *; omega))) (by (first | omega | (dsimp only at *; omega) | (simp at *; omega))) (le_put (le_put (le_put (le_put (le_put (le_put (le_put (le_put (le_put (le_put (le_put (le_emp _) rfl) rfl) rfl) rfl) rfl) rfl) rfl) rfl) rfl) (by rw [taken_take hpm, hgd]; rfl)) (by rw [show f + ((q + 1 : Nat) : Int) = f + (q : Int) + 1 from by omega]; rfl)) (by (first|((repeat first|exact s_0|exact s_1|exact s_3|refine s_4 ?_|refine s_5 ?_|refine s_6 ?_|refine s_7 ?_);done)|((repeat first|exact s_0|exact s_1|exact s_3|refine s_4 ?_|refine s_5 ?_|refine s_6 ?_|refine s_8 ?_);done)))
                · refine xr_end rfl ?_
                  refine th_n ?_
                  refine xc_false rfl ?_
                  refine xc_exit ?_
                  refine th_x ?_
                  refine th_x ?_
                  refine bk_same ?_
                  refine th_n ?_
                  refine xc_seq (xc_region ?_)
                  have enj : (takenR (((hds.map Hd.m).drop f.toNat).take q) j) = (needF (hds.map Hd.m) f t) j := by unfold needF; rw [show t.toNat + 1 - f.toNat = q by (first | omega | (dsimp only at *; omega) | (simp at *; omega))]
                  rw [enj]
                  have hnj := hno j (by (first | omega | (dsimp only at *; omega) | (simp at *; omega)))
                  have hg1 := gval_bd (room := contE y j) (each := lows y w) (by rw [lows_len, contE_len]) (lows_bd hgy.1 (by omega) (by omega)) (hnf j).1
                  have hg2 := gval_bd (room := contE y j) (each := highs y w) (by rw [highs_len, contE_len]) (highs_bd hgy.1 (by omega) (by omega)) (hnf j).1
                  have hnj2 := (hnf j).2
                  refine xr_op rfl rfl (xv_loadA ty25 rfl rfl (by ((repeat first|exact z_0|assumption|refine z_1 ?_|(refine z_l ?_;(repeat first|exact z_0|assumption|refine z_1 ?_);done)|refine z_r ?_);done)) (by ((try apply evl_some rfl);(repeat (first|exact (rfl : _ = [])|apply evl_cons rfl (by (first|exact v_1|exact v_2|exact v_3|exact v_4|exact v_5|exact v_6|exact v_7|exact v_8|exact v_9|exact rfl))|exact rfl)))) (by rfl) ?_)
                  refine xr_op rfl rfl (xv_move rfl ?_)
                  refine xr_op rfl rfl (xv_faddr fl25_1 rfl ?_)
                  refine xr_op rfl rfl (xv_load1 ty23 rfl rfl (by ((repeat first|exact z_0|assumption|refine z_1 ?_|(refine z_l ?_;(repeat first|exact z_0|assumption|refine z_1 ?_);done)|refine z_r ?_);done)) (by rfl) ?_)
                  refine xr_op rfl rfl (xv_len sl23 rfl ?_)
                  refine xr_op rfl rfl (xv_calls rfl hb20 (Contents_c (hy.sub (by intro z hz; ((repeat first|exact z_0|assumption|refine z_1 ?_|(refine z_l ?_;(repeat first|exact z_0|assumption|refine z_1 ?_);done)|refine z_r ?_);done))) (j := (j : Int)) (upto := y.moves.length) hgy.2.1 hs1 hs2 (Nat.le_refl _) (fun bc => up_ret ?_)))
                  refine xr_op rfl rfl (xv_assign rfl ?_)
                  refine xr_end rfl ?_
                  refine th_n ?_
                  refine xc_seq ?_
                  refine xc_draw0 [(0, .S), (1, .R), (2, .S), (3, .S), (4, .S), (5, .R), (6, .S), (7, .S), (8, .O)] mixed (by kernel_rfl) ?_
                  refine js_S rfl rfl (.inl rfl) (xv_faddr fl33_0 rfl ⟨rfl, rfl⟩) ?_
                  refine js_R0 rfl rfl (.inl rfl) (xv_load1 ty3 rfl rfl (by ((repeat first|exact z_0|assumption|refine z_1 ?_|(refine z_l ?_;(repeat first|exact z_0|assumption|refine z_1 ?_);done)|refine z_r ?_);done)) (by rfl) ⟨rfl, rfl⟩) ?_
                  refine js_S rfl rfl (.inl rfl) (xv_move rfl ⟨rfl, rfl⟩) ?_
                  refine js_S rfl rfl (.inl rfl) (xv_move rfl ⟨rfl, rfl⟩) ?_
                  refine js_S rfl rfl (.inl rfl) (xv_move rfl ⟨rfl, rfl⟩) ?_
                  refine js_R0 rfl rfl (.inl rfl) (xv_calls rfl hb46 (leastG_c (room := contE y j) (each := lows y w) (contE_len _ _).symm (lows_len _ _).symm (slvL eI_len (by ((repeat first|exact z_0|assumption|refine z_1 ?_|(refine z_l ?_;(repeat first|exact z_0|assumption|refine z_1 ?_);done)|refine z_r ?_);done))) (hls.sub (by intro z hz; ((repeat first|exact z_0|assumption|refine z_1 ?_|(refine z_l ?_;(repeat first|exact z_0|assumption|refine z_1 ?_);done)|refine z_r ?_);done))) (by rw [lows_len, contE_len]) (by rw [contE_len]; omega) (by rw [contE_len]; omega) (fun x hx => by have := hcb x hx; omega) (lows_bd hgy.1 (by omega) (by omega)) (hnf j).1 hnj (up_ret ⟨rfl, rfl⟩))) ?_
                  refine js_S rfl rfl (.inl rfl) (xv_add rfl rfl (wrap_i64 (by (first | omega | (dsimp only at *; omega) | (simp at *; omega))) (by (first | omega | (dsimp only at *; omega) | (simp at *; omega)))) ⟨rfl, rfl⟩) ?_
                  refine js_S rfl rfl (.inl rfl) (xv_faddr fl33_0 rfl ⟨rfl, rfl⟩) ?_
                  refine js_O0 rfl rfl (.inl rfl) (xv_s1 ty3 rfl rfl rfl (by (first|(apply u_3;(repeat first|exact u_0|assumption|apply u_1|apply u_2);done)|((repeat first|exact u_0|assumption|apply u_1|apply u_2);done)|(apply u_3;apply u_3;(repeat first|exact u_0|assumption|apply u_1|apply u_2);done)|((repeat first|exact u_0|assumption|apply u_3|apply u_1);done))) (by (first | rfl | exact Vec.one _ _)) (by (first | decide | exact Nat.le_of_ble_eq_true rfl | (simp only [List.length_cons, List.length_nil]; omega) | (simp; done))) (by ((try apply evl_some rfl);(repeat (first|exact (rfl : _ = [])|apply evl_cons rfl (by (first|exact v_1|exact v_2|exact v_3|exact v_4|exact v_5|exact v_6|exact v_7|exact v_8|exact v_9|exact rfl))|exact rfl)))) ?_)
                  refine j_end0 ?_
                  refine th_n ?_
                  refine xc_draw0 [(0, .S), (1, .R), (2, .S), (3, .S), (4, .S), (5, .R), (6, .S), (7, .S), (8, .O)] mixed (by kernel_rfl) ?_
                  refine js_S rfl rfl (.inl rfl) (xv_faddr fl33_1 rfl ⟨rfl, rfl⟩) ?_
                  refine js_R0 rfl rfl (.inl rfl) (xv_load1 ty3 rfl rfl (by ((repeat first|exact z_0|assumption|refine z_1 ?_|(refine z_l ?_;(repeat first|exact z_0|assumption|refine z_1 ?_);done)|refine z_r ?_);done)) (by rfl) ⟨rfl, rfl⟩) ?_
                  refine js_S rfl rfl (.inl rfl) (xv_move rfl ⟨rfl, rfl⟩) ?_
                  refine js_S rfl rfl (.inl rfl) (xv_move rfl ⟨rfl, rfl⟩) ?_
                  refine js_S rfl rfl (.inl rfl) (xv_move rfl ⟨rfl, rfl⟩) ?_
                  refine js_R0 rfl rfl (.inl rfl) (xv_calls rfl hb46 (leastG_c (room := contE y j) (each := highs y w) (contE_len _ _).symm (highs_len _ _).symm (slvL eI_len (by ((repeat first|exact z_0|assumption|refine z_1 ?_|(refine z_l ?_;(repeat first|exact z_0|assumption|refine z_1 ?_);done)|refine z_r ?_);done))) (hhs.sub (by intro z hz; ((repeat first|exact z_0|assumption|refine z_1 ?_|(refine z_l ?_;(repeat first|exact z_0|assumption|refine z_1 ?_);done)|refine z_r ?_);done))) (by rw [highs_len, contE_len]) (by rw [contE_len]; omega) (by rw [contE_len]; omega) (fun x hx => by have := hcb x hx; omega) (highs_bd hgy.1 (by omega) (by omega)) (hnf j).1 hnj (up_ret ⟨rfl, rfl⟩))) ?_
                  refine js_S rfl rfl (.inl rfl) (xv_sub rfl rfl (wrap_i64 (by (first | omega | (dsimp only at *; omega) | (simp at *; omega))) (by (first | omega | (dsimp only at *; omega) | (simp at *; omega)))) ⟨rfl, rfl⟩) ?_
                  refine js_S rfl rfl (.inl rfl) (xv_faddr fl33_1 rfl ⟨rfl, rfl⟩) ?_
                  refine js_O0 rfl rfl (.inl rfl) (xv_s1 ty3 rfl rfl rfl (by (first|(apply u_3;(repeat first|exact u_0|assumption|apply u_1|apply u_2);done)|((repeat first|exact u_0|assumption|apply u_1|apply u_2);done)|(apply u_3;apply u_3;(repeat first|exact u_0|assumption|apply u_1|apply u_2);done)|((repeat first|exact u_0|assumption|apply u_3|apply u_1);done))) (by (first | rfl | exact Vec.one _ _)) (by (first | decide | exact Nat.le_of_ble_eq_true rfl | (simp only [List.length_cons, List.length_nil]; omega) | (simp; done))) (by ((try apply evl_some rfl);(repeat (first|exact (rfl : _ = [])|apply evl_cons rfl (by (first|exact v_1|exact v_2|exact v_3|exact v_4|exact v_5|exact v_6|exact v_7|exact v_8|exact v_9|exact rfl))|exact rfl)))) ?_)
                  refine j_end0 ?_
                  refine bk_n ?_
                  refine th_n ?_
                  refine xc_region ?_
                  refine xr_op rfl rfl (xv_move rfl ?_)
                  refine xr_op rfl rfl (xv_add rfl rfl (wrap_i64 (by (first | omega | (dsimp only at *; omega) | (simp at *; omega))) (by (first | omega | (dsimp only at *; omega) | (simp at *; omega)))) ?_)
                  refine xr_op rfl rfl (xv_assign rfl ?_)
                  refine xr_end rfl ?_
                  exact rnd (j + 1) (by (first | omega | (dsimp only at *; omega) | (simp at *; omega))) (by (first | omega | (dsimp only at *; omega) | (simp at *; omega))) (le_put (le_put (le_put (le_put (le_put (le_put (le_put (le_put (le_put (le_emp _) rfl) rfl) rfl) rfl) rfl) rfl) rfl) rfl) rfl) (by rw [yLo, yHi]; (first|((repeat first|exact s_0|exact s_1|exact s_3|refine s_4 ?_|refine s_5 ?_|refine s_6 ?_|refine s_7 ?_);done)|((repeat first|exact s_0|exact s_1|exact s_3|refine s_4 ?_|refine s_5 ?_|refine s_6 ?_|refine s_8 ?_);done)))
              · refine xr_end rfl ?_
                refine th_n ?_
                refine xc_false rfl ?_
                refine xc_exit ?_
                refine th_x ?_
                refine th_x ?_
                refine bk_same ?_
                refine th_n ?_
                refine xc_seq (xc_region ?_)
                obtain rfl : (opn y.moves).1 = j := by (first | omega | (dsimp only at *; omega) | (simp at *; omega))
                refine xr_op rfl rfl (xv_loadA ty33 rfl rfl (by ((repeat first|exact z_0|assumption|refine z_1 ?_|(refine z_l ?_;(repeat first|exact z_0|assumption|refine z_1 ?_);done)|refine z_r ?_);done)) (by ((try apply evl_some rfl);(repeat (first|exact (rfl : _ = [])|apply evl_cons rfl (by (first|exact v_1|exact v_2|exact v_3|exact v_4|exact v_5|exact v_6|exact v_7|exact v_8|exact v_9|exact rfl))|exact rfl)))) (by rfl) ?_)
                refine xr_op rfl rfl (xv_s ty33 rfl rfl (by (first|(apply u_3;(repeat first|exact u_0|assumption|apply u_1|apply u_2);done)|((repeat first|exact u_0|assumption|apply u_1|apply u_2);done)|(apply u_3;apply u_3;(repeat first|exact u_0|assumption|apply u_1|apply u_2);done)|((repeat first|exact u_0|assumption|apply u_3|apply u_1);done))) (by ((try apply evl_some rfl);(repeat (first|exact (rfl : _ = [])|apply evl_cons rfl (by (first|exact v_1|exact v_2|exact v_3|exact v_4|exact v_5|exact v_6|exact v_7|exact v_8|exact v_9|exact rfl))|exact rfl)))) (by rfl) (by rfl) (by rfl) (by ((try apply evl_some rfl);(repeat (first|exact (rfl : _ = [])|apply evl_cons rfl (by (first|exact v_1|exact v_2|exact v_3|exact v_4|exact v_5|exact v_6|exact v_7|exact v_8|exact v_9|exact rfl))|exact rfl)))) ?_)
                refine xr_op rfl rfl (xv_assign rfl ?_)
                refine xr_end rfl ?_
                refine th_n ?_
                refine xc_ret ?_
                refine body_ret (h' := h) rfl (ro_cellA ty33 rfl rfl (by ((repeat first|exact z_0|assumption|refine z_1 ?_|(refine z_l ?_;(repeat first|exact z_0|assumption|refine z_1 ?_);done)|refine z_r ?_);done)) (by rfl) (by rfl) (ro_tmp rfl ro_nil)) (by (first|((repeat first|exact s_0|exact s_1|exact s_3|refine s_4 ?_|refine s_5 ?_|refine s_6 ?_|refine s_7 ?_);done)|((repeat first|exact s_0|exact s_1|exact s_3|refine s_4 ?_|refine s_5 ?_|refine s_6 ?_|refine s_8 ?_);done))) ?_
                first | (rw [eans] at H; exact H) | (rw [yieldA_1 hng] at H; exact H) | (rw [yieldA_10 hgy hpn] at H; exact H) | (rw [yieldA_2 hgy hP.is (by rw [List.length_map]; omega)] at H; exact H)
          · refine xr_gd rfl rfl rfl (xv_not rfl ?_)
            refine xr_op rfl rfl (xv_pick rfl rfl ?_)
            refine xr_end rfl ?_
            refine th_n ?_
            refine xc_true rfl ?_
            refine xc_seq (xc_region ?_)
            refine xr_op rfl rfl (xv_build bt33 rfl (by ((try apply evl_some rfl);(repeat (first|exact (rfl : _ = [])|apply evl_cons rfl (by (first|exact v_1|exact v_2|exact v_3|exact v_4|exact v_5|exact v_6|exact v_7|exact v_8|exact v_9|exact rfl))|exact rfl)))) ?_)
            refine xr_op rfl rfl (xv_s ty33 rfl rfl (by (first|(apply u_3;(repeat first|exact u_0|assumption|apply u_1|apply u_2);done)|((repeat first|exact u_0|assumption|apply u_1|apply u_2);done)|(apply u_3;apply u_3;(repeat first|exact u_0|assumption|apply u_1|apply u_2);done)|((repeat first|exact u_0|assumption|apply u_3|apply u_1);done))) (by ((try apply evl_some rfl);(repeat (first|exact (rfl : _ = [])|apply evl_cons rfl (by (first|exact v_1|exact v_2|exact v_3|exact v_4|exact v_5|exact v_6|exact v_7|exact v_8|exact v_9|exact rfl))|exact rfl)))) (by rfl) (by rfl) (by rfl) (by ((try apply evl_some rfl);(repeat (first|exact (rfl : _ = [])|apply evl_cons rfl (by (first|exact v_1|exact v_2|exact v_3|exact v_4|exact v_5|exact v_6|exact v_7|exact v_8|exact v_9|exact rfl))|exact rfl)))) ?_)
            refine xr_op rfl rfl (xv_assign rfl ?_)
            refine xr_end rfl ?_
            refine th_n ?_
            refine xc_ret ?_
            refine th_r ?_
            refine body_ret (h' := h) rfl (ro_cellA ty33 rfl rfl (by ((repeat first|exact z_0|assumption|refine z_1 ?_|(refine z_l ?_;(repeat first|exact z_0|assumption|refine z_1 ?_);done)|refine z_r ?_);done)) (by rfl) (by rfl) (ro_tmp rfl ro_nil)) (by (first|((repeat first|exact s_0|exact s_1|exact s_3|refine s_4 ?_|refine s_5 ?_|refine s_6 ?_|refine s_7 ?_);done)|((repeat first|exact s_0|exact s_1|exact s_3|refine s_4 ?_|refine s_5 ?_|refine s_6 ?_|refine s_8 ?_);done))) ?_
            first | (rw [eans] at H; exact H) | (rw [yieldA_1 hng] at H; exact H) | (rw [yieldA_10 hgy hpn] at H; exact H) | (rw [yieldA_2 hgy hP.is (by rw [List.length_map]; omega)] at H; exact H)

end Go.Proofs.Ytpefpafijadfmaa

/-
  Walks.
-/
namespace Go.Proofs.Ytpefpafijadfmaa
open Go Go.H
set_option maxRecDepth 100000
set_option maxHeartbeats 8000000
set_option linter.all false
theorem CoalSpans_c {y : Yard} {draw f t w : Int} {h : Hp} {R : Ending → Hp → Prop} (hy : YardV h y) (hcl : y.coals.length ≤ 9223372036854775807) (hml : y.moves.length ≤ 9223372036854775807)  (H : R (.returned (.bool true)) h) : ACalls Try.prog 3 ⟨[.agg ⟨eYard y⟩, I draw, I f, I t, I w]⟩ h R := by
  refine calls_of_xc (N := 71) Try.func3 rfl (by rfl) ?_
  refine xc_seq (xc_region ?_)
  refine xr_op rfl rfl (xv_box rfl (fun b5 hb5 => ?_))
  refine xr_op rfl rfl (xv_assign rfl ?_)
  refine xr_end rfl ?_
  refine th_n ?_
  refine xc_seq ?_
  refine xc_seq (xc_region ?_)
  refine xr_op rfl rfl (xv_loadA ty25 rfl rfl (by ((repeat first|exact z_0|assumption|refine z_1 ?_|(refine z_l ?_;(repeat first|exact z_0|assumption|refine z_1 ?_);done)|refine z_r ?_);done)) (by ((try apply evl_some rfl);(repeat (first|exact (rfl : _ = [])|apply evl_cons rfl (by (first|exact v_1|exact v_2|exact v_3|exact v_4|exact v_5|exact v_6|exact v_7|exact v_8|exact v_9|exact rfl))|exact rfl)))) (by rfl) ?_)
  refine xr_op rfl rfl (xv_calls rfl hb9 (large_c (hy.sub (by intro z hz; ((repeat first|exact z_0|assumption|refine z_1 ?_|(refine z_l ?_;(repeat first|exact z_0|assumption|refine z_1 ?_);done)|refine z_r ?_);done))) hcl hml (fun hlg => up_ret ?_) (fun hl1 hl2 => up_ret ?_)))
  · refine xr_end rfl ?_
    refine th_n ?_
    refine xc_true rfl ?_
    refine xc_seq (xc_region ?_)
    refine xr_op rfl rfl (xv_calls rfl hb10 (awake_c (up_ret ?_)))
    refine xr_op rfl rfl (xv_assign rfl ?_)
    refine xr_end rfl ?_
    refine th_n ?_
    refine xc_ret ?_
    refine th_r ?_
    refine body_ret (h' := h) rfl (ro_tmp rfl ro_nil) (by (first|((repeat first|exact s_0|exact s_1|exact s_3|refine s_4 ?_|refine s_5 ?_|refine s_6 ?_|refine s_7 ?_);done)|((repeat first|exact s_0|exact s_1|exact s_3|refine s_4 ?_|refine s_5 ?_|refine s_6 ?_|refine s_8 ?_);done))) ?_
    exact H
  · refine xr_end rfl ?_
    refine th_n ?_
    refine xc_false rfl ?_
    refine xc_skip ?_
    refine th_n ?_
    refine xc_seq (xc_region ?_)
    refine xr_op rfl rfl (xv_loadA ty25 rfl rfl (by ((repeat first|exact z_0|assumption|refine z_1 ?_|(refine z_l ?_;(repeat first|exact z_0|assumption|refine z_1 ?_);done)|refine z_r ?_);done)) (by ((try apply evl_some rfl);(repeat (first|exact (rfl : _ = [])|apply evl_cons rfl (by (first|exact v_1|exact v_2|exact v_3|exact v_4|exact v_5|exact v_6|exact v_7|exact v_8|exact v_9|exact rfl))|exact rfl)))) (by rfl) ?_)
    refine xr_op rfl rfl (xv_move rfl ?_)
    refine xr_op rfl rfl (xv_calls rfl hb11 (Blend_c (hy.sub (by intro z hz; ((repeat first|exact z_0|assumption|refine z_1 ?_|(refine z_l ?_;(repeat first|exact z_0|assumption|refine z_1 ?_);done)|refine z_r ?_);done))) (⟨by omega, by omega⟩ : Small y) (fun a1 c1 G1 s1 => up_ret ?_)))
    refine xr_op rfl rfl (xv_move rfl ?_)
    refine xr_op rfl rfl (xv_extract rfl rfl ?_)
    refine xr_op rfl rfl (xv_extract rfl rfl ?_)
    refine xr_op rfl rfl (xv_assign rfl ?_)
    refine xr_op rfl rfl (xv_assign rfl ?_)
    refine xr_end rfl ?_
    refine th_n ?_
    refine xc_seq (xc_region ?_)
    refine xr_op rfl rfl (xv_loadA ty25 rfl rfl (by ((repeat first|exact z_0|assumption|refine z_1 ?_|(refine z_l ?_;(repeat first|exact z_0|assumption|refine z_1 ?_);done)|refine z_r ?_);done)) (by ((try apply evl_some rfl);(repeat (first|exact (rfl : _ = [])|apply evl_cons rfl (by (first|exact v_1|exact v_2|exact v_3|exact v_4|exact v_5|exact v_6|exact v_7|exact v_8|exact v_9|exact rfl))|exact rfl)))) (by rfl) ?_)
    refine xr_op rfl rfl (xv_move rfl ?_)
    refine xr_op rfl rfl (xv_calls rfl hb12 (RBlendA_c (hy.sub (by intro z hz; ((repeat first|exact z_0|assumption|refine z_1 ?_|(refine z_l ?_;(repeat first|exact z_0|assumption|refine z_1 ?_);done)|refine z_r ?_);done))) (⟨by omega, by omega⟩ : Small y) (fun a2 n2 c2 G2 hn2 s2 => up_ret ?_)))
    refine xr_op rfl rfl (xv_move rfl ?_)
    refine xr_op rfl rfl (xv_extract rfl rfl ?_)
    refine xr_op rfl rfl (xv_extract rfl rfl ?_)
    refine xr_op rfl rfl (xv_assign rfl ?_)
    refine xr_op rfl rfl (xv_assign rfl ?_)
    refine xr_end rfl ?_
    refine th_n ?_
    refine xc_seq (xc_region ?_)
    refine xr_op rfl rfl (xv_loadA ty25 rfl rfl (by ((repeat first|exact z_0|assumption|refine z_1 ?_|(refine z_l ?_;(repeat first|exact z_0|assumption|refine z_1 ?_);done)|refine z_r ?_);done)) (by ((try apply evl_some rfl);(repeat (first|exact (rfl : _ = [])|apply evl_cons rfl (by (first|exact v_1|exact v_2|exact v_3|exact v_4|exact v_5|exact v_6|exact v_7|exact v_8|exact v_9|exact rfl))|exact rfl)))) (by rfl) ?_)
    refine xr_op rfl rfl (xv_move rfl ?_)
    refine xr_op rfl rfl (xv_move rfl ?_)
    refine xr_op rfl rfl (xv_move rfl ?_)
    refine xr_op rfl rfl (xv_calls rfl hb13 (Yield_c (hy.sub (by intro z hz; ((repeat first|exact z_0|assumption|refine z_1 ?_|(refine z_l ?_;(repeat first|exact z_0|assumption|refine z_1 ?_);done)|refine z_r ?_);done))) (⟨by omega, by omega⟩ : Small y) (up_ret ?_)))
    refine xr_op rfl rfl (xv_move rfl ?_)
    refine xr_op rfl rfl (xv_extract rfl rfl ?_)
    refine xr_op rfl rfl (xv_extract rfl rfl ?_)
    refine xr_op rfl rfl (xv_alloc ty33 (fun sp1 hsp1 => ?_))
    refine xr_op rfl rfl (xv_s ty33 rfl rfl (by (first|(apply u_3;(repeat first|exact u_0|assumption|apply u_1|apply u_2);done)|((repeat first|exact u_0|assumption|apply u_1|apply u_2);done)|(apply u_3;apply u_3;(repeat first|exact u_0|assumption|apply u_1|apply u_2);done)|((repeat first|exact u_0|assumption|apply u_3|apply u_1);done))) (by ((try apply evl_some rfl);(repeat (first|exact (rfl : _ = [])|apply evl_cons rfl (by (first|exact v_1|exact v_2|exact v_3|exact v_4|exact v_5|exact v_6|exact v_7|exact v_8|exact v_9|exact rfl))|exact rfl)))) (by rfl) (by rfl) (by rfl) (by ((try apply evl_some rfl);(repeat (first|exact (rfl : _ = [])|apply evl_cons rfl (by (first|exact v_1|exact v_2|exact v_3|exact v_4|exact v_5|exact v_6|exact v_7|exact v_8|exact v_9|exact rfl))|exact rfl)))) ?_)
    refine xr_op rfl rfl (xv_assign rfl ?_)
    refine xr_end rfl ?_
    refine th_n ?_
    refine xc_seq (xc_region ?_)
    refine xr_op rfl rfl (xv_loadA ty25 rfl rfl (by ((repeat first|exact z_0|assumption|refine z_1 ?_|(refine z_l ?_;(repeat first|exact z_0|assumption|refine z_1 ?_);done)|refine z_r ?_);done)) (by ((try apply evl_some rfl);(repeat (first|exact (rfl : _ = [])|apply evl_cons rfl (by (first|exact v_1|exact v_2|exact v_3|exact v_4|exact v_5|exact v_6|exact v_7|exact v_8|exact v_9|exact rfl))|exact rfl)))) (by rfl) ?_)
    refine xr_op rfl rfl (xv_move rfl ?_)
    refine xr_op rfl rfl (xv_move rfl ?_)
    refine xr_op rfl rfl (xv_move rfl ?_)
    refine xr_op rfl rfl (xv_calls rfl hb14 (RYield_c (hy.sub (by intro z hz; ((repeat first|exact z_0|assumption|refine z_1 ?_|(refine z_l ?_;(repeat first|exact z_0|assumption|refine z_1 ?_);done)|refine z_r ?_);done))) (⟨by omega, by omega⟩ : Small y) (up_ret ?_)))
    refine xr_op rfl rfl (xv_move rfl ?_)
    refine xr_op rfl rfl (xv_extract rfl rfl ?_)
    refine xr_op rfl rfl (xv_extract rfl rfl ?_)
    refine xr_op rfl rfl (xv_alloc ty33 (fun sp2 hsp2 => ?_))
    refine xr_op rfl rfl (xv_s ty33 rfl rfl (by (first|(apply u_3;(repeat first|exact u_0|assumption|apply u_1|apply u_2);done)|((repeat first|exact u_0|assumption|apply u_1|apply u_2);done)|(apply u_3;apply u_3;(repeat first|exact u_0|assumption|apply u_1|apply u_2);done)|((repeat first|exact u_0|assumption|apply u_3|apply u_1);done))) (by ((try apply evl_some rfl);(repeat (first|exact (rfl : _ = [])|apply evl_cons rfl (by (first|exact v_1|exact v_2|exact v_3|exact v_4|exact v_5|exact v_6|exact v_7|exact v_8|exact v_9|exact rfl))|exact rfl)))) (by rfl) (by rfl) (by rfl) (by ((try apply evl_some rfl);(repeat (first|exact (rfl : _ = [])|apply evl_cons rfl (by (first|exact v_1|exact v_2|exact v_3|exact v_4|exact v_5|exact v_6|exact v_7|exact v_8|exact v_9|exact rfl))|exact rfl)))) ?_)
    refine xr_op rfl rfl (xv_assign rfl ?_)
    refine xr_end rfl ?_
    refine th_n ?_
    refine xc_seq (xc_region ?_)
    refine xr_op rfl rfl (xv_move rfl ?_)
    refine xr_op rfl rfl (xv_move rfl ?_)
    refine xr_op rfl rfl (xv_calls rfl hb15 (SpansT_c (xs := (blendA y draw).1) (ys := (blendA y draw).1) rfl hn2 (s1.sub (by intro z hz; ((repeat first|exact z_0|assumption|refine z_1 ?_|(refine z_l ?_;(repeat first|exact z_0|assumption|refine z_1 ?_);done)|refine z_r ?_);done))) (s2.sub (by intro z hz; ((repeat first|exact z_0|assumption|refine z_1 ?_|(refine z_l ?_;(repeat first|exact z_0|assumption|refine z_1 ?_);done)|refine z_r ?_);done))) rfl (by have := blendA_len y draw; omega) (up_ret ?_)))
    refine xr_op rfl rfl (xv_move rfl ?_)
    refine xr_gd rfl rfl rfl (xv_move rfl ?_)
    refine xr_gd rfl rfl rfl (xv_move rfl ?_)
    refine xr_gd rfl rfl rfl (xv_eqlT rfl rfl rfl ?_)
    refine xr_op rfl rfl (xv_pick rfl rfl ?_)
    refine xr_op rfl rfl (xv_move rfl ?_)
    refine xr_gd rfl rfl rfl (xv_loadA ty33 rfl rfl (by ((repeat first|exact z_0|assumption|refine z_1 ?_|(refine z_l ?_;(repeat first|exact z_0|assumption|refine z_1 ?_);done)|refine z_r ?_);done)) (by ((try apply evl_some rfl);(repeat (first|exact (rfl : _ = [])|apply evl_cons rfl (by (first|exact v_1|exact v_2|exact v_3|exact v_4|exact v_5|exact v_6|exact v_7|exact v_8|exact v_9|exact rfl))|exact rfl)))) (by rfl) ?_)
    refine xr_gd rfl rfl rfl (xv_loadA ty33 rfl rfl (by ((repeat first|exact z_0|assumption|refine z_1 ?_|(refine z_l ?_;(repeat first|exact z_0|assumption|refine z_1 ?_);done)|refine z_r ?_);done)) (by ((try apply evl_some rfl);(repeat (first|exact (rfl : _ = [])|apply evl_cons rfl (by (first|exact v_1|exact v_2|exact v_3|exact v_4|exact v_5|exact v_6|exact v_7|exact v_8|exact v_9|exact rfl))|exact rfl)))) (by rfl) ?_)
    refine xr_gd rfl rfl rfl (xv_eqA (b := true) fq33 rfl eg33 rfl rfl rfl rfl (by ((repeat' first | assumption | exact numNil | refine numCons ?_ | refine numApp ?_ ?_); done)) (by ((repeat' first | assumption | exact numNil | refine numCons ?_ | refine numApp ?_ ?_); done)) (eqc_self (by ((repeat' first | assumption | exact numNil | refine numCons ?_ | refine numApp ?_ ?_); done))) ?_)
    refine xr_op rfl rfl (xv_pick rfl rfl ?_)
    refine xr_op rfl rfl (xv_move rfl ?_)
    refine xr_gd rfl rfl rfl (xv_move rfl ?_)
    refine xr_gd rfl rfl rfl (xv_move rfl ?_)
    refine xr_gd rfl rfl rfl (xv_eqlT rfl rfl rfl ?_)
    refine xr_op rfl rfl (xv_pick rfl rfl ?_)
    refine xr_op rfl rfl (xv_move rfl ?_)
    refine xr_gd rfl rfl rfl (xv_calls rfl hb10 (awake_c (up_ret ?_)))
    refine xr_op rfl rfl (xv_pick rfl rfl ?_)
    refine xr_op rfl rfl (xv_assign rfl ?_)
    refine xr_end rfl ?_
    refine th_n ?_
    refine xc_ret ?_
    refine body_ret (h' := h) rfl (ro_tmp rfl ro_nil) (by (first|((repeat first|exact s_0|exact s_1|exact s_3|refine s_4 ?_|refine s_5 ?_|refine s_6 ?_|refine s_7 ?_);done)|((repeat first|exact s_0|exact s_1|exact s_3|refine s_4 ?_|refine s_5 ?_|refine s_6 ?_|refine s_8 ?_);done))) ?_
    exact H

end Go.Proofs.Ytpefpafijadfmaa
