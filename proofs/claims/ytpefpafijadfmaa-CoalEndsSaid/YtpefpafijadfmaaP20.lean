/-
  Walks.
-/
import Derived.Test.YtpefpafijadfmaaW10
import Derived.Test.YtpefpafijadfmaaW21
import Derived.Test.YtpefpafijadfmaaW24
import Derived.Test.YtpefpafijadfmaaP18
namespace Go.Proofs.Ytpefpafijadfmaa
open Go Go.H
set_option maxRecDepth 100000
set_option maxHeartbeats 8000000
set_option linter.all false
theorem ListsT_c {a a2 : Option Addr} {c c2 n n2 : Nat} {xs ys : List Part} {h : Hp} {R : Ending → Hp → Prop} (hn : n = xs.length) (hn2 : n2 = ys.length) (hs : SlV h 2 ePart a xs) (hs2 : SlV h 2 ePart a2 ys) (he : xs = ys) (hl : n ≤ 1000000) (H : R (.returned (.bool true)) h) : ACalls Try.prog 23 ⟨[.slice a n c, .slice a2 n2 c2]⟩ h R := by
  subst hn hn2
  refine Lists_c hs hs2 hl (by rw [← he]; omega) ?_
  rw [decide_eq_true he]; exact H
theorem SpansT_c {a a2 : Option Addr} {c c2 n n2 : Nat} {xs ys : List Span} {h : Hp} {R : Ending → Hp → Prop} (hn : n = xs.length) (hn2 : n2 = ys.length) (hs : SlV h 2 eSpan a xs) (hs2 : SlV h 2 eSpan a2 ys) (he : xs = ys) (hl : n ≤ 1000000) (H : R (.returned (.bool true)) h) : ACalls Try.prog 15 ⟨[.slice a n c, .slice a2 n2 c2]⟩ h R := by
  subst hn hn2
  refine Spans_c hs hs2 hl (by rw [← he]; omega) ?_
  rw [decide_eq_true he]; exact H
/-! ### The yard of the examples -/
theorem smV {h : Hp} {bc bm : Nat} (m1 : (bm, .cells ⟨smM.flatMap eMove⟩ 63 (0, 0)) ∈ h) (m2 : (bc, .cells ⟨smC.flatMap eCoal⟩ 59 (0, 0)) ∈ h) : YardV h (smY bc bm) := ⟨slvL eCoal_len m2, slvL eMove_len m1⟩
theorem smS (bc bm : Nat) : Small (smY bc bm) := ⟨by show 2 ≤ 1000; decide, by show 5 ≤ 1000; decide⟩
section
variable {h : Hp} {R : Ending → Hp → Prop} {bc bm : Nat} (m1 : (bm, .cells ⟨smM.flatMap eMove⟩ 63 (0, 0)) ∈ h) (m2 : (bc, .cells ⟨smC.flatMap eCoal⟩ 59 (0, 0)) ∈ h)
include m1 m2
theorem aDrawn (H : ∀ a c G, SlV G 2 ePart a [⟨0, 10⟩, ⟨1, 10⟩] → R (.returned (.tuple ⟨[.slice a 2 c, I 0]⟩)) (G ++ h)) : ACalls Try.prog 19 ⟨[.agg ⟨[.slice (some ⟨bc, 0, none⟩) 2 2, .slice (some ⟨bm, 0, none⟩) 5 5]⟩, I 1]⟩ h R :=
  Drawn_c (y := smY bc bm) (smV m1 m2) (smS bc bm) (by rw [sm_drawn]; exact H)
theorem aBlend (H : ∀ a c G, SlV G 2 eSpan a [⟨0, 10⟩, ⟨10, 20⟩] → R (.returned (.tuple ⟨[.slice a 2 c, I 0]⟩)) (G ++ h)) : ACalls Try.prog 11 ⟨[.agg ⟨[.slice (some ⟨bc, 0, none⟩) 2 2, .slice (some ⟨bm, 0, none⟩) 5 5]⟩, I 1]⟩ h R :=
  Blend_c (y := smY bc bm) (smV m1 m2) (smS bc bm) (by rw [sm_blend]; exact H)
theorem aYield1 (H : R (.returned (.tuple ⟨[.agg ⟨[I 18000, I 23000]⟩, I 0]⟩)) h) : ACalls Try.prog 13 ⟨[.agg ⟨[.slice (some ⟨bc, 0, none⟩) 2 2, .slice (some ⟨bm, 0, none⟩) 5 5]⟩, I 0, I 0, I 0]⟩ h R :=
  Yield_c (y := smY bc bm) (smV m1 m2) (smS bc bm) (by rw [sm_yield1]; exact H)
theorem aYield2 (H : R (.returned (.tuple ⟨[.agg ⟨[I 400, I 800]⟩, I 0]⟩)) h) : ACalls Try.prog 13 ⟨[.agg ⟨[.slice (some ⟨bc, 0, none⟩) 2 2, .slice (some ⟨bm, 0, none⟩) 5 5]⟩, I 1, I 1, I 2]⟩ h R :=
  Yield_c (y := smY bc bm) (smV m1 m2) (smS bc bm) (by rw [sm_yield2]; exact H)
theorem aCan {b : Nat} (m3 : (b, .cells ⟨[I 25, I 15]⟩ 3 (0, 0)) ∈ h) (H : R (.returned (.tuple ⟨[.bool true, I 0]⟩)) h) : ACalls Try.prog 17 ⟨[.agg ⟨[.slice (some ⟨bc, 0, none⟩) 2 2, .slice (some ⟨bm, 0, none⟩) 5 5]⟩, I 0, .slice (some ⟨b, 0, none⟩) 2 2]⟩ h R :=
  Can_c (y := smY bc bm) (ts := [25, 15]) (smV m1 m2) (smS bc bm) (slvL eI_len m3) (by rw [sm_can]; exact H)
end

theorem awake_c {h : Hp} {R : Ending → Hp → Prop} (H : R (.returned (.bool true)) h) : ACalls Try.prog 10 ⟨[]⟩ h R := by
  refine calls_of_xc (N := 84) Try.func10 rfl (by rfl) ?_
  refine xc_seq (xc_region ?_)
  refine xr_op rfl rfl (xv_assign rfl ?_)
  refine xr_end rfl ?_
  refine th_n ?_
  refine xc_seq (xc_region ?_)
  refine xr_op rfl rfl (xv_calls rfl hb29 (sample_c (fun bc bm => up_ret ?_)))
  refine xr_op rfl rfl (xv_alloc ty25 (fun b1 hb1 => ?_))
  refine xr_op rfl rfl (xv_s ty25 rfl rfl (by (first|(apply u_3;(repeat first|exact u_0|assumption|apply u_1|apply u_2);done)|((repeat first|exact u_0|assumption|apply u_1|apply u_2);done)|(apply u_3;apply u_3;(repeat first|exact u_0|assumption|apply u_1|apply u_2);done)|((repeat first|exact u_0|assumption|apply u_3|apply u_1);done))) (by ((try apply evl_some rfl);(repeat (first|exact (rfl : _ = [])|apply evl_cons rfl (by (first|exact v_1|exact v_2|exact v_3|exact v_4|exact v_5|exact v_6|exact v_7|exact v_8|exact v_9|exact rfl))|exact rfl)))) (by rfl) (by rfl) (by rfl) (by ((try apply evl_some rfl);(repeat (first|exact (rfl : _ = [])|apply evl_cons rfl (by (first|exact v_1|exact v_2|exact v_3|exact v_4|exact v_5|exact v_6|exact v_7|exact v_8|exact v_9|exact rfl))|exact rfl)))) ?_)
  refine xr_end rfl ?_
  refine th_n ?_
  refine xc_seq (xc_region ?_)
  refine xr_op rfl rfl (xv_loadA ty25 rfl rfl (by ((repeat first|exact z_0|assumption|refine z_1 ?_|(refine z_l ?_;(repeat first|exact z_0|assumption|refine z_1 ?_);done)|refine z_r ?_);done)) (by ((try apply evl_some rfl);(repeat (first|exact (rfl : _ = [])|apply evl_cons rfl (by (first|exact v_1|exact v_2|exact v_3|exact v_4|exact v_5|exact v_6|exact v_7|exact v_8|exact v_9|exact rfl))|exact rfl)))) (by rfl) ?_)
  refine xr_op rfl rfl (xv_calls rfl hb19 (aDrawn (by ((repeat first|exact z_0|assumption|refine z_1 ?_|(refine z_l ?_;(repeat first|exact z_0|assumption|refine z_1 ?_);done)|refine z_r ?_);done)) (by ((repeat first|exact z_0|assumption|refine z_1 ?_|(refine z_l ?_;(repeat first|exact z_0|assumption|refine z_1 ?_);done)|refine z_r ?_);done)) (fun a1 c1 G1 s1 => up_ret ?_)))
  refine xr_op rfl rfl (xv_move rfl ?_)
  refine xr_op rfl rfl (xv_extract rfl rfl ?_)
  refine xr_op rfl rfl (xv_extract rfl rfl ?_)
  refine xr_op rfl rfl (xv_assign rfl ?_)
  refine xr_op rfl rfl (xv_assign rfl ?_)
  refine xr_end rfl ?_
  refine th_n ?_
  refine xc_seq (xc_region ?_)
  refine xr_op rfl rfl (xv_loadA ty25 rfl rfl (by ((repeat first|exact z_0|assumption|refine z_1 ?_|(refine z_l ?_;(repeat first|exact z_0|assumption|refine z_1 ?_);done)|refine z_r ?_);done)) (by ((try apply evl_some rfl);(repeat (first|exact (rfl : _ = [])|apply evl_cons rfl (by (first|exact v_1|exact v_2|exact v_3|exact v_4|exact v_5|exact v_6|exact v_7|exact v_8|exact v_9|exact rfl))|exact rfl)))) (by rfl) ?_)
  refine xr_op rfl rfl (xv_calls rfl hb11 (aBlend (by ((repeat first|exact z_0|assumption|refine z_1 ?_|(refine z_l ?_;(repeat first|exact z_0|assumption|refine z_1 ?_);done)|refine z_r ?_);done)) (by ((repeat first|exact z_0|assumption|refine z_1 ?_|(refine z_l ?_;(repeat first|exact z_0|assumption|refine z_1 ?_);done)|refine z_r ?_);done)) (fun a2 c2 G2 s2 => up_ret ?_)))
  refine xr_op rfl rfl (xv_move rfl ?_)
  refine xr_op rfl rfl (xv_extract rfl rfl ?_)
  refine xr_op rfl rfl (xv_extract rfl rfl ?_)
  refine xr_op rfl rfl (xv_assign rfl ?_)
  refine xr_op rfl rfl (xv_assign rfl ?_)
  refine xr_end rfl ?_
  refine th_n ?_
  refine xc_seq (xc_region ?_)
  refine xr_op rfl rfl (xv_loadA ty25 rfl rfl (by ((repeat first|exact z_0|assumption|refine z_1 ?_|(refine z_l ?_;(repeat first|exact z_0|assumption|refine z_1 ?_);done)|refine z_r ?_);done)) (by ((try apply evl_some rfl);(repeat (first|exact (rfl : _ = [])|apply evl_cons rfl (by (first|exact v_1|exact v_2|exact v_3|exact v_4|exact v_5|exact v_6|exact v_7|exact v_8|exact v_9|exact rfl))|exact rfl)))) (by rfl) ?_)
  refine xr_op rfl rfl (xv_calls rfl hb13 (aYield1 (by ((repeat first|exact z_0|assumption|refine z_1 ?_|(refine z_l ?_;(repeat first|exact z_0|assumption|refine z_1 ?_);done)|refine z_r ?_);done)) (by ((repeat first|exact z_0|assumption|refine z_1 ?_|(refine z_l ?_;(repeat first|exact z_0|assumption|refine z_1 ?_);done)|refine z_r ?_);done)) (up_ret ?_)))
  refine xr_op rfl rfl (xv_move rfl ?_)
  refine xr_op rfl rfl (xv_extract rfl rfl ?_)
  refine xr_op rfl rfl (xv_extract rfl rfl ?_)
  refine xr_op rfl rfl (xv_alloc ty33 (fun b6 hb6 => ?_))
  refine xr_op rfl rfl (xv_s ty33 rfl rfl (by (first|(apply u_3;(repeat first|exact u_0|assumption|apply u_1|apply u_2);done)|((repeat first|exact u_0|assumption|apply u_1|apply u_2);done)|(apply u_3;apply u_3;(repeat first|exact u_0|assumption|apply u_1|apply u_2);done)|((repeat first|exact u_0|assumption|apply u_3|apply u_1);done))) (by ((try apply evl_some rfl);(repeat (first|exact (rfl : _ = [])|apply evl_cons rfl (by (first|exact v_1|exact v_2|exact v_3|exact v_4|exact v_5|exact v_6|exact v_7|exact v_8|exact v_9|exact rfl))|exact rfl)))) (by rfl) (by rfl) (by rfl) (by ((try apply evl_some rfl);(repeat (first|exact (rfl : _ = [])|apply evl_cons rfl (by (first|exact v_1|exact v_2|exact v_3|exact v_4|exact v_5|exact v_6|exact v_7|exact v_8|exact v_9|exact rfl))|exact rfl)))) ?_)
  refine xr_op rfl rfl (xv_assign rfl ?_)
  refine xr_end rfl ?_
  refine th_n ?_
  refine xc_seq (xc_region ?_)
  refine xr_op rfl rfl (xv_loadA ty25 rfl rfl (by ((repeat first|exact z_0|assumption|refine z_1 ?_|(refine z_l ?_;(repeat first|exact z_0|assumption|refine z_1 ?_);done)|refine z_r ?_);done)) (by ((try apply evl_some rfl);(repeat (first|exact (rfl : _ = [])|apply evl_cons rfl (by (first|exact v_1|exact v_2|exact v_3|exact v_4|exact v_5|exact v_6|exact v_7|exact v_8|exact v_9|exact rfl))|exact rfl)))) (by rfl) ?_)
  refine xr_op rfl rfl (xv_calls rfl hb13 (aYield2 (by ((repeat first|exact z_0|assumption|refine z_1 ?_|(refine z_l ?_;(repeat first|exact z_0|assumption|refine z_1 ?_);done)|refine z_r ?_);done)) (by ((repeat first|exact z_0|assumption|refine z_1 ?_|(refine z_l ?_;(repeat first|exact z_0|assumption|refine z_1 ?_);done)|refine z_r ?_);done)) (up_ret ?_)))
  refine xr_op rfl rfl (xv_move rfl ?_)
  refine xr_op rfl rfl (xv_extract rfl rfl ?_)
  refine xr_op rfl rfl (xv_extract rfl rfl ?_)
  refine xr_op rfl rfl (xv_alloc ty33 (fun b8 hb8 => ?_))
  refine xr_op rfl rfl (xv_s ty33 rfl rfl (by (first|(apply u_3;(repeat first|exact u_0|assumption|apply u_1|apply u_2);done)|((repeat first|exact u_0|assumption|apply u_1|apply u_2);done)|(apply u_3;apply u_3;(repeat first|exact u_0|assumption|apply u_1|apply u_2);done)|((repeat first|exact u_0|assumption|apply u_3|apply u_1);done))) (by ((try apply evl_some rfl);(repeat (first|exact (rfl : _ = [])|apply evl_cons rfl (by (first|exact v_1|exact v_2|exact v_3|exact v_4|exact v_5|exact v_6|exact v_7|exact v_8|exact v_9|exact rfl))|exact rfl)))) (by rfl) (by rfl) (by rfl) (by ((try apply evl_some rfl);(repeat (first|exact (rfl : _ = [])|apply evl_cons rfl (by (first|exact v_1|exact v_2|exact v_3|exact v_4|exact v_5|exact v_6|exact v_7|exact v_8|exact v_9|exact rfl))|exact rfl)))) ?_)
  refine xr_op rfl rfl (xv_assign rfl ?_)
  refine xr_end rfl ?_
  refine th_n ?_
  refine xc_seq (xc_region ?_)
  refine xr_op rfl rfl (xv_loadA ty25 rfl rfl (by ((repeat first|exact z_0|assumption|refine z_1 ?_|(refine z_l ?_;(repeat first|exact z_0|assumption|refine z_1 ?_);done)|refine z_r ?_);done)) (by ((try apply evl_some rfl);(repeat (first|exact (rfl : _ = [])|apply evl_cons rfl (by (first|exact v_1|exact v_2|exact v_3|exact v_4|exact v_5|exact v_6|exact v_7|exact v_8|exact v_9|exact rfl))|exact rfl)))) (by rfl) ?_)
  refine xr_op rfl rfl ((al_buildSlice sl38 ty3 rfl rfl rfl rfl rfl (by ((try apply evl_some rfl);(repeat (first|exact (rfl : _ = [])|apply evl_cons rfl (by (first|exact v_1|exact v_2|exact v_3|exact v_4|exact v_5|exact v_6|exact v_7|exact v_8|exact v_9|exact rfl))|exact rfl))))).xv (fun b35 hb35 => ?_))
  refine xr_op rfl rfl (xv_calls rfl hb17 (aCan (by ((repeat first|exact z_0|assumption|refine z_1 ?_|(refine z_l ?_;(repeat first|exact z_0|assumption|refine z_1 ?_);done)|refine z_r ?_);done)) (by ((repeat first|exact z_0|assumption|refine z_1 ?_|(refine z_l ?_;(repeat first|exact z_0|assumption|refine z_1 ?_);done)|refine z_r ?_);done)) (by ((repeat first|exact z_0|assumption|refine z_1 ?_|(refine z_l ?_;(repeat first|exact z_0|assumption|refine z_1 ?_);done)|refine z_r ?_);done)) (up_ret ?_)))
  refine xr_op rfl rfl (xv_move rfl ?_)
  refine xr_op rfl rfl (xv_extract rfl rfl ?_)
  refine xr_op rfl rfl (xv_extract rfl rfl ?_)
  refine xr_op rfl rfl (xv_assign rfl ?_)
  refine xr_op rfl rfl (xv_assign rfl ?_)
  refine xr_end rfl ?_
  refine th_n ?_
  refine xc_seq ?_
  refine xc_draw0 [(0, .S), (1, .S), (2, .S), (3, .P), (3, .A), (4, .R), (5, .S), (6, .S), (7, .S), (8, .S), (9, .S), (10, .S), (11, .R), (12, .R), (13, .O), (14, .R), (15, .S), (16, .S), (17, .S), (18, .S), (19, .S), (20, .S), (21, .R), (22, .R), (23, .S), (24, .S), (25, .S), (26, .S), (27, .S), (28, .S), (29, .S), (30, .R), (31, .R), (32, .S), (33, .S), (34, .S), (35, .S), (36, .S), (37, .S), (38, .S), (39, .S), (40, .S), (41, .S), (42, .S), (43, .S), (44, .S), (45, .S)] mixed (by kernel_rfl) ?_
  refine js_S rfl rfl (.inl rfl) (xv_move rfl ⟨rfl, rfl⟩) ?_
  refine js_S rfl rfl (.inl rfl) (xv_build bt43 rfl (by ((try apply evl_some rfl);(repeat (first|exact (rfl : _ = [])|apply evl_cons rfl (by (first|exact v_1|exact v_2|exact v_3|exact v_4|exact v_5|exact v_6|exact v_7|exact v_8|exact v_9|exact rfl))|exact rfl)))) ⟨rfl, rfl⟩) ?_
  refine js_S rfl rfl (.inl rfl) (xv_build bt43 rfl (by ((try apply evl_some rfl);(repeat (first|exact (rfl : _ = [])|apply evl_cons rfl (by (first|exact v_1|exact v_2|exact v_3|exact v_4|exact v_5|exact v_6|exact v_7|exact v_8|exact v_9|exact rfl))|exact rfl)))) ⟨rfl, rfl⟩) ?_
  refine js_P rfl rfl rfl (al_buildSlice sl39 ty43 rfl rfl rfl rfl rfl (by ((try apply evl_some rfl);(repeat (first|exact (rfl : _ = [])|apply evl_cons rfl (by (first|exact v_1|exact v_2|exact v_3|exact v_4|exact v_5|exact v_6|exact v_7|exact v_8|exact v_9|exact rfl))|exact rfl))))) ?_
  refine js_A0 rfl rfl rfl rfl rfl ⟨rfl, rfl, trivial⟩ (fun b42 hb42 => ?_)
  refine js_R0 rfl rfl (.inl rfl) (xv_calls rfl hb23 (ListsT_c (xs := [⟨0, 10⟩, ⟨1, 10⟩]) (ys := [⟨0, 10⟩, ⟨1, 10⟩]) rfl rfl (s1.sub (by intro z hz; ((repeat first|exact z_0|assumption|refine z_1 ?_|(refine z_l ?_;(repeat first|exact z_0|assumption|refine z_1 ?_);done)|refine z_r ?_);done))) (slvL ePart_len (by ((repeat first|exact z_0|assumption|refine z_1 ?_|(refine z_l ?_;(repeat first|exact z_0|assumption|refine z_1 ?_);done)|refine z_r ?_);done))) rfl (by decide) (up_ret ⟨rfl, rfl⟩))) ?_
  refine js_S rfl rfl (.inl rfl) (xv_move rfl ⟨rfl, rfl⟩) ?_
  refine js_S rfl rfl (.inr ⟨_, _, rfl, rfl⟩) (xv_move rfl ⟨rfl, rfl⟩) ?_
  refine js_S rfl rfl (.inr ⟨_, _, rfl, rfl⟩) (xv_eqlT rfl rfl rfl ⟨rfl, rfl⟩) ?_
  refine js_S rfl rfl (.inl rfl) (xv_pick rfl rfl ⟨rfl, rfl⟩) ?_
  refine js_S rfl rfl (.inl rfl) (xv_move rfl ⟨rfl, rfl⟩) ?_
  refine js_S rfl rfl (.inr ⟨_, _, rfl, rfl⟩) (xv_move rfl ⟨rfl, rfl⟩) ?_
  refine js_R0 rfl rfl (.inr ⟨_, _, rfl, rfl⟩) (xv_calls rfl hb28 (span_c _ _ (up_ret ⟨rfl, rfl⟩))) ?_
  refine js_R0 rfl rfl (.inr ⟨_, _, rfl, rfl⟩) (xv_calls rfl hb28 (span_c _ _ (up_ret ⟨rfl, rfl⟩))) ?_
  refine js_O0 rfl rfl (.inr ⟨_, _, rfl, rfl⟩) ((al_buildSlice sl28 ty33 rfl rfl rfl rfl rfl (by ((try apply evl_some rfl);(repeat (first|exact (rfl : _ = [])|apply evl_cons rfl (by (first|exact v_1|exact v_2|exact v_3|exact v_4|exact v_5|exact v_6|exact v_7|exact v_8|exact v_9|exact rfl))|exact rfl))))).xv (fun b52 hb52 => ?_))
  refine js_R0 rfl rfl (.inr ⟨_, _, rfl, rfl⟩) (xv_calls rfl hb15 (SpansT_c (xs := [⟨0, 10⟩, ⟨10, 20⟩]) (ys := [⟨0, 10⟩, ⟨10, 20⟩]) rfl rfl (s2.sub (by intro z hz; ((repeat first|exact z_0|assumption|refine z_1 ?_|(refine z_l ?_;(repeat first|exact z_0|assumption|refine z_1 ?_);done)|refine z_r ?_);done))) (slvL eSpan_len (by ((repeat first|exact z_0|assumption|refine z_1 ?_|(refine z_l ?_;(repeat first|exact z_0|assumption|refine z_1 ?_);done)|refine z_r ?_);done))) rfl (by decide) (up_ret ⟨rfl, rfl⟩))) ?_
  refine js_S rfl rfl (.inl rfl) (xv_pick rfl rfl ⟨rfl, rfl⟩) ?_
  refine js_S rfl rfl (.inl rfl) (xv_move rfl ⟨rfl, rfl⟩) ?_
  refine js_S rfl rfl (.inr ⟨_, _, rfl, rfl⟩) (xv_move rfl ⟨rfl, rfl⟩) ?_
  refine js_S rfl rfl (.inr ⟨_, _, rfl, rfl⟩) (xv_eqlT rfl rfl rfl ⟨rfl, rfl⟩) ?_
  refine js_S rfl rfl (.inl rfl) (xv_pick rfl rfl ⟨rfl, rfl⟩) ?_
  refine js_S rfl rfl (.inl rfl) (xv_move rfl ⟨rfl, rfl⟩) ?_
  refine js_R0 rfl rfl (.inr ⟨_, _, rfl, rfl⟩) (xv_loadA ty33 rfl rfl (by ((repeat first|exact z_0|assumption|refine z_1 ?_|(refine z_l ?_;(repeat first|exact z_0|assumption|refine z_1 ?_);done)|refine z_r ?_);done)) (by ((try apply evl_some rfl);(repeat (first|exact (rfl : _ = [])|apply evl_cons rfl (by (first|exact v_1|exact v_2|exact v_3|exact v_4|exact v_5|exact v_6|exact v_7|exact v_8|exact v_9|exact rfl))|exact rfl)))) (by rfl) ⟨rfl, rfl⟩) ?_
  refine js_R0 rfl rfl (.inr ⟨_, _, rfl, rfl⟩) (xv_calls rfl hb28 (span_c _ _ (up_ret ⟨rfl, rfl⟩))) ?_
  refine js_S rfl rfl (.inr ⟨_, _, rfl, rfl⟩) (xv_eqA (b := true) fq33 rfl eg33 rfl rfl rfl rfl (by ((repeat' first | assumption | exact numNil | refine numCons ?_ | refine numApp ?_ ?_); done)) (by ((repeat' first | assumption | exact numNil | refine numCons ?_ | refine numApp ?_ ?_); done)) (eqc_self (by ((repeat' first | assumption | exact numNil | refine numCons ?_ | refine numApp ?_ ?_); done))) ⟨rfl, rfl⟩) ?_
  refine js_S rfl rfl (.inl rfl) (xv_pick rfl rfl ⟨rfl, rfl⟩) ?_
  refine js_S rfl rfl (.inl rfl) (xv_move rfl ⟨rfl, rfl⟩) ?_
  refine js_S rfl rfl (.inr ⟨_, _, rfl, rfl⟩) (xv_move rfl ⟨rfl, rfl⟩) ?_
  refine js_S rfl rfl (.inr ⟨_, _, rfl, rfl⟩) (xv_eqlT rfl rfl rfl ⟨rfl, rfl⟩) ?_
  refine js_S rfl rfl (.inl rfl) (xv_pick rfl rfl ⟨rfl, rfl⟩) ?_
  refine js_S rfl rfl (.inl rfl) (xv_move rfl ⟨rfl, rfl⟩) ?_
  refine js_R0 rfl rfl (.inr ⟨_, _, rfl, rfl⟩) (xv_loadA ty33 rfl rfl (by ((repeat first|exact z_0|assumption|refine z_1 ?_|(refine z_l ?_;(repeat first|exact z_0|assumption|refine z_1 ?_);done)|refine z_r ?_);done)) (by ((try apply evl_some rfl);(repeat (first|exact (rfl : _ = [])|apply evl_cons rfl (by (first|exact v_1|exact v_2|exact v_3|exact v_4|exact v_5|exact v_6|exact v_7|exact v_8|exact v_9|exact rfl))|exact rfl)))) (by rfl) ⟨rfl, rfl⟩) ?_
  refine js_R0 rfl rfl (.inr ⟨_, _, rfl, rfl⟩) (xv_calls rfl hb28 (span_c _ _ (up_ret ⟨rfl, rfl⟩))) ?_
  refine js_S rfl rfl (.inr ⟨_, _, rfl, rfl⟩) (xv_eqA (b := true) fq33 rfl eg33 rfl rfl rfl rfl (by ((repeat' first | assumption | exact numNil | refine numCons ?_ | refine numApp ?_ ?_); done)) (by ((repeat' first | assumption | exact numNil | refine numCons ?_ | refine numApp ?_ ?_); done)) (eqc_self (by ((repeat' first | assumption | exact numNil | refine numCons ?_ | refine numApp ?_ ?_); done))) ⟨rfl, rfl⟩) ?_
  refine js_S rfl rfl (.inl rfl) (xv_pick rfl rfl ⟨rfl, rfl⟩) ?_
  refine js_S rfl rfl (.inl rfl) (xv_move rfl ⟨rfl, rfl⟩) ?_
  refine js_S rfl rfl (.inr ⟨_, _, rfl, rfl⟩) (xv_move rfl ⟨rfl, rfl⟩) ?_
  refine js_S rfl rfl (.inr ⟨_, _, rfl, rfl⟩) (xv_eqlT rfl rfl rfl ⟨rfl, rfl⟩) ?_
  refine js_S rfl rfl (.inl rfl) (xv_pick rfl rfl ⟨rfl, rfl⟩) ?_
  refine js_S rfl rfl (.inl rfl) (xv_move rfl ⟨rfl, rfl⟩) ?_
  refine js_S rfl rfl (.inr ⟨_, _, rfl, rfl⟩) (xv_move rfl ⟨rfl, rfl⟩) ?_
  refine js_S rfl rfl (.inl rfl) (xv_pick rfl rfl ⟨rfl, rfl⟩) ?_
  refine js_S rfl rfl (.inl rfl) (xv_move rfl ⟨rfl, rfl⟩) ?_
  refine js_S rfl rfl (.inr ⟨_, _, rfl, rfl⟩) (xv_move rfl ⟨rfl, rfl⟩) ?_
  refine js_S rfl rfl (.inr ⟨_, _, rfl, rfl⟩) (xv_eqlT rfl rfl rfl ⟨rfl, rfl⟩) ?_
  refine js_S rfl rfl (.inl rfl) (xv_pick rfl rfl ⟨rfl, rfl⟩) ?_
  refine js_S rfl rfl (.inl rfl) (xv_assign rfl ⟨rfl, rfl⟩) ?_
  refine j_end0 ?_
  refine th_n ?_
  refine xc_ret ?_
  refine body_ret (h' := h) rfl (ro_tmp rfl ro_nil) (by (first|((repeat first|exact s_0|exact s_1|exact s_3|refine s_4 ?_|refine s_5 ?_|refine s_6 ?_|refine s_7 ?_);done)|((repeat first|exact s_0|exact s_1|exact s_3|refine s_4 ?_|refine s_5 ?_|refine s_6 ?_|refine s_8 ?_);done))) ?_
  exact H

end Go.Proofs.Ytpefpafijadfmaa

/-
  What the program asks of any coals together; a division answers it; what it says of one coal.
-/
set_option linter.all false
namespace Go.Proofs.Ytpefpafijadfmaa
open Go Go.H
def sF (f : Nat → Int) : Nat → Int
  | 0 => 0
  | n + 1 => sF f n + f n
theorem sF_congr {f g : Nat → Int} : ∀ {n : Nat}, (∀ i, i < n → f i = g i) → sF f n = sF g n
  | 0, _ => rfl
  | n + 1, h => by rw [sF, sF, sF_congr fun i hi => h i (by omega), h n (by omega)]
theorem sF_le {f g : Nat → Int} : ∀ {n : Nat}, (∀ i, i < n → f i ≤ g i) → sF f n ≤ sF g n
  | 0, _ => Int.le_refl _
  | n + 1, h => by
    have := sF_le (n := n) fun i hi => h i (by omega)
    have := h n (by omega)
    rw [sF, sF]; omega
theorem sF_zero : ∀ n, sF (fun _ => 0) n = 0
  | 0 => rfl
  | n + 1 => by rw [sF, sF_zero n]; rfl
theorem sF_nn {f : Nat → Int} {n : Nat} (h : ∀ i, i < n → 0 ≤ f i) : 0 ≤ sF f n := by
  have := sF_le (f := fun _ => 0) h
  rwa [sF_zero] at this
theorem sF_add (f g : Nat → Int) : ∀ n, sF (fun i => f i + g i) n = sF f n + sF g n
  | 0 => rfl
  | n + 1 => by rw [sF, sF, sF, sF_add f g n]; omega
theorem sF_const (c : Int) : ∀ n : Nat, sF (fun _ => c) n = c * (n : Int)
  | 0 => by simp [sF]
  | n + 1 => by rw [sF, sF_const c n, Int.natCast_add, Int.mul_add]; simp
theorem sF_sub (f g : Nat → Int) : ∀ n, sF (fun i => f i - g i) n = sF f n - sF g n
  | 0 => rfl
  | n + 1 => by rw [sF, sF, sF, sF_sub f g n]; omega
theorem sF_shift (f : Nat → Int) : ∀ n, sF f (n + 1) = f 0 + sF (fun i => f (i + 1)) n
  | 0 => by simp [sF]
  | n + 1 => by rw [sF, sF_shift f n, sF]; omega
theorem sF_comm (f : Nat → Nat → Int) (m : Nat) : ∀ n, sF (fun i => sF (fun j => f j i) m) n = sF (fun j => sF (fun i => f j i) n) m
  | 0 => by
    show (0 : Int) = _
    exact (sF_zero m).symm
  | n + 1 => by
    rw [sF, sF_comm f m n, ← sF_add]; rfl
theorem sF_one {f : Nat → Int} {w : Nat} : ∀ {n : Nat}, sF (fun i => if i = w then f i else 0) n = if w < n then f w else 0
  | 0 => rfl
  | n + 1 => by
    rw [sF, sF_one]
    by_cases h : w < n
    · rw [if_pos h, if_neg (by omega), if_pos (by omega)]; omega
    · by_cases h2 : n = w
      · subst h2; rw [if_neg h, if_pos rfl, if_pos (by omega)]; omega
      · rw [if_neg h, if_neg h2, if_neg (by omega)]; rfl
theorem sumI_sF : ∀ (l : List Int), sumI l = sF (fun i => l.getD i 0) l.length
  | [] => rfl
  | x :: l => by
    have e : sumI (x :: l) = x + sumI l := by unfold sumI; rw [List.sum_cons]
    rw [e, List.length_cons, sF_shift, sumI_sF l]
    rfl
theorem allT_sF (l : List (List Int × Int)) : allT l = sF (fun j => (lyr l j).2) l.length := by
  have := sumI_sF (l.map Prod.snd)
  rw [List.length_map] at this
  refine this.trans (sF_congr fun i hi => ?_)
  rw [List.getD_eq_getElem?_getD, List.getElem?_map, List.getElem?_eq_getElem hi, lyr_at (List.getElem?_eq_getElem hi)]; rfl
theorem mnS_sF (l : List (List Int × Int)) (own : List Int) : ∀ k, mnS l own k = sF (fun j => min (lyr l j).2 (own.getD j 0)) k
  | 0 => rfl
  | k + 1 => by rw [mnS, sF, mnS_sF l own k]
theorem ownN_getD {l : List (List Int × Int)} {c : Nat} {own : List Int} {k j : Nat} (hj : j < own.length) (hk : j < k) : (ownN l c own k).getD j 0 = own.getD j 0 + (lyr l j).1.getD c 0 := by
  rw [List.getD_eq_getElem?_getD]
  unfold ownN
  rw [List.getElem?_map, List.getElem?_range hj, Option.map_some, if_pos hk]; rfl
theorem fits_iff {l : List (List Int × Int)} : ∀ (r : List Int) (c : Nat) (need : Int) (own : List Int), own.length = l.length →
    (fitsF l r c need own = true ↔ ∀ S : Nat → Bool, need + sF (fun i => if S (c + i) then r.getD i 0 else 0) r.length ≤ sF (fun j => min (lyr l j).2 (own.getD j 0 + sF (fun i => if S (c + i) then (lyr l j).1.getD (c + i) 0 else 0) r.length)) l.length)
  | [], c, need, own, ho => by
    rw [fitsF, mnS_sF, decide_eq_true_eq]
    simp only [List.length_nil, sF, Int.add_zero]
    exact ⟨fun h _ => h, fun h => h fun _ => false⟩
  | t :: r, c, need, own, ho => by
    have i1 := fits_iff (l := l) r (c + 1) need own ho
    have i2 := fits_iff (l := l) r (c + 1) (need + t) (ownN l c own l.length) (by rw [ownN_len]; exact ho)
    rw [fitsF, Bool.and_eq_true, i1, i2]
    have e1 : ∀ S : Nat → Bool, sF (fun i => if S (c + i) then (t :: r).getD i 0 else 0) (t :: r).length = (if S c then t else 0) + sF (fun i => if S (c + 1 + i) then r.getD i 0 else 0) r.length := fun S => by
      rw [List.length_cons, sF_shift]
      refine congr (congrArg _ rfl) (sF_congr fun i _ => ?_)
      rw [show c + (i + 1) = c + 1 + i by omega]; rfl
    have e2 : ∀ (S : Nat → Bool) (j : Nat), sF (fun i => if S (c + i) then (lyr l j).1.getD (c + i) 0 else 0) (t :: r).length = (if S c then (lyr l j).1.getD c 0 else 0) + sF (fun i => if S (c + 1 + i) then (lyr l j).1.getD (c + 1 + i) 0 else 0) r.length := fun S j => by
      rw [List.length_cons, sF_shift]
      refine congr (congrArg _ rfl) (sF_congr fun i _ => ?_)
      rw [show c + (i + 1) = c + 1 + i by omega]
    have e3 : ∀ S : Nat → Bool, sF (fun j => min (lyr l j).2 ((ownN l c own l.length).getD j 0 + sF (fun i => if S (c + 1 + i) then (lyr l j).1.getD (c + 1 + i) 0 else 0) r.length)) l.length = sF (fun j => min (lyr l j).2 (own.getD j 0 + ((lyr l j).1.getD c 0 + sF (fun i => if S (c + 1 + i) then (lyr l j).1.getD (c + 1 + i) 0 else 0) r.length))) l.length := fun S =>
      sF_congr fun j hj => by rw [ownN_getD (by omega) hj, Int.add_assoc]
    constructor
    · rintro ⟨h1, h2⟩ S
      rw [e1]
      simp only [e2]
      by_cases hs : S c = true
      · have := h2 S
        rw [e3] at this
        simp only [hs, if_true]
        omega
      · have := h1 S
        simp only [hs]
        simp only [Bool.false_eq_true, if_false, Int.zero_add]
        omega
    · intro h
      refine ⟨fun S => ?_, fun S => ?_⟩
      · obtain ⟨S', hS⟩ : ∃ S' : Nat → Bool, S' = fun i => if i = c then false else S i := ⟨_, rfl⟩
        have k0 : S' c = false := by rw [hS]; exact if_pos rfl
        have k : ∀ i, S' (c + 1 + i) = S (c + 1 + i) := fun i => by rw [hS]; exact if_neg (by omega)
        have := h S'
        rw [e1] at this
        simp only [e2, k0, k, Bool.false_eq_true, if_false, Int.zero_add] at this
        exact this
      · obtain ⟨S', hS⟩ : ∃ S' : Nat → Bool, S' = fun i => if i = c then true else S i := ⟨_, rfl⟩
        have k0 : S' c = true := by rw [hS]; exact if_pos rfl
        have k : ∀ i, S' (c + 1 + i) = S (c + 1 + i) := fun i => by rw [hS]; exact if_neg (by omega)
        have := h S'
        rw [e1] at this
        simp only [e2, k0, k, if_true] at this
        rw [e3]; omega
/-- Any coals together need no more than all layers can give of them. -/
def Hall (n m : Nat) (t room : Nat → Int) (C : Nat → Nat → Int) : Prop := ∀ S : Nat → Bool, sF (fun i => if S i then t i else 0) n ≤ sF (fun j => min (room j) (sF (fun i => if S i then C j i else 0) n)) m
def roomL (l : List (List Int × Int)) (j : Nat) : Int := (lyr l j).2
def contL (l : List (List Int × Int)) (j i : Nat) : Int := (lyr l j).1.getD i 0
theorem canB_iff {l : List (List Int × Int)} {ts : List Int} : canB l ts = true ↔ (∀ t ∈ ts, 0 ≤ t ∧ t ≤ allT l) ∧ sumI ts = allT l ∧ Hall ts.length l.length (fun i => ts.getD i 0) (roomL l) (contL l) := by
  have hf := fits_iff (l := l) ts 0 0 (List.replicate l.length 0) (by simp)
  have e : ∀ (S : Nat → Bool), sF (fun j => min (lyr l j).2 ((List.replicate l.length (0 : Int)).getD j 0 + sF (fun i => if S (0 + i) then (lyr l j).1.getD (0 + i) 0 else 0) ts.length)) l.length = sF (fun j => min (roomL l j) (sF (fun i => if S i then contL l j i else 0) ts.length)) l.length := fun S =>
    sF_congr fun j hj => by
      have : (List.replicate l.length (0 : Int)).getD j 0 = 0 := by simp [List.getD_eq_getElem?_getD, hj]
      rw [this, Int.zero_add]
      simp only [Nat.zero_add]; rfl
  have e0 : ∀ S : Nat → Bool, 0 + sF (fun i => if S (0 + i) then ts.getD i 0 else 0) ts.length = sF (fun i => if S i then ts.getD i 0 else 0) ts.length := fun S => by simp only [Nat.zero_add, Int.zero_add]
  by_cases h : ∀ t ∈ ts, 0 ≤ t ∧ t ≤ allT l
  · rw [canB_in h, Bool.and_eq_true, decide_eq_true_eq, hf]
    simp only [e, e0]
    exact ⟨fun ⟨a, b⟩ => ⟨h, a, b⟩, fun ⟨_, a, b⟩ => ⟨a, b⟩⟩
  · unfold canB
    rw [if_neg h]
    exact ⟨fun q => absurd q Bool.false_ne_true, fun q => absurd q.1 h⟩
/-- A division answers it. -/
theorem div_hall {n m : Nat} {room : Nat → Int} {C x : Nat → Nat → Int} (hb : ∀ j i, j < m → i < n → 0 ≤ x j i ∧ x j i ≤ C j i) (hr : ∀ j, j < m → sF (x j) n = room j) : Hall n m (fun i => sF (fun j => x j i) m) room C := fun S => by
  have e : sF (fun i => if S i then sF (fun j => x j i) m else 0) n = sF (fun j => sF (fun i => if S i then x j i else 0) n) m := by
    rw [← sF_comm (fun j i => if S i then x j i else 0) m n]
    refine sF_congr fun i _ => ?_
    by_cases h : S i = true
    · simp only [h, if_true]
    · simp only [h]; simp only [Bool.false_eq_true, if_false]; exact (sF_zero m).symm
  rw [e]
  refine sF_le fun j hj => ?_
  have h1 : sF (fun i => if S i then x j i else 0) n ≤ sF (fun i => if S i then C j i else 0) n := sF_le fun i hi => by
    have := hb j i hj hi
    split <;> omega
  have h2 : sF (fun i => if S i then x j i else 0) n ≤ sF (x j) n := sF_le fun i hi => by
    have := hb j i hj hi
    split <;> omega
  rw [hr j hj] at h2
  omega
theorem can_div {l : List (List Int × Int)} {ts : List Int} {x : Nat → Nat → Int} (ht : ∀ i, i < ts.length → ts.getD i 0 = sF (fun j => x j i) l.length) (hb : ∀ j i, j < l.length → i < ts.length → 0 ≤ x j i ∧ x j i ≤ contL l j i) (hr : ∀ j, j < l.length → sF (x j) ts.length = roomL l j) : canB l ts = true := by
  have hs : sumI ts = allT l := by
    rw [sumI_sF, allT_sF, sF_congr ht, sF_comm]
    exact sF_congr fun j hj => hr j hj
  have hn : ∀ t ∈ ts, 0 ≤ t := fun t h => by
    obtain ⟨i, hi⟩ := List.getElem?_of_mem h
    have hlt := (List.getElem?_eq_some_iff.1 hi).1
    have := ht i hlt
    rw [List.getD_eq_getElem?_getD, hi] at this
    rw [show t = sF (fun j => x j i) l.length from this]
    exact sF_nn fun j hj => (hb j i hj hlt).1
  refine canB_iff.2 ⟨fun t h => ⟨hn t h, ?_⟩, hs, fun S => ?_⟩
  · rw [← hs]
    obtain ⟨i, hi⟩ := List.getElem?_of_mem h
    have := getD_sum hn i
    rw [List.getD_eq_getElem?_getD, hi] at this
    exact this
  · have := div_hall hb hr S
    rw [sF_congr (g := fun i => if S i then sF (fun j => x j i) l.length else 0) fun i hi => by dsimp only; rw [ht i hi]]
    exact this
/-! ### What it says of one coal -/
theorem blS_sF (w : Nat) (l : List (List Int × Int)) : ∀ k, k ≤ l.length → (blS w (l.take k)).hi = sF (fun j => min (roomL l j) (contL l j w)) k ∧ (blS w (l.take k)).lo = sF (fun j => max 0 (roomL l j - (sumI (lyr l j).1 - contL l j w))) k
  | 0, _ => ⟨rfl, rfl⟩
  | k + 1, h => by
    obtain ⟨a, b⟩ := blS_sF w l k (by omega)
    obtain ⟨x, hx⟩ : ∃ x, l[k]? = some x := ⟨_, List.getElem?_eq_getElem (by omega)⟩
    rw [blS_take hx, sF, sF, ← a, ← b]
    unfold roomL contL
    rw [lyr_at hx]
    exact ⟨rfl, rfl⟩
theorem can_blend {l : List (List Int × Int)} {ts : List Int} {w : Nat} (h : canB l ts = true) (hw : w < ts.length) (hc : ∀ j, j < l.length → sF (contL l j) ts.length = sumI (lyr l j).1) : (blS w l).lo ≤ ts.getD w 0 ∧ ts.getD w 0 ≤ (blS w l).hi := by
  obtain ⟨_, hs, hh⟩ := canB_iff.1 h
  obtain ⟨e1, e2⟩ := blS_sF w l l.length (Nat.le_refl _)
  rw [List.take_length] at e1 e2
  rw [e1, e2]
  constructor
  · have h1 := hh fun i => !decide (i = w)
    have k1 : ∀ f : Nat → Int, sF (fun i => if (!decide (i = w)) = true then f i else 0) ts.length = sF f ts.length - f w := fun f => by
      have a : sF (fun i => (if i = w then f i else 0)) ts.length + sF (fun i => if (!decide (i = w)) = true then f i else 0) ts.length = sF f ts.length := by
        rw [← sF_add]
        exact sF_congr fun i _ => by by_cases hi : i = w <;> simp [hi]
      rw [sF_one, if_pos hw] at a; omega
    rw [k1, ← sumI_sF, hs, allT_sF] at h1
    have h2 : sF (fun j => min (roomL l j) (sF (fun i => if (!decide (i = w)) = true then contL l j i else 0) ts.length)) l.length = sF (fun j => roomL l j - max 0 (roomL l j - (sumI (lyr l j).1 - contL l j w))) l.length := sF_congr fun j hj => by
      rw [k1, hc j hj]; omega
    rw [h2, sF_sub] at h1
    have h3 : sF (fun j => (lyr l j).2) l.length = sF (roomL l) l.length := rfl
    omega
  · have h1 := hh fun i => decide (i = w)
    have k1 : ∀ f : Nat → Int, sF (fun i => if decide (i = w) = true then f i else 0) ts.length = f w := fun f => by
      have := sF_one (f := f) (w := w) (n := ts.length)
      rw [if_pos hw] at this
      rw [← this]
      exact sF_congr fun i _ => by by_cases hi : i = w <;> simp [hi]
    rw [k1] at h1
    refine Int.le_trans h1 (Int.le_of_eq (sF_congr fun j _ => ?_))
    rw [k1]
end Go.Proofs.Ytpefpafijadfmaa

/-
  The ends of a blend: with so much of one coal, and of the others, one after the other, as much as can be.
-/
set_option linter.all false
namespace Go.Proofs.Ytpefpafijadfmaa
open Go Go.H
/-! ### The parts of a draw, once more -/
theorem vecR_sum (room : Nat → Int) (t : Int) : ∀ L, sumI (vecR room L t).1 = t - (vecR room L t).2
  | 0 => by show (0 : Int) = t - t; omega
  | L + 1 => by
    rw [vecR, sumI_app, vecR_sum room t L]
    show _ + (min (room L) (vecR room L t).2 + 0) = _
    dsimp only; omega
theorem parts_all {n : Nat} {ms : List Move} {L : Nat} (hm : movesOk n 0 ms) : ∀ (k : Nat) (prev : List (List Int)), k ≤ ms.length → partsR n ms L k = some prev → PInv n ms L k prev ∧ ∀ v ∈ prev, 1 ≤ sumI v
  | 0, prev, _, h => by
    cases h
    exact ⟨pinv_0, fun v hv => (List.not_mem_nil hv).elim⟩
  | k + 1, prev, hk, h => by
    obtain ⟨m, hm2⟩ : ∃ m, ms[k]? = some m := ⟨_, List.getElem?_eq_getElem (by omega)⟩
    cases hp : partsR n ms L k with
    | none => rw [parts_end hp (Nat.le_succ k)] at h; cases h
    | some p =>
      obtain ⟨H, hs⟩ := parts_all hm k p (by omega) hp
      by_cases hc : m.coal = -1
      · by_cases h2 : (vecR (roomR n ms k p) L m.tons).2 > 0
        · rw [parts_bad hp hm2 hc h2] at h; cases h
        · rw [parts_more hp hm2 hc h2] at h
          cases h
          refine ⟨H.more hm hm2 hc h2, fun v hv => ?_⟩
          rcases List.mem_append.1 hv with hv | hv
          · exact hs v hv
          · rw [List.mem_singleton.1 hv, vecR_sum]
            obtain ⟨_, _, t1, t2⟩ := movesOk_at hm hm2
            omega
      · rw [parts_skip hp hm2 hc] at h
        cases h
        exact ⟨H.skip hm hm2 hc, hs⟩
theorem nz_tons {f : Nat → Int} (h : ∀ j, 0 ≤ f j) : ∀ L, sumI ((nzF f L).map Part.tons) = sF f L
  | 0 => rfl
  | L + 1 => by
    rw [nzF_succ, sF, ← nz_tons h L]
    have := h L
    split
    · rw [List.map_append, sumI_app]
      show _ + (f L + 0) = _
      omega
    · omega
theorem partsL_nz (y : Yard) (v : List Int) : partsL y [v] = (nzF (fun i => v.getD i 0) (opn y.moves).1).map fun p => (contF 6 (y.moves.take y.moves.length) p.layer, p.tons) := by
  unfold partsL partsN nzF
  rw [taken_one, List.map_filterMap]
  refine congrArg (fun g => List.filterMap g (List.range (opn y.moves).1)) (funext fun j => ?_)
  dsimp only
  split <;> rfl
theorem nz_sorted (f : Nat → Int) : ∀ L, (nzF f L).Pairwise fun a b => a.layer < b.layer
  | 0 => List.Pairwise.nil
  | L + 1 => by
    rw [nzF_succ]
    split
    · refine List.pairwise_append.2 ⟨nz_sorted f L, List.pairwise_singleton _ _, fun a ha b hb => ?_⟩
      rw [List.mem_singleton.1 hb]
      exact (nzF_mem ha).2.2.1
    · exact nz_sorted f L
theorem nz_lt {f : Nat → Int} {L k : Nat} {a b : Part} (h0 : 0 < k) (ha : (nzF f L)[k - 1]? = some a) (hb : (nzF f L)[k]? = some b) : a.layer < b.layer := by
  obtain ⟨h1, e1⟩ := List.getElem?_eq_some_iff.1 ha
  obtain ⟨h2, e2⟩ := List.getElem?_eq_some_iff.1 hb
  have := List.pairwise_iff_getElem.1 (nz_sorted f L) (k - 1) k h1 h2 (by omega)
  rwa [e1, e2] at this
/-! ### One layer's part, given out -/
def nW (side : Nat) (c : List Int) (tn : Int) (w : Nat) : Int := if side = 1 then min tn (c.getD w 0) else max 0 (tn - (sumI c - c.getD w 0))
def grE (c : List Int) (w : Nat) (need : Int) : Nat → Int
  | 0 => need
  | k + 1 => if k = w then grE c w need k else grE c w need k - min (grE c w need k) (c.getD k 0)
def uX (side : Nat) (c : List Int) (tn : Int) (w i : Nat) : Int := if i = w then nW side c tn w else min (grE c w (tn - nW side c tn w) i) (c.getD i 0)
theorem grE_w {c : List Int} {w : Nat} {need : Int} : grE c w need (w + 1) = grE c w need w := by rw [grE, if_pos rfl]
theorem grE_o {c : List Int} {w k : Nat} {need : Int} (h : k ≠ w) : grE c w need (k + 1) = grE c w need k - min (grE c w need k) (c.getD k 0) := by rw [grE, if_neg h]
theorem getD_nn {c : List Int} (h : ∀ z ∈ c, 0 ≤ z) (i : Nat) : 0 ≤ c.getD i 0 := by
  rw [List.getD_eq_getElem?_getD]
  cases hg : c[i]? with
  | none => simp
  | some z => simpa using h z (List.mem_of_getElem? hg)
theorem grE_val {c : List Int} {w : Nat} {need : Int} (h : ∀ z ∈ c, 0 ≤ z) (hn : 0 ≤ need) : ∀ k, grE c w need k = max 0 (need - sF (fun i => if i = w then 0 else c.getD i 0) k) ∧ 0 ≤ sF (fun i => if i = w then 0 else c.getD i 0) k
  | 0 => by simp [grE, sF]; omega
  | k + 1 => by
    obtain ⟨a, b⟩ := grE_val (w := w) h hn k
    have hc := getD_nn h k
    by_cases hk : k = w
    · subst hk
      rw [grE_w, a, sF, if_pos rfl, Int.add_zero]
      exact ⟨rfl, b⟩
    · rw [grE_o hk, a, sF, if_neg hk]
      omega
theorem rest_sum {c : List Int} {w : Nat} (hw : w < c.length) : sF (fun i => if i = w then 0 else c.getD i 0) c.length = sumI c - c.getD w 0 := by
  have h1 := sF_one (f := fun i => c.getD i 0) (w := w) (n := c.length)
  rw [if_pos hw] at h1
  have h2 : sF (fun i => if i = w then c.getD i 0 else 0) c.length + sF (fun i => if i = w then 0 else c.getD i 0) c.length = sF (fun i => c.getD i 0) c.length := by
    rw [← sF_add]
    exact sF_congr fun i _ => by by_cases hi : i = w <;> simp [hi]
  rw [sumI_sF c]
  omega
section
variable {side : Nat} {c : List Int} {tn : Int} {w : Nat}
theorem nW_bd (h : ∀ z ∈ c, 0 ≤ z) (h0 : 0 ≤ tn) (h1 : tn ≤ sumI c) : 0 ≤ nW side c tn w ∧ nW side c tn w ≤ c.getD w 0 ∧ nW side c tn w ≤ tn ∧ tn - nW side c tn w ≤ sumI c - c.getD w 0 := by
  have hc := getD_nn h w
  have hs := getD_sum h w
  unfold nW
  split <;> omega
theorem uX_bd (h : ∀ z ∈ c, 0 ≤ z) (h0 : 0 ≤ tn) (h1 : tn ≤ sumI c) (i : Nat) : 0 ≤ uX side c tn w i ∧ uX side c tn w i ≤ c.getD i 0 := by
  obtain ⟨a, b, d, e⟩ := nW_bd (side := side) (w := w) h h0 h1
  have hc := getD_nn h i
  have hg := (grE_val (w := w) h (show 0 ≤ tn - nW side c tn w by omega) i).1
  unfold uX
  split
  · rename_i hi; subst hi; exact ⟨a, b⟩
  · omega
theorem uX_run (h : ∀ z ∈ c, 0 ≤ z) (h0 : 0 ≤ tn) (h1 : tn ≤ sumI c) : ∀ k, sF (fun i => if i = w then 0 else uX side c tn w i) k = (tn - nW side c tn w) - grE c w (tn - nW side c tn w) k
  | 0 => by simp [sF, grE]
  | k + 1 => by
    rw [sF, uX_run h h0 h1 k]
    by_cases hk : k = w
    · subst hk; rw [if_pos rfl, grE_w]; omega
    · rw [if_neg hk, grE_o hk]
      unfold uX
      rw [if_neg hk]; omega
theorem uX_sum (h : ∀ z ∈ c, 0 ≤ z) (h0 : 0 ≤ tn) (h1 : tn ≤ sumI c) (hw : w < c.length) : sF (uX side c tn w) c.length = tn := by
  obtain ⟨a, b, d, e⟩ := nW_bd (side := side) (w := w) h h0 h1
  have hg := (grE_val (w := w) h (show 0 ≤ tn - nW side c tn w by omega) c.length).1
  rw [rest_sum hw] at hg
  have hr := uX_run (side := side) (w := w) h h0 h1 c.length
  have h3 := sF_one (f := uX side c tn w) (w := w) (n := c.length)
  rw [if_pos hw] at h3
  have h2 : sF (fun i => if i = w then uX side c tn w i else 0) c.length + sF (fun i => if i = w then 0 else uX side c tn w i) c.length = sF (uX side c tn w) c.length := by
    rw [← sF_add]
    exact sF_congr fun i _ => by by_cases hi : i = w <;> simp [hi]
  have h4 : uX side c tn w w = nW side c tn w := by unfold uX; exact if_pos rfl
  omega
end
/-! ### All parts -/
def cPt (y : Yard) (P : List Part) (j : Nat) : List Int := contF y.coals.length (y.moves.take y.moves.length) (P.getD j ⟨0, 0⟩).layer
def tPt (P : List Part) (j : Nat) : Int := (P.getD j ⟨0, 0⟩).tons
def xE (y : Yard) (P : List Part) (side w j i : Nat) : Int := uX side (cPt y P j) (tPt P j) w i
def lE (y : Yard) (P : List Part) (side w k : Nat) : List Int := (List.range y.coals.length).map fun i => sF (fun j => xE y P side w j i) k
def lM (y : Yard) (P : List Part) (side w k i : Nat) : List Int := (List.range y.coals.length).map fun q => sF (fun j => xE y P side w j q) k + if q = w then xE y P side w k q else if q < i then xE y P side w k q else 0
theorem lE_len (y : Yard) (P : List Part) (side w k : Nat) : (lE y P side w k).length = y.coals.length := by simp [lE]
theorem lM_len (y : Yard) (P : List Part) (side w k i : Nat) : (lM y P side w k i).length = y.coals.length := by simp [lM]
section
variable {y : Yard} {P : List Part} {side w k i : Nat}
theorem lE_get (h : i < y.coals.length) : (lE y P side w k)[i]? = some (sF (fun j => xE y P side w j i) k) := by simp [lE, h]
theorem lM_get {q : Nat} (h : q < y.coals.length) : (lM y P side w k i)[q]? = some (sF (fun j => xE y P side w j q) k + if q = w then xE y P side w k q else if q < i then xE y P side w k q else 0) := by simp [lM, h]
theorem lE_0 : lE y P side w 0 = List.replicate y.coals.length 0 := by
  refine List.eq_replicate_iff.2 ⟨lE_len _ _ _ _ _, fun x hx => ?_⟩
  simp only [lE, List.mem_map] at hx
  obtain ⟨i, _, rfl⟩ := hx
  rfl
theorem lE_set (h : w < y.coals.length) : (lE y P side w k).set w (sF (fun j => xE y P side w j w) k + xE y P side w k w) = lM y P side w k 0 := by
  refine List.ext_getElem? fun q => ?_
  rw [List.getElem?_set]
  by_cases hq : q < y.coals.length
  · rw [lE_get hq, lM_get hq]
    by_cases hw : w = q
    · subst hw; rw [if_pos rfl, if_pos (by rw [lE_len]; omega), if_pos rfl]
    · rw [if_neg hw, if_neg (by omega), if_neg (by omega), Int.add_zero]
  · have : ¬ w = q := by omega
    rw [if_neg this, List.getElem?_eq_none (by rw [lE_len]; omega), List.getElem?_eq_none (by rw [lM_len]; omega)]
theorem lM_w : lM y P side w k (w + 1) = lM y P side w k w := by
  refine List.map_congr_left fun q hq => ?_
  by_cases h : q = w
  · rw [if_pos h, if_pos h]
  · rw [if_neg h, if_neg h]
    congr 1
    by_cases h2 : q < w
    · rw [if_pos h2, if_pos (by omega)]
    · rw [if_neg h2, if_neg (by omega)]
theorem lM_at (h : i < y.coals.length) (hw : i ≠ w) : (lM y P side w k i)[i]? = some (sF (fun j => xE y P side w j i) k) := by
  rw [lM_get h, if_neg hw, if_neg (Nat.lt_irrefl _), Int.add_zero]
theorem lM_set (h : i < y.coals.length) (hw : i ≠ w) : (lM y P side w k i).set i (sF (fun j => xE y P side w j i) k + xE y P side w k i) = lM y P side w k (i + 1) := by
  refine List.ext_getElem? fun q => ?_
  rw [List.getElem?_set]
  by_cases hq : q < y.coals.length
  · rw [lM_get hq, lM_get hq]
    by_cases hi : i = q
    · subst hi; rw [if_pos rfl, if_pos (by rw [lM_len]; omega), if_neg hw, if_pos (by omega)]
    · rw [if_neg hi]
      congr 2
      by_cases h1 : q = w
      · rw [if_pos h1, if_pos h1]
      · rw [if_neg h1, if_neg h1]
        by_cases h2 : q < i
        · rw [if_pos h2, if_pos (by omega)]
        · rw [if_neg h2, if_neg (by omega)]
  · have : ¬ i = q := by omega
    rw [if_neg this, List.getElem?_eq_none (by rw [lM_len]; omega), List.getElem?_eq_none (by rw [lM_len]; omega)]
theorem lM_end : lM y P side w k y.coals.length = lE y P side w (k + 1) := by
  refine List.map_congr_left fun q hq => ?_
  rw [List.mem_range] at hq
  rw [sF]
  by_cases h : q = w
  · rw [if_pos h]
  · rw [if_neg h, if_pos hq]
end
theorem part_at {P : List Part} {k : Nat} {p : Part} (h : P[k]? = some p) : P.getD k ⟨0, 0⟩ = p := by rw [List.getD_eq_getElem?_getD, h]; rfl
/-- The division answers what the program asks, and has the end of the blend. -/
structure EndsV (y : Yard) (v : List Int) (P : List Part) : Prop where
  gy : GoodYard y
  is : P = nzF (fun i => v.getD i 0) (opn y.moves).1
  nn : ∀ x ∈ v, 0 ≤ x ∧ x ≤ 1048576
  le : ∀ j, v.getD j 0 ≤ sumI (contE y j)
section
variable {y : Yard} {v : List Int} {P : List Part}
theorem EndsV.at (H : EndsV y v P) {k : Nat} {p : Part} (h : P[k]? = some p) : (1 ≤ p.tons ∧ p.tons ≤ 1048576) ∧ 0 ≤ p.layer ∧ p.layer < ((opn y.moves).1 : Int) ∧ p.tons ≤ sumI (cPt y P k) ∧ (cPt y P k).length = y.coals.length ∧ ∀ z ∈ cPt y P k, 0 ≤ z ∧ z ≤ 33554432 := by
  have hm := List.mem_of_getElem? h
  rw [H.is] at hm
  obtain ⟨a, b, c, d⟩ := nzF_mem hm
  have hg := getD_bd (B := 1048576) (by decide) H.nn p.layer.toNat
  have hl := H.le p.layer.toNat
  have e : cPt y P k = contE y p.layer.toNat := by unfold cPt contE; rw [part_at h, show ((p.layer.toNat : Nat) : Int) = p.layer by omega]
  have hc := contF_bd (j := ((p.layer.toNat : Nat) : Int)) (movesOk_mono y.moves.length H.gy.2.1)
  have h32 := H.gy.2.2.2
  refine ⟨by omega, b, c, by rw [e]; omega, by rw [e]; exact contE_len _ _, fun z hz => ?_⟩
  rw [e] at hz
  have := hc z hz
  rw [List.length_take, Nat.min_self] at this
  omega
theorem EndsV.lyr (H : EndsV y v P) {k : Nat} {p : Part} (h : P[k]? = some p) : lyr (partsL y [v]) k = (contF 6 (y.moves.take y.moves.length) p.layer, p.tons) := by
  refine lyr_at ?_
  rw [partsL_nz, ← H.is, List.getElem?_map, h]; rfl
theorem EndsV.len (H : EndsV y v P) : (partsL y [v]).length = P.length := by rw [partsL_nz, ← H.is, List.length_map]
theorem EndsV.room (H : EndsV y v P) {k : Nat} (h : k < P.length) : roomL (partsL y [v]) k = tPt P k := by
  have hk := List.getElem?_eq_getElem h
  unfold roomL tPt
  rw [H.lyr hk, part_at hk]
theorem EndsV.cont (H : EndsV y v P) {k i : Nat} (h : k < P.length) (hi : i < y.coals.length) : contL (partsL y [v]) k i = (cPt y P k).getD i 0 := by
  have hk := List.getElem?_eq_getElem h
  obtain ⟨_, h1, _⟩ := H.at hk
  unfold contL cPt
  rw [H.lyr hk, part_at hk]
  have := c6_get H.gy (P[k].layer.toNat) hi
  unfold contE at this
  rw [show ((P[k].layer.toNat : Nat) : Int) = P[k].layer by omega] at this
  exact this
theorem EndsV.csum (H : EndsV y v P) {k : Nat} (h : k < P.length) : sumI (Go.Proofs.Ytpefpafijadfmaa.lyr (partsL y [v]) k).1 = sumI (cPt y P k) := by
  have hk := List.getElem?_eq_getElem h
  obtain ⟨_, h1, _⟩ := H.at hk
  unfold cPt
  rw [H.lyr hk, part_at hk]
  have := c6_sum H.gy (P[k].layer.toNat)
  unfold contE at this
  rw [show ((P[k].layer.toNat : Nat) : Int) = P[k].layer by omega] at this
  exact this
theorem EndsV.sums (H : EndsV y v P) : ∀ j, j < (partsL y [v]).length → sF (contL (partsL y [v]) j) y.coals.length = sumI (Go.Proofs.Ytpefpafijadfmaa.lyr (partsL y [v]) j).1 := fun j hj => by
  rw [H.len] at hj
  have hk := List.getElem?_eq_getElem hj
  obtain ⟨_, _, _, _, hl, _⟩ := H.at hk
  rw [H.csum hj, sumI_sF, hl]
  exact sF_congr fun i hi => H.cont hj hi
theorem EndsV.xbd (H : EndsV y v P) {side w k : Nat} (h : k < P.length) (i : Nat) : (0 ≤ xE y P side w k i ∧ xE y P side w k i ≤ (cPt y P k).getD i 0) ∧ xE y P side w k i ≤ 33554432 := by
  have hk := List.getElem?_eq_getElem h
  obtain ⟨ht, _, _, hs, hl, hz⟩ := H.at hk
  have e : tPt P k = P[k].tons := by unfold tPt; rw [part_at hk]
  have hu := uX_bd (side := side) (w := w) (tn := tPt P k) (fun z hq => (hz z hq).1) (by rw [e]; omega) (by rw [e]; exact hs) i
  have hc := getD_bd (B := 33554432) (by decide) hz i
  unfold xE
  exact ⟨hu, by omega⟩
theorem EndsV.can (H : EndsV y v P) {side w : Nat} (hw : w < y.coals.length) : canB (partsL y [v]) (lE y P side w P.length) = true := by
  refine can_div (x := xE y P side w) (fun i hi => ?_) (fun j i hj hi => ?_) fun j hj => ?_
  · rw [lE_len] at hi
    rw [List.getD_eq_getElem?_getD, lE_get hi, H.len]; rfl
  · rw [H.len] at hj; rw [lE_len] at hi
    rw [H.cont hj hi]
    exact (H.xbd hj i).1
  · rw [H.len] at hj
    have hk := List.getElem?_eq_getElem hj
    obtain ⟨ht, _, _, hs, hl, hz⟩ := H.at hk
    have e : tPt P j = P[j].tons := by unfold tPt; rw [part_at hk]
    rw [lE_len, H.room hj, ← hl]
    exact uX_sum (fun z hq => (hz z hq).1) (by rw [e]; omega) (by rw [e]; exact hs) (by rw [hl]; exact hw)
def endE (y : Yard) (v : List Int) (side w : Nat) : Int := if side = 1 then (blS w (partsL y [v])).hi else (blS w (partsL y [v])).lo
theorem EndsV.end (H : EndsV y v P) {side w : Nat} (hw : w < y.coals.length) : sF (fun j => xE y P side w j w) P.length = endE y v side w := by
  obtain ⟨e1, e2⟩ := blS_sF w (partsL y [v]) _ (Nat.le_refl _)
  rw [List.take_length, H.len] at e1 e2
  have hx : ∀ j, xE y P side w j w = nW side (cPt y P j) (tPt P j) w := fun j => by unfold xE uX; exact if_pos rfl
  unfold endE
  split
  · rename_i hs
    rw [e1]
    refine sF_congr fun j hj => ?_
    rw [hx, H.room hj, H.cont hj hw]
    unfold nW; exact if_pos hs
  · rename_i hs
    rw [e2]
    refine sF_congr fun j hj => ?_
    rw [hx, H.room hj, H.cont hj hw, H.csum hj]
    unfold nW; exact if_neg hs
/-- Beyond the end there is nothing. -/
theorem EndsV.beyond (H : EndsV y v P) {side w : Nat} {xs : List Int} (hw : w < y.coals.length) (hl : xs.length = y.coals.length) (hx : xs.getD w 0 = endE y v side w + 2 * (side : Int) - 1) (hs : side < 2) : canB (partsL y [v]) xs = false := by
  rcases Bool.eq_false_or_eq_true (canB (partsL y [v]) xs) with h | h
  · exfalso
    have := can_blend h (by rw [hl]; exact hw) (by rw [hl]; exact H.sums)
    rw [hx] at this
    unfold endE at this
    split at this <;> omega
  · exact h
end
end Go.Proofs.Ytpefpafijadfmaa
