/-
  Walks.
-/
import Derived.Test.YtlailecnbdlknaaW15
import Derived.Test.YtlailecnbdlknaaW13
import Derived.Test.YtlailecnbdlknaaP5
namespace Go.Proofs.Ytlailecnbdlknaa
open Go Go.H
set_option maxRecDepth 100000
set_option maxHeartbeats 2000000
set_option linter.all false
theorem AFn_perm_c {f : FuncId} {args : Array Value} {x y : Nat × Obj} {h : Hp} {R : Ending → Hp → Prop} (H : ACalls Try.prog f args (x :: y :: h) R) : ACalls Try.prog f args (y :: x :: h) R := ACalls.perm (List.Perm.swap _ _ _) H

theorem from_all {core : Hp} {y : Yard} {bx b2 b3 : Nat} {yv : Value} {all : List (List Int)} {J Jx : Nat → Hp → Prop} (hbx : (bx, .cells ⟨eYard y⟩ 26 (0, 0)) ∈ core) (hv : YardV core y) (hy : GoodYard y)
    (hRd : ∀ k h', J k h' → core ⊆ h') (hyv : ∀ k x, all[k]? = some x → ∀ vs p, EncP x vs p → ∀ h', J k h' → AFn Try.prog yv vs (p ++ h') (fun e h2 => (e = .returned (.bool true) ∧ J (k + 1) h2) ∨ (e = .returned (.bool false) ∧ Jx (k + 1) h2)))
    (m : Nat) : FromOk core y bx b2 b3 yv all J Jx m := by
  induction m using Nat.strongRecOn with
  | ind m ih => exact @from_step core y bx b2 b3 yv all J Jx m hbx hv hy hRd hyv ih

theorem plansIt {core : Hp} {y : Yard} {bx : Nat} (hbx : (bx, .cells ⟨eYard y⟩ 26 (0, 0)) ∈ core) (hv : YardV core y) (hy : GoodYard y) : IterP Try.prog 48 [] [.pointer (some ⟨bx, 0, none⟩)] EncP (plansY y) (fun h' => core ⊆ h') := by
  intro yv J Jx h hy1 hRd hyv hJ
  show ACalls Try.prog 48 ⟨[yv, .pointer (some ⟨bx, 0, none⟩)]⟩ h _
  refine calls_of_xc (N := 9) Try.func48 rfl (by rfl) ?_
  have hc0 := hRd _ _ hJ
  have m1 := hc0 hbx
  have hv2 := hv.sub hc0
  refine xc_seq (xc_region ?_)
  refine xr_op rfl rfl (xv_box rfl (fun b2 hb2 => ?_))
  refine xr_end rfl ?_
  refine th_n ?_
  refine xc_seq (xc_region ?_)
  rw [hy1]
  refine xr_op rfl rfl (xv_alloc ty94 (fun b3 hb3 => ?_))
  refine xr_end rfl ?_
  refine th_n ?_
  refine xc_seq (xc_region ?_)
  refine xr_op rfl rfl (xv_func rfl rfl ?_)
  refine xr_op rfl rfl (xv_s1 ty94 rfl rfl rfl (by (first|(apply u_3;(repeat first|exact u_0|assumption|apply u_1|apply u_2);done)|((repeat first|exact u_0|assumption|apply u_1|apply u_2);done)|(apply u_3;apply u_3;(repeat first|exact u_0|assumption|apply u_1|apply u_2);done)|((repeat first|exact u_0|assumption|apply u_3|apply u_1);done))) (by (first | rfl | exact Vec.one _ _)) (by (first | decide | exact Nat.le_of_ble_eq_true rfl | (simp only [List.length_cons, List.length_nil]; omega) | (simp; done))) (by ((try apply evl_some rfl);(repeat (first|exact (rfl : _ = [])|apply evl_cons rfl (by (first|exact v_1|exact v_2|exact v_3|exact v_4|exact v_5|exact v_6|exact v_7|exact v_8|exact v_9|exact rfl))|exact rfl)))) ?_)
  refine xr_end rfl ?_
  refine th_n ?_
  refine xc_draw0 [(0, .R), (1, .R), (2, .R), (3, .O)] mixed (by kernel_rfl) ?_
  refine js_R0 rfl rfl (.inl rfl) (xv_load1 ty94 rfl rfl (by (first|((repeat first|exact z_0|assumption|refine z_1 ?_|refine z_r ?_);done)|((repeat refine z_1 ?_);refine z_l ?_;(repeat first|exact z_0|assumption|refine z_1 ?_|refine z_r ?_);done)|((repeat refine z_1 ?_);refine z_r ?_;(repeat refine z_1 ?_);refine z_l ?_;(repeat first|exact z_0|assumption|refine z_1 ?_|refine z_r ?_);done)|((repeat first|exact z_0|assumption|refine z_1 ?_|refine z_l ?_);done))) (by rfl) ⟨rfl, rfl⟩) ?_
  refine js_R0 rfl rfl (.inl rfl) (xv_loadA ty26 rfl rfl (by (first|((repeat first|exact z_0|assumption|refine z_1 ?_|refine z_r ?_);done)|((repeat refine z_1 ?_);refine z_l ?_;(repeat first|exact z_0|assumption|refine z_1 ?_|refine z_r ?_);done)|((repeat refine z_1 ?_);refine z_r ?_;(repeat refine z_1 ?_);refine z_l ?_;(repeat first|exact z_0|assumption|refine z_1 ?_|refine z_r ?_);done)|((repeat first|exact z_0|assumption|refine z_1 ?_|refine z_l ?_);done))) (by ((try apply evl_some rfl);(repeat (first|exact (rfl : _ = [])|apply evl_cons rfl (by (first|exact v_1|exact v_2|exact v_3|exact v_4|exact v_5|exact v_6|exact v_7|exact v_8|exact v_9|exact rfl))|exact rfl)))) (by rfl) ⟨rfl, rfl⟩) ?_
  refine js_R0 rfl rfl (.inl rfl) (xv_calls rfl hb51 (newGoods_c (hv2.sub (by intro z hz; (first|((repeat first|exact z_0|assumption|refine z_1 ?_|refine z_r ?_);done)|((repeat refine z_1 ?_);refine z_l ?_;(repeat first|exact z_0|assumption|refine z_1 ?_|refine z_r ?_);done)|((repeat refine z_1 ?_);refine z_r ?_;(repeat refine z_1 ?_);refine z_l ?_;(repeat first|exact z_0|assumption|refine z_1 ?_|refine z_r ?_);done)|((repeat first|exact z_0|assumption|refine z_1 ?_|refine z_l ?_);done)))) hy (up_ret ⟨rfl, rfl⟩))) ?_
  refine js_O0 rfl rfl (.inl rfl) (xv_fn rfl rfl (afn_func (fi := []) (lb := [.pointer (some ⟨bx, 0, none⟩), .pointer (some ⟨b2, 0, none⟩), .pointer (some ⟨b3, 0, none⟩)]) hb49 (AFn_perm_c (from_all hbx hv hy hRd hyv y.stills.length (plan := []) (g := newG y) (p := []) (idx := 0) (by simp) (.inl rfl) (Nat.zero_le _) (GB.new hy) (fun j z hz => by rw [Nat.zero_add]; exact hz) hJ (fun h2 hJ2 => up_ret ?_) (fun kx h2 hkx hJ2 => up_ret ?_)))))
  · refine j_end0 ?_
    refine body_end (h' := h2) rfl ro_nil (by (first|((repeat first|exact s_0|exact s_1|exact s_3|refine s_4 ?_|refine s_5 ?_|refine s_6 ?_|refine s_7 ?_);done)|((repeat first|exact s_0|exact s_1|exact s_3|refine s_4 ?_|refine s_5 ?_|refine s_6 ?_|refine s_8 ?_);done))) ?_
    first | exact ⟨⟨_, rfl⟩, .inl (by rw [Nat.zero_add] at hJ2; exact hJ2)⟩ | exact ⟨⟨_, rfl⟩, .inr ⟨kx, hkx, hJ2⟩⟩
  · refine j_end0 ?_
    refine body_end (h' := h2) rfl ro_nil (by (first|((repeat first|exact s_0|exact s_1|exact s_3|refine s_4 ?_|refine s_5 ?_|refine s_6 ?_|refine s_7 ?_);done)|((repeat first|exact s_0|exact s_1|exact s_3|refine s_4 ?_|refine s_5 ?_|refine s_6 ?_|refine s_8 ?_);done))) ?_
    first | exact ⟨⟨_, rfl⟩, .inl (by rw [Nat.zero_add] at hJ2; exact hJ2)⟩ | exact ⟨⟨_, rfl⟩, .inr ⟨kx, hkx, hJ2⟩⟩

end Go.Proofs.Ytlailecnbdlknaa
