/-
  Walks.
-/
import Derived.Test.YtlailecnbdlknaaW2
import Derived.Test.YtlailecnbdlknaaP2
namespace Go.Proofs.Ytlailecnbdlknaa
open Go Go.H
set_option maxRecDepth 100000
set_option maxHeartbeats 2000000
set_option linter.all false
theorem first_c {a : Option Addr} {c : Nat} {ss : List Sale} {i k : Int} {h : Hp} {R : Ending → Hp → Prop} (hs : SlV h 3 eSale a ss) (hsm : ∀ x ∈ ss, 0 ≤ x.price ∧ x.price ≤ 1000000) (hi : 0 ≤ i ∧ i < ss.length) (hk : 0 ≤ k ∧ k < ss.length) (hl : ss.length ≤ 1000)
    (H : R (.returned (I (cmpS ss i k))) h) :
    ACalls Try.prog 52 ⟨[.slice a ss.length c, I i, I k]⟩ h R := by
  refine calls_of_xc (N := 25) Try.func52 rfl (by rfl) ?_
  obtain ⟨b, o, l, t, fz, ha, hm, hx⟩ := hs.at (i := i.toNat) (by omega)
  obtain ⟨xi, hxi⟩ : ∃ q, ss[i.toNat]? = some q := ⟨_, List.getElem?_eq_getElem (by omega)⟩
  obtain ⟨xk, hxk⟩ : ∃ q, ss[k.toNat]? = some q := ⟨_, List.getElem?_eq_getElem (by omega)⟩
  have hpi := hsm xi (List.mem_of_getElem? hxi)
  have hpk := hsm xk (List.mem_of_getElem? hxk)
  have hci : cmpS ss i k = if xk.price - xi.price ≠ 0 then xk.price - xi.price else i - k := by unfold cmpS; rw [sale_at hxi, sale_at hxk]
  refine xc_seq (xc_region ?_)
  refine xr_op rfl rfl (xv_assign rfl ?_)
  refine xr_end rfl ?_
  refine th_n ?_
  refine xc_seq ?_
  refine xc_seq ?_
  refine xc_draw0 [(0, .S), (1, .S), (2, .S), (3, .S), (4, .R), (5, .S), (6, .S), (7, .S), (8, .S), (9, .R), (10, .S), (11, .S)] mixed (by kernel_rfl) ?_
  refine js_S rfl rfl (.inl rfl) (xv_move rfl ⟨rfl, rfl⟩) ?_
  refine js_S rfl rfl (.inl rfl) (xv_move rfl ⟨rfl, rfl⟩) ?_
  refine js_S rfl rfl (.inl rfl) (xv_ia (sz := 3) (j := k.toNat) sl98 ty51 rfl (by rw [ha]; rfl) rfl rfl (by omega) (by omega) ⟨rfl, rfl⟩) ?_
  refine js_S rfl rfl (.inl rfl) (xv_faddr fl51_2 rfl ⟨rfl, rfl⟩) ?_
  refine js_R0 rfl rfl (.inl rfl) (xv_load1 ty3 rfl rfl (by (first|((repeat first|exact z_0|assumption|refine z_1 ?_|refine z_r ?_);done)|((repeat refine z_1 ?_);refine z_l ?_;(repeat first|exact z_0|assumption|refine z_1 ?_|refine z_r ?_);done)|((repeat refine z_1 ?_);refine z_r ?_;(repeat refine z_1 ?_);refine z_l ?_;(repeat first|exact z_0|assumption|refine z_1 ?_|refine z_r ?_);done)|((repeat first|exact z_0|assumption|refine z_1 ?_|refine z_l ?_);done))) (take_get (hx k.toNat xk hxk) (j := 2) rfl) ⟨rfl, rfl⟩) ?_
  refine js_S rfl rfl (.inl rfl) (xv_move rfl ⟨rfl, rfl⟩) ?_
  refine js_S rfl rfl (.inl rfl) (xv_move rfl ⟨rfl, rfl⟩) ?_
  refine js_S rfl rfl (.inl rfl) (xv_ia (sz := 3) (j := i.toNat) sl98 ty51 rfl (by rw [ha]; rfl) rfl rfl (by omega) (by omega) ⟨rfl, rfl⟩) ?_
  refine js_S rfl rfl (.inl rfl) (xv_faddr fl51_2 rfl ⟨rfl, rfl⟩) ?_
  refine js_R0 rfl rfl (.inl rfl) (xv_load1 ty3 rfl rfl (by (first|((repeat first|exact z_0|assumption|refine z_1 ?_|refine z_r ?_);done)|((repeat refine z_1 ?_);refine z_l ?_;(repeat first|exact z_0|assumption|refine z_1 ?_|refine z_r ?_);done)|((repeat refine z_1 ?_);refine z_r ?_;(repeat refine z_1 ?_);refine z_l ?_;(repeat first|exact z_0|assumption|refine z_1 ?_|refine z_r ?_);done)|((repeat first|exact z_0|assumption|refine z_1 ?_|refine z_l ?_);done))) (take_get (hx i.toNat xi hxi) (j := 2) rfl) ⟨rfl, rfl⟩) ?_
  refine js_S rfl rfl (.inl rfl) (xv_sub rfl rfl (wrap_i64 (by (first | omega | (dsimp only at *; omega) | (simp at *; omega))) (by (first | omega | (dsimp only at *; omega) | (simp at *; omega)))) ⟨rfl, rfl⟩) ?_
  refine js_S rfl rfl (.inl rfl) (xv_assign rfl ⟨rfl, rfl⟩) ?_
  refine j_end0 ?_
  refine th_n ?_
  refine xc_seq (xc_region ?_)
  refine xr_op rfl rfl (xv_move rfl ?_)
  refine xr_op rfl rfl (xv_neq2 rfl rfl (fun q1 => ?_) (fun q1 => ?_))
  · refine xr_end rfl ?_
    refine th_n ?_
    refine xc_true rfl ?_
    refine xc_seq (xc_region ?_)
    refine xr_op rfl rfl (xv_move rfl ?_)
    refine xr_op rfl rfl (xv_assign rfl ?_)
    refine xr_end rfl ?_
    refine th_n ?_
    refine xc_ret ?_
    refine th_r ?_
    refine body_ret (h' := h) rfl (ro_tmp rfl ro_nil) (by (first|((repeat first|exact s_0|exact s_1|exact s_3|refine s_4 ?_|refine s_5 ?_|refine s_6 ?_|refine s_7 ?_);done)|((repeat first|exact s_0|exact s_1|exact s_3|refine s_4 ?_|refine s_5 ?_|refine s_6 ?_|refine s_8 ?_);done))) ?_
    first | (rw [hci, if_pos (by (first | omega | (dsimp only at *; omega) | (simp at *; omega)))] at H; exact H) | (rw [hci, if_neg (by (first | omega | (dsimp only at *; omega) | (simp at *; omega)))] at H; exact H)
  · refine xr_end rfl ?_
    refine th_n ?_
    refine xc_false rfl ?_
    refine xc_skip ?_
    refine th_n ?_
    refine xc_seq (xc_region ?_)
    refine xr_op rfl rfl (xv_move rfl ?_)
    refine xr_op rfl rfl (xv_move rfl ?_)
    refine xr_op rfl rfl (xv_sub rfl rfl (wrap_i64 (by (first | omega | (dsimp only at *; omega) | (simp at *; omega))) (by (first | omega | (dsimp only at *; omega) | (simp at *; omega)))) ?_)
    refine xr_op rfl rfl (xv_assign rfl ?_)
    refine xr_end rfl ?_
    refine th_n ?_
    refine xc_ret ?_
    refine body_ret (h' := h) rfl (ro_tmp rfl ro_nil) (by (first|((repeat first|exact s_0|exact s_1|exact s_3|refine s_4 ?_|refine s_5 ?_|refine s_6 ?_|refine s_7 ?_);done)|((repeat first|exact s_0|exact s_1|exact s_3|refine s_4 ?_|refine s_5 ?_|refine s_6 ?_|refine s_8 ?_);done))) ?_
    first | (rw [hci, if_pos (by (first | omega | (dsimp only at *; omega) | (simp at *; omega)))] at H; exact H) | (rw [hci, if_neg (by (first | omega | (dsimp only at *; omega) | (simp at *; omega)))] at H; exact H)

end Go.Proofs.Ytlailecnbdlknaa
