/-
  A slice that is turned round in its place.
-/
import Derived.Test.YtpefpafijadfmaaP2
import Derived.Test.YtpefpafijadfmaaHT
import Derived.Test.YtpefpafijadfmaaW10
set_option linter.all false
namespace Go.Proofs.Ytpefpafijadfmaa
open Go Go.H
def revK (xs : List Share) (k : Nat) : List Share := (List.range xs.length).map fun i => if i < k ∨ xs.length ≤ i + k then xs.getD (xs.length - 1 - i) default else xs.getD i default
theorem revK_len (xs : List Share) (k : Nat) : (revK xs k).length = xs.length := by simp [revK]
theorem revK_get {xs : List Share} {k i : Nat} (h : i < xs.length) : (revK xs k)[i]? = some (if i < k ∨ xs.length ≤ i + k then xs.getD (xs.length - 1 - i) default else xs.getD i default) := by simp [revK, h]
theorem revK_0 (xs : List Share) : revK xs 0 = xs := by
  refine List.ext_getElem? fun i => ?_
  by_cases h : i < xs.length
  · rw [revK_get h, if_neg (by omega), List.getD_eq_getElem?_getD, List.getElem?_eq_getElem h]; rfl
  · rw [List.getElem?_eq_none (by rw [revK_len]; omega), List.getElem?_eq_none (by omega)]
theorem revK_step {xs : List Share} {k : Nat} (h : k < xs.length - 1 - k) : ((revK xs k).set k (xs.getD (xs.length - 1 - k) default)).set (xs.length - 1 - k) (xs.getD k default) = revK xs (k + 1) := by
  refine List.ext_getElem? fun i => ?_
  by_cases hi : i < xs.length
  · rw [List.getElem?_set, List.getElem?_set, List.length_set, revK_len, revK_get hi, revK_get hi]
    by_cases h1 : xs.length - 1 - k = i
    · rw [if_pos h1, if_pos (by omega), if_pos (by omega), show xs.length - 1 - i = k by omega]
    · rw [if_neg h1]
      by_cases h2 : k = i
      · rw [if_pos h2, if_pos (by omega), if_pos (by omega), h2]
      · rw [if_neg h2]
        congr 1
        by_cases h3 : i < k ∨ xs.length ≤ i + k
        · rw [if_pos h3, if_pos (by omega)]
        · rw [if_neg h3, if_neg (by omega)]
  · rw [List.getElem?_eq_none (by rw [List.length_set, List.length_set, revK_len]; omega), List.getElem?_eq_none (by rw [revK_len]; omega)]
theorem revK_end {xs : List Share} {k : Nat} (h : ¬ (k : Int) < (xs.length : Int) - 1 - k) : revK xs k = xs.reverse := by
  refine List.ext_getElem? fun i => ?_
  by_cases hi : i < xs.length
  · rw [revK_get hi, List.getElem?_reverse hi]
    by_cases h3 : i < k ∨ xs.length ≤ i + k
    · rw [if_pos h3, List.getD_eq_getElem?_getD, List.getElem?_eq_getElem (by omega)]; rfl
    · rw [if_neg h3, show xs.length - 1 - i = i by omega, List.getD_eq_getElem?_getD, List.getElem?_eq_getElem hi]; rfl
  · rw [List.getElem?_eq_none (by rw [revK_len]; omega), List.getElem?_eq_none (by rw [List.length_reverse]; omega)]
theorem idx_get {l : List Int} {k : Nat} {x : Int} (h : l[k]? = some x) : (l.flatMap eI)[(k : Int).toNat * 1]? = some (I x) := by
  have := ints_get h
  rwa [Nat.zero_add] at this
end Go.Proofs.Ytpefpafijadfmaa

/-
  Walks.
-/
namespace Go.Proofs.Ytpefpafijadfmaa
open Go Go.H
set_option maxRecDepth 100000
set_option maxHeartbeats 8000000
set_option linter.all false
theorem given_c {h : Hp} {R : Ending → Hp → Prop} (H : R (.returned (.agg ⟨[.func (.func 54) ⟨[]⟩ ⟨[]⟩, .func (.func 55) ⟨[]⟩ ⟨[]⟩, .func (.func 56) ⟨[]⟩ ⟨[]⟩, .func (.func 57) ⟨[]⟩ ⟨[]⟩]⟩)) h) : ACalls Try.prog 40 ⟨[]⟩ h R := by
  refine calls_of_xc (N := 6) Try.func40 rfl (by rfl) ?_
  refine xc_seq (xc_region ?_)
  refine xr_op rfl rfl (xv_alloc ty90 (fun b0 hb0 => ?_))
  refine xr_end rfl ?_
  refine th_n ?_
  refine xc_seq (xc_region ?_)
  refine xr_op rfl rfl (xv_build bt89 rfl (by ((try apply evl_some rfl);(repeat (first|exact (rfl : _ = [])|apply evl_cons rfl (by (first|exact v_1|exact v_2|exact v_3|exact v_4|exact v_5|exact v_6|exact v_7|exact v_8|exact v_9|exact rfl))|exact rfl)))) ?_)
  refine xr_op rfl rfl (xv_build bt89 rfl (by ((try apply evl_some rfl);(repeat (first|exact (rfl : _ = [])|apply evl_cons rfl (by (first|exact v_1|exact v_2|exact v_3|exact v_4|exact v_5|exact v_6|exact v_7|exact v_8|exact v_9|exact rfl))|exact rfl)))) ?_)
  refine xr_op rfl rfl (xv_build bt89 rfl (by ((try apply evl_some rfl);(repeat (first|exact (rfl : _ = [])|apply evl_cons rfl (by (first|exact v_1|exact v_2|exact v_3|exact v_4|exact v_5|exact v_6|exact v_7|exact v_8|exact v_9|exact rfl))|exact rfl)))) ?_)
  refine xr_op rfl rfl (xv_build bt89 rfl (by ((try apply evl_some rfl);(repeat (first|exact (rfl : _ = [])|apply evl_cons rfl (by (first|exact v_1|exact v_2|exact v_3|exact v_4|exact v_5|exact v_6|exact v_7|exact v_8|exact v_9|exact rfl))|exact rfl)))) ?_)
  refine xr_op rfl rfl (xv_build bt90 rfl (by ((try apply evl_some rfl);(repeat (first|exact (rfl : _ = [])|apply evl_cons rfl (by (first|exact v_1|exact v_2|exact v_3|exact v_4|exact v_5|exact v_6|exact v_7|exact v_8|exact v_9|exact rfl))|exact rfl)))) ?_)
  refine xr_op rfl rfl (xv_s ty90 rfl rfl (by (first|(apply u_3;(repeat first|exact u_0|assumption|apply u_1|apply u_2);done)|((repeat first|exact u_0|assumption|apply u_1|apply u_2);done)|(apply u_3;apply u_3;(repeat first|exact u_0|assumption|apply u_1|apply u_2);done)|((repeat first|exact u_0|assumption|apply u_3|apply u_1);done))) (by ((try apply evl_some rfl);(repeat (first|exact (rfl : _ = [])|apply evl_cons rfl (by (first|exact v_1|exact v_2|exact v_3|exact v_4|exact v_5|exact v_6|exact v_7|exact v_8|exact v_9|exact rfl))|exact rfl)))) (by rfl) (by rfl) (by rfl) (by ((try apply evl_some rfl);(repeat (first|exact (rfl : _ = [])|apply evl_cons rfl (by (first|exact v_1|exact v_2|exact v_3|exact v_4|exact v_5|exact v_6|exact v_7|exact v_8|exact v_9|exact rfl))|exact rfl)))) ?_)
  refine xr_end rfl ?_
  refine th_n ?_
  refine xc_ret ?_
  refine body_ret (h' := h) rfl (ro_cellA ty90 rfl rfl (by ((repeat first|exact z_0|assumption|refine z_1 ?_|(refine z_l ?_;(repeat first|exact z_0|assumption|refine z_1 ?_);done)|refine z_r ?_);done)) (by rfl) (by rfl) ro_nil) (by (first|((repeat first|exact s_0|exact s_1|exact s_3|refine s_4 ?_|refine s_5 ?_|refine s_6 ?_|refine s_7 ?_);done)|((repeat first|exact s_0|exact s_1|exact s_3|refine s_4 ?_|refine s_5 ?_|refine s_6 ?_|refine s_8 ?_);done))) ?_
  exact H

end Go.Proofs.Ytpefpafijadfmaa

/-
  Walks.
-/
namespace Go.Proofs.Ytpefpafijadfmaa
open Go Go.H
set_option maxRecDepth 100000
set_option maxHeartbeats 8000000
set_option linter.all false
theorem indexMoveS_c {a : Option Addr} {c : Nat} {xs : List Move} {f : Value} {p : Nat → Move → Bool} {Hs : Nat → Hp} {R : Ending → Hp → Prop} (hs : ∀ k, SlV (Hs k) 3 eMove a xs) (hlen : xs.length ≤ 4611686018427387904)
    (hf : ∀ (k : Nat) (x : Move), xs[k]? = some x → ∀ R', R' (.returned (.bool (p k x))) (Hs (k + 1)) → AFn Try.prog f [.agg ⟨eMove x⟩] (Hs k) R')
    (H1 : ∀ (k : Nat) (x : Move), xs[k]? = some x → p k x = true → R (.returned (I k)) (Hs (k + 1))) (H2 : (∀ (k : Nat) (x : Move), xs[k]? = some x → p k x = false) → R (.returned (I (-1))) (Hs xs.length)) :
    ACalls Try.prog 73 ⟨[.slice a xs.length c, f]⟩ (Hs 0) R := by
  refine calls_of_xc (N := 19) Try.func73 rfl (by rfl) ?_
  refine xc_seq (xc_region ?_)
  refine xr_op rfl rfl (xv_assign rfl ?_)
  refine xr_end rfl ?_
  refine th_n ?_
  refine xc_seq ?_
  refine xc_seq (xc_region ?_)
  refine xr_op rfl rfl (xv_move rfl ?_)
  refine xr_op rfl rfl (xv_len sl23 rfl ?_)
  refine xr_op rfl rfl (xv_move rfl ?_)
  refine xr_end rfl ?_
  refine th_n ?_
  refine xc_block ?_
  refine xc_loop (σ := Nat) (fun k => k ≤ xs.length ∧ ∀ j x, j < k → xs[j]? = some x → p j x = false) (fun k => ((((emp.put (some 0) (.slice a xs.length c)).put (some 1) (f)).put (some 7) (I xs.length)).put (some 8) (I k))) (fun k => (Hs k)) (fun k => xs.length - k) 0 ⟨Nat.zero_le _, fun _ _ h0 => absurd h0 (Nat.not_lt_zero _)⟩ (le_put (le_put (le_put (le_put (le_emp _) rfl) rfl) rfl) rfl) (by (first|((repeat first|exact s_0|exact s_1|exact s_3|refine s_4 ?_|refine s_5 ?_|refine s_6 ?_|refine s_7 ?_);done)|((repeat first|exact s_0|exact s_1|exact s_3|refine s_4 ?_|refine s_5 ?_|refine s_6 ?_|refine s_8 ?_);done))) ?_
  rintro k ⟨hk, hall⟩
  refine xc_seq (xc_region ?_)
  refine xr_op rfl rfl (xv_lss2 rfl rfl (fun q1 => ?_) (fun q1 => ?_))
  · refine xr_end rfl ?_
    refine th_n ?_
    refine xc_seq ?_
    refine xc_true rfl ?_
    refine xc_skip ?_
    refine th_n ?_
    refine xc_seq ?_
    refine xc_block ?_
    refine xc_seq (xc_region ?_)
    refine xr_op rfl rfl (xv_move rfl ?_)
    refine xr_op rfl rfl (xv_assign rfl ?_)
    refine xr_end rfl ?_
    refine th_n ?_
    refine xc_seq (xc_region ?_)
    refine xr_op rfl rfl (xv_move rfl ?_)
    refine xr_op rfl rfl (xv_move rfl ?_)
    refine xr_op rfl rfl (xv_move rfl ?_)
    have hlt : k < xs.length := by omega
    obtain ⟨b, o, l, t, fz, rfl, hm, hx⟩ := (hs k).at hlt
    obtain ⟨x, hkx⟩ : ∃ x, xs[k]? = some x := ⟨_, List.getElem?_eq_getElem hlt⟩
    refine xr_op rfl rfl (xv_ia (sz := 3) sl23 ty63 rfl rfl rfl (by (first | assumption | with_reducible exact Int.toNat_natCast _ | with_reducible rfl | rfl)) (by (first | omega | (dsimp only at *; omega) | (simp at *; omega))) (by (first | omega | (dsimp only at *; omega) | (simp at *; omega))) ?_)
    refine xr_op rfl rfl (xv_loadA ty63 rfl rfl hm (hx k x hkx) rfl ?_)
    refine xr_op rfl rfl (xv_fn rfl rfl (hf k x hkx _ (up_ret ?_)))
    refine xr_end rfl ?_
    refine th_n ?_
    refine xc_bool rfl (fun q2 => ?_) (fun q2 => ?_)
    · refine xc_seq (xc_region ?_)
      refine xr_op rfl rfl (xv_move rfl ?_)
      refine xr_op rfl rfl (xv_assign rfl ?_)
      refine xr_end rfl ?_
      refine th_n ?_
      refine xc_ret ?_
      refine bk_r ?_
      refine th_r ?_
      refine th_r ?_
      refine bk_r ?_
      refine th_r ?_
      refine body_ret (h' := (Hs (k + 1))) rfl (ro_tmp rfl ro_nil) (by (first|((repeat first|exact s_0|exact s_1|exact s_3|refine s_4 ?_|refine s_5 ?_|refine s_6 ?_|refine s_7 ?_);done)|((repeat first|exact s_0|exact s_1|exact s_3|refine s_4 ?_|refine s_5 ?_|refine s_6 ?_|refine s_8 ?_);done))) ?_
      first | exact H1 k x hkx (by assumption) | exact H2 (fun j x hj => hall j x (List.getElem?_eq_some_iff.1 hj).1 hj)
    · refine xc_skip ?_
      refine bk_n ?_
      refine th_n ?_
      refine xc_region ?_
      refine xr_op rfl rfl (xv_add rfl rfl (wrap_i64 (by (first | omega | (dsimp only at *; omega) | (simp at *; omega))) (by (first | omega | (dsimp only at *; omega) | (simp at *; omega)))) ?_)
      refine xr_op rfl rfl (xv_move rfl ?_)
      refine xr_end rfl ?_
      exact rnd (k + 1) ⟨by omega, fun j y hj hy => by
        rcases Nat.lt_succ_iff_lt_or_eq.1 hj with hj | rfl
        · exact hall j y hj hy
        · rw [hkx] at hy; cases hy; assumption⟩ (by omega) (le_put (le_put (le_put (le_put (le_emp _) rfl) rfl) rfl) rfl) (by (first|((repeat first|exact s_0|exact s_1|exact s_3|refine s_4 ?_|refine s_5 ?_|refine s_6 ?_|refine s_7 ?_);done)|((repeat first|exact s_0|exact s_1|exact s_3|refine s_4 ?_|refine s_5 ?_|refine s_6 ?_|refine s_8 ?_);done)))
  · refine xr_end rfl ?_
    refine th_n ?_
    refine xc_seq ?_
    refine xc_false rfl ?_
    refine xc_exit ?_
    refine th_x ?_
    refine th_x ?_
    refine bk_same ?_
    refine th_n ?_
    refine xc_seq (xc_region ?_)
    obtain rfl : k = xs.length := by omega
    refine xr_op rfl rfl (xv_assign rfl ?_)
    refine xr_end rfl ?_
    refine th_n ?_
    refine xc_ret ?_
    refine body_ret (h' := (Hs xs.length)) rfl (ro_tmp rfl ro_nil) (by (first|((repeat first|exact s_0|exact s_1|exact s_3|refine s_4 ?_|refine s_5 ?_|refine s_6 ?_|refine s_7 ?_);done)|((repeat first|exact s_0|exact s_1|exact s_3|refine s_4 ?_|refine s_5 ?_|refine s_6 ?_|refine s_8 ?_);done))) ?_
    first | exact H1 k x hkx (by assumption) | exact H2 (fun j x hj => hall j x (List.getElem?_eq_some_iff.1 hj).1 hj)

theorem containsMoveS_c {a : Option Addr} {c : Nat} {xs : List Move} {f : Value} {p : Nat → Move → Bool} {Hs : Nat → Hp} {R : Ending → Hp → Prop} (hs : ∀ k, SlV (Hs k) 3 eMove a xs) (hlen : xs.length ≤ 4611686018427387904)
    (hf : ∀ (k : Nat) (x : Move), xs[k]? = some x → ∀ R', R' (.returned (.bool (p k x))) (Hs (k + 1)) → AFn Try.prog f [.agg ⟨eMove x⟩] (Hs k) R')
    (H1 : ∀ (k : Nat) (x : Move), xs[k]? = some x → p k x = true → R (.returned (.bool true)) (Hs (k + 1))) (H2 : (∀ (k : Nat) (x : Move), xs[k]? = some x → p k x = false) → R (.returned (.bool false)) (Hs xs.length)) :
    ACalls Try.prog 62 ⟨[.slice a xs.length c, f]⟩ (Hs 0) R := by
  refine calls_of_xc (N := 9) Try.func62 rfl (by rfl) ?_
  refine xc_seq (xc_region ?_)
  refine xr_op rfl rfl (xv_assign rfl ?_)
  refine xr_end rfl ?_
  refine th_n ?_
  refine xc_seq (xc_region ?_)
  refine xr_op rfl rfl (xv_move rfl ?_)
  refine xr_op rfl rfl (xv_move rfl ?_)
  refine xr_op rfl rfl (xv_calls rfl hb73 (indexMoveS_c hs hlen hf (fun k x hkx hpx => up_ret ?_) (fun hno => up_ret ?_)))
  · refine xr_op rfl rfl (xv_cmpK rfl rfl (cmpT (by simp only [cmpP]; (first | omega | (dsimp only at *; omega) | (simp at *; omega)))) ?_)
    refine xr_op rfl rfl (xv_assign rfl ?_)
    refine xr_end rfl ?_
    refine th_n ?_
    refine xc_ret ?_
    refine body_ret (h' := _) rfl (ro_tmp rfl ro_nil) (by (first|((repeat first|exact s_0|exact s_1|exact s_3|refine s_4 ?_|refine s_5 ?_|refine s_6 ?_|refine s_7 ?_);done)|((repeat first|exact s_0|exact s_1|exact s_3|refine s_4 ?_|refine s_5 ?_|refine s_6 ?_|refine s_8 ?_);done))) ?_
    first | exact H1 k x hkx hpx | exact H2 hno
  · refine xr_op rfl rfl (xv_cmpK rfl rfl (cmpF rfl (by simp only [cmpP]; (first | omega | (dsimp only at *; omega) | (simp at *; omega)))) ?_)
    refine xr_op rfl rfl (xv_assign rfl ?_)
    refine xr_end rfl ?_
    refine th_n ?_
    refine xc_ret ?_
    refine body_ret (h' := _) rfl (ro_tmp rfl ro_nil) (by (first|((repeat first|exact s_0|exact s_1|exact s_3|refine s_4 ?_|refine s_5 ?_|refine s_6 ?_|refine s_7 ?_);done)|((repeat first|exact s_0|exact s_1|exact s_3|refine s_4 ?_|refine s_5 ?_|refine s_6 ?_|refine s_8 ?_);done))) ?_
    first | exact H1 k x hkx hpx | exact H2 hno

end Go.Proofs.Ytpefpafijadfmaa

/-
  Walks.
-/
namespace Go.Proofs.Ytpefpafijadfmaa
open Go Go.H
set_option maxRecDepth 100000
set_option maxHeartbeats 8000000
set_option linter.all false
theorem bad_c {y : Yard} {m : Move} {last : Int} {bl b1 : Nat} {g : Hp} {R : Ending → Hp → Prop} (m1 : (b1, .cells ⟨eYard y⟩ 25 (0, 0)) ∈ g) (hcl : y.coals.length ≤ 1000) (H : R (.returned (.bool (!decide (moveOk y.coals.length last m)))) ((bl, .cells ⟨[I m.hour]⟩ 3) :: g)) :
    ACalls Try.prog 61 ⟨[.agg ⟨eMove m⟩, .pointer (some ⟨bl, 0, none⟩), .pointer (some ⟨b1, 0, none⟩)]⟩ ((bl, .cells ⟨[I last]⟩ 3) :: g) R := by
  refine calls_of_xc (N := 28) Try.func61 rfl (by rfl) ?_
  refine xc_seq (xc_region ?_)
  refine xr_op rfl rfl (xv_box rfl (fun b3 hb3 => ?_))
  refine xr_op rfl rfl (xv_assign rfl ?_)
  refine xr_end rfl ?_
  refine th_n ?_
  refine xc_seq (xc_region ?_)
  refine xr_op rfl rfl (xv_faddr fl63_0 rfl ?_)
  refine xr_op rfl rfl (xv_load1 ty3 rfl rfl (by ((repeat first|exact z_0|assumption|refine z_1 ?_|(refine z_l ?_;(repeat first|exact z_0|assumption|refine z_1 ?_);done)|refine z_r ?_);done)) (by rfl) ?_)
  refine xr_op rfl rfl (xv_load1 ty3 rfl rfl (by ((repeat first|exact z_0|assumption|refine z_1 ?_|(refine z_l ?_;(repeat first|exact z_0|assumption|refine z_1 ?_);done)|refine z_r ?_);done)) (by rfl) ?_)
  refine xr_op rfl rfl (xv_calls rfl hb31 (within_c _ _ _ (fun hl1 hu2 => up_ret ?_) (fun hn3 => up_ret ?_)))
  · refine xr_op rfl rfl (xv_move rfl ?_)
    refine xr_gd rfl rfl rfl (xv_faddr fl63_1 rfl ?_)
    refine xr_gd rfl rfl rfl (xv_load1 ty3 rfl rfl (by ((repeat first|exact z_0|assumption|refine z_1 ?_|(refine z_l ?_;(repeat first|exact z_0|assumption|refine z_1 ?_);done)|refine z_r ?_);done)) (by rfl) ?_)
    refine xr_gd rfl rfl rfl (xv_faddr fl25_0 rfl ?_)
    refine xr_gd rfl rfl rfl (xv_load1 ty22 rfl rfl (by ((repeat first|exact z_0|assumption|refine z_1 ?_|(refine z_l ?_;(repeat first|exact z_0|assumption|refine z_1 ?_);done)|refine z_r ?_);done)) (by rfl) ?_)
    refine xr_gd rfl rfl rfl (xv_len sl22 rfl ?_)
    refine xr_gd rfl rfl rfl (xv_sub rfl rfl (wrap_i64 (by (first | omega | (dsimp only at *; omega) | (simp at *; omega))) (by (first | omega | (dsimp only at *; omega) | (simp at *; omega)))) ?_)
    refine xr_gd rfl rfl rfl (xv_calls rfl hb31 (within_c _ _ _ (fun hl4 hu5 => up_ret ?_) (fun hn6 => up_ret ?_)))
    · refine xr_op rfl rfl (xv_pick rfl rfl ?_)
      refine xr_op rfl rfl (xv_move rfl ?_)
      refine xr_gd rfl rfl rfl (xv_faddr fl63_2 rfl ?_)
      refine xr_gd rfl rfl rfl (xv_load1 ty3 rfl rfl (by ((repeat first|exact z_0|assumption|refine z_1 ?_|(refine z_l ?_;(repeat first|exact z_0|assumption|refine z_1 ?_);done)|refine z_r ?_);done)) (by rfl) ?_)
      refine xr_gd rfl rfl rfl (xv_calls rfl hb31 (within_c _ _ _ (fun hl7 hu8 => up_ret ?_) (fun hn9 => up_ret ?_)))
      · refine xr_op rfl rfl (xv_pick rfl rfl ?_)
        refine xr_op rfl rfl (xv_assign rfl ?_)
        refine xr_end rfl ?_
        refine th_n ?_
        refine xc_seq (xc_region ?_)
        refine xr_op rfl rfl (xv_faddr fl63_0 rfl ?_)
        refine xr_op rfl rfl (xv_load1 ty3 rfl rfl (by ((repeat first|exact z_0|assumption|refine z_1 ?_|(refine z_l ?_;(repeat first|exact z_0|assumption|refine z_1 ?_);done)|refine z_r ?_);done)) (by rfl) ?_)
        refine xr_op rfl rfl (xv_s1 ty3 rfl rfl rfl (by (first|(apply u_3;(repeat first|exact u_0|assumption|apply u_1|apply u_2);done)|((repeat first|exact u_0|assumption|apply u_1|apply u_2);done)|(apply u_3;apply u_3;(repeat first|exact u_0|assumption|apply u_1|apply u_2);done)|((repeat first|exact u_0|assumption|apply u_3|apply u_1);done))) (by (first | rfl | exact Vec.one _ _)) (by (first | decide | exact Nat.le_of_ble_eq_true rfl | (simp only [List.length_cons, List.length_nil]; omega) | (simp; done))) (by ((try apply evl_some rfl);(repeat (first|exact (rfl : _ = [])|apply evl_cons rfl (by (first|exact v_1|exact v_2|exact v_3|exact v_4|exact v_5|exact v_6|exact v_7|exact v_8|exact v_9|exact rfl))|exact rfl)))) ?_)
        refine xr_end rfl ?_
        refine th_n ?_
        refine xc_seq (xc_region ?_)
        refine xr_op rfl rfl (xv_move rfl ?_)
        refine xr_op rfl rfl (xv_not rfl ?_)
        refine xr_op rfl rfl (xv_assign rfl ?_)
        refine xr_end rfl ?_
        refine th_n ?_
        refine xc_ret ?_
        refine body_ret (h' := ((bl, .cells ⟨[I m.hour]⟩ 3) :: g)) rfl (ro_tmp rfl ro_nil) (by (first|((repeat first|exact s_0|exact s_1|exact s_3|refine s_4 ?_|refine s_5 ?_|refine s_6 ?_|refine s_7 ?_);done)|((repeat first|exact s_0|exact s_1|exact s_3|refine s_4 ?_|refine s_5 ?_|refine s_6 ?_|refine s_8 ?_);done))) ?_
        first | (rw [decide_eq_true (show moveOk y.coals.length last m from by unfold moveOk; omega)] at H; exact H) | (rw [decide_eq_false (show ¬ moveOk y.coals.length last m from fun hq => by unfold moveOk at hq; omega)] at H; exact H)
      · refine xr_op rfl rfl (xv_pick rfl rfl ?_)
        refine xr_op rfl rfl (xv_assign rfl ?_)
        refine xr_end rfl ?_
        refine th_n ?_
        refine xc_seq (xc_region ?_)
        refine xr_op rfl rfl (xv_faddr fl63_0 rfl ?_)
        refine xr_op rfl rfl (xv_load1 ty3 rfl rfl (by ((repeat first|exact z_0|assumption|refine z_1 ?_|(refine z_l ?_;(repeat first|exact z_0|assumption|refine z_1 ?_);done)|refine z_r ?_);done)) (by rfl) ?_)
        refine xr_op rfl rfl (xv_s1 ty3 rfl rfl rfl (by (first|(apply u_3;(repeat first|exact u_0|assumption|apply u_1|apply u_2);done)|((repeat first|exact u_0|assumption|apply u_1|apply u_2);done)|(apply u_3;apply u_3;(repeat first|exact u_0|assumption|apply u_1|apply u_2);done)|((repeat first|exact u_0|assumption|apply u_3|apply u_1);done))) (by (first | rfl | exact Vec.one _ _)) (by (first | decide | exact Nat.le_of_ble_eq_true rfl | (simp only [List.length_cons, List.length_nil]; omega) | (simp; done))) (by ((try apply evl_some rfl);(repeat (first|exact (rfl : _ = [])|apply evl_cons rfl (by (first|exact v_1|exact v_2|exact v_3|exact v_4|exact v_5|exact v_6|exact v_7|exact v_8|exact v_9|exact rfl))|exact rfl)))) ?_)
        refine xr_end rfl ?_
        refine th_n ?_
        refine xc_seq (xc_region ?_)
        refine xr_op rfl rfl (xv_move rfl ?_)
        refine xr_op rfl rfl (xv_not rfl ?_)
        refine xr_op rfl rfl (xv_assign rfl ?_)
        refine xr_end rfl ?_
        refine th_n ?_
        refine xc_ret ?_
        refine body_ret (h' := ((bl, .cells ⟨[I m.hour]⟩ 3) :: g)) rfl (ro_tmp rfl ro_nil) (by (first|((repeat first|exact s_0|exact s_1|exact s_3|refine s_4 ?_|refine s_5 ?_|refine s_6 ?_|refine s_7 ?_);done)|((repeat first|exact s_0|exact s_1|exact s_3|refine s_4 ?_|refine s_5 ?_|refine s_6 ?_|refine s_8 ?_);done))) ?_
        first | (rw [decide_eq_true (show moveOk y.coals.length last m from by unfold moveOk; omega)] at H; exact H) | (rw [decide_eq_false (show ¬ moveOk y.coals.length last m from fun hq => by unfold moveOk at hq; omega)] at H; exact H)
    · refine xr_op rfl rfl (xv_pick rfl rfl ?_)
      refine xr_op rfl rfl (xv_move rfl ?_)
      refine xr_no rfl rfl rfl rfl ?_
      refine xr_no rfl rfl rfl rfl ?_
      refine xr_no rfl rfl rfl rfl ?_
      refine xr_op rfl rfl (xv_pick rfl rfl ?_)
      refine xr_op rfl rfl (xv_assign rfl ?_)
      refine xr_end rfl ?_
      refine th_n ?_
      refine xc_seq (xc_region ?_)
      refine xr_op rfl rfl (xv_faddr fl63_0 rfl ?_)
      refine xr_op rfl rfl (xv_load1 ty3 rfl rfl (by ((repeat first|exact z_0|assumption|refine z_1 ?_|(refine z_l ?_;(repeat first|exact z_0|assumption|refine z_1 ?_);done)|refine z_r ?_);done)) (by rfl) ?_)
      refine xr_op rfl rfl (xv_s1 ty3 rfl rfl rfl (by (first|(apply u_3;(repeat first|exact u_0|assumption|apply u_1|apply u_2);done)|((repeat first|exact u_0|assumption|apply u_1|apply u_2);done)|(apply u_3;apply u_3;(repeat first|exact u_0|assumption|apply u_1|apply u_2);done)|((repeat first|exact u_0|assumption|apply u_3|apply u_1);done))) (by (first | rfl | exact Vec.one _ _)) (by (first | decide | exact Nat.le_of_ble_eq_true rfl | (simp only [List.length_cons, List.length_nil]; omega) | (simp; done))) (by ((try apply evl_some rfl);(repeat (first|exact (rfl : _ = [])|apply evl_cons rfl (by (first|exact v_1|exact v_2|exact v_3|exact v_4|exact v_5|exact v_6|exact v_7|exact v_8|exact v_9|exact rfl))|exact rfl)))) ?_)
      refine xr_end rfl ?_
      refine th_n ?_
      refine xc_seq (xc_region ?_)
      refine xr_op rfl rfl (xv_move rfl ?_)
      refine xr_op rfl rfl (xv_not rfl ?_)
      refine xr_op rfl rfl (xv_assign rfl ?_)
      refine xr_end rfl ?_
      refine th_n ?_
      refine xc_ret ?_
      refine body_ret (h' := ((bl, .cells ⟨[I m.hour]⟩ 3) :: g)) rfl (ro_tmp rfl ro_nil) (by (first|((repeat first|exact s_0|exact s_1|exact s_3|refine s_4 ?_|refine s_5 ?_|refine s_6 ?_|refine s_7 ?_);done)|((repeat first|exact s_0|exact s_1|exact s_3|refine s_4 ?_|refine s_5 ?_|refine s_6 ?_|refine s_8 ?_);done))) ?_
      first | (rw [decide_eq_true (show moveOk y.coals.length last m from by unfold moveOk; omega)] at H; exact H) | (rw [decide_eq_false (show ¬ moveOk y.coals.length last m from fun hq => by unfold moveOk at hq; omega)] at H; exact H)
  · refine xr_op rfl rfl (xv_move rfl ?_)
    refine xr_no rfl rfl rfl rfl ?_
    refine xr_no rfl rfl rfl rfl ?_
    refine xr_no rfl rfl rfl rfl ?_
    refine xr_no rfl rfl rfl rfl ?_
    refine xr_no rfl rfl rfl rfl ?_
    refine xr_no rfl rfl rfl rfl ?_
    refine xr_no rfl rfl rfl rfl ?_
    refine xr_op rfl rfl (xv_pick rfl rfl ?_)
    refine xr_op rfl rfl (xv_move rfl ?_)
    refine xr_no rfl rfl rfl rfl ?_
    refine xr_no rfl rfl rfl rfl ?_
    refine xr_no rfl rfl rfl rfl ?_
    refine xr_op rfl rfl (xv_pick rfl rfl ?_)
    refine xr_op rfl rfl (xv_assign rfl ?_)
    refine xr_end rfl ?_
    refine th_n ?_
    refine xc_seq (xc_region ?_)
    refine xr_op rfl rfl (xv_faddr fl63_0 rfl ?_)
    refine xr_op rfl rfl (xv_load1 ty3 rfl rfl (by ((repeat first|exact z_0|assumption|refine z_1 ?_|(refine z_l ?_;(repeat first|exact z_0|assumption|refine z_1 ?_);done)|refine z_r ?_);done)) (by rfl) ?_)
    refine xr_op rfl rfl (xv_s1 ty3 rfl rfl rfl (by (first|(apply u_3;(repeat first|exact u_0|assumption|apply u_1|apply u_2);done)|((repeat first|exact u_0|assumption|apply u_1|apply u_2);done)|(apply u_3;apply u_3;(repeat first|exact u_0|assumption|apply u_1|apply u_2);done)|((repeat first|exact u_0|assumption|apply u_3|apply u_1);done))) (by (first | rfl | exact Vec.one _ _)) (by (first | decide | exact Nat.le_of_ble_eq_true rfl | (simp only [List.length_cons, List.length_nil]; omega) | (simp; done))) (by ((try apply evl_some rfl);(repeat (first|exact (rfl : _ = [])|apply evl_cons rfl (by (first|exact v_1|exact v_2|exact v_3|exact v_4|exact v_5|exact v_6|exact v_7|exact v_8|exact v_9|exact rfl))|exact rfl)))) ?_)
    refine xr_end rfl ?_
    refine th_n ?_
    refine xc_seq (xc_region ?_)
    refine xr_op rfl rfl (xv_move rfl ?_)
    refine xr_op rfl rfl (xv_not rfl ?_)
    refine xr_op rfl rfl (xv_assign rfl ?_)
    refine xr_end rfl ?_
    refine th_n ?_
    refine xc_ret ?_
    refine body_ret (h' := ((bl, .cells ⟨[I m.hour]⟩ 3) :: g)) rfl (ro_tmp rfl ro_nil) (by (first|((repeat first|exact s_0|exact s_1|exact s_3|refine s_4 ?_|refine s_5 ?_|refine s_6 ?_|refine s_7 ?_);done)|((repeat first|exact s_0|exact s_1|exact s_3|refine s_4 ?_|refine s_5 ?_|refine s_6 ?_|refine s_8 ?_);done))) ?_
    first | (rw [decide_eq_true (show moveOk y.coals.length last m from by unfold moveOk; omega)] at H; exact H) | (rw [decide_eq_false (show ¬ moveOk y.coals.length last m from fun hq => by unfold moveOk at hq; omega)] at H; exact H)

end Go.Proofs.Ytpefpafijadfmaa

/-
  The least that so many hundredweights give: any greedy choice.
-/
set_option linter.all false
namespace Go.Proofs.Ytpefpafijadfmaa
open Go Go.H
def ofL (c : Coal) : List Span := [c.gas, c.tar, c.sulphur, c.coke]
def ofF (c : Coal) (w : Int) : Span := (ofL c).getD w.toNat ⟨0, 0⟩
theorem ofL_get {c : Coal} {w : Int} (h0 : 0 ≤ w) (h1 : w ≤ 3) : (ofL c)[w.toNat]? = some (ofF c w) := by
  have hl : w.toNat < (ofL c).length := by show w.toNat < 4; omega
  unfold ofF
  rw [List.getD_eq_getElem?_getD, List.getElem?_eq_getElem hl]; rfl
def dotI (x e : List Int) : Int := ((x.zip e).map fun z => z.1 * z.2).sum
theorem dot_cons (a b : Int) (x e : List Int) : dotI (a :: x) (b :: e) = a * b + dotI x e := by simp [dotI]
theorem dot_set : ∀ {x e : List Int} {k : Nat} {a b d : Int}, x[k]? = some a → e[k]? = some b → dotI (x.set k (a + d)) e = dotI x e + d * b
  | [], e, k, a, b, d, h, _ => by simp at h
  | a0 :: x, [], k, a, b, d, _, h => by simp at h
  | a0 :: x, b0 :: e, 0, a, b, d, h, h2 => by
    simp at h h2; subst h h2
    rw [List.set_cons_zero, dot_cons, dot_cons, Int.add_mul]; omega
  | a0 :: x, b0 :: e, k + 1, a, b, d, h, h2 => by
    rw [List.set_cons_succ, dot_cons, dot_cons, dot_set (by simpa using h) (by simpa using h2)]; omega
/-- So much of each, and nothing dear before all that is cheap is taken. -/
structure Greedy (room each : List Int) (need : Int) (x : List Int) : Prop where
  len : x.length = room.length
  bd : ∀ (i : Nat) (a r : Int), x[i]? = some a → room[i]? = some r → 0 ≤ a ∧ a ≤ r
  sum : sumI x = need
  fst : ∀ (i j : Nat) (a r ei b ej : Int), x[i]? = some a → room[i]? = some r → each[i]? = some ei → x[j]? = some b → each[j]? = some ej → ei < ej → 0 < b → a = r
theorem dot_diff : ∀ {x y e : List Int} {c : Int}, x.length = y.length → x.length = e.length → (∀ (i : Nat) (a b d : Int), x[i]? = some a → y[i]? = some b → e[i]? = some d → a ≠ b → d = c) → dotI x e - dotI y e = c * (sumI x - sumI y)
  | [], [], e, c, _, _, _ => by simp [dotI, sumI]
  | a :: x, b :: y, d :: e, c, h, h2, hd => by
    have ih := dot_diff (x := x) (y := y) (e := e) (c := c) (by simpa using h) (by simpa using h2) fun i p q r hp hq hr => hd (i + 1) p q r (by simpa using hp) (by simpa using hq) (by simpa using hr)
    have e1 : sumI (a :: x) = a + sumI x := by unfold sumI; simp
    have e2 : sumI (b :: y) = b + sumI y := by unfold sumI; simp
    rw [dot_cons, dot_cons, e1, e2]
    have key : a * d - b * d = c * (a - b) := by
      by_cases hab : a = b
      · subst hab; simp
      · have := hd 0 a b d rfl rfl rfl hab
        subst this
        rw [Int.mul_sub, Int.mul_comm d a, Int.mul_comm d b]
    have e3 : c * (a + sumI x - (b + sumI y)) = c * (a - b) + c * (sumI x - sumI y) := by rw [← Int.mul_add]; congr 1; omega
    rw [e3]; omega
theorem more_exists : ∀ {x y : List Int}, x.length = y.length → sumI x = sumI y → x ≠ y → (∃ (i : Nat) (a b : Int), x[i]? = some a ∧ y[i]? = some b ∧ a > b) ∧ ∃ (i : Nat) (a b : Int), x[i]? = some a ∧ y[i]? = some b ∧ a < b := by
  have key : ∀ {x y : List Int}, x.length = y.length → (∀ (i : Nat) (a b : Int), x[i]? = some a → y[i]? = some b → a ≤ b) → sumI x ≤ sumI y ∧ (sumI x = sumI y → x = y) := by
    intro x
    induction x with
    | nil => intro y h _; rw [List.length_eq_zero_iff.1 h.symm]; exact ⟨Int.le_refl _, fun _ => rfl⟩
    | cons a x ih =>
      intro y h hle
      cases y with
      | nil => simp at h
      | cons b y =>
        have := ih (y := y) (by simpa using h) fun i p q hp hq => hle (i + 1) p q (by simpa using hp) (by simpa using hq)
        have h0 := hle 0 a b rfl rfl
        have e1 : sumI (a :: x) = a + sumI x := by unfold sumI; simp
        have e2 : sumI (b :: y) = b + sumI y := by unfold sumI; simp
        rw [e1, e2]
        refine ⟨by omega, fun he => ?_⟩
        rw [this.2 (by omega), show a = b by omega]
  intro x y hl hs hne
  refine ⟨Classical.byContradiction fun hn => ?_, Classical.byContradiction fun hn => ?_⟩
  · exact hne ((key hl fun i a b ha hb => by
      by_cases h : a ≤ b
      · exact h
      · exact absurd ⟨i, a, b, ha, hb, by omega⟩ hn).2 hs)
  · exact hne ((key hl.symm fun i a b ha hb => by
      by_cases h : a ≤ b
      · exact h
      · exact absurd ⟨i, b, a, hb, ha, by omega⟩ hn).2 hs.symm).symm
theorem greedy_same {room each : List Int} {need : Int} {x y : List Int} (he : each.length = room.length) (hx : Greedy room each need x) (hy : Greedy room each need y) : dotI x each = dotI y each := by
  by_cases hxy : x = y
  · rw [hxy]
  have hl : x.length = y.length := by rw [hx.len, hy.len]
  have hs : sumI x = sumI y := by rw [hx.sum, hy.sum]
  obtain ⟨⟨p, xp, yp, hxp, hyp, hgt⟩, q, xq, yq, hxq, hyq, hlt⟩ := more_exists hl hs hxy
  have get : ∀ (l : List Int) (i : Nat) (a : Int), l.length = x.length → x[i]? = some a → ∃ b, l[i]? = some b := fun l i a h ha => ⟨_, List.getElem?_eq_getElem (by have := (List.getElem?_eq_some_iff.1 ha).1; omega)⟩
  obtain ⟨ep, hep⟩ := get each p xp (by rw [he, hx.len]) hxp
  obtain ⟨eq, heq⟩ := get each q xq (by rw [he, hx.len]) hxq
  -- two places where one has more and the other less cost the same
  have pair : ∀ (i j : Nat) (a b c d ei ej : Int), x[i]? = some a → y[i]? = some b → x[j]? = some c → y[j]? = some d → each[i]? = some ei → each[j]? = some ej → a > b → c < d → ei = ej := by
    intro i j a b c d ei ej ha hb hc hd hi hj h1 h2
    obtain ⟨ri, hri⟩ := get room i a hx.len.symm ha
    obtain ⟨rj, hrj⟩ := get room j c hx.len.symm hc
    have b1 := hx.bd i a ri ha hri
    have b2 := hy.bd i b ri hb hri
    have b3 := hx.bd j c rj hc hrj
    have b4 := hy.bd j d rj hd hrj
    rcases Int.lt_trichotomy ei ej with h | h | h
    · have := hy.fst i j b ri ei d ej hb hri hi hd hj h (by omega); omega
    · exact h
    · have := hx.fst j i c rj ej a ei hc hrj hj ha hi h (by omega); omega
  have e0 := pair p q xp yp xq yq ep eq hxp hyp hxq hyq hep heq hgt hlt
  have := dot_diff (x := x) (y := y) (e := each) (c := ep) hl (by rw [hx.len, he]) fun i a b d ha hb hd hne => by
    by_cases h : a > b
    · rw [e0]; exact pair i q a b xq yq d eq ha hb hxq hyq hd heq h hlt
    · exact (pair p i xp yp a b ep d hxp hyp ha hb hep hd hgt (by omega)).symm
  rw [hs, Int.sub_self, Int.mul_zero] at this
  omega
end Go.Proofs.Ytpefpafijadfmaa

/-
  Moves that are valid one by one.
-/
set_option linter.all false
namespace Go.Proofs.Ytpefpafijadfmaa
open Go Go.H
theorem movesOk_all {n : Nat} {l : List Move} (h : ∀ (k : Nat) (x : Move), l[k]? = some x → moveOk n (lastH 0 (l.take k)) x) : movesOk n 0 l := by
  have key : ∀ k, k ≤ l.length → movesOk n 0 (l.take k) := by
    intro k
    induction k with
    | zero => intro _; trivial
    | succ k ih =>
      intro hk
      obtain ⟨x, hx⟩ : ∃ x, l[k]? = some x := ⟨_, List.getElem?_eq_getElem (by omega)⟩
      exact (movesOk_take hx).2 ⟨ih (by omega), h k x hx⟩
  have := key l.length (Nat.le_refl _)
  rwa [List.take_length] at this
end Go.Proofs.Ytpefpafijadfmaa

/-
  Walks.
-/
namespace Go.Proofs.Ytpefpafijadfmaa
open Go Go.H
set_option maxRecDepth 100000
set_option maxHeartbeats 8000000
set_option linter.all false
theorem isYard_c {y : Yard} {h : Hp} {R : Ending → Hp → Prop} (hy : YardV h y) (hs : Small y) (H1 : GoodYard y → R (.returned (.bool true)) h) (H2 : ¬ GoodYard y → R (.returned (.bool false)) h) : ACalls Try.prog 52 ⟨[.agg ⟨eYard y⟩]⟩ h R := by
  refine calls_of_xc (N := 57) Try.func52 rfl (by rfl) ?_
  obtain ⟨hs1, hs2⟩ := id hs
  refine xc_seq (xc_region ?_)
  refine xr_op rfl rfl (xv_box rfl (fun b1 hb1 => ?_))
  refine xr_op rfl rfl (xv_assign rfl ?_)
  refine xr_end rfl ?_
  refine th_n ?_
  refine xc_seq (xc_region ?_)
  refine xr_op rfl rfl (xv_alloc ty3 (fun b3 hb3 => ?_))
  refine xr_op rfl rfl (xv_s1 ty3 rfl rfl rfl (by (first|(apply u_3;(repeat first|exact u_0|assumption|apply u_1|apply u_2);done)|((repeat first|exact u_0|assumption|apply u_1|apply u_2);done)|(apply u_3;apply u_3;(repeat first|exact u_0|assumption|apply u_1|apply u_2);done)|((repeat first|exact u_0|assumption|apply u_3|apply u_1);done))) (by (first | rfl | exact Vec.one _ _)) (by (first | decide | exact Nat.le_of_ble_eq_true rfl | (simp only [List.length_cons, List.length_nil]; omega) | (simp; done))) (by ((try apply evl_some rfl);(repeat (first|exact (rfl : _ = [])|apply evl_cons rfl (by (first|exact v_1|exact v_2|exact v_3|exact v_4|exact v_5|exact v_6|exact v_7|exact v_8|exact v_9|exact rfl))|exact rfl)))) ?_)
  refine xr_end rfl ?_
  refine th_n ?_
  refine xc_seq (xc_region ?_)
  refine xr_op rfl rfl (xv_func rfl rfl ?_)
  refine xr_op rfl rfl (xv_assign rfl ?_)
  refine xr_end rfl ?_
  refine th_n ?_
  refine xc_seq ?_
  refine xc_seq (xc_region ?_)
  refine xr_op rfl rfl (xv_faddr fl25_0 rfl ?_)
  refine xr_op rfl rfl (xv_load1 ty22 rfl rfl (by ((repeat first|exact z_0|assumption|refine z_1 ?_|(refine z_l ?_;(repeat first|exact z_0|assumption|refine z_1 ?_);done)|refine z_r ?_);done)) (by rfl) ?_)
  refine xr_op rfl rfl (xv_len sl22 rfl ?_)
  refine xr_op rfl rfl (xv_move rfl ?_)
  refine xr_end rfl ?_
  refine th_n ?_
  refine xc_block ?_
  refine xc_loop (σ := Nat) (fun k => k ≤ y.coals.length ∧ ∀ x ∈ y.coals.take k, coalOk x) (fun k => (((((emp.put (some 1) (.pointer (some ⟨b1, 0, none⟩))).put (some 4) (.func (.func 61) ⟨[]⟩ ⟨[.pointer (some ⟨b3, 0, none⟩), .pointer (some ⟨b1, 0, none⟩)]⟩)).put (some 12) (.slice y.ca y.coals.length y.cc)).put (some 13) (I y.coals.length)).put (some 14) (I k))) (fun k => ((b3, .cells ⟨[I 0]⟩ 3) :: (b1, .cells ⟨eYard y⟩ 25) :: h)) (fun k => y.coals.length - k) 0 ⟨Nat.zero_le _, fun x hx => by simp at hx⟩ (le_put (le_put (le_put (le_put (le_put (le_emp _) rfl) rfl) rfl) rfl) rfl) (by (first|((repeat first|exact s_0|exact s_1|exact s_3|refine s_4 ?_|refine s_5 ?_|refine s_6 ?_|refine s_7 ?_);done)|((repeat first|exact s_0|exact s_1|exact s_3|refine s_4 ?_|refine s_5 ?_|refine s_6 ?_|refine s_8 ?_);done))) ?_
  rintro k ⟨hk, hal⟩
  refine xc_seq (xc_region ?_)
  refine xr_op rfl rfl (xv_lss2 rfl rfl (fun q1 => ?_) (fun q1 => ?_))
  · refine xr_end rfl ?_
    refine th_n ?_
    refine xc_seq ?_
    refine xc_true rfl ?_
    refine xc_skip ?_
    refine th_n ?_
    refine xc_seq ?_
    refine xc_block ?_
    refine xc_seq (xc_region ?_)
    have hlto : k < y.coals.length := by (first | omega | (dsimp only at *; omega) | (simp at *; omega))
    obtain ⟨bo, oo, lo, to, fzo, hao, hmo, hxo⟩ := (hy.coals).at hlto
    obtain ⟨xo, hko⟩ : ∃ qq_, y.coals[k]? = some qq_ := ⟨_, List.getElem?_eq_getElem hlto⟩
    refine xr_op rfl rfl (xv_ia (sz := 8) (j := k) sl22 ty59 rfl (by rw [hao]; rfl) rfl (by (first | assumption | with_reducible exact Int.toNat_natCast _ | with_reducible rfl | rfl)) (by (first | omega | (dsimp only at *; omega) | (simp at *; omega))) (by (first | omega | (dsimp only at *; omega) | (simp at *; omega))) ?_)
    refine xr_op rfl rfl (xv_loadA ty59 rfl rfl (by ((repeat first|exact z_0|assumption|refine z_1 ?_|(refine z_l ?_;(repeat first|exact z_0|assumption|refine z_1 ?_);done)|refine z_r ?_);done)) (hxo (k) xo hko) rfl ?_)
    refine xr_op rfl rfl (xv_alloc ty59 (fun b6 hb6 => ?_))
    refine xr_op rfl rfl (xv_s ty59 rfl rfl (by (first|(apply u_3;(repeat first|exact u_0|assumption|apply u_1|apply u_2);done)|((repeat first|exact u_0|assumption|apply u_1|apply u_2);done)|(apply u_3;apply u_3;(repeat first|exact u_0|assumption|apply u_1|apply u_2);done)|((repeat first|exact u_0|assumption|apply u_3|apply u_1);done))) (by ((try apply evl_some rfl);(repeat (first|exact (rfl : _ = [])|apply evl_cons rfl (by (first|exact v_1|exact v_2|exact v_3|exact v_4|exact v_5|exact v_6|exact v_7|exact v_8|exact v_9|exact rfl))|exact rfl)))) (by rfl) (by rfl) (by rfl) (by ((try apply evl_some rfl);(repeat (first|exact (rfl : _ = [])|apply evl_cons rfl (by (first|exact v_1|exact v_2|exact v_3|exact v_4|exact v_5|exact v_6|exact v_7|exact v_8|exact v_9|exact rfl))|exact rfl)))) ?_)
    refine xr_end rfl ?_
    refine th_n ?_
    refine xc_seq (xc_region ?_)
    refine xr_op rfl rfl (xv_calls rfl hb40 (given_c (up_ret ?_)))
    refine xr_op rfl rfl (xv_move rfl ?_)
    refine xr_end rfl ?_
    refine th_n ?_
    refine xc_block ?_
    refine xc_loop (σ := Nat) (fun i => i ≤ 4 ∧ ∀ (j : Nat) (s : Span), j < i → (ofL xo)[j]? = some s → spanOk s) (fun i => ((((((((emp.put (some 1) (.pointer (some ⟨b1, 0, none⟩))).put (some 4) (.func (.func 61) ⟨[]⟩ ⟨[.pointer (some ⟨b3, 0, none⟩), .pointer (some ⟨b1, 0, none⟩)]⟩)).put (some 12) (.slice y.ca y.coals.length y.cc)).put (some 13) (I y.coals.length)).put (some 14) (I k)).put (some 6) (.pointer (some ⟨b6, 0, none⟩))).put (some 18) (.agg ⟨[.func (.func 54) ⟨[]⟩ ⟨[]⟩, .func (.func 55) ⟨[]⟩ ⟨[]⟩, .func (.func 56) ⟨[]⟩ ⟨[]⟩, .func (.func 57) ⟨[]⟩ ⟨[]⟩]⟩)).put (some 19) (I i))) (fun i => ((b6, .cells ⟨eCoal xo⟩ 59) :: ((b3, .cells ⟨[I 0]⟩ 3) :: (b1, .cells ⟨eYard y⟩ 25) :: h))) (fun i => 4 - i) 0 ⟨Nat.zero_le _, fun j s hj => absurd hj (Nat.not_lt_zero _)⟩ (le_put (le_put (le_put (le_put (le_put (le_put (le_put (le_put (le_emp _) rfl) rfl) rfl) rfl) rfl) rfl) rfl) rfl) (by (first|((repeat first|exact s_0|exact s_1|exact s_3|refine s_4 ?_|refine s_5 ?_|refine s_6 ?_|refine s_7 ?_);done)|((repeat first|exact s_0|exact s_1|exact s_3|refine s_4 ?_|refine s_5 ?_|refine s_6 ?_|refine s_8 ?_);done))) ?_
    rintro i ⟨hi, hi4⟩
    refine xc_seq (xc_region ?_)
    refine xr_op rfl rfl (xv_lss2 rfl rfl (fun q2 => ?_) (fun q2 => ?_))
    · refine xr_end rfl ?_
      refine th_n ?_
      refine xc_seq ?_
      refine xc_true rfl ?_
      refine xc_skip ?_
      refine th_n ?_
      refine xc_seq ?_
      refine xc_block ?_
      refine xc_seq (xc_region ?_)
      obtain rfl | rfl | rfl | rfl : i = 0 ∨ i = 1 ∨ i = 2 ∨ i = 3 := by (first | omega | (dsimp only at *; omega) | (simp at *; omega))
      · refine xr_op rfl rfl (xv_indexA Try.underlying90 ty89 rfl rfl rfl (by decide) (by decide) (by rfl) ?_)
        refine xr_op rfl rfl (xv_alloc ty89 (fun b8 hb8 => ?_))
        refine xr_op rfl rfl (xv_s ty89 rfl rfl (by (first|(apply u_3;(repeat first|exact u_0|assumption|apply u_1|apply u_2);done)|((repeat first|exact u_0|assumption|apply u_1|apply u_2);done)|(apply u_3;apply u_3;(repeat first|exact u_0|assumption|apply u_1|apply u_2);done)|((repeat first|exact u_0|assumption|apply u_3|apply u_1);done))) (by ((try apply evl_some rfl);(repeat (first|exact (rfl : _ = [])|apply evl_cons rfl (by (first|exact v_1|exact v_2|exact v_3|exact v_4|exact v_5|exact v_6|exact v_7|exact v_8|exact v_9|exact rfl))|exact rfl)))) (by rfl) (by rfl) (by rfl) (by ((try apply evl_some rfl);(repeat (first|exact (rfl : _ = [])|apply evl_cons rfl (by (first|exact v_1|exact v_2|exact v_3|exact v_4|exact v_5|exact v_6|exact v_7|exact v_8|exact v_9|exact rfl))|exact rfl)))) ?_)
        refine xr_end rfl ?_
        refine th_n ?_
        refine xc_seq (xc_region ?_)
        refine xr_op rfl rfl (xv_faddr fl89_0 rfl ?_)
        refine xr_op rfl rfl (xv_load1 ty88 rfl rfl (by ((repeat first|exact z_0|assumption|refine z_1 ?_|(refine z_l ?_;(repeat first|exact z_0|assumption|refine z_1 ?_);done)|refine z_r ?_);done)) (by rfl) ?_)
        refine xr_op rfl rfl (xv_loadA ty59 rfl rfl (by ((repeat first|exact z_0|assumption|refine z_1 ?_|(refine z_l ?_;(repeat first|exact z_0|assumption|refine z_1 ?_);done)|refine z_r ?_);done)) (by ((try apply evl_some rfl);(repeat (first|exact (rfl : _ = [])|apply evl_cons rfl (by (first|exact v_1|exact v_2|exact v_3|exact v_4|exact v_5|exact v_6|exact v_7|exact v_8|exact v_9|exact rfl))|exact rfl)))) (by rfl) ?_)
        refine xr_op rfl rfl (xv_call (fi := []) (ca := []) rfl rfl hb54 rfl (give54_c (c := xo) (up_ret ?_)))
        refine xr_op rfl rfl (xv_alloc ty33 (fun b9 hb9 => ?_))
        refine xr_op rfl rfl (xv_s ty33 rfl rfl (by (first|(apply u_3;(repeat first|exact u_0|assumption|apply u_1|apply u_2);done)|((repeat first|exact u_0|assumption|apply u_1|apply u_2);done)|(apply u_3;apply u_3;(repeat first|exact u_0|assumption|apply u_1|apply u_2);done)|((repeat first|exact u_0|assumption|apply u_3|apply u_1);done))) (by ((try apply evl_some rfl);(repeat (first|exact (rfl : _ = [])|apply evl_cons rfl (by (first|exact v_1|exact v_2|exact v_3|exact v_4|exact v_5|exact v_6|exact v_7|exact v_8|exact v_9|exact rfl))|exact rfl)))) (by rfl) (by rfl) (by rfl) (by ((try apply evl_some rfl);(repeat (first|exact (rfl : _ = [])|apply evl_cons rfl (by (first|exact v_1|exact v_2|exact v_3|exact v_4|exact v_5|exact v_6|exact v_7|exact v_8|exact v_9|exact rfl))|exact rfl)))) ?_)
        refine xr_end rfl ?_
        refine th_n ?_
        refine xc_seq (xc_region ?_)
        refine xr_op rfl rfl (xv_faddr fl33_1 rfl ?_)
        refine xr_op rfl rfl (xv_load1 ty3 rfl rfl (by ((repeat first|exact z_0|assumption|refine z_1 ?_|(refine z_l ?_;(repeat first|exact z_0|assumption|refine z_1 ?_);done)|refine z_r ?_);done)) (by rfl) ?_)
        refine xr_op rfl rfl (xv_calls rfl hb31 (within_c _ _ _ (fun hl3 hu4 => up_ret ?_) (fun hn5 => up_ret ?_)))
        · refine xr_op rfl rfl (xv_not rfl ?_)
          refine xr_op rfl rfl (xv_move rfl ?_)
          refine xr_gd rfl rfl rfl (xv_faddr fl33_0 rfl ?_)
          refine xr_gd rfl rfl rfl (xv_load1 ty3 rfl rfl (by ((repeat first|exact z_0|assumption|refine z_1 ?_|(refine z_l ?_;(repeat first|exact z_0|assumption|refine z_1 ?_);done)|refine z_r ?_);done)) (by rfl) ?_)
          refine xr_gd rfl rfl rfl (xv_faddr fl33_1 rfl ?_)
          refine xr_gd rfl rfl rfl (xv_load1 ty3 rfl rfl (by ((repeat first|exact z_0|assumption|refine z_1 ?_|(refine z_l ?_;(repeat first|exact z_0|assumption|refine z_1 ?_);done)|refine z_r ?_);done)) (by rfl) ?_)
          refine xr_gd rfl rfl rfl (xv_calls rfl hb31 (within_c _ _ _ (fun hl6 hu7 => up_ret ?_) (fun hn8 => up_ret ?_)))
          · refine xr_gd rfl rfl rfl (xv_not rfl ?_)
            refine xr_op rfl rfl (xv_pick rfl rfl ?_)
            refine xr_end rfl ?_
            refine th_n ?_
            refine xc_false rfl ?_
            refine xc_skip ?_
            refine bk_n ?_
            refine th_n ?_
            refine xc_region ?_
            refine xr_op rfl rfl (xv_add rfl rfl (wrap_i64 (by (first | omega | (dsimp only at *; omega) | (simp at *; omega))) (by (first | omega | (dsimp only at *; omega) | (simp at *; omega)))) ?_)
            refine xr_op rfl rfl (xv_move rfl ?_)
            refine xr_end rfl ?_
            exact rnd (0 + 1) ⟨by omega, fun j s9 hj hs9 => by
              rcases Nat.lt_succ_iff_lt_or_eq.1 hj with hj | rfl
              · exact hi4 j s9 hj hs9
              · have hs8 : some xo.gas = some s9 := hs9
                cases hs8
                unfold spanOk; omega⟩ (by omega) (le_put (le_put (le_put (le_put (le_put (le_put (le_put (le_put (le_emp _) rfl) rfl) rfl) rfl) rfl) rfl) rfl) rfl) (by (first|((repeat first|exact s_0|exact s_1|exact s_3|refine s_4 ?_|refine s_5 ?_|refine s_6 ?_|refine s_7 ?_);done)|((repeat first|exact s_0|exact s_1|exact s_3|refine s_4 ?_|refine s_5 ?_|refine s_6 ?_|refine s_8 ?_);done)))
          · refine xr_gd rfl rfl rfl (xv_not rfl ?_)
            refine xr_op rfl rfl (xv_pick rfl rfl ?_)
            refine xr_end rfl ?_
            refine th_n ?_
            refine xc_true rfl ?_
            refine xc_seq (xc_region ?_)
            have hbs : ¬ spanOk xo.gas := fun hq => by unfold spanOk at hq; omega
            have hbc : ¬ coalOk xo := fun hq => hbs hq.1
            refine xr_op rfl rfl (xv_assign rfl ?_)
            refine xr_end rfl ?_
            refine th_n ?_
            refine xc_ret ?_
            refine bk_r ?_
            refine th_r ?_
            refine th_r ?_
            refine bk_r ?_
            refine bk_r ?_
            refine th_r ?_
            refine th_r ?_
            refine bk_r ?_
            refine th_r ?_
            refine body_ret (h' := h) rfl (ro_tmp rfl ro_nil) (by (first|((repeat first|exact s_0|exact s_1|exact s_3|refine s_4 ?_|refine s_5 ?_|refine s_6 ?_|refine s_7 ?_);done)|((repeat first|exact s_0|exact s_1|exact s_3|refine s_4 ?_|refine s_5 ?_|refine s_6 ?_|refine s_8 ?_);done))) ?_
            first | exact H2 (fun hq9 => hbc (hq9.1 xo (List.mem_of_getElem? hko))) | exact H2 (fun hq9 => absurd (movesOk_at hq9.2.1 hkb) (by simpa using hpb)) | exact H1 ⟨hco, movesOk_all (fun k x hk => by simpa using hno k x hk), by omega, by omega⟩ | exact H2 (fun hq9 => by have h9 := hq9.2.2; omega)
        · refine xr_op rfl rfl (xv_not rfl ?_)
          refine xr_op rfl rfl (xv_move rfl ?_)
          refine xr_no rfl rfl rfl rfl ?_
          refine xr_no rfl rfl rfl rfl ?_
          refine xr_no rfl rfl rfl rfl ?_
          refine xr_no rfl rfl rfl rfl ?_
          refine xr_no rfl rfl rfl rfl ?_
          refine xr_no rfl rfl rfl rfl ?_
          refine xr_op rfl rfl (xv_pick rfl rfl ?_)
          refine xr_end rfl ?_
          refine th_n ?_
          refine xc_true rfl ?_
          refine xc_seq (xc_region ?_)
          have hbs : ¬ spanOk xo.gas := fun hq => by unfold spanOk at hq; omega
          have hbc : ¬ coalOk xo := fun hq => hbs hq.1
          refine xr_op rfl rfl (xv_assign rfl ?_)
          refine xr_end rfl ?_
          refine th_n ?_
          refine xc_ret ?_
          refine bk_r ?_
          refine th_r ?_
          refine th_r ?_
          refine bk_r ?_
          refine bk_r ?_
          refine th_r ?_
          refine th_r ?_
          refine bk_r ?_
          refine th_r ?_
          refine body_ret (h' := h) rfl (ro_tmp rfl ro_nil) (by (first|((repeat first|exact s_0|exact s_1|exact s_3|refine s_4 ?_|refine s_5 ?_|refine s_6 ?_|refine s_7 ?_);done)|((repeat first|exact s_0|exact s_1|exact s_3|refine s_4 ?_|refine s_5 ?_|refine s_6 ?_|refine s_8 ?_);done))) ?_
          first | exact H2 (fun hq9 => hbc (hq9.1 xo (List.mem_of_getElem? hko))) | exact H2 (fun hq9 => absurd (movesOk_at hq9.2.1 hkb) (by simpa using hpb)) | exact H1 ⟨hco, movesOk_all (fun k x hk => by simpa using hno k x hk), by omega, by omega⟩ | exact H2 (fun hq9 => by have h9 := hq9.2.2; omega)
      · refine xr_op rfl rfl (xv_indexA Try.underlying90 ty89 rfl rfl rfl (by decide) (by decide) (by rfl) ?_)
        refine xr_op rfl rfl (xv_alloc ty89 (fun b8 hb8 => ?_))
        refine xr_op rfl rfl (xv_s ty89 rfl rfl (by (first|(apply u_3;(repeat first|exact u_0|assumption|apply u_1|apply u_2);done)|((repeat first|exact u_0|assumption|apply u_1|apply u_2);done)|(apply u_3;apply u_3;(repeat first|exact u_0|assumption|apply u_1|apply u_2);done)|((repeat first|exact u_0|assumption|apply u_3|apply u_1);done))) (by ((try apply evl_some rfl);(repeat (first|exact (rfl : _ = [])|apply evl_cons rfl (by (first|exact v_1|exact v_2|exact v_3|exact v_4|exact v_5|exact v_6|exact v_7|exact v_8|exact v_9|exact rfl))|exact rfl)))) (by rfl) (by rfl) (by rfl) (by ((try apply evl_some rfl);(repeat (first|exact (rfl : _ = [])|apply evl_cons rfl (by (first|exact v_1|exact v_2|exact v_3|exact v_4|exact v_5|exact v_6|exact v_7|exact v_8|exact v_9|exact rfl))|exact rfl)))) ?_)
        refine xr_end rfl ?_
        refine th_n ?_
        refine xc_seq (xc_region ?_)
        refine xr_op rfl rfl (xv_faddr fl89_0 rfl ?_)
        refine xr_op rfl rfl (xv_load1 ty88 rfl rfl (by ((repeat first|exact z_0|assumption|refine z_1 ?_|(refine z_l ?_;(repeat first|exact z_0|assumption|refine z_1 ?_);done)|refine z_r ?_);done)) (by rfl) ?_)
        refine xr_op rfl rfl (xv_loadA ty59 rfl rfl (by ((repeat first|exact z_0|assumption|refine z_1 ?_|(refine z_l ?_;(repeat first|exact z_0|assumption|refine z_1 ?_);done)|refine z_r ?_);done)) (by ((try apply evl_some rfl);(repeat (first|exact (rfl : _ = [])|apply evl_cons rfl (by (first|exact v_1|exact v_2|exact v_3|exact v_4|exact v_5|exact v_6|exact v_7|exact v_8|exact v_9|exact rfl))|exact rfl)))) (by rfl) ?_)
        refine xr_op rfl rfl (xv_call (fi := []) (ca := []) rfl rfl hb55 rfl (give55_c (c := xo) (up_ret ?_)))
        refine xr_op rfl rfl (xv_alloc ty33 (fun b9 hb9 => ?_))
        refine xr_op rfl rfl (xv_s ty33 rfl rfl (by (first|(apply u_3;(repeat first|exact u_0|assumption|apply u_1|apply u_2);done)|((repeat first|exact u_0|assumption|apply u_1|apply u_2);done)|(apply u_3;apply u_3;(repeat first|exact u_0|assumption|apply u_1|apply u_2);done)|((repeat first|exact u_0|assumption|apply u_3|apply u_1);done))) (by ((try apply evl_some rfl);(repeat (first|exact (rfl : _ = [])|apply evl_cons rfl (by (first|exact v_1|exact v_2|exact v_3|exact v_4|exact v_5|exact v_6|exact v_7|exact v_8|exact v_9|exact rfl))|exact rfl)))) (by rfl) (by rfl) (by rfl) (by ((try apply evl_some rfl);(repeat (first|exact (rfl : _ = [])|apply evl_cons rfl (by (first|exact v_1|exact v_2|exact v_3|exact v_4|exact v_5|exact v_6|exact v_7|exact v_8|exact v_9|exact rfl))|exact rfl)))) ?_)
        refine xr_end rfl ?_
        refine th_n ?_
        refine xc_seq (xc_region ?_)
        refine xr_op rfl rfl (xv_faddr fl33_1 rfl ?_)
        refine xr_op rfl rfl (xv_load1 ty3 rfl rfl (by ((repeat first|exact z_0|assumption|refine z_1 ?_|(refine z_l ?_;(repeat first|exact z_0|assumption|refine z_1 ?_);done)|refine z_r ?_);done)) (by rfl) ?_)
        refine xr_op rfl rfl (xv_calls rfl hb31 (within_c _ _ _ (fun hl9 hu10 => up_ret ?_) (fun hn11 => up_ret ?_)))
        · refine xr_op rfl rfl (xv_not rfl ?_)
          refine xr_op rfl rfl (xv_move rfl ?_)
          refine xr_gd rfl rfl rfl (xv_faddr fl33_0 rfl ?_)
          refine xr_gd rfl rfl rfl (xv_load1 ty3 rfl rfl (by ((repeat first|exact z_0|assumption|refine z_1 ?_|(refine z_l ?_;(repeat first|exact z_0|assumption|refine z_1 ?_);done)|refine z_r ?_);done)) (by rfl) ?_)
          refine xr_gd rfl rfl rfl (xv_faddr fl33_1 rfl ?_)
          refine xr_gd rfl rfl rfl (xv_load1 ty3 rfl rfl (by ((repeat first|exact z_0|assumption|refine z_1 ?_|(refine z_l ?_;(repeat first|exact z_0|assumption|refine z_1 ?_);done)|refine z_r ?_);done)) (by rfl) ?_)
          refine xr_gd rfl rfl rfl (xv_calls rfl hb31 (within_c _ _ _ (fun hl12 hu13 => up_ret ?_) (fun hn14 => up_ret ?_)))
          · refine xr_gd rfl rfl rfl (xv_not rfl ?_)
            refine xr_op rfl rfl (xv_pick rfl rfl ?_)
            refine xr_end rfl ?_
            refine th_n ?_
            refine xc_false rfl ?_
            refine xc_skip ?_
            refine bk_n ?_
            refine th_n ?_
            refine xc_region ?_
            refine xr_op rfl rfl (xv_add rfl rfl (wrap_i64 (by (first | omega | (dsimp only at *; omega) | (simp at *; omega))) (by (first | omega | (dsimp only at *; omega) | (simp at *; omega)))) ?_)
            refine xr_op rfl rfl (xv_move rfl ?_)
            refine xr_end rfl ?_
            exact rnd (1 + 1) ⟨by omega, fun j s9 hj hs9 => by
              rcases Nat.lt_succ_iff_lt_or_eq.1 hj with hj | rfl
              · exact hi4 j s9 hj hs9
              · have hs8 : some xo.tar = some s9 := hs9
                cases hs8
                unfold spanOk; omega⟩ (by omega) (le_put (le_put (le_put (le_put (le_put (le_put (le_put (le_put (le_emp _) rfl) rfl) rfl) rfl) rfl) rfl) rfl) rfl) (by (first|((repeat first|exact s_0|exact s_1|exact s_3|refine s_4 ?_|refine s_5 ?_|refine s_6 ?_|refine s_7 ?_);done)|((repeat first|exact s_0|exact s_1|exact s_3|refine s_4 ?_|refine s_5 ?_|refine s_6 ?_|refine s_8 ?_);done)))
          · refine xr_gd rfl rfl rfl (xv_not rfl ?_)
            refine xr_op rfl rfl (xv_pick rfl rfl ?_)
            refine xr_end rfl ?_
            refine th_n ?_
            refine xc_true rfl ?_
            refine xc_seq (xc_region ?_)
            have hbs : ¬ spanOk xo.tar := fun hq => by unfold spanOk at hq; omega
            have hbc : ¬ coalOk xo := fun hq => hbs hq.2.1
            refine xr_op rfl rfl (xv_assign rfl ?_)
            refine xr_end rfl ?_
            refine th_n ?_
            refine xc_ret ?_
            refine bk_r ?_
            refine th_r ?_
            refine th_r ?_
            refine bk_r ?_
            refine bk_r ?_
            refine th_r ?_
            refine th_r ?_
            refine bk_r ?_
            refine th_r ?_
            refine body_ret (h' := h) rfl (ro_tmp rfl ro_nil) (by (first|((repeat first|exact s_0|exact s_1|exact s_3|refine s_4 ?_|refine s_5 ?_|refine s_6 ?_|refine s_7 ?_);done)|((repeat first|exact s_0|exact s_1|exact s_3|refine s_4 ?_|refine s_5 ?_|refine s_6 ?_|refine s_8 ?_);done))) ?_
            first | exact H2 (fun hq9 => hbc (hq9.1 xo (List.mem_of_getElem? hko))) | exact H2 (fun hq9 => absurd (movesOk_at hq9.2.1 hkb) (by simpa using hpb)) | exact H1 ⟨hco, movesOk_all (fun k x hk => by simpa using hno k x hk), by omega, by omega⟩ | exact H2 (fun hq9 => by have h9 := hq9.2.2; omega)
        · refine xr_op rfl rfl (xv_not rfl ?_)
          refine xr_op rfl rfl (xv_move rfl ?_)
          refine xr_no rfl rfl rfl rfl ?_
          refine xr_no rfl rfl rfl rfl ?_
          refine xr_no rfl rfl rfl rfl ?_
          refine xr_no rfl rfl rfl rfl ?_
          refine xr_no rfl rfl rfl rfl ?_
          refine xr_no rfl rfl rfl rfl ?_
          refine xr_op rfl rfl (xv_pick rfl rfl ?_)
          refine xr_end rfl ?_
          refine th_n ?_
          refine xc_true rfl ?_
          refine xc_seq (xc_region ?_)
          have hbs : ¬ spanOk xo.tar := fun hq => by unfold spanOk at hq; omega
          have hbc : ¬ coalOk xo := fun hq => hbs hq.2.1
          refine xr_op rfl rfl (xv_assign rfl ?_)
          refine xr_end rfl ?_
          refine th_n ?_
          refine xc_ret ?_
          refine bk_r ?_
          refine th_r ?_
          refine th_r ?_
          refine bk_r ?_
          refine bk_r ?_
          refine th_r ?_
          refine th_r ?_
          refine bk_r ?_
          refine th_r ?_
          refine body_ret (h' := h) rfl (ro_tmp rfl ro_nil) (by (first|((repeat first|exact s_0|exact s_1|exact s_3|refine s_4 ?_|refine s_5 ?_|refine s_6 ?_|refine s_7 ?_);done)|((repeat first|exact s_0|exact s_1|exact s_3|refine s_4 ?_|refine s_5 ?_|refine s_6 ?_|refine s_8 ?_);done))) ?_
          first | exact H2 (fun hq9 => hbc (hq9.1 xo (List.mem_of_getElem? hko))) | exact H2 (fun hq9 => absurd (movesOk_at hq9.2.1 hkb) (by simpa using hpb)) | exact H1 ⟨hco, movesOk_all (fun k x hk => by simpa using hno k x hk), by omega, by omega⟩ | exact H2 (fun hq9 => by have h9 := hq9.2.2; omega)
      · refine xr_op rfl rfl (xv_indexA Try.underlying90 ty89 rfl rfl rfl (by decide) (by decide) (by rfl) ?_)
        refine xr_op rfl rfl (xv_alloc ty89 (fun b8 hb8 => ?_))
        refine xr_op rfl rfl (xv_s ty89 rfl rfl (by (first|(apply u_3;(repeat first|exact u_0|assumption|apply u_1|apply u_2);done)|((repeat first|exact u_0|assumption|apply u_1|apply u_2);done)|(apply u_3;apply u_3;(repeat first|exact u_0|assumption|apply u_1|apply u_2);done)|((repeat first|exact u_0|assumption|apply u_3|apply u_1);done))) (by ((try apply evl_some rfl);(repeat (first|exact (rfl : _ = [])|apply evl_cons rfl (by (first|exact v_1|exact v_2|exact v_3|exact v_4|exact v_5|exact v_6|exact v_7|exact v_8|exact v_9|exact rfl))|exact rfl)))) (by rfl) (by rfl) (by rfl) (by ((try apply evl_some rfl);(repeat (first|exact (rfl : _ = [])|apply evl_cons rfl (by (first|exact v_1|exact v_2|exact v_3|exact v_4|exact v_5|exact v_6|exact v_7|exact v_8|exact v_9|exact rfl))|exact rfl)))) ?_)
        refine xr_end rfl ?_
        refine th_n ?_
        refine xc_seq (xc_region ?_)
        refine xr_op rfl rfl (xv_faddr fl89_0 rfl ?_)
        refine xr_op rfl rfl (xv_load1 ty88 rfl rfl (by ((repeat first|exact z_0|assumption|refine z_1 ?_|(refine z_l ?_;(repeat first|exact z_0|assumption|refine z_1 ?_);done)|refine z_r ?_);done)) (by rfl) ?_)
        refine xr_op rfl rfl (xv_loadA ty59 rfl rfl (by ((repeat first|exact z_0|assumption|refine z_1 ?_|(refine z_l ?_;(repeat first|exact z_0|assumption|refine z_1 ?_);done)|refine z_r ?_);done)) (by ((try apply evl_some rfl);(repeat (first|exact (rfl : _ = [])|apply evl_cons rfl (by (first|exact v_1|exact v_2|exact v_3|exact v_4|exact v_5|exact v_6|exact v_7|exact v_8|exact v_9|exact rfl))|exact rfl)))) (by rfl) ?_)
        refine xr_op rfl rfl (xv_call (fi := []) (ca := []) rfl rfl hb56 rfl (give56_c (c := xo) (up_ret ?_)))
        refine xr_op rfl rfl (xv_alloc ty33 (fun b9 hb9 => ?_))
        refine xr_op rfl rfl (xv_s ty33 rfl rfl (by (first|(apply u_3;(repeat first|exact u_0|assumption|apply u_1|apply u_2);done)|((repeat first|exact u_0|assumption|apply u_1|apply u_2);done)|(apply u_3;apply u_3;(repeat first|exact u_0|assumption|apply u_1|apply u_2);done)|((repeat first|exact u_0|assumption|apply u_3|apply u_1);done))) (by ((try apply evl_some rfl);(repeat (first|exact (rfl : _ = [])|apply evl_cons rfl (by (first|exact v_1|exact v_2|exact v_3|exact v_4|exact v_5|exact v_6|exact v_7|exact v_8|exact v_9|exact rfl))|exact rfl)))) (by rfl) (by rfl) (by rfl) (by ((try apply evl_some rfl);(repeat (first|exact (rfl : _ = [])|apply evl_cons rfl (by (first|exact v_1|exact v_2|exact v_3|exact v_4|exact v_5|exact v_6|exact v_7|exact v_8|exact v_9|exact rfl))|exact rfl)))) ?_)
        refine xr_end rfl ?_
        refine th_n ?_
        refine xc_seq (xc_region ?_)
        refine xr_op rfl rfl (xv_faddr fl33_1 rfl ?_)
        refine xr_op rfl rfl (xv_load1 ty3 rfl rfl (by ((repeat first|exact z_0|assumption|refine z_1 ?_|(refine z_l ?_;(repeat first|exact z_0|assumption|refine z_1 ?_);done)|refine z_r ?_);done)) (by rfl) ?_)
        refine xr_op rfl rfl (xv_calls rfl hb31 (within_c _ _ _ (fun hl15 hu16 => up_ret ?_) (fun hn17 => up_ret ?_)))
        · refine xr_op rfl rfl (xv_not rfl ?_)
          refine xr_op rfl rfl (xv_move rfl ?_)
          refine xr_gd rfl rfl rfl (xv_faddr fl33_0 rfl ?_)
          refine xr_gd rfl rfl rfl (xv_load1 ty3 rfl rfl (by ((repeat first|exact z_0|assumption|refine z_1 ?_|(refine z_l ?_;(repeat first|exact z_0|assumption|refine z_1 ?_);done)|refine z_r ?_);done)) (by rfl) ?_)
          refine xr_gd rfl rfl rfl (xv_faddr fl33_1 rfl ?_)
          refine xr_gd rfl rfl rfl (xv_load1 ty3 rfl rfl (by ((repeat first|exact z_0|assumption|refine z_1 ?_|(refine z_l ?_;(repeat first|exact z_0|assumption|refine z_1 ?_);done)|refine z_r ?_);done)) (by rfl) ?_)
          refine xr_gd rfl rfl rfl (xv_calls rfl hb31 (within_c _ _ _ (fun hl18 hu19 => up_ret ?_) (fun hn20 => up_ret ?_)))
          · refine xr_gd rfl rfl rfl (xv_not rfl ?_)
            refine xr_op rfl rfl (xv_pick rfl rfl ?_)
            refine xr_end rfl ?_
            refine th_n ?_
            refine xc_false rfl ?_
            refine xc_skip ?_
            refine bk_n ?_
            refine th_n ?_
            refine xc_region ?_
            refine xr_op rfl rfl (xv_add rfl rfl (wrap_i64 (by (first | omega | (dsimp only at *; omega) | (simp at *; omega))) (by (first | omega | (dsimp only at *; omega) | (simp at *; omega)))) ?_)
            refine xr_op rfl rfl (xv_move rfl ?_)
            refine xr_end rfl ?_
            exact rnd (2 + 1) ⟨by omega, fun j s9 hj hs9 => by
              rcases Nat.lt_succ_iff_lt_or_eq.1 hj with hj | rfl
              · exact hi4 j s9 hj hs9
              · have hs8 : some xo.sulphur = some s9 := hs9
                cases hs8
                unfold spanOk; omega⟩ (by omega) (le_put (le_put (le_put (le_put (le_put (le_put (le_put (le_put (le_emp _) rfl) rfl) rfl) rfl) rfl) rfl) rfl) rfl) (by (first|((repeat first|exact s_0|exact s_1|exact s_3|refine s_4 ?_|refine s_5 ?_|refine s_6 ?_|refine s_7 ?_);done)|((repeat first|exact s_0|exact s_1|exact s_3|refine s_4 ?_|refine s_5 ?_|refine s_6 ?_|refine s_8 ?_);done)))
          · refine xr_gd rfl rfl rfl (xv_not rfl ?_)
            refine xr_op rfl rfl (xv_pick rfl rfl ?_)
            refine xr_end rfl ?_
            refine th_n ?_
            refine xc_true rfl ?_
            refine xc_seq (xc_region ?_)
            have hbs : ¬ spanOk xo.sulphur := fun hq => by unfold spanOk at hq; omega
            have hbc : ¬ coalOk xo := fun hq => hbs hq.2.2.1
            refine xr_op rfl rfl (xv_assign rfl ?_)
            refine xr_end rfl ?_
            refine th_n ?_
            refine xc_ret ?_
            refine bk_r ?_
            refine th_r ?_
            refine th_r ?_
            refine bk_r ?_
            refine bk_r ?_
            refine th_r ?_
            refine th_r ?_
            refine bk_r ?_
            refine th_r ?_
            refine body_ret (h' := h) rfl (ro_tmp rfl ro_nil) (by (first|((repeat first|exact s_0|exact s_1|exact s_3|refine s_4 ?_|refine s_5 ?_|refine s_6 ?_|refine s_7 ?_);done)|((repeat first|exact s_0|exact s_1|exact s_3|refine s_4 ?_|refine s_5 ?_|refine s_6 ?_|refine s_8 ?_);done))) ?_
            first | exact H2 (fun hq9 => hbc (hq9.1 xo (List.mem_of_getElem? hko))) | exact H2 (fun hq9 => absurd (movesOk_at hq9.2.1 hkb) (by simpa using hpb)) | exact H1 ⟨hco, movesOk_all (fun k x hk => by simpa using hno k x hk), by omega, by omega⟩ | exact H2 (fun hq9 => by have h9 := hq9.2.2; omega)
        · refine xr_op rfl rfl (xv_not rfl ?_)
          refine xr_op rfl rfl (xv_move rfl ?_)
          refine xr_no rfl rfl rfl rfl ?_
          refine xr_no rfl rfl rfl rfl ?_
          refine xr_no rfl rfl rfl rfl ?_
          refine xr_no rfl rfl rfl rfl ?_
          refine xr_no rfl rfl rfl rfl ?_
          refine xr_no rfl rfl rfl rfl ?_
          refine xr_op rfl rfl (xv_pick rfl rfl ?_)
          refine xr_end rfl ?_
          refine th_n ?_
          refine xc_true rfl ?_
          refine xc_seq (xc_region ?_)
          have hbs : ¬ spanOk xo.sulphur := fun hq => by unfold spanOk at hq; omega
          have hbc : ¬ coalOk xo := fun hq => hbs hq.2.2.1
          refine xr_op rfl rfl (xv_assign rfl ?_)
          refine xr_end rfl ?_
          refine th_n ?_
          refine xc_ret ?_
          refine bk_r ?_
          refine th_r ?_
          refine th_r ?_
          refine bk_r ?_
          refine bk_r ?_
          refine th_r ?_
          refine th_r ?_
          refine bk_r ?_
          refine th_r ?_
          refine body_ret (h' := h) rfl (ro_tmp rfl ro_nil) (by (first|((repeat first|exact s_0|exact s_1|exact s_3|refine s_4 ?_|refine s_5 ?_|refine s_6 ?_|refine s_7 ?_);done)|((repeat first|exact s_0|exact s_1|exact s_3|refine s_4 ?_|refine s_5 ?_|refine s_6 ?_|refine s_8 ?_);done))) ?_
          first | exact H2 (fun hq9 => hbc (hq9.1 xo (List.mem_of_getElem? hko))) | exact H2 (fun hq9 => absurd (movesOk_at hq9.2.1 hkb) (by simpa using hpb)) | exact H1 ⟨hco, movesOk_all (fun k x hk => by simpa using hno k x hk), by omega, by omega⟩ | exact H2 (fun hq9 => by have h9 := hq9.2.2; omega)
      · refine xr_op rfl rfl (xv_indexA Try.underlying90 ty89 rfl rfl rfl (by decide) (by decide) (by rfl) ?_)
        refine xr_op rfl rfl (xv_alloc ty89 (fun b8 hb8 => ?_))
        refine xr_op rfl rfl (xv_s ty89 rfl rfl (by (first|(apply u_3;(repeat first|exact u_0|assumption|apply u_1|apply u_2);done)|((repeat first|exact u_0|assumption|apply u_1|apply u_2);done)|(apply u_3;apply u_3;(repeat first|exact u_0|assumption|apply u_1|apply u_2);done)|((repeat first|exact u_0|assumption|apply u_3|apply u_1);done))) (by ((try apply evl_some rfl);(repeat (first|exact (rfl : _ = [])|apply evl_cons rfl (by (first|exact v_1|exact v_2|exact v_3|exact v_4|exact v_5|exact v_6|exact v_7|exact v_8|exact v_9|exact rfl))|exact rfl)))) (by rfl) (by rfl) (by rfl) (by ((try apply evl_some rfl);(repeat (first|exact (rfl : _ = [])|apply evl_cons rfl (by (first|exact v_1|exact v_2|exact v_3|exact v_4|exact v_5|exact v_6|exact v_7|exact v_8|exact v_9|exact rfl))|exact rfl)))) ?_)
        refine xr_end rfl ?_
        refine th_n ?_
        refine xc_seq (xc_region ?_)
        refine xr_op rfl rfl (xv_faddr fl89_0 rfl ?_)
        refine xr_op rfl rfl (xv_load1 ty88 rfl rfl (by ((repeat first|exact z_0|assumption|refine z_1 ?_|(refine z_l ?_;(repeat first|exact z_0|assumption|refine z_1 ?_);done)|refine z_r ?_);done)) (by rfl) ?_)
        refine xr_op rfl rfl (xv_loadA ty59 rfl rfl (by ((repeat first|exact z_0|assumption|refine z_1 ?_|(refine z_l ?_;(repeat first|exact z_0|assumption|refine z_1 ?_);done)|refine z_r ?_);done)) (by ((try apply evl_some rfl);(repeat (first|exact (rfl : _ = [])|apply evl_cons rfl (by (first|exact v_1|exact v_2|exact v_3|exact v_4|exact v_5|exact v_6|exact v_7|exact v_8|exact v_9|exact rfl))|exact rfl)))) (by rfl) ?_)
        refine xr_op rfl rfl (xv_call (fi := []) (ca := []) rfl rfl hb57 rfl (give57_c (c := xo) (up_ret ?_)))
        refine xr_op rfl rfl (xv_alloc ty33 (fun b9 hb9 => ?_))
        refine xr_op rfl rfl (xv_s ty33 rfl rfl (by (first|(apply u_3;(repeat first|exact u_0|assumption|apply u_1|apply u_2);done)|((repeat first|exact u_0|assumption|apply u_1|apply u_2);done)|(apply u_3;apply u_3;(repeat first|exact u_0|assumption|apply u_1|apply u_2);done)|((repeat first|exact u_0|assumption|apply u_3|apply u_1);done))) (by ((try apply evl_some rfl);(repeat (first|exact (rfl : _ = [])|apply evl_cons rfl (by (first|exact v_1|exact v_2|exact v_3|exact v_4|exact v_5|exact v_6|exact v_7|exact v_8|exact v_9|exact rfl))|exact rfl)))) (by rfl) (by rfl) (by rfl) (by ((try apply evl_some rfl);(repeat (first|exact (rfl : _ = [])|apply evl_cons rfl (by (first|exact v_1|exact v_2|exact v_3|exact v_4|exact v_5|exact v_6|exact v_7|exact v_8|exact v_9|exact rfl))|exact rfl)))) ?_)
        refine xr_end rfl ?_
        refine th_n ?_
        refine xc_seq (xc_region ?_)
        refine xr_op rfl rfl (xv_faddr fl33_1 rfl ?_)
        refine xr_op rfl rfl (xv_load1 ty3 rfl rfl (by ((repeat first|exact z_0|assumption|refine z_1 ?_|(refine z_l ?_;(repeat first|exact z_0|assumption|refine z_1 ?_);done)|refine z_r ?_);done)) (by rfl) ?_)
        refine xr_op rfl rfl (xv_calls rfl hb31 (within_c _ _ _ (fun hl21 hu22 => up_ret ?_) (fun hn23 => up_ret ?_)))
        · refine xr_op rfl rfl (xv_not rfl ?_)
          refine xr_op rfl rfl (xv_move rfl ?_)
          refine xr_gd rfl rfl rfl (xv_faddr fl33_0 rfl ?_)
          refine xr_gd rfl rfl rfl (xv_load1 ty3 rfl rfl (by ((repeat first|exact z_0|assumption|refine z_1 ?_|(refine z_l ?_;(repeat first|exact z_0|assumption|refine z_1 ?_);done)|refine z_r ?_);done)) (by rfl) ?_)
          refine xr_gd rfl rfl rfl (xv_faddr fl33_1 rfl ?_)
          refine xr_gd rfl rfl rfl (xv_load1 ty3 rfl rfl (by ((repeat first|exact z_0|assumption|refine z_1 ?_|(refine z_l ?_;(repeat first|exact z_0|assumption|refine z_1 ?_);done)|refine z_r ?_);done)) (by rfl) ?_)
          refine xr_gd rfl rfl rfl (xv_calls rfl hb31 (within_c _ _ _ (fun hl24 hu25 => up_ret ?_) (fun hn26 => up_ret ?_)))
          · refine xr_gd rfl rfl rfl (xv_not rfl ?_)
            refine xr_op rfl rfl (xv_pick rfl rfl ?_)
            refine xr_end rfl ?_
            refine th_n ?_
            refine xc_false rfl ?_
            refine xc_skip ?_
            refine bk_n ?_
            refine th_n ?_
            refine xc_region ?_
            refine xr_op rfl rfl (xv_add rfl rfl (wrap_i64 (by (first | omega | (dsimp only at *; omega) | (simp at *; omega))) (by (first | omega | (dsimp only at *; omega) | (simp at *; omega)))) ?_)
            refine xr_op rfl rfl (xv_move rfl ?_)
            refine xr_end rfl ?_
            exact rnd (3 + 1) ⟨by omega, fun j s9 hj hs9 => by
              rcases Nat.lt_succ_iff_lt_or_eq.1 hj with hj | rfl
              · exact hi4 j s9 hj hs9
              · have hs8 : some xo.coke = some s9 := hs9
                cases hs8
                unfold spanOk; omega⟩ (by omega) (le_put (le_put (le_put (le_put (le_put (le_put (le_put (le_put (le_emp _) rfl) rfl) rfl) rfl) rfl) rfl) rfl) rfl) (by (first|((repeat first|exact s_0|exact s_1|exact s_3|refine s_4 ?_|refine s_5 ?_|refine s_6 ?_|refine s_7 ?_);done)|((repeat first|exact s_0|exact s_1|exact s_3|refine s_4 ?_|refine s_5 ?_|refine s_6 ?_|refine s_8 ?_);done)))
          · refine xr_gd rfl rfl rfl (xv_not rfl ?_)
            refine xr_op rfl rfl (xv_pick rfl rfl ?_)
            refine xr_end rfl ?_
            refine th_n ?_
            refine xc_true rfl ?_
            refine xc_seq (xc_region ?_)
            have hbs : ¬ spanOk xo.coke := fun hq => by unfold spanOk at hq; omega
            have hbc : ¬ coalOk xo := fun hq => hbs hq.2.2.2
            refine xr_op rfl rfl (xv_assign rfl ?_)
            refine xr_end rfl ?_
            refine th_n ?_
            refine xc_ret ?_
            refine bk_r ?_
            refine th_r ?_
            refine th_r ?_
            refine bk_r ?_
            refine bk_r ?_
            refine th_r ?_
            refine th_r ?_
            refine bk_r ?_
            refine th_r ?_
            refine body_ret (h' := h) rfl (ro_tmp rfl ro_nil) (by (first|((repeat first|exact s_0|exact s_1|exact s_3|refine s_4 ?_|refine s_5 ?_|refine s_6 ?_|refine s_7 ?_);done)|((repeat first|exact s_0|exact s_1|exact s_3|refine s_4 ?_|refine s_5 ?_|refine s_6 ?_|refine s_8 ?_);done))) ?_
            first | exact H2 (fun hq9 => hbc (hq9.1 xo (List.mem_of_getElem? hko))) | exact H2 (fun hq9 => absurd (movesOk_at hq9.2.1 hkb) (by simpa using hpb)) | exact H1 ⟨hco, movesOk_all (fun k x hk => by simpa using hno k x hk), by omega, by omega⟩ | exact H2 (fun hq9 => by have h9 := hq9.2.2; omega)
        · refine xr_op rfl rfl (xv_not rfl ?_)
          refine xr_op rfl rfl (xv_move rfl ?_)
          refine xr_no rfl rfl rfl rfl ?_
          refine xr_no rfl rfl rfl rfl ?_
          refine xr_no rfl rfl rfl rfl ?_
          refine xr_no rfl rfl rfl rfl ?_
          refine xr_no rfl rfl rfl rfl ?_
          refine xr_no rfl rfl rfl rfl ?_
          refine xr_op rfl rfl (xv_pick rfl rfl ?_)
          refine xr_end rfl ?_
          refine th_n ?_
          refine xc_true rfl ?_
          refine xc_seq (xc_region ?_)
          have hbs : ¬ spanOk xo.coke := fun hq => by unfold spanOk at hq; omega
          have hbc : ¬ coalOk xo := fun hq => hbs hq.2.2.2
          refine xr_op rfl rfl (xv_assign rfl ?_)
          refine xr_end rfl ?_
          refine th_n ?_
          refine xc_ret ?_
          refine bk_r ?_
          refine th_r ?_
          refine th_r ?_
          refine bk_r ?_
          refine bk_r ?_
          refine th_r ?_
          refine th_r ?_
          refine bk_r ?_
          refine th_r ?_
          refine body_ret (h' := h) rfl (ro_tmp rfl ro_nil) (by (first|((repeat first|exact s_0|exact s_1|exact s_3|refine s_4 ?_|refine s_5 ?_|refine s_6 ?_|refine s_7 ?_);done)|((repeat first|exact s_0|exact s_1|exact s_3|refine s_4 ?_|refine s_5 ?_|refine s_6 ?_|refine s_8 ?_);done))) ?_
          first | exact H2 (fun hq9 => hbc (hq9.1 xo (List.mem_of_getElem? hko))) | exact H2 (fun hq9 => absurd (movesOk_at hq9.2.1 hkb) (by simpa using hpb)) | exact H1 ⟨hco, movesOk_all (fun k x hk => by simpa using hno k x hk), by omega, by omega⟩ | exact H2 (fun hq9 => by have h9 := hq9.2.2; omega)
    · refine xr_end rfl ?_
      refine th_n ?_
      refine xc_seq ?_
      refine xc_false rfl ?_
      refine xc_exit ?_
      refine th_x ?_
      refine th_x ?_
      refine bk_same ?_
      refine bk_n ?_
      refine th_n ?_
      refine xc_region ?_
      refine xr_op rfl rfl (xv_add rfl rfl (wrap_i64 (by (first | omega | (dsimp only at *; omega) | (simp at *; omega))) (by (first | omega | (dsimp only at *; omega) | (simp at *; omega)))) ?_)
      refine xr_op rfl rfl (xv_move rfl ?_)
      refine xr_end rfl ?_
      exact rnd (k + 1) ⟨by (first | omega | (dsimp only at *; omega) | (simp at *; omega)), (take_all hko).2 ⟨hal, hi4 0 _ (by omega) rfl, hi4 1 _ (by omega) rfl, hi4 2 _ (by omega) rfl, hi4 3 _ (by omega) rfl⟩⟩ (by (first | omega | (dsimp only at *; omega) | (simp at *; omega))) (le_put (le_put (le_put (le_put (le_put (le_emp _) rfl) rfl) rfl) rfl) rfl) (by (first|((repeat first|exact s_0|exact s_1|exact s_3|refine s_4 ?_|refine s_5 ?_|refine s_6 ?_|refine s_7 ?_);done)|((repeat first|exact s_0|exact s_1|exact s_3|refine s_4 ?_|refine s_5 ?_|refine s_6 ?_|refine s_8 ?_);done)))
  · refine xr_end rfl ?_
    refine th_n ?_
    refine xc_seq ?_
    refine xc_false rfl ?_
    refine xc_exit ?_
    refine th_x ?_
    refine th_x ?_
    refine bk_same ?_
    refine th_n ?_
    refine xc_seq (xc_region ?_)
    have hco : CoalsOk y.coals := by
      have e9 : k = y.coals.length := by (first | omega | (dsimp only at *; omega) | (simp at *; omega))
      rw [e9, List.take_length] at hal; exact hal
    refine xr_op rfl rfl (xv_faddr fl25_0 rfl ?_)
    refine xr_op rfl rfl (xv_load1 ty22 rfl rfl (by ((repeat first|exact z_0|assumption|refine z_1 ?_|(refine z_l ?_;(repeat first|exact z_0|assumption|refine z_1 ?_);done)|refine z_r ?_);done)) (by rfl) ?_)
    refine xr_op rfl rfl (xv_len sl22 rfl ?_)
    refine xr_op rfl rfl (xv_calls rfl hb31 (within_c _ _ _ (fun hl27 hu28 => up_ret ?_) (fun hn29 => up_ret ?_)))
    · refine xr_op rfl rfl (xv_move rfl ?_)
      refine xr_gd rfl rfl rfl (xv_faddr fl25_1 rfl ?_)
      refine xr_gd rfl rfl rfl (xv_load1 ty23 rfl rfl (by ((repeat first|exact z_0|assumption|refine z_1 ?_|(refine z_l ?_;(repeat first|exact z_0|assumption|refine z_1 ?_);done)|refine z_r ?_);done)) (by rfl) ?_)
      refine xr_gd rfl rfl rfl (xv_len sl23 rfl ?_)
      refine xr_gd rfl rfl rfl (xv_leq2 rfl rfl (fun q30 => ?_) (fun q30 => ?_))
      · refine xr_op rfl rfl (xv_pick rfl rfl ?_)
        refine xr_op rfl rfl (xv_move rfl ?_)
        refine xr_gd rfl rfl rfl (xv_faddr fl25_1 rfl ?_)
        refine xr_gd rfl rfl rfl (xv_load1 ty23 rfl rfl (by ((repeat first|exact z_0|assumption|refine z_1 ?_|(refine z_l ?_;(repeat first|exact z_0|assumption|refine z_1 ?_);done)|refine z_r ?_);done)) (by rfl) ?_)
        refine xr_gd rfl rfl rfl (xv_move rfl ?_)
        refine xr_gd rfl rfl rfl (xv_calls rfl hb62 (containsMoveS_c (xs := y.moves) (p := fun k x => !decide (moveOk y.coals.length (lastH 0 (y.moves.take k)) x)) (Hs := (fun k => (b3, .cells ⟨[I (lastH 0 (y.moves.take k))]⟩ 3) :: (b1, .cells ⟨eYard y⟩ 25) :: h)) (fun k => hy.moves.sub (by intro z hz; ((repeat first|exact z_0|assumption|refine z_1 ?_|(refine z_l ?_;(repeat first|exact z_0|assumption|refine z_1 ?_);done)|refine z_r ?_);done))) (by omega) (fun k x hk R2 h2 => afn_func (fi := []) hb61 (bad_c (y := y) (m := x) (by ((repeat first|exact z_0|assumption|refine z_1 ?_|(refine z_l ?_;(repeat first|exact z_0|assumption|refine z_1 ?_);done)|refine z_r ?_);done)) hs1 (by rw [lastH_take hk] at h2; exact h2))) (fun kb xb hkb hpb => up_ret ?_) (fun hno => up_ret ?_)))
        · refine xr_gd rfl rfl rfl (xv_not rfl ?_)
          refine xr_op rfl rfl (xv_pick rfl rfl ?_)
          refine xr_op rfl rfl (xv_assign rfl ?_)
          refine xr_end rfl ?_
          refine th_n ?_
          refine xc_ret ?_
          refine body_ret (h' := h) rfl (ro_tmp rfl ro_nil) (by (first|((repeat first|exact s_0|exact s_1|exact s_3|refine s_4 ?_|refine s_5 ?_|refine s_6 ?_|refine s_7 ?_);done)|((repeat first|exact s_0|exact s_1|exact s_3|refine s_4 ?_|refine s_5 ?_|refine s_6 ?_|refine s_8 ?_);done))) ?_
          first | exact H2 (fun hq9 => hbc (hq9.1 xo (List.mem_of_getElem? hko))) | exact H2 (fun hq9 => absurd (movesOk_at hq9.2.1 hkb) (by simpa using hpb)) | exact H1 ⟨hco, movesOk_all (fun k x hk => by simpa using hno k x hk), by omega, by omega⟩ | exact H2 (fun hq9 => by have h9 := hq9.2.2; omega)
        · refine xr_gd rfl rfl rfl (xv_not rfl ?_)
          refine xr_op rfl rfl (xv_pick rfl rfl ?_)
          refine xr_op rfl rfl (xv_assign rfl ?_)
          refine xr_end rfl ?_
          refine th_n ?_
          refine xc_ret ?_
          refine body_ret (h' := h) rfl (ro_tmp rfl ro_nil) (by (first|((repeat first|exact s_0|exact s_1|exact s_3|refine s_4 ?_|refine s_5 ?_|refine s_6 ?_|refine s_7 ?_);done)|((repeat first|exact s_0|exact s_1|exact s_3|refine s_4 ?_|refine s_5 ?_|refine s_6 ?_|refine s_8 ?_);done))) ?_
          first | exact H2 (fun hq9 => hbc (hq9.1 xo (List.mem_of_getElem? hko))) | exact H2 (fun hq9 => absurd (movesOk_at hq9.2.1 hkb) (by simpa using hpb)) | exact H1 ⟨hco, movesOk_all (fun k x hk => by simpa using hno k x hk), by omega, by omega⟩ | exact H2 (fun hq9 => by have h9 := hq9.2.2; omega)
      · refine xr_op rfl rfl (xv_pick rfl rfl ?_)
        refine xr_op rfl rfl (xv_move rfl ?_)
        refine xr_no rfl rfl rfl rfl ?_
        refine xr_no rfl rfl rfl rfl ?_
        refine xr_no rfl rfl rfl rfl ?_
        refine xr_no rfl rfl rfl rfl ?_
        refine xr_no rfl rfl rfl rfl ?_
        refine xr_op rfl rfl (xv_pick rfl rfl ?_)
        refine xr_op rfl rfl (xv_assign rfl ?_)
        refine xr_end rfl ?_
        refine th_n ?_
        refine xc_ret ?_
        refine body_ret (h' := h) rfl (ro_tmp rfl ro_nil) (by (first|((repeat first|exact s_0|exact s_1|exact s_3|refine s_4 ?_|refine s_5 ?_|refine s_6 ?_|refine s_7 ?_);done)|((repeat first|exact s_0|exact s_1|exact s_3|refine s_4 ?_|refine s_5 ?_|refine s_6 ?_|refine s_8 ?_);done))) ?_
        first | exact H2 (fun hq9 => hbc (hq9.1 xo (List.mem_of_getElem? hko))) | exact H2 (fun hq9 => absurd (movesOk_at hq9.2.1 hkb) (by simpa using hpb)) | exact H1 ⟨hco, movesOk_all (fun k x hk => by simpa using hno k x hk), by omega, by omega⟩ | exact H2 (fun hq9 => by have h9 := hq9.2.2; omega)
    · refine xr_op rfl rfl (xv_move rfl ?_)
      refine xr_no rfl rfl rfl rfl ?_
      refine xr_no rfl rfl rfl rfl ?_
      refine xr_no rfl rfl rfl rfl ?_
      refine xr_no rfl rfl rfl rfl ?_
      refine xr_op rfl rfl (xv_pick rfl rfl ?_)
      refine xr_op rfl rfl (xv_move rfl ?_)
      refine xr_no rfl rfl rfl rfl ?_
      refine xr_no rfl rfl rfl rfl ?_
      refine xr_no rfl rfl rfl rfl ?_
      refine xr_no rfl rfl rfl rfl ?_
      refine xr_no rfl rfl rfl rfl ?_
      refine xr_op rfl rfl (xv_pick rfl rfl ?_)
      refine xr_op rfl rfl (xv_assign rfl ?_)
      refine xr_end rfl ?_
      refine th_n ?_
      refine xc_ret ?_
      refine body_ret (h' := h) rfl (ro_tmp rfl ro_nil) (by (first|((repeat first|exact s_0|exact s_1|exact s_3|refine s_4 ?_|refine s_5 ?_|refine s_6 ?_|refine s_7 ?_);done)|((repeat first|exact s_0|exact s_1|exact s_3|refine s_4 ?_|refine s_5 ?_|refine s_6 ?_|refine s_8 ?_);done))) ?_
      first | exact H2 (fun hq9 => hbc (hq9.1 xo (List.mem_of_getElem? hko))) | exact H2 (fun hq9 => absurd (movesOk_at hq9.2.1 hkb) (by simpa using hpb)) | exact H1 ⟨hco, movesOk_all (fun k x hk => by simpa using hno k x hk), by omega, by omega⟩ | exact H2 (fun hq9 => by have h9 := hq9.2.2; omega)

end Go.Proofs.Ytpefpafijadfmaa

/-
  Layers that are not there yet are empty; the program's six places.
-/
set_option linter.all false
namespace Go.Proofs.Ytpefpafijadfmaa
open Go Go.H
theorem opn_mono (l : List Move) (m : Move) : (opn l).1 ≤ (opn (l ++ [m])).1 := by
  rw [opn_snoc]; unfold stepO
  split
  · exact Nat.le_refl _
  · split
    · exact Nat.le_refl _
    · exact Nat.le_succ _
theorem contF_zero {n : Nat} (l : List Move) {j : Int} (h : ((opn l).1 : Int) ≤ j) : contF n l j = List.replicate n 0 := by
  induction l using snoc_ind with
  | h0 => rfl
  | h1 l m ih =>
    have hm := opn_mono l m
    rw [contF_snoc, if_neg (fun hq => by omega)]
    exact ih (by omega)
theorem sumI_rep (n : Nat) : sumI (List.replicate n 0) = 0 := by
  unfold sumI
  induction n with
  | zero => rfl
  | succ n ih => rw [List.replicate_succ, List.sum_cons, ih]; rfl
/-- With more places, the rest is 0. -/
theorem contF_pad {n q : Nat} {last : Int} {l : List Move} {j : Int} (h : movesOk n last l) : contF (n + q) l j = contF n l j ++ List.replicate q 0 := by
  induction l using snoc_ind with
  | h0 => rw [contF_nil, contF_nil, List.replicate_append_replicate]
  | h1 l m ih =>
    rw [movesOk_snoc] at h
    have ih := ih h.1
    obtain ⟨_, ⟨c1, c2⟩, _⟩ := h.2
    rw [contF_snoc, contF_snoc, ih]
    split
    · rename_i hq
      have hlt : m.coal.toNat < (contF n l j).length := by rw [contF_len]; have := hq.1; omega
      rw [List.set_append_left _ _ hlt]
      congr 2
      rw [List.getD_eq_getElem?_getD, List.getD_eq_getElem?_getD, List.getElem?_append_left hlt]
    · rfl
theorem sumI_app (a b : List Int) : sumI (a ++ b) = sumI a + sumI b := by unfold sumI; exact List.sum_append_int
/-- Rooms that are empty take nothing. -/
theorem vecR_more {room : Nat → Int} {t : Int} {c : Nat} (h : ∀ j, c ≤ j → room j = 0) (ht : 0 ≤ (vecR room c t).2) : ∀ d, vecR room (c + d) t = ((vecR room c t).1 ++ List.replicate d 0, (vecR room c t).2)
  | 0 => by simp
  | d + 1 => by
    have ih := vecR_more h ht d
    rw [← Nat.add_assoc, vecR, ih, h (c + d) (by omega)]
    dsimp only
    rw [show min (0 : Int) (vecR room c t).2 = 0 by omega, List.replicate_succ', List.append_assoc]
    congr 1; omega
theorem nzF_more {f : Nat → Int} {c : Nat} (h : ∀ j, c ≤ j → ¬ f j > 0) : ∀ d, nzF f (c + d) = nzF f c
  | 0 => rfl
  | d + 1 => by rw [← Nat.add_assoc, nzF_succ, if_neg (h (c + d) (by omega)), nzF_more h d]
theorem nzF_congr {f g : Nat → Int} : ∀ {c : Nat}, (∀ j, j < c → f j = g j) → nzF f c = nzF g c
  | 0, _ => rfl
  | c + 1, h => by rw [nzF_succ, nzF_succ, h c (by omega), nzF_congr fun j hj => h j (by omega)]
end Go.Proofs.Ytpefpafijadfmaa
