/-
  Walks.
-/
import Derived.Test.YtlailecnbdlknaaW10
namespace Go.Proofs.Ytlailecnbdlknaa
open Go Go.H
set_option maxRecDepth 100000
set_option maxHeartbeats 2000000
set_option linter.all false
theorem pdq_c {b cap : Nat} {sp : List Value} {xs : List Int} {f : Value} {cm : Int → Int → Int} {L : Hp} {R : Ending → Hp → Prop} (hc : Cmp cm) (hn : xs.length ≤ 12)
    (hf : ∀ i k, i ∈ xs → k ∈ xs → ∀ H R', L ⊆ H → R' (.returned (I (cm i k))) H → AFn Try.prog f [I i, I k] H R')
    (H : ∀ zs : List Int, zs.Perm xs → zs.Pairwise (fun a b => ¬ cm b a < 0) → R (.returned (.tuple #[])) ((b, .cells ⟨zs.flatMap eI ++ sp⟩ 3) :: L)) {m : Int} :
    ACalls Try.prog 59 ⟨[.slice (some ⟨b, 0, none⟩) xs.length cap, I 0, I xs.length, I m, f]⟩ ((b, .cells ⟨xs.flatMap eI ++ sp⟩ 3) :: L) R := by
  refine calls_of_xc (N := 148) Try.func59 rfl (by rfl) ?_
  refine xc_seq (xc_region ?_)
  refine xr_op rfl rfl (xv_assign rfl ?_)
  refine xr_end rfl ?_
  refine th_n ?_
  refine xc_seq (xc_region ?_)
  refine xr_op rfl rfl (xv_assign rfl ?_)
  refine xr_end rfl ?_
  refine th_n ?_
  refine xc_block ?_
  refine xc_loop (σ := Unit) (fun _ => True) (fun _ => ((((emp.put (some 0) (.slice (some ⟨b, 0, none⟩) xs.length cap)).put (some 1) (I 0)).put (some 2) (I xs.length)).put (some 4) (f))) (fun _ => ((b, .cells ⟨xs.flatMap eI ++ sp⟩ 3) :: L)) (fun _ => 0) () trivial (le_put (le_put (le_put (le_put (le_emp _) rfl) rfl) rfl) rfl) (by (first|((repeat first|exact s_0|exact s_1|exact s_3|refine s_4 ?_|refine s_5 ?_|refine s_6 ?_|refine s_7 ?_);done)|((repeat first|exact s_0|exact s_1|exact s_3|refine s_4 ?_|refine s_5 ?_|refine s_6 ?_|refine s_8 ?_);done))) ?_
  rintro ⟨⟩ _
  refine xc_block ?_
  refine xc_seq (xc_region ?_)
  refine xr_op rfl rfl (xv_move rfl ?_)
  refine xr_op rfl rfl (xv_move rfl ?_)
  refine xr_op rfl rfl (xv_sub rfl rfl (wrap_i64 (by (first | omega | (dsimp only at *; omega) | (simp at *; omega))) (by (first | omega | (dsimp only at *; omega) | (simp at *; omega)))) ?_)
  refine xr_op rfl rfl (xv_assign rfl ?_)
  refine xr_end rfl ?_
  refine th_n ?_
  refine xc_seq ?_
  refine xc_seq (xc_region ?_)
  refine xr_op rfl rfl (xv_move rfl ?_)
  refine xr_op rfl rfl (xv_cmpK rfl rfl (cmpT (show (xs.length : Int) - 0 ≤ 12 by omega)) ?_)
  refine xr_end rfl ?_
  refine th_n ?_
  refine xc_true rfl ?_
  refine xc_seq (xc_region ?_)
  refine xr_op rfl rfl (xv_move rfl ?_)
  refine xr_op rfl rfl (xv_move rfl ?_)
  refine xr_op rfl rfl (xv_move rfl ?_)
  refine xr_op rfl rfl (xv_move rfl ?_)
  refine xr_op rfl rfl (xv_calls rfl hb61 (insertion_c hc hn hf (fun zs hz1 hz2 => up_ret ?_)))
  refine xr_end rfl ?_
  refine th_n ?_
  refine xc_ret ?_
  refine th_r ?_
  refine bk_r ?_
  refine th_r ?_
  refine bk_r ?_
  refine body_ret (h' := ((b, .cells ⟨zs.flatMap eI ++ sp⟩ 3) :: L)) rfl ro_nil (by (first|((repeat first|exact s_0|exact s_1|exact s_3|refine s_4 ?_|refine s_5 ?_|refine s_6 ?_|refine s_7 ?_);done)|((repeat first|exact s_0|exact s_1|exact s_3|refine s_4 ?_|refine s_5 ?_|refine s_6 ?_|refine s_8 ?_);done))) ?_
  exact H zs hz1 hz2

theorem len64_c {n : Int} {h : Hp} {R : Ending → Hp → Prop} (h0 : 0 ≤ n) (h1 : n ≤ 12) (H : ∀ m, R (.returned (I m)) h) : ACalls Try.prog 70 ⟨[.int .u64 n]⟩ h R := by
  refine calls_of_xc (N := 25) Try.func70 rfl (by rfl) ?_
  refine xc_seq (xc_region ?_)
  refine xr_op rfl rfl (xv_assign rfl ?_)
  refine xr_end rfl ?_
  refine th_n ?_
  refine xc_seq ?_
  refine xc_seq (xc_region ?_)
  refine xr_op rfl rfl (xv_move rfl ?_)
  refine xr_op rfl rfl (xv_cmpK rfl rfl (cmpF rfl (by simp only [cmpP]; omega)) ?_)
  refine xr_end rfl ?_
  refine th_n ?_
  refine xc_false rfl ?_
  refine xc_skip ?_
  refine th_n ?_
  refine xc_seq ?_
  refine xc_seq (xc_region ?_)
  refine xr_op rfl rfl (xv_move rfl ?_)
  refine xr_op rfl rfl (xv_cmpK rfl rfl (cmpF rfl (by simp only [cmpP]; omega)) ?_)
  refine xr_end rfl ?_
  refine th_n ?_
  refine xc_false rfl ?_
  refine xc_skip ?_
  refine th_n ?_
  refine xc_seq ?_
  refine xc_seq (xc_region ?_)
  refine xr_op rfl rfl (xv_move rfl ?_)
  refine xr_op rfl rfl (xv_cmpK rfl rfl (cmpF rfl (by simp only [cmpP]; omega)) ?_)
  refine xr_end rfl ?_
  refine th_n ?_
  refine xc_false rfl ?_
  refine xc_skip ?_
  refine th_n ?_
  refine xc_seq (xc_region ?_)
  refine xr_op rfl rfl (xv_move rfl ?_)
  refine xr_op rfl rfl (xv_move rfl ?_)
  refine xr_op rfl rfl (xv_convI (m := n) Try.underlying119 Try.underlying5 rfl (wrap_u8 (by omega) (by omega)) ?_)
  refine xr_op rfl rfl (xv_indexS (m := 13) Try.underlying9 rfl rfl h0 (by omega) (by rfl) (fun b hb => ?_))
  refine xr_op rfl rfl (xv_convI (m := b) Try.underlying5 Try.underlying3 rfl (wrap_i64 (by omega) (by omega)) ?_)
  refine xr_op rfl rfl (xv_add rfl rfl (wrap_i64 (by (first | omega | (dsimp only at *; omega) | (simp at *; omega))) (by (first | omega | (dsimp only at *; omega) | (simp at *; omega)))) ?_)
  refine xr_op rfl rfl (xv_assign rfl ?_)
  refine xr_end rfl ?_
  refine th_n ?_
  refine xc_ret ?_
  refine body_ret (h' := h) rfl (ro_tmp rfl ro_nil) (by (first|((repeat first|exact s_0|exact s_1|exact s_3|refine s_4 ?_|refine s_5 ?_|refine s_6 ?_|refine s_7 ?_);done)|((repeat first|exact s_0|exact s_1|exact s_3|refine s_4 ?_|refine s_5 ?_|refine s_6 ?_|refine s_8 ?_);done))) ?_
  exact H _

theorem len_c {n : Int} {h : Hp} {R : Ending → Hp → Prop} (h0 : 0 ≤ n) (h1 : n ≤ 12) (H : ∀ m, R (.returned (I m)) h) : ACalls Try.prog 60 ⟨[.int .u64 n]⟩ h R := by
  refine calls_of_xc (N := 8) Try.func60 rfl (by rfl) ?_
  refine xc_seq (xc_region ?_)
  refine xr_op rfl rfl (xv_assign rfl ?_)
  refine xr_end rfl ?_
  refine th_n ?_
  refine xc_seq ?_
  refine xc_false rfl ?_
  refine xc_skip ?_
  refine th_n ?_
  refine xc_seq (xc_region ?_)
  refine xr_op rfl rfl (xv_move rfl ?_)
  refine xr_op rfl rfl (xv_calls rfl hb70 (len64_c h0 h1 (fun m => up_ret ?_)))
  refine xr_op rfl rfl (xv_assign rfl ?_)
  refine xr_end rfl ?_
  refine th_n ?_
  refine xc_ret ?_
  refine body_ret (h' := h) rfl (ro_tmp rfl ro_nil) (by (first|((repeat first|exact s_0|exact s_1|exact s_3|refine s_4 ?_|refine s_5 ?_|refine s_6 ?_|refine s_7 ?_);done)|((repeat first|exact s_0|exact s_1|exact s_3|refine s_4 ?_|refine s_5 ?_|refine s_6 ?_|refine s_8 ?_);done))) ?_
  exact H _

theorem sort_c {b cap : Nat} {sp : List Value} {xs : List Int} {f : Value} {cm : Int → Int → Int} {L : Hp} {R : Ending → Hp → Prop} (hc : Cmp cm) (hn : xs.length ≤ 12)
    (hf : ∀ i k, i ∈ xs → k ∈ xs → ∀ H R', L ⊆ H → R' (.returned (I (cm i k))) H → AFn Try.prog f [I i, I k] H R')
    (H : ∀ zs : List Int, zs.Perm xs → zs.Pairwise (fun a b => ¬ cm b a < 0) → R (.returned (.tuple #[])) ((b, .cells ⟨zs.flatMap eI ++ sp⟩ 3) :: L)) :
    ACalls Try.prog 53 ⟨[.slice (some ⟨b, 0, none⟩) xs.length cap, f]⟩ ((b, .cells ⟨xs.flatMap eI ++ sp⟩ 3) :: L) R := by
  refine calls_of_xc (N := 14) Try.func53 rfl (by rfl) ?_
  refine xc_seq (xc_region ?_)
  refine xr_op rfl rfl (xv_move rfl ?_)
  refine xr_op rfl rfl (xv_len sl22 rfl ?_)
  refine xr_op rfl rfl (xv_assign rfl ?_)
  refine xr_end rfl ?_
  refine th_n ?_
  refine xc_region ?_
  refine xr_op rfl rfl (xv_move rfl ?_)
  refine xr_op rfl rfl (xv_move rfl ?_)
  refine xr_op rfl rfl (xv_move rfl ?_)
  refine xr_op rfl rfl (xv_convI (m := (xs.length : Int)) Try.underlying3 Try.underlying108 rfl (wrap_u64 (by omega) (by omega)) ?_)
  refine xr_op rfl rfl (xv_calls rfl hb60 (len_c (by omega) (by omega) (fun m => up_ret ?_)))
  refine xr_op rfl rfl (xv_move rfl ?_)
  refine xr_op rfl rfl (xv_calls rfl hb59 (pdq_c hc hn hf (fun zs hz1 hz2 => up_ret ?_)))
  refine xr_end rfl ?_
  refine body_end (h' := ((b, .cells ⟨zs.flatMap eI ++ sp⟩ 3) :: L)) rfl ro_nil (by (first|((repeat first|exact s_0|exact s_1|exact s_3|refine s_4 ?_|refine s_5 ?_|refine s_6 ?_|refine s_7 ?_);done)|((repeat first|exact s_0|exact s_1|exact s_3|refine s_4 ?_|refine s_5 ?_|refine s_6 ?_|refine s_8 ?_);done))) ?_
  exact H zs hz1 hz2

theorem pdqnil_c {f : Value} {h : Hp} {R : Ending → Hp → Prop} (H : R (.returned (.tuple #[])) h) {m : Int} : ACalls Try.prog 59 ⟨[.slice none 0 0, I 0, I 0, I m, f]⟩ h R := by
  refine calls_of_xc (N := 148) Try.func59 rfl (by rfl) ?_
  refine xc_seq (xc_region ?_)
  refine xr_op rfl rfl (xv_assign rfl ?_)
  refine xr_end rfl ?_
  refine th_n ?_
  refine xc_seq (xc_region ?_)
  refine xr_op rfl rfl (xv_assign rfl ?_)
  refine xr_end rfl ?_
  refine th_n ?_
  refine xc_block ?_
  refine xc_loop (σ := Unit) (fun _ => True) (fun _ => ((((emp.put (some 0) (.slice none 0 0)).put (some 1) (I 0)).put (some 2) (I 0)).put (some 4) (f))) (fun _ => h) (fun _ => 0) () trivial (le_put (le_put (le_put (le_put (le_emp _) rfl) rfl) rfl) rfl) (by (first|((repeat first|exact s_0|exact s_1|exact s_3|refine s_4 ?_|refine s_5 ?_|refine s_6 ?_|refine s_7 ?_);done)|((repeat first|exact s_0|exact s_1|exact s_3|refine s_4 ?_|refine s_5 ?_|refine s_6 ?_|refine s_8 ?_);done))) ?_
  rintro ⟨⟩ _
  refine xc_block ?_
  refine xc_seq (xc_region ?_)
  refine xr_op rfl rfl (xv_move rfl ?_)
  refine xr_op rfl rfl (xv_move rfl ?_)
  refine xr_op rfl rfl (xv_sub rfl rfl (wrap_i64 (by (first | omega | (dsimp only at *; omega) | (simp at *; omega))) (by (first | omega | (dsimp only at *; omega) | (simp at *; omega)))) ?_)
  refine xr_op rfl rfl (xv_assign rfl ?_)
  refine xr_end rfl ?_
  refine th_n ?_
  refine xc_seq ?_
  refine xc_seq (xc_region ?_)
  refine xr_op rfl rfl (xv_move rfl ?_)
  refine xr_op rfl rfl (xv_cmpK rfl rfl (cmpT (show (0 : Int) - 0 ≤ 12 by omega)) ?_)
  refine xr_end rfl ?_
  refine th_n ?_
  refine xc_true rfl ?_
  refine xc_seq (xc_region ?_)
  refine xr_op rfl rfl (xv_move rfl ?_)
  refine xr_op rfl rfl (xv_move rfl ?_)
  refine xr_op rfl rfl (xv_move rfl ?_)
  refine xr_op rfl rfl (xv_move rfl ?_)
  refine xr_op rfl rfl (xv_calls rfl hb61 (insnil_c (up_ret ?_)))
  refine xr_end rfl ?_
  refine th_n ?_
  refine xc_ret ?_
  refine th_r ?_
  refine bk_r ?_
  refine th_r ?_
  refine bk_r ?_
  refine body_ret (h' := h) rfl ro_nil (by (first|((repeat first|exact s_0|exact s_1|exact s_3|refine s_4 ?_|refine s_5 ?_|refine s_6 ?_|refine s_7 ?_);done)|((repeat first|exact s_0|exact s_1|exact s_3|refine s_4 ?_|refine s_5 ?_|refine s_6 ?_|refine s_8 ?_);done))) ?_
  exact H

theorem sortnil_c {f : Value} {h : Hp} {R : Ending → Hp → Prop} (H : R (.returned (.tuple #[])) h) : ACalls Try.prog 53 ⟨[.slice none 0 0, f]⟩ h R := by
  refine calls_of_xc (N := 14) Try.func53 rfl (by rfl) ?_
  refine xc_seq (xc_region ?_)
  refine xr_op rfl rfl (xv_move rfl ?_)
  refine xr_op rfl rfl (xv_len sl22 rfl ?_)
  refine xr_op rfl rfl (xv_assign rfl ?_)
  refine xr_end rfl ?_
  refine th_n ?_
  refine xc_region ?_
  refine xr_op rfl rfl (xv_move rfl ?_)
  refine xr_op rfl rfl (xv_move rfl ?_)
  refine xr_op rfl rfl (xv_move rfl ?_)
  refine xr_op rfl rfl (xv_convI (m := 0) Try.underlying3 Try.underlying108 rfl (wrap_u64 (by omega) (by omega)) ?_)
  refine xr_op rfl rfl (xv_calls rfl hb60 (len_c (by omega) (by omega) (fun m => up_ret ?_)))
  refine xr_op rfl rfl (xv_move rfl ?_)
  refine xr_op rfl rfl (xv_calls rfl hb59 (pdqnil_c (up_ret ?_)))
  refine xr_end rfl ?_
  refine body_end (h' := h) rfl ro_nil (by (first|((repeat first|exact s_0|exact s_1|exact s_3|refine s_4 ?_|refine s_5 ?_|refine s_6 ?_|refine s_7 ?_);done)|((repeat first|exact s_0|exact s_1|exact s_3|refine s_4 ?_|refine s_5 ?_|refine s_6 ?_|refine s_8 ?_);done))) ?_
  exact H

end Go.Proofs.Ytlailecnbdlknaa
