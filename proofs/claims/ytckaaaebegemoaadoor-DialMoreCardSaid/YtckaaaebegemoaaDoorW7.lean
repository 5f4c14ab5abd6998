/-
  Walks.
-/
import Derived.Test.YtckaaaebegemoaaDoorW5
namespace Go.Proofs.YtckaaaebegemoaaDoor
open Go Go.H
set_option maxRecDepth 100000
set_option maxHeartbeats 2000000
set_option linter.all false
theorem ins0_c {f : Value} {h : Hp} {R : Ending → Hp → Prop} (H : R (.returned (.tuple #[])) h) : ACalls Tryd.prog 61 ⟨[.slice none 0 0, I 0, I 0, f]⟩ h R := by
  refine calls_of_xc (N := 53) Tryd.func61 rfl (by rfl) ?_
  refine xc_seq (xc_region ?_)
  refine xr_op rfl rfl (xv_move rfl ?_)
  refine xr_op rfl rfl (xv_add rfl rfl (wrap_i64 (by (first | omega | (dsimp only at *; omega) | (simp at *; omega))) (by (first | omega | (dsimp only at *; omega) | (simp at *; omega)))) ?_)
  refine xr_op rfl rfl (xv_assign rfl ?_)
  refine xr_end rfl ?_
  refine th_n ?_
  refine xc_block ?_
  refine xc_loop (σ := Unit) (fun _ => True) (fun _ => ((emp.put (some 2) (I 0)).put (some 8) (I ((0 : Int) + 1)))) (fun _ => h) (fun _ => 0) () trivial (le_put (le_put (le_emp _) rfl) rfl) (by (first|((repeat first|exact s_0|exact s_1|exact s_3|refine s_4 ?_|refine s_5 ?_|refine s_6 ?_|refine s_7 ?_);done)|((repeat first|exact s_0|exact s_1|exact s_3|refine s_4 ?_|refine s_5 ?_|refine s_6 ?_|refine s_8 ?_);done))) ?_
  rintro ⟨⟩ _
  refine xc_seq ?_
  refine xc_seq (xc_region ?_)
  refine xr_op rfl rfl (xv_move rfl ?_)
  refine xr_op rfl rfl (xv_move rfl ?_)
  refine xr_op rfl rfl (xv_cmpK (c := false) rfl rfl (by simp [cmpB]) ?_)
  refine xr_end rfl ?_
  refine th_n ?_
  refine xc_false rfl ?_
  refine xc_exit ?_
  refine th_x ?_
  refine th_x ?_
  refine bk_same ?_
  refine body_end (h' := h) rfl ro_nil (by (first|((repeat first|exact s_0|exact s_1|exact s_3|refine s_4 ?_|refine s_5 ?_|refine s_6 ?_|refine s_7 ?_);done)|((repeat first|exact s_0|exact s_1|exact s_3|refine s_4 ?_|refine s_5 ?_|refine s_6 ?_|refine s_8 ?_);done))) ?_
  exact H

theorem pdq0_c {f : Value} {l : Int} {h : Hp} {R : Ending → Hp → Prop} (H : R (.returned (.tuple #[])) h) : ACalls Tryd.prog 56 ⟨[.slice none 0 0, I 0, I 0, I l, f]⟩ h R := by
  refine calls_of_xc (N := 148) Tryd.func56 rfl (by rfl) ?_
  refine xc_seq (xc_region ?_)
  refine xr_op rfl rfl (xv_assign rfl ?_)
  refine xr_end rfl ?_
  refine th_n ?_
  refine xc_seq (xc_region ?_)
  refine xr_op rfl rfl (xv_assign rfl ?_)
  refine xr_end rfl ?_
  refine th_n ?_
  refine xc_block ?_
  refine xc_loop (σ := Unit) (fun _ => True) (fun _ => ((((emp.put (some 0) (.slice none 0 0)).put (some 1) (I 0)).put (some 2) (I 0)).put (some 4) (f))) (fun _ => h) (fun _ => 0) () trivial (le_put (le_put (le_put (le_put (le_emp _) rfl) rfl) rfl) rfl) (by (first|((repeat first|exact s_0|exact s_1|exact s_3|refine s_4 ?_|refine s_5 ?_|refine s_6 ?_|refine s_7 ?_);done)|((repeat first|exact s_0|exact s_1|exact s_3|refine s_4 ?_|refine s_5 ?_|refine s_6 ?_|refine s_8 ?_);done))) ?_
  rintro ⟨⟩ _
  refine xc_block ?_
  refine xc_seq (xc_region ?_)
  refine xr_op rfl rfl (xv_move rfl ?_)
  refine xr_op rfl rfl (xv_move rfl ?_)
  refine xr_op rfl rfl (xv_sub rfl rfl (wrap_i64 (by (first | omega | (dsimp only at *; omega) | (simp at *; omega))) (by (first | omega | (dsimp only at *; omega) | (simp at *; omega)))) ?_)
  refine xr_op rfl rfl (xv_assign rfl ?_)
  refine xr_end rfl ?_
  refine th_n ?_
  refine xc_seq ?_
  refine xc_seq (xc_region ?_)
  refine xr_op rfl rfl (xv_move rfl ?_)
  refine xr_op rfl rfl (xv_cmpK (c := true) rfl rfl (by simp [cmpB]) ?_)
  refine xr_end rfl ?_
  refine th_n ?_
  refine xc_true rfl ?_
  refine xc_seq (xc_region ?_)
  refine xr_op rfl rfl (xv_move rfl ?_)
  refine xr_op rfl rfl (xv_move rfl ?_)
  refine xr_op rfl rfl (xv_move rfl ?_)
  refine xr_op rfl rfl (xv_move rfl ?_)
  refine xr_op rfl rfl (xv_calls rfl hb61 (ins0_c (up_ret ?_)))
  refine xr_end rfl ?_
  refine th_n ?_
  refine xc_ret ?_
  refine th_r ?_
  refine bk_r ?_
  refine th_r ?_
  refine bk_r ?_
  refine body_ret (h' := h) rfl ro_nil (by (first|((repeat first|exact s_0|exact s_1|exact s_3|refine s_4 ?_|refine s_5 ?_|refine s_6 ?_|refine s_7 ?_);done)|((repeat first|exact s_0|exact s_1|exact s_3|refine s_4 ?_|refine s_5 ?_|refine s_6 ?_|refine s_8 ?_);done))) ?_
  exact H

theorem sort0_c {f : Value} {h : Hp} {R : Ending → Hp → Prop} (H : R (.returned (.tuple #[])) h) : ACalls Tryd.prog 46 ⟨[.slice none 0 0, f]⟩ h R := by
  refine calls_of_xc (N := 14) Tryd.func46 rfl (by rfl) ?_
  refine xc_seq (xc_region ?_)
  refine xr_op rfl rfl (xv_move rfl ?_)
  refine xr_op rfl rfl (xv_len sl72 rfl ?_)
  refine xr_op rfl rfl (xv_assign rfl ?_)
  refine xr_end rfl ?_
  refine th_n ?_
  refine xc_region ?_
  refine xr_op rfl rfl (xv_move rfl ?_)
  refine xr_op rfl rfl (xv_move rfl ?_)
  refine xr_op rfl rfl (xv_move rfl ?_)
  refine xr_op rfl rfl (xv_convI (m := ((0 : Nat) : Int)) Tryd.underlying3 Tryd.underlying103 rfl (by decide) ?_)
  refine xr_op rfl rfl (xv_calls rfl hb57 (len_c (n := 0) rfl (by decide) (up_ret ?_)))
  refine xr_op rfl rfl (xv_move rfl ?_)
  refine xr_op rfl rfl (xv_calls rfl hb56 (pdq0_c (up_ret ?_)))
  refine xr_end rfl ?_
  refine body_end (h' := h) rfl ro_nil (by (first|((repeat first|exact s_0|exact s_1|exact s_3|refine s_4 ?_|refine s_5 ?_|refine s_6 ?_|refine s_7 ?_);done)|((repeat first|exact s_0|exact s_1|exact s_3|refine s_4 ?_|refine s_5 ?_|refine s_6 ?_|refine s_8 ?_);done))) ?_
  exact H

theorem sortV_c {V : Vec} {xs : List Card} {f : Value} {cm : Card → Card → Int} {L : Hp} {R : Ending → Hp → Prop} (hV : V.ok 3 xs.length (xs.flatMap eCard)) (hn : xs.length ≤ 49)
    (hf : ∀ x y, x ∈ xs → y ∈ xs → ∀ H R', L ⊆ H → R' (.returned (I (cm x y))) H → AFn Tryd.prog f [.agg ⟨eCard x⟩, .agg ⟨eCard y⟩] H R') (hs : Go.Sort.SWO (ltc cm))
    (H : ∀ ys : List Card, ys.Perm xs → ys.Pairwise (fun a b => ¬ cm b a < 0) → V.ok 3 ys.length (ys.flatMap eCard) → R (.returned (.tuple #[])) (V.hp 78 (ys.flatMap eCard) ++ L)) :
    ACalls Tryd.prog 46 ⟨[V.val xs.length, f]⟩ (V.hp 78 (xs.flatMap eCard) ++ L) R := by
  cases V with
  | nil =>
    obtain ⟨h1, h2⟩ := hV
    have hx : xs = [] := List.length_eq_zero_iff.1 h2
    subst hx
    exact sort0_c (H [] .nil .nil ⟨rfl, rfl⟩)
  | «at» b cap sp =>
    have hd : Arr xs.length (fun x => x ∈ xs) xs.toArray := ⟨by simp, fun i hi => by simp [hi]⟩
    refine sort_c (N := xs.length) (p := fun x => x ∈ xs) (d := xs.toArray) hd hn (fun x y hx hy H R' hs h2 => hf x y hx hy H R' hs h2) hs ?_
    intro d2 hA hp hso
    have e1 : d2.extract 0 xs.length = d2 := by rw [← hA.size]; simp
    have hpp : d2.toList.Perm xs := by
      have := hp.2.2
      rw [e1] at this
      simpa using this
    have hlen : d2.toList.length = xs.length := hpp.length_eq
    have hV2 : (Vec.at b cap sp).ok 3 d2.toList.length (d2.toList.flatMap eCard) := by
      obtain ⟨h1, h2, h3⟩ := hV
      rw [List.length_append, flat_lenM eCard_len] at h3
      refine ⟨flat_lenM eCard_len _, by rw [hlen]; exact h2, ?_⟩
      rw [List.length_append, flat_lenM eCard_len, hlen]; exact h3
    refine H d2.toList hpp ?_ hV2
    rw [List.pairwise_iff_getElem]
    intro i j hi hj hij
    have := hso i j (Nat.zero_le _) hij (by omega)
    have gi : d2[i]! = d2.toList[i] := by
      have := ca_list (d := d2) (k := i) (by simpa using hi)
      rw [List.getElem?_eq_getElem hi] at this
      exact (Option.some.inj this).symm
    have gj : d2[j]! = d2.toList[j] := by
      have := ca_list (d := d2) (k := j) (by simpa using hj)
      rw [List.getElem?_eq_getElem hj] at this
      exact (Option.some.inj this).symm
    rw [gi, gj] at this
    exact of_decide_eq_false this

end Go.Proofs.YtckaaaebegemoaaDoor
