/-
  Walks.
-/
import Derived.Test.YtjmailhoidenaaaW8
namespace Go.Proofs.Ytjmailhoidenaaa
open Go Go.H
set_option maxRecDepth 100000
set_option maxHeartbeats 2000000
set_option linter.all false
theorem gasIt {core : Hp} {a : Option Addr} {c : Nat} {w : House} {bx s m n : Nat} {V : Vec} {S : St} (hbx : (bx, .cells ⟨[.pointer (some ⟨s, 0, none⟩)]⟩ 57 (0, 0)) ∈ core)
    (hsx : (s, .cells ⟨shopC (eHouse a c w) S.ov m S.last (V.val S.runs.length) S.op⟩ 63 (0, 0)) ∈ core) (hVs : V.hp 86 (S.runs.flatMap eRun) ⊆ core) (hs : SlV core 2 eSpan a w.curve) (hw : goodHouse w) (hn : n ≤ 1000) (hS : S.Ok n) (hV : V.ok 3 S.runs.length (S.runs.flatMap eRun)) :
    Iter Try.prog 39 [] [.pointer (some ⟨bx, 0, none⟩)] eGas (gasRuns w.curve S.runs) (fun h' => core ⊆ h') := by
  intro y J Jx h hRd hy hJ
  show ACalls Try.prog 39 ⟨[y, .pointer (some ⟨bx, 0, none⟩)]⟩ h _
  refine calls_of_xc (N := 59) Try.func39 rfl (by rfl) ?_
  have hc0 := hRd _ _ hJ
  have m1 := hc0 hbx
  have m2 := hc0 hsx
  have hbad := hw.2.2.1
  have hcl := hw.2.1
  have hrl := hS.runs
  refine xc_seq (xc_region ?_)
  refine xr_op rfl rfl (xv_load1 ty57 rfl rfl (by (first|((repeat first|exact z_0|assumption|refine z_1 ?_|refine z_r ?_);done)|((repeat refine z_1 ?_);refine z_l ?_;(repeat first|exact z_0|assumption|refine z_1 ?_|refine z_r ?_);done)|((repeat refine z_1 ?_);refine z_r ?_;(repeat refine z_1 ?_);refine z_l ?_;(repeat first|exact z_0|assumption|refine z_1 ?_|refine z_r ?_);done)|((repeat first|exact z_0|assumption|refine z_1 ?_|refine z_l ?_);done))) (by (first | rfl | exact sc_ov' (h6 := rfl) (by assumption) rfl | exact sc_ov (h6 := rfl) (by assumption) rfl rfl | exact sc_at (h6 := rfl) rfl | exact sc_op (h6 := rfl) (by assumption) rfl)) ?_)
  refine xr_op rfl rfl (xv_nilp rfl ?_)
  refine xr_op rfl rfl (xv_faddr fl63_4 rfl ?_)
  refine xr_op rfl rfl (xv_load1 ty61 rfl rfl (by (first|((repeat first|exact z_0|assumption|refine z_1 ?_|refine z_r ?_);done)|((repeat refine z_1 ?_);refine z_l ?_;(repeat first|exact z_0|assumption|refine z_1 ?_|refine z_r ?_);done)|((repeat refine z_1 ?_);refine z_r ?_;(repeat refine z_1 ?_);refine z_l ?_;(repeat first|exact z_0|assumption|refine z_1 ?_|refine z_r ?_);done)|((repeat first|exact z_0|assumption|refine z_1 ?_|refine z_l ?_);done))) (by (first | rfl | exact sc_ov' (h6 := rfl) (by assumption) rfl | exact sc_ov (h6 := rfl) (by assumption) rfl rfl | exact sc_at (h6 := rfl) rfl | exact sc_op (h6 := rfl) (by assumption) rfl)) ?_)
  refine xr_op rfl rfl (xv_lenV sl61 hV rfl ?_)
  refine xr_op rfl rfl (xv_move rfl ?_)
  refine xr_end rfl ?_
  refine th_n ?_
  refine xc_block ?_
  refine xc_loop (σ := Nat × List (Int × Span) × Hp) (fun x => x.1 ≤ S.runs.length ∧ x.2.1 ++ gasRuns w.curve (S.runs.drop x.1) = gasRuns w.curve S.runs ∧ J x.2.1.length x.2.2) (fun x => (((((emp.put (some 0) (y)).put (some 1) (.pointer (some ⟨bx, 0, none⟩))).put (some 11) (V.val S.runs.length)).put (some 12) (I S.runs.length)).put (some 13) (I x.1))) (fun x => x.2.2) (fun x => S.runs.length - x.1) ((0, [], h) : Nat × List (Int × Span) × Hp) ⟨Nat.zero_le _, rfl, hJ⟩ (le_put (le_put (le_put (le_put (le_put (le_emp _) rfl) rfl) rfl) rfl) rfl) (by (first|((repeat first|exact s_0|exact s_1|exact s_3|refine s_4 ?_|refine s_5 ?_|refine s_6 ?_|refine s_7 ?_);done)|((repeat first|exact s_0|exact s_1|exact s_3|refine s_4 ?_|refine s_5 ?_|refine s_6 ?_|refine s_8 ?_);done))) ?_
  rintro ⟨i, pre, h1⟩ ⟨hi, hall, hJ1⟩
  dsimp only at hi hall hJ1
  have hc1 := hRd _ _ hJ1
  have m1 := hc1 hbx
  have m2 := hc1 hsx
  refine xc_seq (xc_region ?_)
  refine xr_op rfl rfl (xv_lss2 rfl rfl (fun q1 => ?_) (fun q1 => ?_))
  · refine xr_end rfl ?_
    refine th_n ?_
    refine xc_seq ?_
    refine xc_true rfl ?_
    refine xc_skip ?_
    refine th_n ?_
    refine xc_seq ?_
    refine xc_block ?_
    refine xc_seq (xc_region ?_)
    have hlt : i < S.runs.length := by (first | omega | (dsimp only at *; omega) | (simp at *; omega))
    obtain ⟨b, cap, sp, rfl⟩ : ∃ b cap sp, V = .at b cap sp := by
      cases V with
      | nil => exfalso; have := hV.2; omega
      | «at» b cap sp => exact ⟨_, _, _, rfl⟩
    obtain ⟨r, hr⟩ : ∃ r, S.runs[i]? = some r := ⟨_, List.getElem?_eq_getElem hlt⟩
    have m3 := hc1 (hVs List.mem_cons_self)
    have hrb := hS.rn r (List.mem_of_getElem? hr)
    refine xr_op rfl rfl (xv_ia (sz := 3) sl61 ty86 rfl rfl rfl (by (first | assumption | with_reducible exact Int.toNat_natCast _ | with_reducible rfl | rfl)) (by (first | omega | (dsimp only at *; omega) | (simp at *; omega))) (by (first | omega | (dsimp only at *; omega) | (simp at *; omega))) ?_)
    refine xr_op rfl rfl (xv_loadA ty86 rfl rfl (by (first|((repeat first|exact z_0|assumption|refine z_1 ?_|refine z_r ?_);done)|((repeat refine z_1 ?_);refine z_l ?_;(repeat first|exact z_0|assumption|refine z_1 ?_|refine z_r ?_);done)|((repeat refine z_1 ?_);refine z_r ?_;(repeat refine z_1 ?_);refine z_l ?_;(repeat first|exact z_0|assumption|refine z_1 ?_|refine z_r ?_);done)|((repeat first|exact z_0|assumption|refine z_1 ?_|refine z_l ?_);done))) (runs_at sp S.runs i hr) rfl ?_)
    refine xr_op rfl rfl (xv_alloc ty86 (fun b4 hb4 => ?_))
    refine xr_op rfl rfl (xv_s ty86 rfl rfl (by (first|(apply u_3;(repeat first|exact u_0|assumption|apply u_1|apply u_2);done)|((repeat first|exact u_0|assumption|apply u_1|apply u_2);done)|(apply u_3;apply u_3;(repeat first|exact u_0|assumption|apply u_1|apply u_2);done)|((repeat first|exact u_0|assumption|apply u_3|apply u_1);done))) (by ((try apply evl_some rfl);(repeat (first|exact (rfl : _ = [])|apply evl_cons rfl (by (first|exact v_1|exact v_2|exact v_3|exact v_4|exact v_5|exact v_6|exact v_7|exact v_8|exact v_9|exact rfl))|exact rfl)))) (by rfl) (by rfl) (by rfl) (by ((try apply evl_some rfl);(repeat (first|exact (rfl : _ = [])|apply evl_cons rfl (by (first|exact v_1|exact v_2|exact v_3|exact v_4|exact v_5|exact v_6|exact v_7|exact v_8|exact v_9|exact rfl))|exact rfl)))) ?_)
    refine xr_end rfl ?_
    refine th_n ?_
    refine xc_seq (xc_region ?_)
    refine xr_op rfl rfl (xv_load1 ty57 rfl rfl (by (first|((repeat first|exact z_0|assumption|refine z_1 ?_|refine z_r ?_);done)|((repeat refine z_1 ?_);refine z_l ?_;(repeat first|exact z_0|assumption|refine z_1 ?_|refine z_r ?_);done)|((repeat refine z_1 ?_);refine z_r ?_;(repeat refine z_1 ?_);refine z_l ?_;(repeat first|exact z_0|assumption|refine z_1 ?_|refine z_r ?_);done)|((repeat first|exact z_0|assumption|refine z_1 ?_|refine z_l ?_);done))) (by (first | rfl | exact sc_ov' (h6 := rfl) (by assumption) rfl | exact sc_ov (h6 := rfl) (by assumption) rfl rfl | exact sc_at (h6 := rfl) rfl | exact sc_op (h6 := rfl) (by assumption) rfl)) ?_)
    refine xr_op rfl rfl (xv_nilp rfl ?_)
    refine xr_op rfl rfl (xv_faddr fl63_0 rfl ?_)
    refine xr_op rfl rfl (xv_faddr fl24_0 rfl ?_)
    refine xr_op rfl rfl (xv_load1 ty22 rfl rfl (by (first|((repeat first|exact z_0|assumption|refine z_1 ?_|refine z_r ?_);done)|((repeat refine z_1 ?_);refine z_l ?_;(repeat first|exact z_0|assumption|refine z_1 ?_|refine z_r ?_);done)|((repeat refine z_1 ?_);refine z_r ?_;(repeat refine z_1 ?_);refine z_l ?_;(repeat first|exact z_0|assumption|refine z_1 ?_|refine z_r ?_);done)|((repeat first|exact z_0|assumption|refine z_1 ?_|refine z_l ?_);done))) (by (first | rfl | exact sc_ov' (h6 := rfl) (by assumption) rfl | exact sc_ov (h6 := rfl) (by assumption) rfl rfl | exact sc_at (h6 := rfl) rfl | exact sc_op (h6 := rfl) (by assumption) rfl)) ?_)
    refine xr_op rfl rfl (xv_len sl22 rfl ?_)
    refine xr_op rfl rfl (xv_move rfl ?_)
    refine xr_end rfl ?_
    refine th_n ?_
    refine xc_block ?_
    refine xc_loop (σ := Nat × List (Int × Span) × Hp) (fun x => x.1 ≤ w.curve.length ∧ x.2.1 ++ (gasFrom r x.1 (w.curve.drop x.1) ++ gasRuns w.curve (S.runs.drop (i + 1))) = gasRuns w.curve S.runs ∧ J x.2.1.length x.2.2) (fun x => (((((((((emp.put (some 0) (y)).put (some 1) (.pointer (some ⟨bx, 0, none⟩))).put (some 11) ((Vec.at b cap sp).val S.runs.length)).put (some 12) (I S.runs.length)).put (some 13) (I i)).put (some 4) (.pointer (some ⟨b4, 0, none⟩))).put (some 21) (.slice a w.curve.length c)).put (some 22) (I w.curve.length)).put (some 23) (I x.1))) (fun x => ((b4, .cells ⟨eRun r⟩ 86) :: x.2.2)) (fun x => w.curve.length - x.1) ((0, pre, h1) : Nat × List (Int × Span) × Hp) ⟨Nat.zero_le _, (by rw [← hall, gasRuns_at hr]; rfl), hJ1⟩ (le_put (le_put (le_put (le_put (le_put (le_put (le_put (le_put (le_put (le_emp _) rfl) rfl) rfl) rfl) rfl) rfl) rfl) rfl) rfl) (by (first|((repeat first|exact s_0|exact s_1|exact s_3|refine s_4 ?_|refine s_5 ?_|refine s_6 ?_|refine s_7 ?_);done)|((repeat first|exact s_0|exact s_1|exact s_3|refine s_4 ?_|refine s_5 ?_|refine s_6 ?_|refine s_8 ?_);done))) ?_
    rintro ⟨k, pre2, h2⟩ ⟨hk, hall2, hJ2⟩
    dsimp only at hk hall2 hJ2
    refine xc_seq (xc_region ?_)
    refine xr_op rfl rfl (xv_lss2 rfl rfl (fun q2 => ?_) (fun q2 => ?_))
    · refine xr_end rfl ?_
      refine th_n ?_
      refine xc_seq ?_
      refine xc_true rfl ?_
      refine xc_skip ?_
      refine th_n ?_
      refine xc_seq ?_
      refine xc_block ?_
      refine xc_seq (xc_region ?_)
      have hlt2 : k < w.curve.length := by (first | omega | (dsimp only at *; omega) | (simp at *; omega))
      obtain ⟨bc, oc, lc, tc, fc, rfl, hmc, hxc⟩ := hs.at hlt2
      obtain ⟨c2, hc2⟩ : ∃ c2, w.curve[k]? = some c2 := ⟨_, List.getElem?_eq_getElem hlt2⟩
      have m4 := hRd _ _ hJ2 hmc
      have hcb := goodSpan hbad (List.mem_of_getElem? hc2)
      have hstep := gasFrom_at r hc2
      refine xr_op rfl rfl (xv_move rfl ?_)
      refine xr_op rfl rfl (xv_ia (sz := 2) sl22 ty38 rfl rfl rfl (by (first | assumption | with_reducible exact Int.toNat_natCast _ | with_reducible rfl | rfl)) (by (first | omega | (dsimp only at *; omega) | (simp at *; omega))) (by (first | omega | (dsimp only at *; omega) | (simp at *; omega))) ?_)
      refine xr_op rfl rfl (xv_loadA ty38 rfl rfl (by (first|((repeat first|exact z_0|assumption|refine z_1 ?_|refine z_r ?_);done)|((repeat refine z_1 ?_);refine z_l ?_;(repeat first|exact z_0|assumption|refine z_1 ?_|refine z_r ?_);done)|((repeat refine z_1 ?_);refine z_r ?_;(repeat refine z_1 ?_);refine z_l ?_;(repeat first|exact z_0|assumption|refine z_1 ?_|refine z_r ?_);done)|((repeat first|exact z_0|assumption|refine z_1 ?_|refine z_l ?_);done))) (hxc k c2 hc2) rfl ?_)
      refine xr_op rfl rfl (xv_alloc ty38 (fun b6 hb6 => ?_))
      refine xr_op rfl rfl (xv_assign rfl ?_)
      refine xr_op rfl rfl (xv_s ty38 rfl rfl (by (first|(apply u_3;(repeat first|exact u_0|assumption|apply u_1|apply u_2);done)|((repeat first|exact u_0|assumption|apply u_1|apply u_2);done)|(apply u_3;apply u_3;(repeat first|exact u_0|assumption|apply u_1|apply u_2);done)|((repeat first|exact u_0|assumption|apply u_3|apply u_1);done))) (by ((try apply evl_some rfl);(repeat (first|exact (rfl : _ = [])|apply evl_cons rfl (by (first|exact v_1|exact v_2|exact v_3|exact v_4|exact v_5|exact v_6|exact v_7|exact v_8|exact v_9|exact rfl))|exact rfl)))) (by rfl) (by rfl) (by rfl) (by ((try apply evl_some rfl);(repeat (first|exact (rfl : _ = [])|apply evl_cons rfl (by (first|exact v_1|exact v_2|exact v_3|exact v_4|exact v_5|exact v_6|exact v_7|exact v_8|exact v_9|exact rfl))|exact rfl)))) ?_)
      refine xr_end rfl ?_
      refine th_n ?_
      refine xc_seq (xc_region ?_)
      refine xr_op rfl rfl (xv_faddr fl86_1 rfl ?_)
      refine xr_op rfl rfl (xv_load1 ty3 rfl rfl (by (first|((repeat first|exact z_0|assumption|refine z_1 ?_|refine z_r ?_);done)|((repeat refine z_1 ?_);refine z_l ?_;(repeat first|exact z_0|assumption|refine z_1 ?_|refine z_r ?_);done)|((repeat refine z_1 ?_);refine z_r ?_;(repeat refine z_1 ?_);refine z_l ?_;(repeat first|exact z_0|assumption|refine z_1 ?_|refine z_r ?_);done)|((repeat first|exact z_0|assumption|refine z_1 ?_|refine z_l ?_);done))) (by (first | rfl | exact sc_ov' (h6 := rfl) (by assumption) rfl | exact sc_ov (h6 := rfl) (by assumption) rfl rfl | exact sc_at (h6 := rfl) rfl | exact sc_op (h6 := rfl) (by assumption) rfl)) ?_)
      refine xr_op rfl rfl (xv_move rfl ?_)
      refine xr_op rfl rfl (xv_add rfl rfl (wrap_i64 (by (first | omega | (dsimp only at *; omega) | (simp at *; omega))) (by (first | omega | (dsimp only at *; omega) | (simp at *; omega)))) ?_)
      refine xr_op rfl rfl (xv_assign rfl ?_)
      refine xr_end rfl ?_
      refine th_n ?_
      refine xc_seq (xc_region ?_)
      refine xr_op rfl rfl (xv_move rfl ?_)
      refine xr_op rfl rfl (xv_faddr fl86_2 rfl ?_)
      refine xr_op rfl rfl (xv_load1 ty3 rfl rfl (by (first|((repeat first|exact z_0|assumption|refine z_1 ?_|refine z_r ?_);done)|((repeat refine z_1 ?_);refine z_l ?_;(repeat first|exact z_0|assumption|refine z_1 ?_|refine z_r ?_);done)|((repeat refine z_1 ?_);refine z_r ?_;(repeat refine z_1 ?_);refine z_l ?_;(repeat first|exact z_0|assumption|refine z_1 ?_|refine z_r ?_);done)|((repeat first|exact z_0|assumption|refine z_1 ?_|refine z_l ?_);done))) (by (first | rfl | exact sc_ov' (h6 := rfl) (by assumption) rfl | exact sc_ov (h6 := rfl) (by assumption) rfl rfl | exact sc_at (h6 := rfl) rfl | exact sc_op (h6 := rfl) (by assumption) rfl)) ?_)
      refine xr_op rfl rfl (xv_lss2 rfl rfl (fun q3 => ?_) (fun q3 => ?_))
      · refine xr_op rfl rfl (xv_move rfl ?_)
        refine xr_gd rfl rfl rfl (xv_move rfl ?_)
        refine xr_gd rfl rfl rfl (xv_calls rfl hb27 (isHour_c _ (fun hl4 hu5 => up_ret ?_) (fun hn6 => up_ret ?_)))
        · refine xr_op rfl rfl (xv_pick rfl rfl ?_)
          refine xr_op rfl rfl (xv_move rfl ?_)
          have hif : r.from_ + k < r.until_ ∧ 0 ≤ r.from_ + k ∧ r.from_ + k ≤ 1048576 := by refine ⟨?_, ?_, ?_⟩ <;> (first | omega | (dsimp only at *; omega) | (simp at *; omega))
          have hx : (gasRuns w.curve S.runs)[pre2.length]? = some (r.from_ + k, ⟨r.tons * c2.lo, r.tons * c2.hi⟩) := by rw [← hall2, hstep, if_pos hif]; simp
          have hm1 : 0 ≤ r.tons * c2.lo := Int.mul_nonneg (by omega) (by omega)
          have hm2 : r.tons * c2.lo ≤ 100 * 100000 := Int.mul_le_mul (by omega) (by omega) (by omega) (by omega)
          have hm3 : 0 ≤ r.tons * c2.hi := Int.mul_nonneg (by omega) (by omega)
          have hm4 : r.tons * c2.hi ≤ 100 * 100000 := Int.mul_le_mul (by omega) (by omega) (by omega) (by omega)
          refine xr_gd rfl rfl rfl (xv_move rfl ?_)
          refine xr_gd rfl rfl rfl (xv_move rfl ?_)
          refine xr_gd rfl rfl rfl (xv_faddr fl86_0 rfl ?_)
          refine xr_gd rfl rfl rfl (xv_load1 ty3 rfl rfl (by (first|((repeat first|exact z_0|assumption|refine z_1 ?_|refine z_r ?_);done)|((repeat refine z_1 ?_);refine z_l ?_;(repeat first|exact z_0|assumption|refine z_1 ?_|refine z_r ?_);done)|((repeat refine z_1 ?_);refine z_r ?_;(repeat refine z_1 ?_);refine z_l ?_;(repeat first|exact z_0|assumption|refine z_1 ?_|refine z_r ?_);done)|((repeat first|exact z_0|assumption|refine z_1 ?_|refine z_l ?_);done))) (by (first | rfl | exact sc_ov' (h6 := rfl) (by assumption) rfl | exact sc_ov (h6 := rfl) (by assumption) rfl rfl | exact sc_at (h6 := rfl) rfl | exact sc_op (h6 := rfl) (by assumption) rfl)) ?_)
          refine xr_gd rfl rfl rfl (xv_faddr fl38_0 rfl ?_)
          refine xr_gd rfl rfl rfl (xv_load1 ty3 rfl rfl (by (first|((repeat first|exact z_0|assumption|refine z_1 ?_|refine z_r ?_);done)|((repeat refine z_1 ?_);refine z_l ?_;(repeat first|exact z_0|assumption|refine z_1 ?_|refine z_r ?_);done)|((repeat refine z_1 ?_);refine z_r ?_;(repeat refine z_1 ?_);refine z_l ?_;(repeat first|exact z_0|assumption|refine z_1 ?_|refine z_r ?_);done)|((repeat first|exact z_0|assumption|refine z_1 ?_|refine z_l ?_);done))) (by (first | rfl | exact sc_ov' (h6 := rfl) (by assumption) rfl | exact sc_ov (h6 := rfl) (by assumption) rfl rfl | exact sc_at (h6 := rfl) rfl | exact sc_op (h6 := rfl) (by assumption) rfl)) ?_)
          refine xr_gd rfl rfl rfl (xv_mul rfl rfl (wrap_i64 (by (first | omega | (dsimp only at *; omega) | (simp at *; omega))) (by (first | omega | (dsimp only at *; omega) | (simp at *; omega)))) ?_)
          refine xr_gd rfl rfl rfl (xv_faddr fl86_0 rfl ?_)
          refine xr_gd rfl rfl rfl (xv_load1 ty3 rfl rfl (by (first|((repeat first|exact z_0|assumption|refine z_1 ?_|refine z_r ?_);done)|((repeat refine z_1 ?_);refine z_l ?_;(repeat first|exact z_0|assumption|refine z_1 ?_|refine z_r ?_);done)|((repeat refine z_1 ?_);refine z_r ?_;(repeat refine z_1 ?_);refine z_l ?_;(repeat first|exact z_0|assumption|refine z_1 ?_|refine z_r ?_);done)|((repeat first|exact z_0|assumption|refine z_1 ?_|refine z_l ?_);done))) (by (first | rfl | exact sc_ov' (h6 := rfl) (by assumption) rfl | exact sc_ov (h6 := rfl) (by assumption) rfl rfl | exact sc_at (h6 := rfl) rfl | exact sc_op (h6 := rfl) (by assumption) rfl)) ?_)
          refine xr_gd rfl rfl rfl (xv_faddr fl38_1 rfl ?_)
          refine xr_gd rfl rfl rfl (xv_load1 ty3 rfl rfl (by (first|((repeat first|exact z_0|assumption|refine z_1 ?_|refine z_r ?_);done)|((repeat refine z_1 ?_);refine z_l ?_;(repeat first|exact z_0|assumption|refine z_1 ?_|refine z_r ?_);done)|((repeat refine z_1 ?_);refine z_r ?_;(repeat refine z_1 ?_);refine z_l ?_;(repeat first|exact z_0|assumption|refine z_1 ?_|refine z_r ?_);done)|((repeat first|exact z_0|assumption|refine z_1 ?_|refine z_l ?_);done))) (by (first | rfl | exact sc_ov' (h6 := rfl) (by assumption) rfl | exact sc_ov (h6 := rfl) (by assumption) rfl rfl | exact sc_at (h6 := rfl) rfl | exact sc_op (h6 := rfl) (by assumption) rfl)) ?_)
          refine xr_gd rfl rfl rfl (xv_mul rfl rfl (wrap_i64 (by (first | omega | (dsimp only at *; omega) | (simp at *; omega))) (by (first | omega | (dsimp only at *; omega) | (simp at *; omega)))) ?_)
          refine xr_gd rfl rfl rfl (xv_build bt38 rfl (by ((try apply evl_some rfl);(repeat (first|exact (rfl : _ = [])|apply evl_cons rfl (by (first|exact v_1|exact v_2|exact v_3|exact v_4|exact v_5|exact v_6|exact v_7|exact v_8|exact v_9|exact rfl))|exact rfl)))) ?_)
          refine xr_gd rfl rfl rfl (xv_fn rfl rfl (yieldTo (g := [_, _]) (hy _ _ hx _ hJ2) (fun h3 hJ3 => up_ret ?_) (fun h3 hJ3 => up_ret ?_)))
          · refine xr_gd rfl rfl rfl (xv_not rfl ?_)
            refine xr_op rfl rfl (xv_pick rfl rfl ?_)
            refine xr_end rfl ?_
            refine th_n ?_
            refine xc_false rfl ?_
            refine xc_skip ?_
            refine bk_n ?_
            refine th_n ?_
            refine xc_region ?_
            refine xr_op rfl rfl (xv_add rfl rfl (wrap_i64 (by (first | omega | (dsimp only at *; omega) | (simp at *; omega))) (by (first | omega | (dsimp only at *; omega) | (simp at *; omega)))) ?_)
            refine xr_op rfl rfl (xv_move rfl ?_)
            refine xr_end rfl ?_
            exact rnd ((k + 1, pre2 ++ [(r.from_ + k, ⟨r.tons * c2.lo, r.tons * c2.hi⟩)], h3) : Nat × List (Int × Span) × Hp) ⟨(by dsimp only; omega), (by rw [← hall2, hstep, if_pos hif]; simp), (by simpa using hJ3)⟩ (by dsimp only; omega) (le_put (le_put (le_put (le_put (le_put (le_put (le_put (le_put (le_put (le_emp _) rfl) rfl) rfl) rfl) rfl) rfl) rfl) rfl) rfl) (by (first|((repeat first|exact s_0|exact s_1|exact s_3|refine s_4 ?_|refine s_5 ?_|refine s_6 ?_|refine s_7 ?_);done)|((repeat first|exact s_0|exact s_1|exact s_3|refine s_4 ?_|refine s_5 ?_|refine s_6 ?_|refine s_8 ?_);done)))
          · refine xr_gd rfl rfl rfl (xv_not rfl ?_)
            refine xr_op rfl rfl (xv_pick rfl rfl ?_)
            refine xr_end rfl ?_
            refine th_n ?_
            refine xc_true rfl ?_
            refine xc_ret ?_
            refine bk_r ?_
            refine th_r ?_
            refine th_r ?_
            refine bk_r ?_
            refine bk_r ?_
            refine th_r ?_
            refine th_r ?_
            refine bk_r ?_
            refine body_ret (h' := h3) rfl ro_nil (by (first|((repeat first|exact s_0|exact s_1|exact s_3|refine s_4 ?_|refine s_5 ?_|refine s_6 ?_|refine s_7 ?_);done)|((repeat first|exact s_0|exact s_1|exact s_3|refine s_4 ?_|refine s_5 ?_|refine s_6 ?_|refine s_8 ?_);done))) ?_
            exact ⟨⟨_, rfl⟩, .inr ⟨pre2.length + 1, (List.getElem?_eq_some_iff.1 hx).1, hJ3⟩⟩
        · refine xr_op rfl rfl (xv_pick rfl rfl ?_)
          refine xr_op rfl rfl (xv_move rfl ?_)
          refine xr_no rfl rfl rfl rfl ?_
          refine xr_no rfl rfl rfl rfl ?_
          refine xr_no rfl rfl rfl rfl ?_
          refine xr_no rfl rfl rfl rfl ?_
          refine xr_no rfl rfl rfl rfl ?_
          refine xr_no rfl rfl rfl rfl ?_
          refine xr_no rfl rfl rfl rfl ?_
          refine xr_no rfl rfl rfl rfl ?_
          refine xr_no rfl rfl rfl rfl ?_
          refine xr_no rfl rfl rfl rfl ?_
          refine xr_no rfl rfl rfl rfl ?_
          refine xr_no rfl rfl rfl rfl ?_
          refine xr_no rfl rfl rfl rfl ?_
          refine xr_no rfl rfl rfl rfl ?_
          refine xr_no rfl rfl rfl rfl ?_
          refine xr_op rfl rfl (xv_pick rfl rfl ?_)
          refine xr_end rfl ?_
          refine th_n ?_
          refine xc_false rfl ?_
          refine xc_skip ?_
          refine bk_n ?_
          refine th_n ?_
          refine xc_region ?_
          refine xr_op rfl rfl (xv_add rfl rfl (wrap_i64 (by (first | omega | (dsimp only at *; omega) | (simp at *; omega))) (by (first | omega | (dsimp only at *; omega) | (simp at *; omega)))) ?_)
          refine xr_op rfl rfl (xv_move rfl ?_)
          refine xr_end rfl ?_
          exact rnd ((k + 1, pre2, h2) : Nat × List (Int × Span) × Hp) ⟨(by dsimp only; omega), (by rw [← hall2, hstep, if_neg (by (first | omega | (dsimp only at *; omega) | (simp at *; omega)))]; rfl), hJ2⟩ (by dsimp only; omega) (le_put (le_put (le_put (le_put (le_put (le_put (le_put (le_put (le_put (le_emp _) rfl) rfl) rfl) rfl) rfl) rfl) rfl) rfl) rfl) (by (first|((repeat first|exact s_0|exact s_1|exact s_3|refine s_4 ?_|refine s_5 ?_|refine s_6 ?_|refine s_7 ?_);done)|((repeat first|exact s_0|exact s_1|exact s_3|refine s_4 ?_|refine s_5 ?_|refine s_6 ?_|refine s_8 ?_);done)))
      · refine xr_op rfl rfl (xv_move rfl ?_)
        refine xr_no rfl rfl rfl rfl ?_
        refine xr_no rfl rfl rfl rfl ?_
        refine xr_op rfl rfl (xv_pick rfl rfl ?_)
        refine xr_op rfl rfl (xv_move rfl ?_)
        refine xr_no rfl rfl rfl rfl ?_
        refine xr_no rfl rfl rfl rfl ?_
        refine xr_no rfl rfl rfl rfl ?_
        refine xr_no rfl rfl rfl rfl ?_
        refine xr_no rfl rfl rfl rfl ?_
        refine xr_no rfl rfl rfl rfl ?_
        refine xr_no rfl rfl rfl rfl ?_
        refine xr_no rfl rfl rfl rfl ?_
        refine xr_no rfl rfl rfl rfl ?_
        refine xr_no rfl rfl rfl rfl ?_
        refine xr_no rfl rfl rfl rfl ?_
        refine xr_no rfl rfl rfl rfl ?_
        refine xr_no rfl rfl rfl rfl ?_
        refine xr_no rfl rfl rfl rfl ?_
        refine xr_no rfl rfl rfl rfl ?_
        refine xr_op rfl rfl (xv_pick rfl rfl ?_)
        refine xr_end rfl ?_
        refine th_n ?_
        refine xc_false rfl ?_
        refine xc_skip ?_
        refine bk_n ?_
        refine th_n ?_
        refine xc_region ?_
        refine xr_op rfl rfl (xv_add rfl rfl (wrap_i64 (by (first | omega | (dsimp only at *; omega) | (simp at *; omega))) (by (first | omega | (dsimp only at *; omega) | (simp at *; omega)))) ?_)
        refine xr_op rfl rfl (xv_move rfl ?_)
        refine xr_end rfl ?_
        exact rnd ((k + 1, pre2, h2) : Nat × List (Int × Span) × Hp) ⟨(by dsimp only; omega), (by rw [← hall2, hstep, if_neg (by (first | omega | (dsimp only at *; omega) | (simp at *; omega)))]; rfl), hJ2⟩ (by dsimp only; omega) (le_put (le_put (le_put (le_put (le_put (le_put (le_put (le_put (le_put (le_emp _) rfl) rfl) rfl) rfl) rfl) rfl) rfl) rfl) rfl) (by (first|((repeat first|exact s_0|exact s_1|exact s_3|refine s_4 ?_|refine s_5 ?_|refine s_6 ?_|refine s_7 ?_);done)|((repeat first|exact s_0|exact s_1|exact s_3|refine s_4 ?_|refine s_5 ?_|refine s_6 ?_|refine s_8 ?_);done)))
    · refine xr_end rfl ?_
      refine th_n ?_
      refine xc_seq ?_
      refine xc_false rfl ?_
      refine xc_exit ?_
      refine th_x ?_
      refine th_x ?_
      refine bk_same ?_
      refine bk_n ?_
      refine th_n ?_
      refine xc_region ?_
      refine xr_op rfl rfl (xv_add rfl rfl (wrap_i64 (by (first | omega | (dsimp only at *; omega) | (simp at *; omega))) (by (first | omega | (dsimp only at *; omega) | (simp at *; omega)))) ?_)
      refine xr_op rfl rfl (xv_move rfl ?_)
      refine xr_end rfl ?_
      exact rnd ((i + 1, pre2, h2) : Nat × List (Int × Span) × Hp) ⟨(by dsimp only; omega), (by rw [← hall2, show k = w.curve.length by (first | omega | (dsimp only at *; omega) | (simp at *; omega)), List.drop_eq_nil_of_le (Nat.le_refl _)]; rfl), hJ2⟩ (by dsimp only; omega) (le_put (le_put (le_put (le_put (le_put (le_emp _) rfl) rfl) rfl) rfl) rfl) (by (first|((repeat first|exact s_0|exact s_1|exact s_3|refine s_4 ?_|refine s_5 ?_|refine s_6 ?_|refine s_7 ?_);done)|((repeat first|exact s_0|exact s_1|exact s_3|refine s_4 ?_|refine s_5 ?_|refine s_6 ?_|refine s_8 ?_);done)))
  · refine xr_end rfl ?_
    refine th_n ?_
    refine xc_seq ?_
    refine xc_false rfl ?_
    refine xc_exit ?_
    refine th_x ?_
    refine th_x ?_
    refine bk_same ?_
    refine body_end (h' := h1) rfl ro_nil (by (first|((repeat first|exact s_0|exact s_1|exact s_3|refine s_4 ?_|refine s_5 ?_|refine s_6 ?_|refine s_7 ?_);done)|((repeat first|exact s_0|exact s_1|exact s_3|refine s_4 ?_|refine s_5 ?_|refine s_6 ?_|refine s_8 ?_);done))) ?_
    exact ⟨⟨_, rfl⟩, .inl (by have hil : i = S.runs.length := (by (first | omega | (dsimp only at *; omega) | (simp at *; omega))); have hq := hall; rw [hil, List.drop_eq_nil_of_le (Nat.le_refl _)] at hq; simp only [gasRuns, List.append_nil] at hq; rw [← hq]; exact hJ1)⟩

end Go.Proofs.Ytjmailhoidenaaa
