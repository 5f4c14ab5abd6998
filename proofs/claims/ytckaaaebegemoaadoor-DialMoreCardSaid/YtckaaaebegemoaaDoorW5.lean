/-
  Walks.
-/
import Derived.Test.YtckaaaebegemoaaDoorW4
import Derived.Test.YtckaaaebegemoaaDoorW2
import Derived.Test.YtckaaaebegemoaaDoorW1
namespace Go.Proofs.YtckaaaebegemoaaDoor
open Go Go.H
set_option maxRecDepth 100000
set_option maxHeartbeats 2000000
set_option linter.all false
def PdqOk (m : Nat) : Prop := ∀ {bb cap N : Nat} {sp : List Value} {d : Array Card} {f : Value} {cm : Card → Card → Int} {p : Card → Prop} {L : Hp} {R : Ending → Hp → Prop} (hA : Arr N p d) (hN : N ≤ 49) (hf : ∀ x y, p x → p y → ∀ H R', L ⊆ H → R' (.returned (I (cm x y))) H → AFn Tryd.prog f [.agg ⟨eCard x⟩, .agg ⟨eCard y⟩] H R') {a b limit : Nat} {ai bi li : Int} (ea : ai = a) (eb : bi = b) (el : li = limit) (hab : a ≤ b) (hb : b ≤ N) (hm : b - a ≤ m) (hl : limit ≤ 1000) (H : Arr N p (Go.Sort.pdq (ltc cm) d a b limit true true) → R (.returned (.tuple #[])) ((bb, .cells ⟨(Go.Sort.pdq (ltc cm) d a b limit true true).toList.flatMap eCard ++ sp⟩ 78) :: L)),
    ACalls Tryd.prog 56 ⟨[.slice (some ⟨bb, 0, none⟩) N cap, I ai, I bi, I li, f]⟩ ((bb, .cells ⟨(d).toList.flatMap eCard ++ sp⟩ 78) :: L) R

theorem pdq_step {m : Nat} (ih : ∀ j, j < m → PdqOk j) : PdqOk m := by
  intro bb cap N sp d f cm p L R hA hN hf a b limit ai bi li ea eb el hab hb hm hl H
  subst ea eb el
  refine calls_of_xc (N := 148) Tryd.func56 rfl (by rfl) ?_
  refine xc_seq (xc_region ?_)
  refine xr_op rfl rfl (xv_assign rfl ?_)
  refine xr_end rfl ?_
  refine th_n ?_
  refine xc_seq (xc_region ?_)
  refine xr_op rfl rfl (xv_assign rfl ?_)
  refine xr_end rfl ?_
  refine th_n ?_
  refine xc_block ?_
  refine xc_loop (σ := PdqS Card) (fun z => a ≤ z.a ∧ z.a ≤ z.b ∧ z.b ≤ b ∧ z.lim ≤ limit ∧ Arr N p z.d ∧ Go.Sort.pdq (ltc cm) z.d z.a z.b z.lim z.wb z.wp = Go.Sort.pdq (ltc cm) d a b limit true true) (fun z => (((((((emp.put (some 0) (.slice (some ⟨bb, 0, none⟩) N cap)).put (some 1) (I z.a)).put (some 2) (I z.b)).put (some 3) (I z.lim)).put (some 4) (f)).put (some 10) (.bool z.wb)).put (some 11) (.bool z.wp))) (fun z => ((bb, .cells ⟨(z.d).toList.flatMap eCard ++ sp⟩ 78) :: L)) (fun z => z.b - z.a) (⟨a, b, limit, true, true, d⟩ : PdqS Card) ⟨Nat.le_refl _, hab, Nat.le_refl _, Nat.le_refl _, hA, rfl⟩ (le_put (le_put (le_put (le_put (le_put (le_put (le_put (le_emp _) rfl) rfl) rfl) rfl) rfl) rfl) rfl) (by (first|((repeat first|exact s_0|exact s_1|exact s_3|refine s_4 ?_|refine s_5 ?_|refine s_6 ?_|refine s_7 ?_);done)|((repeat first|exact s_0|exact s_1|exact s_3|refine s_4 ?_|refine s_5 ?_|refine s_6 ?_|refine s_8 ?_);done))) ?_
  rintro ⟨a1, b1, l1, wb, wp, d1⟩ ⟨ho1, ho2, ho3, hl1, hA1, heq⟩
  dsimp only at ho1 ho2 ho3 hl1 hA1 heq
  refine xc_block ?_
  refine xc_seq (xc_region ?_)
  refine xr_op rfl rfl (xv_move rfl ?_)
  refine xr_op rfl rfl (xv_move rfl ?_)
  refine xr_op rfl rfl (xv_sub rfl rfl (wrap_i64 (by (first | omega | (dsimp only at *; omega) | (simp at *; omega))) (by (first | omega | (dsimp only at *; omega) | (simp at *; omega)))) ?_)
  refine xr_op rfl rfl (xv_assign rfl ?_)
  refine xr_end rfl ?_
  refine th_n ?_
  refine xc_seq ?_
  refine xc_seq (xc_region ?_)
  refine xr_op rfl rfl (xv_move rfl ?_)
  refine xr_op rfl rfl (xv_leq2 rfl rfl (fun q1 => ?_) (fun q1 => ?_))
  · refine xr_end rfl ?_
    refine th_n ?_
    refine xc_true rfl ?_
    refine xc_seq (xc_region ?_)
    refine xr_op rfl rfl (xv_move rfl ?_)
    refine xr_op rfl rfl (xv_move rfl ?_)
    refine xr_op rfl rfl (xv_move rfl ?_)
    refine xr_op rfl rfl (xv_move rfl ?_)
    refine xr_op rfl rfl (xv_calls rfl hb61 (ins_c (a := a1) (b := b1) hA1 hN hf rfl rfl (by (first | omega | (dsimp only at *; omega) | (simp at *; omega))) (by (first | omega | (dsimp only at *; omega) | (simp at *; omega))) (fun hA2 => up_ret ?_)))
    refine xr_end rfl ?_
    refine th_n ?_
    refine xc_ret ?_
    refine th_r ?_
    refine bk_r ?_
    refine th_r ?_
    refine bk_r ?_
    refine body_ret (h' := ((bb, .cells ⟨(Go.Sort.insertionSort (ltc cm) d1 a1 b1).toList.flatMap eCard ++ sp⟩ 78) :: L)) rfl ro_nil (by (first|((repeat first|exact s_0|exact s_1|exact s_3|refine s_4 ?_|refine s_5 ?_|refine s_6 ?_|refine s_7 ?_);done)|((repeat first|exact s_0|exact s_1|exact s_3|refine s_4 ?_|refine s_5 ?_|refine s_6 ?_|refine s_8 ?_);done))) ?_
    first | (have e := (pdq_ins (by (first | omega | (dsimp only at *; omega) | (simp at *; omega)))).symm.trans heq; rw [← e] at H; exact H hA2) | (have e := (pdq_heap (by (first | omega | (dsimp only at *; omega) | (simp at *; omega))) (by (first | omega | (dsimp only at *; omega) | (simp at *; omega)))).symm.trans heq; rw [← e] at H; exact H hA2) | (have e := pdq_pi (lt := ltc cm) (d := d1) (a := a1) (b := b1) (limit := l1) (wb := true) (wp := true) (by (first | omega | (dsimp only at *; omega) | (simp at *; omega))) (by (first | omega | (dsimp only at *; omega) | (simp at *; omega))) (by (first | omega | (dsimp only at *; omega) | (simp at *; omega))) rfl rfl; rw [← hd2] at e; rw [← hd3, ← hph] at e; have e2 := (e (hintI_1.1 (by (first | omega | (dsimp only at *; omega) | (simp at *; omega)))) (by assumption)).symm.trans heq; rw [← e2] at H; exact H hA3)
  · refine xr_end rfl ?_
    refine th_n ?_
    refine xc_false rfl ?_
    refine xc_skip ?_
    refine th_n ?_
    refine xc_seq ?_
    refine xc_seq (xc_region ?_)
    refine xr_op rfl rfl (xv_move rfl ?_)
    refine xr_op rfl rfl (xv_eql2 rfl rfl (fun q2 => ?_) (fun q2 => ?_))
    · refine xr_end rfl ?_
      refine th_n ?_
      refine xc_true rfl ?_
      refine xc_seq (xc_region ?_)
      refine xr_op rfl rfl (xv_move rfl ?_)
      refine xr_op rfl rfl (xv_move rfl ?_)
      refine xr_op rfl rfl (xv_move rfl ?_)
      refine xr_op rfl rfl (xv_move rfl ?_)
      refine xr_op rfl rfl (xv_calls rfl hb62 (heap_c (a := a1) (b := b1) hA1 hN hf rfl rfl (by (first | omega | (dsimp only at *; omega) | (simp at *; omega))) (by (first | omega | (dsimp only at *; omega) | (simp at *; omega))) (fun hA2 => up_ret ?_)))
      refine xr_end rfl ?_
      refine th_n ?_
      refine xc_ret ?_
      refine th_r ?_
      refine bk_r ?_
      refine th_r ?_
      refine bk_r ?_
      refine body_ret (h' := ((bb, .cells ⟨(Go.Sort.heapSort (ltc cm) d1 a1 b1).toList.flatMap eCard ++ sp⟩ 78) :: L)) rfl ro_nil (by (first|((repeat first|exact s_0|exact s_1|exact s_3|refine s_4 ?_|refine s_5 ?_|refine s_6 ?_|refine s_7 ?_);done)|((repeat first|exact s_0|exact s_1|exact s_3|refine s_4 ?_|refine s_5 ?_|refine s_6 ?_|refine s_8 ?_);done))) ?_
      first | (have e := (pdq_ins (by (first | omega | (dsimp only at *; omega) | (simp at *; omega)))).symm.trans heq; rw [← e] at H; exact H hA2) | (have e := (pdq_heap (by (first | omega | (dsimp only at *; omega) | (simp at *; omega))) (by (first | omega | (dsimp only at *; omega) | (simp at *; omega)))).symm.trans heq; rw [← e] at H; exact H hA2) | (have e := pdq_pi (lt := ltc cm) (d := d1) (a := a1) (b := b1) (limit := l1) (wb := true) (wp := true) (by (first | omega | (dsimp only at *; omega) | (simp at *; omega))) (by (first | omega | (dsimp only at *; omega) | (simp at *; omega))) (by (first | omega | (dsimp only at *; omega) | (simp at *; omega))) rfl rfl; rw [← hd2] at e; rw [← hd3, ← hph] at e; have e2 := (e (hintI_1.1 (by (first | omega | (dsimp only at *; omega) | (simp at *; omega)))) (by assumption)).symm.trans heq; rw [← e2] at H; exact H hA3)
    · refine xr_end rfl ?_
      refine th_n ?_
      refine xc_false rfl ?_
      refine xc_skip ?_
      refine th_n ?_
      refine xc_join (σ := Nat × Array Card) (fun q => q.1 = pl1 wb l1 ∧ q.2 = pq1 wb d1 a1 b1 ∧ Arr N p q.2) (fun q => ((((((((emp.put (some 0) (.slice (some ⟨bb, 0, none⟩) N cap)).put (some 1) (I a1)).put (some 2) (I b1)).put (some 3) (I q.1)).put (some 4) (f)).put (some 10) (.bool wb)).put (some 11) (.bool wp)).put (some 12) (I ((b1 : Int) - a1)))) (fun q => ((bb, .cells ⟨(q.2).toList.flatMap eCard ++ sp⟩ 78) :: L)) ?_ ?_
      · refine xc_seq (xc_region ?_)
        cases wb
        · refine xr_op rfl rfl (xv_move rfl ?_)
          refine xr_op rfl rfl (xv_not rfl ?_)
          refine xr_end rfl ?_
          refine th_n ?_
          refine xc_true rfl ?_
          refine xc_seq (xc_region ?_)
          refine xr_op rfl rfl (xv_move rfl ?_)
          refine xr_op rfl rfl (xv_move rfl ?_)
          refine xr_op rfl rfl (xv_move rfl ?_)
          refine xr_op rfl rfl (xv_move rfl ?_)
          refine xr_op rfl rfl (xv_calls rfl hb63 (brk_c (cm := cm) (a := a1) (b := b1) hA1 hN rfl rfl (by (first | omega | (dsimp only at *; omega) | (simp at *; omega))) (by (first | omega | (dsimp only at *; omega) | (simp at *; omega))) (fun hA2 => up_ret ?_)))
          refine xr_end rfl ?_
          refine th_n ?_
          refine xc_region ?_
          refine xr_op rfl rfl (xv_move rfl ?_)
          refine xr_op rfl rfl (xv_sub rfl rfl (wrap_i64 (by (first | omega | (dsimp only at *; omega) | (simp at *; omega))) (by (first | omega | (dsimp only at *; omega) | (simp at *; omega)))) ?_)
          refine xr_op rfl rfl (xv_assign rfl ?_)
          refine xr_end rfl ?_
          exact jn_n ((l1 - 1, Go.Sort.breakPatterns d1 a1 b1) : Nat × Array Card) ⟨rfl, rfl, hA2⟩ (le_put (le_put (le_put (le_put (le_put (le_put (le_put (le_put (le_emp _) rfl) rfl) rfl) (by first | rfl | (dsimp only; rw [show ((l1 - 1 : Nat) : Int) = (l1 : Int) - 1 by (first | omega | (dsimp only at *; omega) | (simp at *; omega))]; rfl))) rfl) rfl) rfl) rfl) (by (first|((repeat first|exact s_0|exact s_1|exact s_3|refine s_4 ?_|refine s_5 ?_|refine s_6 ?_|refine s_7 ?_);done)|((repeat first|exact s_0|exact s_1|exact s_3|refine s_4 ?_|refine s_5 ?_|refine s_6 ?_|refine s_8 ?_);done)))
        · refine xr_op rfl rfl (xv_move rfl ?_)
          refine xr_op rfl rfl (xv_not rfl ?_)
          refine xr_end rfl ?_
          refine th_n ?_
          refine xc_false rfl ?_
          refine xc_skip ?_
          exact jn_n ((l1, d1) : Nat × Array Card) ⟨rfl, rfl, hA1⟩ (le_put (le_put (le_put (le_put (le_put (le_put (le_put (le_put (le_emp _) rfl) rfl) rfl) (by first | rfl | (dsimp only; rw [show ((l1 - 1 : Nat) : Int) = (l1 : Int) - 1 by (first | omega | (dsimp only at *; omega) | (simp at *; omega))]; rfl))) rfl) rfl) rfl) rfl) (by (first|((repeat first|exact s_0|exact s_1|exact s_3|refine s_4 ?_|refine s_5 ?_|refine s_6 ?_|refine s_7 ?_);done)|((repeat first|exact s_0|exact s_1|exact s_3|refine s_4 ?_|refine s_5 ?_|refine s_6 ?_|refine s_8 ?_);done)))
      · rintro ⟨l2, d2⟩ ⟨hl2, hd2, hA2⟩
        dsimp only at hl2 hd2 hA2
        have hl2b : l2 ≤ l1 := by rw [hl2]; unfold pl1; split <;> omega
        refine xc_seq (xc_region ?_)
        refine xr_op rfl rfl (xv_move rfl ?_)
        refine xr_op rfl rfl (xv_move rfl ?_)
        refine xr_op rfl rfl (xv_move rfl ?_)
        refine xr_op rfl rfl (xv_move rfl ?_)
        refine xr_op rfl rfl (xv_calls rfl hb64 (choose_c (a := a1) (b := b1) hA2 hN hf rfl rfl (by (first | omega | (dsimp only at *; omega) | (simp at *; omega))) (by (first | omega | (dsimp only at *; omega) | (simp at *; omega))) (up_ret ?_)))
        refine xr_op rfl rfl (xv_move rfl ?_)
        refine xr_op rfl rfl (xv_extract rfl rfl ?_)
        refine xr_op rfl rfl (xv_extract rfl rfl ?_)
        refine xr_op rfl rfl (xv_assign rfl ?_)
        refine xr_op rfl rfl (xv_assign rfl ?_)
        refine xr_end rfl ?_
        refine th_n ?_
        refine xc_join (σ := Nat × Go.Sort.Hint × Array Card) (fun q => q.1 = pv2 (ltc cm) d2 a1 b1 ∧ q.2.1 = ph2 (ltc cm) d2 a1 b1 ∧ q.2.2 = pq2 (ltc cm) d2 a1 b1 ∧ Arr N p q.2.2 ∧ a1 ≤ q.1 ∧ q.1 < b1) (fun q => ((((((((((emp.put (some 0) (.slice (some ⟨bb, 0, none⟩) N cap)).put (some 1) (I a1)).put (some 2) (I b1)).put (some 3) (I l2)).put (some 4) (f)).put (some 10) (.bool wb)).put (some 11) (.bool wp)).put (some 12) (I ((b1 : Int) - a1))).put (some 13) (I q.1)).put (some 14) (I (hintI q.2.1)))) (fun q => ((bb, .cells ⟨(q.2.2).toList.flatMap eCard ++ sp⟩ 78) :: L)) ?_ ?_
        · refine xc_seq (xc_region ?_)
          have hcb := Go.Sort.choosePivot_holds (ltc cm) d2 a1 b1 (by (first | omega | (dsimp only at *; omega) | (simp at *; omega)))
          refine xr_op rfl rfl (xv_move rfl ?_)
          refine xr_op rfl rfl (xv_eql2 rfl rfl (fun q3 => ?_) (fun q3 => ?_))
          · refine xr_end rfl ?_
            refine th_n ?_
            refine xc_true rfl ?_
            refine xc_seq (xc_region ?_)
            refine xr_op rfl rfl (xv_move rfl ?_)
            refine xr_op rfl rfl (xv_move rfl ?_)
            refine xr_op rfl rfl (xv_move rfl ?_)
            refine xr_op rfl rfl (xv_move rfl ?_)
            refine xr_op rfl rfl (xv_calls rfl hb65 (rev_c (cm := cm) (a := a1) (b := b1) hA2 hN rfl rfl (by (first | omega | (dsimp only at *; omega) | (simp at *; omega))) (by (first | omega | (dsimp only at *; omega) | (simp at *; omega))) (fun hA3 => up_ret ?_)))
            refine xr_end rfl ?_
            refine th_n ?_
            refine xc_seq (xc_region ?_)
            refine xr_op rfl rfl (xv_move rfl ?_)
            refine xr_op rfl rfl (xv_sub rfl rfl (wrap_i64 (by (first | omega | (dsimp only at *; omega) | (simp at *; omega))) (by (first | omega | (dsimp only at *; omega) | (simp at *; omega)))) ?_)
            refine xr_op rfl rfl (xv_move rfl ?_)
            refine xr_op rfl rfl (xv_move rfl ?_)
            refine xr_op rfl rfl (xv_sub rfl rfl (wrap_i64 (by (first | omega | (dsimp only at *; omega) | (simp at *; omega))) (by (first | omega | (dsimp only at *; omega) | (simp at *; omega)))) ?_)
            refine xr_op rfl rfl (xv_sub rfl rfl (wrap_i64 (by (first | omega | (dsimp only at *; omega) | (simp at *; omega))) (by (first | omega | (dsimp only at *; omega) | (simp at *; omega)))) ?_)
            refine xr_op rfl rfl (xv_assign rfl ?_)
            refine xr_end rfl ?_
            refine th_n ?_
            refine xc_region ?_
            refine xr_op rfl rfl (xv_assign rfl ?_)
            refine xr_end rfl ?_
            have hdec := hintI_2.1 (show hintI (Go.Sort.choosePivot (ltc cm) d2 a1 b1).2 = 2 by (first | omega | (dsimp only at *; omega) | (simp at *; omega)))
            exact jn_n (((b1 - 1) - ((Go.Sort.choosePivot (ltc cm) d2 a1 b1).1 - a1), .increasing, Go.Sort.reverseRange d2 a1 b1) : Nat × Go.Sort.Hint × Array Card) ⟨(if_pos hdec).symm, (if_pos hdec).symm, (if_pos hdec).symm, hA3, by (first | omega | (dsimp only at *; omega) | (simp at *; omega)), by (first | omega | (dsimp only at *; omega) | (simp at *; omega))⟩ (le_put (le_put (le_put (le_put (le_put (le_put (le_put (le_put (le_put (le_put (le_emp _) rfl) rfl) rfl) rfl) rfl) rfl) rfl) rfl) (by first | rfl | (dsimp only; rw [show (((b1 - 1) - ((Go.Sort.choosePivot (ltc cm) d2 a1 b1).1 - a1) : Nat) : Int) = (b1 : Int) - 1 - (((Go.Sort.choosePivot (ltc cm) d2 a1 b1).1 : Nat) - (a1 : Int)) by (first | omega | (dsimp only at *; omega) | (simp at *; omega))]; rfl))) rfl) (by (first|((repeat first|exact s_0|exact s_1|exact s_3|refine s_4 ?_|refine s_5 ?_|refine s_6 ?_|refine s_7 ?_);done)|((repeat first|exact s_0|exact s_1|exact s_3|refine s_4 ?_|refine s_5 ?_|refine s_6 ?_|refine s_8 ?_);done)))
          · refine xr_end rfl ?_
            refine th_n ?_
            refine xc_false rfl ?_
            refine xc_skip ?_
            have hdec : ¬ (Go.Sort.choosePivot (ltc cm) d2 a1 b1).2 = .decreasing := fun hq9 => absurd (hintI_2.2 hq9) (by (first | omega | (dsimp only at *; omega) | (simp at *; omega)))
            exact jn_n (((Go.Sort.choosePivot (ltc cm) d2 a1 b1).1, (Go.Sort.choosePivot (ltc cm) d2 a1 b1).2, d2) : Nat × Go.Sort.Hint × Array Card) ⟨(if_neg hdec).symm, (if_neg hdec).symm, (if_neg hdec).symm, hA2, hcb.1, hcb.2⟩ (le_put (le_put (le_put (le_put (le_put (le_put (le_put (le_put (le_put (le_put (le_emp _) rfl) rfl) rfl) rfl) rfl) rfl) rfl) rfl) (by first | rfl | (dsimp only; rw [show (((b1 - 1) - ((Go.Sort.choosePivot (ltc cm) d2 a1 b1).1 - a1) : Nat) : Int) = (b1 : Int) - 1 - (((Go.Sort.choosePivot (ltc cm) d2 a1 b1).1 : Nat) - (a1 : Int)) by (first | omega | (dsimp only at *; omega) | (simp at *; omega))]; rfl))) rfl) (by (first|((repeat first|exact s_0|exact s_1|exact s_3|refine s_4 ?_|refine s_5 ?_|refine s_6 ?_|refine s_7 ?_);done)|((repeat first|exact s_0|exact s_1|exact s_3|refine s_4 ?_|refine s_5 ?_|refine s_6 ?_|refine s_8 ?_);done)))
        · rintro ⟨pv, hint, d3⟩ ⟨hpv, hph, hd3, hA3, hpa, hpb⟩
          dsimp only at hpv hph hd3 hA3 hpa hpb
          refine xc_join (σ := Unit) (fun _ => ¬ (wb = true ∧ wp = true ∧ hint = .increasing ∧ (Go.Sort.partialInsertionSort (ltc cm) d3 a1 b1).2 = true)) (fun _ => ((((((((((emp.put (some 0) (.slice (some ⟨bb, 0, none⟩) N cap)).put (some 1) (I a1)).put (some 2) (I b1)).put (some 3) (I l2)).put (some 4) (f)).put (some 10) (.bool wb)).put (some 11) (.bool wp)).put (some 12) (I ((b1 : Int) - a1))).put (some 13) (I pv)).put (some 14) (I (hintI hint)))) (fun _ => ((bb, .cells ⟨(d3).toList.flatMap eCard ++ sp⟩ 78) :: L)) ?_ ?_
          · refine xc_seq (xc_region ?_)
            cases wb <;> cases wp
            · refine xr_op rfl rfl (xv_move rfl ?_)
              refine xr_op rfl rfl (xv_move rfl ?_)
              refine xr_no rfl rfl rfl rfl ?_
              refine xr_op rfl rfl (xv_pick rfl rfl ?_)
              refine xr_op rfl rfl (xv_move rfl ?_)
              refine xr_no rfl rfl rfl rfl ?_
              refine xr_no rfl rfl rfl rfl ?_
              refine xr_op rfl rfl (xv_pick rfl rfl ?_)
              refine xr_end rfl ?_
              refine th_n ?_
              refine xc_false rfl ?_
              refine xc_skip ?_
              exact jn_n () (fun hq9 => by first | (exact absurd hq9.1 (by decide)) | (exact absurd hq9.2.1 (by decide)) | (exact absurd (hintI_1.2 hq9.2.2.1) (by (first | omega | (dsimp only at *; omega) | (simp at *; omega)))) | (have h9 : (Go.Sort.partialInsertionSort (ltc cm) d3 a1 b1).2 = false := (by assumption); rw [h9] at hq9; exact absurd hq9.2.2.2 (by decide))) (le_put (le_put (le_put (le_put (le_put (le_put (le_put (le_put (le_put (le_put (le_emp _) rfl) rfl) rfl) rfl) rfl) rfl) rfl) rfl) rfl) rfl) (by (first|((repeat first|exact s_0|exact s_1|exact s_3|refine s_4 ?_|refine s_5 ?_|refine s_6 ?_|refine s_7 ?_);done)|((repeat first|exact s_0|exact s_1|exact s_3|refine s_4 ?_|refine s_5 ?_|refine s_6 ?_|refine s_8 ?_);done)))
            · refine xr_op rfl rfl (xv_move rfl ?_)
              refine xr_op rfl rfl (xv_move rfl ?_)
              refine xr_no rfl rfl rfl rfl ?_
              refine xr_op rfl rfl (xv_pick rfl rfl ?_)
              refine xr_op rfl rfl (xv_move rfl ?_)
              refine xr_no rfl rfl rfl rfl ?_
              refine xr_no rfl rfl rfl rfl ?_
              refine xr_op rfl rfl (xv_pick rfl rfl ?_)
              refine xr_end rfl ?_
              refine th_n ?_
              refine xc_false rfl ?_
              refine xc_skip ?_
              exact jn_n () (fun hq9 => by first | (exact absurd hq9.1 (by decide)) | (exact absurd hq9.2.1 (by decide)) | (exact absurd (hintI_1.2 hq9.2.2.1) (by (first | omega | (dsimp only at *; omega) | (simp at *; omega)))) | (have h9 : (Go.Sort.partialInsertionSort (ltc cm) d3 a1 b1).2 = false := (by assumption); rw [h9] at hq9; exact absurd hq9.2.2.2 (by decide))) (le_put (le_put (le_put (le_put (le_put (le_put (le_put (le_put (le_put (le_put (le_emp _) rfl) rfl) rfl) rfl) rfl) rfl) rfl) rfl) rfl) rfl) (by (first|((repeat first|exact s_0|exact s_1|exact s_3|refine s_4 ?_|refine s_5 ?_|refine s_6 ?_|refine s_7 ?_);done)|((repeat first|exact s_0|exact s_1|exact s_3|refine s_4 ?_|refine s_5 ?_|refine s_6 ?_|refine s_8 ?_);done)))
            · refine xr_op rfl rfl (xv_move rfl ?_)
              refine xr_op rfl rfl (xv_move rfl ?_)
              refine xr_gd rfl rfl rfl (xv_move rfl ?_)
              refine xr_op rfl rfl (xv_pick rfl rfl ?_)
              refine xr_op rfl rfl (xv_move rfl ?_)
              refine xr_no rfl rfl rfl rfl ?_
              refine xr_no rfl rfl rfl rfl ?_
              refine xr_op rfl rfl (xv_pick rfl rfl ?_)
              refine xr_end rfl ?_
              refine th_n ?_
              refine xc_false rfl ?_
              refine xc_skip ?_
              exact jn_n () (fun hq9 => by first | (exact absurd hq9.1 (by decide)) | (exact absurd hq9.2.1 (by decide)) | (exact absurd (hintI_1.2 hq9.2.2.1) (by (first | omega | (dsimp only at *; omega) | (simp at *; omega)))) | (have h9 : (Go.Sort.partialInsertionSort (ltc cm) d3 a1 b1).2 = false := (by assumption); rw [h9] at hq9; exact absurd hq9.2.2.2 (by decide))) (le_put (le_put (le_put (le_put (le_put (le_put (le_put (le_put (le_put (le_put (le_emp _) rfl) rfl) rfl) rfl) rfl) rfl) rfl) rfl) rfl) rfl) (by (first|((repeat first|exact s_0|exact s_1|exact s_3|refine s_4 ?_|refine s_5 ?_|refine s_6 ?_|refine s_7 ?_);done)|((repeat first|exact s_0|exact s_1|exact s_3|refine s_4 ?_|refine s_5 ?_|refine s_6 ?_|refine s_8 ?_);done)))
            · refine xr_op rfl rfl (xv_move rfl ?_)
              refine xr_op rfl rfl (xv_move rfl ?_)
              refine xr_gd rfl rfl rfl (xv_move rfl ?_)
              refine xr_op rfl rfl (xv_pick rfl rfl ?_)
              refine xr_op rfl rfl (xv_move rfl ?_)
              refine xr_gd rfl rfl rfl (xv_move rfl ?_)
              refine xr_gd rfl rfl rfl (xv_eql2 rfl rfl (fun q4 => ?_) (fun q4 => ?_))
              · refine xr_op rfl rfl (xv_pick rfl rfl ?_)
                refine xr_end rfl ?_
                refine th_n ?_
                refine xc_true rfl ?_
                refine xc_seq (xc_region ?_)
                refine xr_op rfl rfl (xv_move rfl ?_)
                refine xr_op rfl rfl (xv_move rfl ?_)
                refine xr_op rfl rfl (xv_move rfl ?_)
                refine xr_op rfl rfl (xv_move rfl ?_)
                refine xr_op rfl rfl (xv_calls rfl hb66 (partial_c (a := a1) (b := b1) hA3 hN hf rfl rfl (by (first | omega | (dsimp only at *; omega) | (simp at *; omega))) (by (first | omega | (dsimp only at *; omega) | (simp at *; omega))) (up_ret ?_)))
                refine xr_end rfl ?_
                refine th_n ?_
                refine xc_bool rfl (fun q5 => ?_) (fun q5 => ?_)
                · refine xc_ret ?_
                  refine jn_r ?_
                  refine bk_r ?_
                  refine th_r ?_
                  refine bk_r ?_
                  refine body_ret (h' := ((bb, .cells ⟨(d3).toList.flatMap eCard ++ sp⟩ 78) :: L)) rfl ro_nil (by (first|((repeat first|exact s_0|exact s_1|exact s_3|refine s_4 ?_|refine s_5 ?_|refine s_6 ?_|refine s_7 ?_);done)|((repeat first|exact s_0|exact s_1|exact s_3|refine s_4 ?_|refine s_5 ?_|refine s_6 ?_|refine s_8 ?_);done))) ?_
                  first | (have e := (pdq_ins (by (first | omega | (dsimp only at *; omega) | (simp at *; omega)))).symm.trans heq; rw [← e] at H; exact H hA2) | (have e := (pdq_heap (by (first | omega | (dsimp only at *; omega) | (simp at *; omega))) (by (first | omega | (dsimp only at *; omega) | (simp at *; omega)))).symm.trans heq; rw [← e] at H; exact H hA2) | (have e := pdq_pi (lt := ltc cm) (d := d1) (a := a1) (b := b1) (limit := l1) (wb := true) (wp := true) (by (first | omega | (dsimp only at *; omega) | (simp at *; omega))) (by (first | omega | (dsimp only at *; omega) | (simp at *; omega))) (by (first | omega | (dsimp only at *; omega) | (simp at *; omega))) rfl rfl; rw [← hd2] at e; rw [← hd3, ← hph] at e; have e2 := (e (hintI_1.1 (by (first | omega | (dsimp only at *; omega) | (simp at *; omega)))) (by assumption)).symm.trans heq; rw [← e2] at H; exact H hA3)
                · refine xc_skip ?_
                  exact jn_n () (fun hq9 => by first | (exact absurd hq9.1 (by decide)) | (exact absurd hq9.2.1 (by decide)) | (exact absurd (hintI_1.2 hq9.2.2.1) (by (first | omega | (dsimp only at *; omega) | (simp at *; omega)))) | (have h9 : (Go.Sort.partialInsertionSort (ltc cm) d3 a1 b1).2 = false := (by assumption); rw [h9] at hq9; exact absurd hq9.2.2.2 (by decide))) (le_put (le_put (le_put (le_put (le_put (le_put (le_put (le_put (le_put (le_put (le_emp _) rfl) rfl) rfl) rfl) rfl) rfl) rfl) rfl) rfl) rfl) (by (first|((repeat first|exact s_0|exact s_1|exact s_3|refine s_4 ?_|refine s_5 ?_|refine s_6 ?_|refine s_7 ?_);done)|((repeat first|exact s_0|exact s_1|exact s_3|refine s_4 ?_|refine s_5 ?_|refine s_6 ?_|refine s_8 ?_);done)))
              · refine xr_op rfl rfl (xv_pick rfl rfl ?_)
                refine xr_end rfl ?_
                refine th_n ?_
                refine xc_false rfl ?_
                refine xc_skip ?_
                exact jn_n () (fun hq9 => by first | (exact absurd hq9.1 (by decide)) | (exact absurd hq9.2.1 (by decide)) | (exact absurd (hintI_1.2 hq9.2.2.1) (by (first | omega | (dsimp only at *; omega) | (simp at *; omega)))) | (have h9 : (Go.Sort.partialInsertionSort (ltc cm) d3 a1 b1).2 = false := (by assumption); rw [h9] at hq9; exact absurd hq9.2.2.2 (by decide))) (le_put (le_put (le_put (le_put (le_put (le_put (le_put (le_put (le_put (le_put (le_emp _) rfl) rfl) rfl) rfl) rfl) rfl) rfl) rfl) rfl) rfl) (by (first|((repeat first|exact s_0|exact s_1|exact s_3|refine s_4 ?_|refine s_5 ?_|refine s_6 ?_|refine s_7 ?_);done)|((repeat first|exact s_0|exact s_1|exact s_3|refine s_4 ?_|refine s_5 ?_|refine s_6 ?_|refine s_8 ?_);done)))
          · rintro ⟨⟩ hno
            refine xc_seq ?_
            refine xc_seq ?_
            refine xc_draw0 [(0, .S), (1, .O), (2, .S), (3, .S), (4, .S), (5, .S), (6, .S), (7, .S), (8, .R), (9, .S), (10, .S), (11, .S), (12, .R), (13, .R), (14, .O), (15, .S), (16, .S)] mixed (by kernel_rfl) ?_
            refine js_S rfl rfl (.inl rfl) (xv_move rfl ⟨rfl, rfl⟩) ?_
            refine js_O0 rfl rfl (.inl rfl) (xv_gtr2 rfl rfl (fun hq => ?_) (fun hq => ?_))
            · refine js_S rfl rfl (.inl rfl) (xv_move rfl ⟨rfl, rfl⟩) ?_
              refine js_S rfl rfl (.inr ⟨_, _, rfl, rfl⟩) (xv_move rfl ⟨rfl, rfl⟩) ?_
              refine js_S rfl rfl (.inr ⟨_, _, rfl, rfl⟩) (xv_move rfl ⟨rfl, rfl⟩) ?_
              refine js_S rfl rfl (.inr ⟨_, _, rfl, rfl⟩) (xv_move rfl ⟨rfl, rfl⟩) ?_
              refine js_S rfl rfl (.inr ⟨_, _, rfl, rfl⟩) (xv_sub rfl rfl (wrap_i64 (by (first | omega | (dsimp only at *; omega) | (simp at *; omega))) (by (first | omega | (dsimp only at *; omega) | (simp at *; omega)))) ⟨rfl, rfl⟩) ?_
              refine js_S rfl rfl (.inr ⟨_, _, rfl, rfl⟩) (xv_ia (sz := 3) (j := (a1 - 1)) sl72 ty78 rfl rfl rfl (by (first | omega | (dsimp only at *; omega) | (simp at *; omega))) (by (first | omega | (dsimp only at *; omega) | (simp at *; omega))) (by (first | omega | (dsimp only at *; omega) | (simp at *; omega))) ⟨rfl, rfl⟩) ?_
              refine js_R0 rfl rfl (.inr ⟨_, _, rfl, rfl⟩) (xv_loadA ty78 rfl rfl (by ((repeat first|exact z_0|assumption|refine z_1 ?_|(refine z_l ?_;(repeat first|exact z_0|assumption|refine z_1 ?_);done)|refine z_r ?_);done)) (ca_get eCard_len (k := (a1 - 1)) (by rw [hA3.size]; (first | omega | (dsimp only at *; omega) | (simp at *; omega)))) rfl ⟨rfl, rfl⟩) ?_
              refine js_S rfl rfl (.inr ⟨_, _, rfl, rfl⟩) (xv_move rfl ⟨rfl, rfl⟩) ?_
              refine js_S rfl rfl (.inr ⟨_, _, rfl, rfl⟩) (xv_move rfl ⟨rfl, rfl⟩) ?_
              refine js_S rfl rfl (.inr ⟨_, _, rfl, rfl⟩) (xv_ia (sz := 3) (j := pv) sl72 ty78 rfl rfl rfl (by (first | omega | (dsimp only at *; omega) | (simp at *; omega))) (by (first | omega | (dsimp only at *; omega) | (simp at *; omega))) (by (first | omega | (dsimp only at *; omega) | (simp at *; omega))) ⟨rfl, rfl⟩) ?_
              refine js_R0 rfl rfl (.inr ⟨_, _, rfl, rfl⟩) (xv_loadA ty78 rfl rfl (by ((repeat first|exact z_0|assumption|refine z_1 ?_|(refine z_l ?_;(repeat first|exact z_0|assumption|refine z_1 ?_);done)|refine z_r ?_);done)) (ca_get eCard_len (k := pv) (by rw [hA3.size]; (first | omega | (dsimp only at *; omega) | (simp at *; omega)))) rfl ⟨rfl, rfl⟩) ?_
              refine js_R0 rfl rfl (.inr ⟨_, _, rfl, rfl⟩) (xv_fn rfl rfl (hf _ _ (hA3.all _ (by (first | omega | (dsimp only at *; omega) | (simp at *; omega)))) (hA3.all _ (by (first | omega | (dsimp only at *; omega) | (simp at *; omega)))) _ _ (by intro z hz; ((repeat first|exact z_0|assumption|refine z_1 ?_|(refine z_l ?_;(repeat first|exact z_0|assumption|refine z_1 ?_);done)|refine z_r ?_);done)) (up_ret ⟨rfl, rfl⟩))) ?_
              refine js_O0 rfl rfl (.inr ⟨_, _, rfl, rfl⟩) (xv_lss2 rfl rfl (fun hq => ?_) (fun hq => ?_))
              · refine js_S rfl rfl (.inr ⟨_, _, rfl, rfl⟩) (xv_not rfl ⟨rfl, rfl⟩) ?_
                refine js_S rfl rfl (.inl rfl) (xv_pick rfl rfl ⟨rfl, rfl⟩) ?_
                refine j_end0 ?_
                refine th_n ?_
                refine xc_false rfl ?_
                refine xc_skip ?_
                refine th_n ?_
                refine xc_seq (xc_region ?_)
                have hnl : ¬ (0 < a1 ∧ ltc cm d3[a1 - 1]! d3[pv]! = false) := by first | exact (fun hq9 => absurd hq9.1 (by (first | omega | (dsimp only at *; omega) | (simp at *; omega)))) | exact (fun hq9 => by rw [ltc_T (by (first | omega | (dsimp only at *; omega) | (simp at *; omega)))] at hq9; exact absurd hq9.2 (by decide))
                refine xr_op rfl rfl (xv_move rfl ?_)
                refine xr_op rfl rfl (xv_move rfl ?_)
                refine xr_op rfl rfl (xv_move rfl ?_)
                refine xr_op rfl rfl (xv_move rfl ?_)
                refine xr_op rfl rfl (xv_move rfl ?_)
                refine xr_op rfl rfl (xv_calls rfl hb68 (part_c (a := a1) (b := b1) (pivot := pv) hA3 hN hf rfl rfl rfl (by (first | omega | (dsimp only at *; omega) | (simp at *; omega))) (by (first | omega | (dsimp only at *; omega) | (simp at *; omega))) (by (first | omega | (dsimp only at *; omega) | (simp at *; omega))) (fun hm1 hm2 hA4 => up_ret ?_)))
                refine xr_op rfl rfl (xv_move rfl ?_)
                refine xr_op rfl rfl (xv_extract rfl rfl ?_)
                refine xr_op rfl rfl (xv_extract rfl rfl ?_)
                refine xr_op rfl rfl (xv_assign rfl ?_)
                refine xr_op rfl rfl (xv_assign rfl ?_)
                refine xr_end rfl ?_
                refine th_n ?_
                refine xc_seq (xc_region ?_)
                refine xr_op rfl rfl (xv_move rfl ?_)
                refine xr_op rfl rfl (xv_assign rfl ?_)
                refine xr_end rfl ?_
                refine th_n ?_
                refine xc_seq (xc_region ?_)
                refine xr_op rfl rfl (xv_move rfl ?_)
                refine xr_op rfl rfl (xv_move rfl ?_)
                refine xr_op rfl rfl (xv_sub rfl rfl (wrap_i64 (by (first | omega | (dsimp only at *; omega) | (simp at *; omega))) (by (first | omega | (dsimp only at *; omega) | (simp at *; omega)))) ?_)
                refine xr_op rfl rfl (xv_move rfl ?_)
                refine xr_op rfl rfl (xv_move rfl ?_)
                refine xr_op rfl rfl (xv_sub rfl rfl (wrap_i64 (by (first | omega | (dsimp only at *; omega) | (simp at *; omega))) (by (first | omega | (dsimp only at *; omega) | (simp at *; omega)))) ?_)
                refine xr_op rfl rfl (xv_assign rfl ?_)
                refine xr_op rfl rfl (xv_assign rfl ?_)
                refine xr_end rfl ?_
                refine th_n ?_
                refine xc_seq (xc_region ?_)
                refine xr_op rfl rfl (xv_move rfl ?_)
                refine xr_op rfl rfl (xv_quo (c := (((b1 - a1) / 8 : Nat) : Int)) rfl rfl (by omega) (by have e : ((b1 : Int) - (a1 : Int)).tdiv 8 = (((b1 - a1) / 8 : Nat) : Int) := quo_nat (n := b1 - a1) (k := 8) (by omega); rw [e]; exact wrap_i64 (by omega) (by omega)) ?_)
                refine xr_op rfl rfl (xv_assign rfl ?_)
                refine xr_end rfl ?_
                refine th_n ?_
                refine xc_seq (xc_region ?_)
                refine xr_op rfl rfl (xv_move rfl ?_)
                refine xr_op rfl rfl (xv_move rfl ?_)
                refine xr_op rfl rfl (xv_lss2 rfl rfl (fun q6 => ?_) (fun q6 => ?_))
                · refine xr_end rfl ?_
                  refine th_n ?_
                  refine xc_true rfl ?_
                  refine xc_seq (xc_region ?_)
                  refine xr_op rfl rfl (xv_move rfl ?_)
                  refine xr_op rfl rfl (xv_move rfl ?_)
                  refine xr_op rfl rfl (xv_cmpK (c := decide ((Go.Sort.partition (ltc cm) d3 a1 b1 pv).1 - a1 ≥ (b1 - a1) / 8)) rfl rfl (by by_cases h9 : (Go.Sort.partition (ltc cm) d3 a1 b1 pv).1 - a1 ≥ (b1 - a1) / 8; (rw [decide_eq_true h9]; exact cmpT (by simp only [cmpP]; omega)); (rw [decide_eq_false h9]; exact cmpF rfl (by simp only [cmpP]; omega))) ?_)
                  refine xr_op rfl rfl (xv_assign rfl ?_)
                  refine xr_end rfl ?_
                  refine th_n ?_
                  refine xc_seq (xc_region ?_)
                  refine xr_op rfl rfl (xv_move rfl ?_)
                  refine xr_op rfl rfl (xv_move rfl ?_)
                  refine xr_op rfl rfl (xv_move rfl ?_)
                  refine xr_op rfl rfl (xv_move rfl ?_)
                  refine xr_op rfl rfl (xv_move rfl ?_)
                  refine xr_op rfl rfl (xv_calls rfl hb56 (ih ((Go.Sort.partition (ltc cm) d3 a1 b1 pv).1 - a1) (by (first | omega | (dsimp only at *; omega) | (simp at *; omega))) hA4 hN hf rfl rfl rfl (by (first | omega | (dsimp only at *; omega) | (simp at *; omega))) (by (first | omega | (dsimp only at *; omega) | (simp at *; omega))) (Nat.le_refl _) (by (first | omega | (dsimp only at *; omega) | (simp at *; omega))) (fun hA5 => up_ret ?_)))
                  refine xr_end rfl ?_
                  refine th_n ?_
                  refine xc_region ?_
                  refine xr_op rfl rfl (xv_move rfl ?_)
                  refine xr_op rfl rfl (xv_add rfl rfl (wrap_i64 (by (first | omega | (dsimp only at *; omega) | (simp at *; omega))) (by (first | omega | (dsimp only at *; omega) | (simp at *; omega)))) ?_)
                  refine xr_op rfl rfl (xv_assign rfl ?_)
                  refine xr_end rfl ?_
                  refine bk_n ?_
                  exact rnd (⟨(Go.Sort.partition (ltc cm) d3 a1 b1 pv).1 + 1, b1, l2, decide ((Go.Sort.partition (ltc cm) d3 a1 b1 pv).1 - a1 ≥ (b1 - a1) / 8), (Go.Sort.partition (ltc cm) d3 a1 b1 pv).2.1, Go.Sort.pdq (ltc cm) (Go.Sort.partition (ltc cm) d3 a1 b1 pv).2.2 a1 (Go.Sort.partition (ltc cm) d3 a1 b1 pv).1 l2 true true⟩ : PdqS Card) ⟨by (first | omega | (dsimp only at *; omega) | (simp at *; omega)), by (first | omega | (dsimp only at *; omega) | (simp at *; omega)), by (first | omega | (dsimp only at *; omega) | (simp at *; omega)), by (first | omega | (dsimp only at *; omega) | (simp at *; omega)), hA5, by
                    have e := pdq_part (mid := (Go.Sort.partition (ltc cm) d3 a1 b1 pv).1) (ap := (Go.Sort.partition (ltc cm) d3 a1 b1 pv).2.1) (d4 := (Go.Sort.partition (ltc cm) d3 a1 b1 pv).2.2) (lt := ltc cm) (d := d1) (a := a1) (b := b1) (limit := l1) (wb := wb) (wp := wp) (by (first | omega | (dsimp only at *; omega) | (simp at *; omega))) (by (first | omega | (dsimp only at *; omega) | (simp at *; omega))) (by (first | omega | (dsimp only at *; omega) | (simp at *; omega))); rw [← hd2] at e; rw [← hd3, ← hph] at e; rw [← hpv, ← hl2] at e
                    have e2 := e hno hnl rfl hm1 hm2
                    rw [if_pos (by (first | omega | (dsimp only at *; omega) | (simp at *; omega)))] at e2
                    exact e2.symm.trans heq⟩ (by (first | omega | (dsimp only at *; omega) | (simp at *; omega))) (le_put (le_put (le_put (le_put (le_put (le_put (le_put (le_emp _) rfl) (by first | rfl | (dsimp only; rw [show (((Go.Sort.partition (ltc cm) d3 a1 b1 pv).1 + 1 : Nat) : Int) = (((Go.Sort.partition (ltc cm) d3 a1 b1 pv).1 : Nat) : Int) + 1 by omega]; rfl))) rfl) rfl) rfl) rfl) rfl) (by (first|((repeat first|exact s_0|exact s_1|exact s_3|refine s_4 ?_|refine s_5 ?_|refine s_6 ?_|refine s_7 ?_);done)|((repeat first|exact s_0|exact s_1|exact s_3|refine s_4 ?_|refine s_5 ?_|refine s_6 ?_|refine s_8 ?_);done)))
                · refine xr_end rfl ?_
                  refine th_n ?_
                  refine xc_false rfl ?_
                  refine xc_seq (xc_region ?_)
                  refine xr_op rfl rfl (xv_move rfl ?_)
                  refine xr_op rfl rfl (xv_move rfl ?_)
                  refine xr_op rfl rfl (xv_cmpK (c := decide (b1 - (Go.Sort.partition (ltc cm) d3 a1 b1 pv).1 ≥ (b1 - a1) / 8)) rfl rfl (by by_cases h9 : b1 - (Go.Sort.partition (ltc cm) d3 a1 b1 pv).1 ≥ (b1 - a1) / 8; (rw [decide_eq_true h9]; exact cmpT (by simp only [cmpP]; omega)); (rw [decide_eq_false h9]; exact cmpF rfl (by simp only [cmpP]; omega))) ?_)
                  refine xr_op rfl rfl (xv_assign rfl ?_)
                  refine xr_end rfl ?_
                  refine th_n ?_
                  refine xc_seq (xc_region ?_)
                  refine xr_op rfl rfl (xv_move rfl ?_)
                  refine xr_op rfl rfl (xv_move rfl ?_)
                  refine xr_op rfl rfl (xv_add rfl rfl (wrap_i64 (by (first | omega | (dsimp only at *; omega) | (simp at *; omega))) (by (first | omega | (dsimp only at *; omega) | (simp at *; omega)))) ?_)
                  refine xr_op rfl rfl (xv_move rfl ?_)
                  refine xr_op rfl rfl (xv_move rfl ?_)
                  refine xr_op rfl rfl (xv_move rfl ?_)
                  refine xr_op rfl rfl (xv_calls rfl hb56 (ih (b1 - ((Go.Sort.partition (ltc cm) d3 a1 b1 pv).1 + 1)) (by (first | omega | (dsimp only at *; omega) | (simp at *; omega))) hA4 hN hf (show (((Go.Sort.partition (ltc cm) d3 a1 b1 pv).1 : Nat) : Int) + 1 = (((Go.Sort.partition (ltc cm) d3 a1 b1 pv).1 + 1 : Nat) : Int) by omega) rfl rfl (by (first | omega | (dsimp only at *; omega) | (simp at *; omega))) (by (first | omega | (dsimp only at *; omega) | (simp at *; omega))) (Nat.le_refl _) (by (first | omega | (dsimp only at *; omega) | (simp at *; omega))) (fun hA5 => up_ret ?_)))
                  refine xr_end rfl ?_
                  refine th_n ?_
                  refine xc_region ?_
                  refine xr_op rfl rfl (xv_move rfl ?_)
                  refine xr_op rfl rfl (xv_assign rfl ?_)
                  refine xr_end rfl ?_
                  refine bk_n ?_
                  exact rnd (⟨a1, (Go.Sort.partition (ltc cm) d3 a1 b1 pv).1, l2, decide (b1 - (Go.Sort.partition (ltc cm) d3 a1 b1 pv).1 ≥ (b1 - a1) / 8), (Go.Sort.partition (ltc cm) d3 a1 b1 pv).2.1, Go.Sort.pdq (ltc cm) (Go.Sort.partition (ltc cm) d3 a1 b1 pv).2.2 ((Go.Sort.partition (ltc cm) d3 a1 b1 pv).1 + 1) b1 l2 true true⟩ : PdqS Card) ⟨by (first | omega | (dsimp only at *; omega) | (simp at *; omega)), by (first | omega | (dsimp only at *; omega) | (simp at *; omega)), by (first | omega | (dsimp only at *; omega) | (simp at *; omega)), by (first | omega | (dsimp only at *; omega) | (simp at *; omega)), hA5, by
                    have e := pdq_part (mid := (Go.Sort.partition (ltc cm) d3 a1 b1 pv).1) (ap := (Go.Sort.partition (ltc cm) d3 a1 b1 pv).2.1) (d4 := (Go.Sort.partition (ltc cm) d3 a1 b1 pv).2.2) (lt := ltc cm) (d := d1) (a := a1) (b := b1) (limit := l1) (wb := wb) (wp := wp) (by (first | omega | (dsimp only at *; omega) | (simp at *; omega))) (by (first | omega | (dsimp only at *; omega) | (simp at *; omega))) (by (first | omega | (dsimp only at *; omega) | (simp at *; omega))); rw [← hd2] at e; rw [← hd3, ← hph] at e; rw [← hpv, ← hl2] at e
                    have e2 := e hno hnl rfl hm1 hm2
                    rw [if_neg (by (first | omega | (dsimp only at *; omega) | (simp at *; omega)))] at e2
                    exact e2.symm.trans heq⟩ (by (first | omega | (dsimp only at *; omega) | (simp at *; omega))) (le_put (le_put (le_put (le_put (le_put (le_put (le_put (le_emp _) rfl) (by first | rfl | (dsimp only; rw [show (((Go.Sort.partition (ltc cm) d3 a1 b1 pv).1 + 1 : Nat) : Int) = (((Go.Sort.partition (ltc cm) d3 a1 b1 pv).1 : Nat) : Int) + 1 by omega]; rfl))) rfl) rfl) rfl) rfl) rfl) (by (first|((repeat first|exact s_0|exact s_1|exact s_3|refine s_4 ?_|refine s_5 ?_|refine s_6 ?_|refine s_7 ?_);done)|((repeat first|exact s_0|exact s_1|exact s_3|refine s_4 ?_|refine s_5 ?_|refine s_6 ?_|refine s_8 ?_);done)))
              · refine js_S rfl rfl (.inr ⟨_, _, rfl, rfl⟩) (xv_not rfl ⟨rfl, rfl⟩) ?_
                refine js_S rfl rfl (.inl rfl) (xv_pick rfl rfl ⟨rfl, rfl⟩) ?_
                refine j_end0 ?_
                refine th_n ?_
                refine xc_true rfl ?_
                refine xc_seq (xc_region ?_)
                refine xr_op rfl rfl (xv_move rfl ?_)
                refine xr_op rfl rfl (xv_move rfl ?_)
                refine xr_op rfl rfl (xv_move rfl ?_)
                refine xr_op rfl rfl (xv_move rfl ?_)
                refine xr_op rfl rfl (xv_move rfl ?_)
                refine xr_op rfl rfl (xv_calls rfl hb67 (parteq_c (a := a1) (b := b1) (pivot := pv) hA3 hN hf rfl rfl rfl (by (first | omega | (dsimp only at *; omega) | (simp at *; omega))) (by (first | omega | (dsimp only at *; omega) | (simp at *; omega))) (by (first | omega | (dsimp only at *; omega) | (simp at *; omega))) (fun hm1 hm2 hA4 => up_ret ?_)))
                refine xr_op rfl rfl (xv_assign rfl ?_)
                refine xr_end rfl ?_
                refine th_n ?_
                refine xc_seq (xc_region ?_)
                refine xr_op rfl rfl (xv_move rfl ?_)
                refine xr_op rfl rfl (xv_assign rfl ?_)
                refine xr_end rfl ?_
                refine th_n ?_
                refine xc_exit ?_
                refine th_x ?_
                refine bk_same ?_
                exact rnd (⟨(Go.Sort.partitionEqual (ltc cm) d3 a1 b1 pv).1, b1, l2, wb, wp, (Go.Sort.partitionEqual (ltc cm) d3 a1 b1 pv).2⟩ : PdqS Card) ⟨by (first | omega | (dsimp only at *; omega) | (simp at *; omega)), by (first | omega | (dsimp only at *; omega) | (simp at *; omega)), by (first | omega | (dsimp only at *; omega) | (simp at *; omega)), by (first | omega | (dsimp only at *; omega) | (simp at *; omega)), hA4, by
                  have e := pdq_eq (pi := true) (mid := (Go.Sort.partitionEqual (ltc cm) d3 a1 b1 pv).1) (d4 := (Go.Sort.partitionEqual (ltc cm) d3 a1 b1 pv).2) (lt := ltc cm) (d := d1) (a := a1) (b := b1) (limit := l1) (wb := wb) (wp := wp) (by (first | omega | (dsimp only at *; omega) | (simp at *; omega))) (by (first | omega | (dsimp only at *; omega) | (simp at *; omega))) (by (first | omega | (dsimp only at *; omega) | (simp at *; omega))); rw [← hd2] at e; rw [← hd3, ← hph] at e; rw [← hpv, ← hl2] at e
                  exact (e hno (by (first | omega | (dsimp only at *; omega) | (simp at *; omega))) (ltc_F (by (first | omega | (dsimp only at *; omega) | (simp at *; omega)))) rfl hm1 hm2).symm.trans heq⟩ (by (first | omega | (dsimp only at *; omega) | (simp at *; omega))) (le_put (le_put (le_put (le_put (le_put (le_put (le_put (le_emp _) rfl) (by first | rfl | (dsimp only; rw [show (((Go.Sort.partition (ltc cm) d3 a1 b1 pv).1 + 1 : Nat) : Int) = (((Go.Sort.partition (ltc cm) d3 a1 b1 pv).1 : Nat) : Int) + 1 by omega]; rfl))) rfl) rfl) rfl) rfl) rfl) (by (first|((repeat first|exact s_0|exact s_1|exact s_3|refine s_4 ?_|refine s_5 ?_|refine s_6 ?_|refine s_7 ?_);done)|((repeat first|exact s_0|exact s_1|exact s_3|refine s_4 ?_|refine s_5 ?_|refine s_6 ?_|refine s_8 ?_);done)))
            · refine js_S rfl rfl (.inl rfl) (xv_move rfl ⟨rfl, rfl⟩) ?_
              refine js_Ss rfl rfl ⟨_, _, _, rfl, rfl, rfl⟩ ?_
              refine js_Ss rfl rfl ⟨_, _, _, rfl, rfl, rfl⟩ ?_
              refine js_Ss rfl rfl ⟨_, _, _, rfl, rfl, rfl⟩ ?_
              refine js_Ss rfl rfl ⟨_, _, _, rfl, rfl, rfl⟩ ?_
              refine js_Ss rfl rfl ⟨_, _, _, rfl, rfl, rfl⟩ ?_
              refine js_Rs rfl rfl ⟨_, _, _, rfl, rfl, rfl⟩ ?_
              refine js_Ss rfl rfl ⟨_, _, _, rfl, rfl, rfl⟩ ?_
              refine js_Ss rfl rfl ⟨_, _, _, rfl, rfl, rfl⟩ ?_
              refine js_Ss rfl rfl ⟨_, _, _, rfl, rfl, rfl⟩ ?_
              refine js_Rs rfl rfl ⟨_, _, _, rfl, rfl, rfl⟩ ?_
              refine js_Rs rfl rfl ⟨_, _, _, rfl, rfl, rfl⟩ ?_
              refine js_Os rfl rfl ⟨_, _, _, rfl, rfl, rfl⟩ ?_
              refine js_Ss rfl rfl ⟨_, _, _, rfl, rfl, rfl⟩ ?_
              refine js_S rfl rfl (.inl rfl) (xv_pick rfl rfl ⟨rfl, rfl⟩) ?_
              refine j_end0 ?_
              refine th_n ?_
              refine xc_false rfl ?_
              refine xc_skip ?_
              refine th_n ?_
              refine xc_seq (xc_region ?_)
              have hnl : ¬ (0 < a1 ∧ ltc cm d3[a1 - 1]! d3[pv]! = false) := by first | exact (fun hq9 => absurd hq9.1 (by (first | omega | (dsimp only at *; omega) | (simp at *; omega)))) | exact (fun hq9 => by rw [ltc_T (by (first | omega | (dsimp only at *; omega) | (simp at *; omega)))] at hq9; exact absurd hq9.2 (by decide))
              refine xr_op rfl rfl (xv_move rfl ?_)
              refine xr_op rfl rfl (xv_move rfl ?_)
              refine xr_op rfl rfl (xv_move rfl ?_)
              refine xr_op rfl rfl (xv_move rfl ?_)
              refine xr_op rfl rfl (xv_move rfl ?_)
              refine xr_op rfl rfl (xv_calls rfl hb68 (part_c (a := a1) (b := b1) (pivot := pv) hA3 hN hf rfl rfl rfl (by (first | omega | (dsimp only at *; omega) | (simp at *; omega))) (by (first | omega | (dsimp only at *; omega) | (simp at *; omega))) (by (first | omega | (dsimp only at *; omega) | (simp at *; omega))) (fun hm1 hm2 hA4 => up_ret ?_)))
              refine xr_op rfl rfl (xv_move rfl ?_)
              refine xr_op rfl rfl (xv_extract rfl rfl ?_)
              refine xr_op rfl rfl (xv_extract rfl rfl ?_)
              refine xr_op rfl rfl (xv_assign rfl ?_)
              refine xr_op rfl rfl (xv_assign rfl ?_)
              refine xr_end rfl ?_
              refine th_n ?_
              refine xc_seq (xc_region ?_)
              refine xr_op rfl rfl (xv_move rfl ?_)
              refine xr_op rfl rfl (xv_assign rfl ?_)
              refine xr_end rfl ?_
              refine th_n ?_
              refine xc_seq (xc_region ?_)
              refine xr_op rfl rfl (xv_move rfl ?_)
              refine xr_op rfl rfl (xv_move rfl ?_)
              refine xr_op rfl rfl (xv_sub rfl rfl (wrap_i64 (by (first | omega | (dsimp only at *; omega) | (simp at *; omega))) (by (first | omega | (dsimp only at *; omega) | (simp at *; omega)))) ?_)
              refine xr_op rfl rfl (xv_move rfl ?_)
              refine xr_op rfl rfl (xv_move rfl ?_)
              refine xr_op rfl rfl (xv_sub rfl rfl (wrap_i64 (by (first | omega | (dsimp only at *; omega) | (simp at *; omega))) (by (first | omega | (dsimp only at *; omega) | (simp at *; omega)))) ?_)
              refine xr_op rfl rfl (xv_assign rfl ?_)
              refine xr_op rfl rfl (xv_assign rfl ?_)
              refine xr_end rfl ?_
              refine th_n ?_
              refine xc_seq (xc_region ?_)
              refine xr_op rfl rfl (xv_move rfl ?_)
              refine xr_op rfl rfl (xv_quo (c := (((b1 - a1) / 8 : Nat) : Int)) rfl rfl (by omega) (by have e : ((b1 : Int) - (a1 : Int)).tdiv 8 = (((b1 - a1) / 8 : Nat) : Int) := quo_nat (n := b1 - a1) (k := 8) (by omega); rw [e]; exact wrap_i64 (by omega) (by omega)) ?_)
              refine xr_op rfl rfl (xv_assign rfl ?_)
              refine xr_end rfl ?_
              refine th_n ?_
              refine xc_seq (xc_region ?_)
              refine xr_op rfl rfl (xv_move rfl ?_)
              refine xr_op rfl rfl (xv_move rfl ?_)
              refine xr_op rfl rfl (xv_lss2 rfl rfl (fun q7 => ?_) (fun q7 => ?_))
              · refine xr_end rfl ?_
                refine th_n ?_
                refine xc_true rfl ?_
                refine xc_seq (xc_region ?_)
                refine xr_op rfl rfl (xv_move rfl ?_)
                refine xr_op rfl rfl (xv_move rfl ?_)
                refine xr_op rfl rfl (xv_cmpK (c := decide ((Go.Sort.partition (ltc cm) d3 a1 b1 pv).1 - a1 ≥ (b1 - a1) / 8)) rfl rfl (by by_cases h9 : (Go.Sort.partition (ltc cm) d3 a1 b1 pv).1 - a1 ≥ (b1 - a1) / 8; (rw [decide_eq_true h9]; exact cmpT (by simp only [cmpP]; omega)); (rw [decide_eq_false h9]; exact cmpF rfl (by simp only [cmpP]; omega))) ?_)
                refine xr_op rfl rfl (xv_assign rfl ?_)
                refine xr_end rfl ?_
                refine th_n ?_
                refine xc_seq (xc_region ?_)
                refine xr_op rfl rfl (xv_move rfl ?_)
                refine xr_op rfl rfl (xv_move rfl ?_)
                refine xr_op rfl rfl (xv_move rfl ?_)
                refine xr_op rfl rfl (xv_move rfl ?_)
                refine xr_op rfl rfl (xv_move rfl ?_)
                refine xr_op rfl rfl (xv_calls rfl hb56 (ih ((Go.Sort.partition (ltc cm) d3 a1 b1 pv).1 - a1) (by (first | omega | (dsimp only at *; omega) | (simp at *; omega))) hA4 hN hf rfl rfl rfl (by (first | omega | (dsimp only at *; omega) | (simp at *; omega))) (by (first | omega | (dsimp only at *; omega) | (simp at *; omega))) (Nat.le_refl _) (by (first | omega | (dsimp only at *; omega) | (simp at *; omega))) (fun hA5 => up_ret ?_)))
                refine xr_end rfl ?_
                refine th_n ?_
                refine xc_region ?_
                refine xr_op rfl rfl (xv_move rfl ?_)
                refine xr_op rfl rfl (xv_add rfl rfl (wrap_i64 (by (first | omega | (dsimp only at *; omega) | (simp at *; omega))) (by (first | omega | (dsimp only at *; omega) | (simp at *; omega)))) ?_)
                refine xr_op rfl rfl (xv_assign rfl ?_)
                refine xr_end rfl ?_
                refine bk_n ?_
                exact rnd (⟨(Go.Sort.partition (ltc cm) d3 a1 b1 pv).1 + 1, b1, l2, decide ((Go.Sort.partition (ltc cm) d3 a1 b1 pv).1 - a1 ≥ (b1 - a1) / 8), (Go.Sort.partition (ltc cm) d3 a1 b1 pv).2.1, Go.Sort.pdq (ltc cm) (Go.Sort.partition (ltc cm) d3 a1 b1 pv).2.2 a1 (Go.Sort.partition (ltc cm) d3 a1 b1 pv).1 l2 true true⟩ : PdqS Card) ⟨by (first | omega | (dsimp only at *; omega) | (simp at *; omega)), by (first | omega | (dsimp only at *; omega) | (simp at *; omega)), by (first | omega | (dsimp only at *; omega) | (simp at *; omega)), by (first | omega | (dsimp only at *; omega) | (simp at *; omega)), hA5, by
                  have e := pdq_part (mid := (Go.Sort.partition (ltc cm) d3 a1 b1 pv).1) (ap := (Go.Sort.partition (ltc cm) d3 a1 b1 pv).2.1) (d4 := (Go.Sort.partition (ltc cm) d3 a1 b1 pv).2.2) (lt := ltc cm) (d := d1) (a := a1) (b := b1) (limit := l1) (wb := wb) (wp := wp) (by (first | omega | (dsimp only at *; omega) | (simp at *; omega))) (by (first | omega | (dsimp only at *; omega) | (simp at *; omega))) (by (first | omega | (dsimp only at *; omega) | (simp at *; omega))); rw [← hd2] at e; rw [← hd3, ← hph] at e; rw [← hpv, ← hl2] at e
                  have e2 := e hno hnl rfl hm1 hm2
                  rw [if_pos (by (first | omega | (dsimp only at *; omega) | (simp at *; omega)))] at e2
                  exact e2.symm.trans heq⟩ (by (first | omega | (dsimp only at *; omega) | (simp at *; omega))) (le_put (le_put (le_put (le_put (le_put (le_put (le_put (le_emp _) rfl) (by first | rfl | (dsimp only; rw [show (((Go.Sort.partition (ltc cm) d3 a1 b1 pv).1 + 1 : Nat) : Int) = (((Go.Sort.partition (ltc cm) d3 a1 b1 pv).1 : Nat) : Int) + 1 by omega]; rfl))) rfl) rfl) rfl) rfl) rfl) (by (first|((repeat first|exact s_0|exact s_1|exact s_3|refine s_4 ?_|refine s_5 ?_|refine s_6 ?_|refine s_7 ?_);done)|((repeat first|exact s_0|exact s_1|exact s_3|refine s_4 ?_|refine s_5 ?_|refine s_6 ?_|refine s_8 ?_);done)))
              · refine xr_end rfl ?_
                refine th_n ?_
                refine xc_false rfl ?_
                refine xc_seq (xc_region ?_)
                refine xr_op rfl rfl (xv_move rfl ?_)
                refine xr_op rfl rfl (xv_move rfl ?_)
                refine xr_op rfl rfl (xv_cmpK (c := decide (b1 - (Go.Sort.partition (ltc cm) d3 a1 b1 pv).1 ≥ (b1 - a1) / 8)) rfl rfl (by by_cases h9 : b1 - (Go.Sort.partition (ltc cm) d3 a1 b1 pv).1 ≥ (b1 - a1) / 8; (rw [decide_eq_true h9]; exact cmpT (by simp only [cmpP]; omega)); (rw [decide_eq_false h9]; exact cmpF rfl (by simp only [cmpP]; omega))) ?_)
                refine xr_op rfl rfl (xv_assign rfl ?_)
                refine xr_end rfl ?_
                refine th_n ?_
                refine xc_seq (xc_region ?_)
                refine xr_op rfl rfl (xv_move rfl ?_)
                refine xr_op rfl rfl (xv_move rfl ?_)
                refine xr_op rfl rfl (xv_add rfl rfl (wrap_i64 (by (first | omega | (dsimp only at *; omega) | (simp at *; omega))) (by (first | omega | (dsimp only at *; omega) | (simp at *; omega)))) ?_)
                refine xr_op rfl rfl (xv_move rfl ?_)
                refine xr_op rfl rfl (xv_move rfl ?_)
                refine xr_op rfl rfl (xv_move rfl ?_)
                refine xr_op rfl rfl (xv_calls rfl hb56 (ih (b1 - ((Go.Sort.partition (ltc cm) d3 a1 b1 pv).1 + 1)) (by (first | omega | (dsimp only at *; omega) | (simp at *; omega))) hA4 hN hf (show (((Go.Sort.partition (ltc cm) d3 a1 b1 pv).1 : Nat) : Int) + 1 = (((Go.Sort.partition (ltc cm) d3 a1 b1 pv).1 + 1 : Nat) : Int) by omega) rfl rfl (by (first | omega | (dsimp only at *; omega) | (simp at *; omega))) (by (first | omega | (dsimp only at *; omega) | (simp at *; omega))) (Nat.le_refl _) (by (first | omega | (dsimp only at *; omega) | (simp at *; omega))) (fun hA5 => up_ret ?_)))
                refine xr_end rfl ?_
                refine th_n ?_
                refine xc_region ?_
                refine xr_op rfl rfl (xv_move rfl ?_)
                refine xr_op rfl rfl (xv_assign rfl ?_)
                refine xr_end rfl ?_
                refine bk_n ?_
                exact rnd (⟨a1, (Go.Sort.partition (ltc cm) d3 a1 b1 pv).1, l2, decide (b1 - (Go.Sort.partition (ltc cm) d3 a1 b1 pv).1 ≥ (b1 - a1) / 8), (Go.Sort.partition (ltc cm) d3 a1 b1 pv).2.1, Go.Sort.pdq (ltc cm) (Go.Sort.partition (ltc cm) d3 a1 b1 pv).2.2 ((Go.Sort.partition (ltc cm) d3 a1 b1 pv).1 + 1) b1 l2 true true⟩ : PdqS Card) ⟨by (first | omega | (dsimp only at *; omega) | (simp at *; omega)), by (first | omega | (dsimp only at *; omega) | (simp at *; omega)), by (first | omega | (dsimp only at *; omega) | (simp at *; omega)), by (first | omega | (dsimp only at *; omega) | (simp at *; omega)), hA5, by
                  have e := pdq_part (mid := (Go.Sort.partition (ltc cm) d3 a1 b1 pv).1) (ap := (Go.Sort.partition (ltc cm) d3 a1 b1 pv).2.1) (d4 := (Go.Sort.partition (ltc cm) d3 a1 b1 pv).2.2) (lt := ltc cm) (d := d1) (a := a1) (b := b1) (limit := l1) (wb := wb) (wp := wp) (by (first | omega | (dsimp only at *; omega) | (simp at *; omega))) (by (first | omega | (dsimp only at *; omega) | (simp at *; omega))) (by (first | omega | (dsimp only at *; omega) | (simp at *; omega))); rw [← hd2] at e; rw [← hd3, ← hph] at e; rw [← hpv, ← hl2] at e
                  have e2 := e hno hnl rfl hm1 hm2
                  rw [if_neg (by (first | omega | (dsimp only at *; omega) | (simp at *; omega)))] at e2
                  exact e2.symm.trans heq⟩ (by (first | omega | (dsimp only at *; omega) | (simp at *; omega))) (le_put (le_put (le_put (le_put (le_put (le_put (le_put (le_emp _) rfl) (by first | rfl | (dsimp only; rw [show (((Go.Sort.partition (ltc cm) d3 a1 b1 pv).1 + 1 : Nat) : Int) = (((Go.Sort.partition (ltc cm) d3 a1 b1 pv).1 : Nat) : Int) + 1 by omega]; rfl))) rfl) rfl) rfl) rfl) rfl) (by (first|((repeat first|exact s_0|exact s_1|exact s_3|refine s_4 ?_|refine s_5 ?_|refine s_6 ?_|refine s_7 ?_);done)|((repeat first|exact s_0|exact s_1|exact s_3|refine s_4 ?_|refine s_5 ?_|refine s_6 ?_|refine s_8 ?_);done)))

theorem pdq_all (m : Nat) : PdqOk m := by
  induction m using Nat.strongRecOn with
  | ind m ih => exact pdq_step ih

theorem sort_c {bb cap N : Nat} {sp : List Value} {d : Array Card} {f : Value} {cm : Card → Card → Int} {p : Card → Prop} {L : Hp} {R : Ending → Hp → Prop} (hA : Arr N p d) (hN : N ≤ 49) (hf : ∀ x y, p x → p y → ∀ H R', L ⊆ H → R' (.returned (I (cm x y))) H → AFn Tryd.prog f [.agg ⟨eCard x⟩, .agg ⟨eCard y⟩] H R') (hs : Go.Sort.SWO (ltc cm)) (H : ∀ d2 : Array Card, Arr N p d2 → Go.Sort.PermIn 0 N d d2 → Go.Sort.SortedIn (ltc cm) 0 N d2 → R (.returned (.tuple #[])) ((bb, .cells ⟨(d2).toList.flatMap eCard ++ sp⟩ 78) :: L)) :
    ACalls Tryd.prog 46 ⟨[.slice (some ⟨bb, 0, none⟩) N cap, f]⟩ ((bb, .cells ⟨(d).toList.flatMap eCard ++ sp⟩ 78) :: L) R := by
  refine calls_of_xc (N := 14) Tryd.func46 rfl (by rfl) ?_
  have hps := Go.Sort.pdq_sorts (ltc cm) hs d 0 N (Go.Sort.bitsLen N) true true (Nat.zero_le _) (by rw [hA.size]; exact Nat.le_refl _) (.inl rfl)
  have hbl := len8 hN
  refine xc_seq (xc_region ?_)
  refine xr_op rfl rfl (xv_move rfl ?_)
  refine xr_op rfl rfl (xv_len sl72 rfl ?_)
  refine xr_op rfl rfl (xv_assign rfl ?_)
  refine xr_end rfl ?_
  refine th_n ?_
  refine xc_region ?_
  refine xr_op rfl rfl (xv_move rfl ?_)
  refine xr_op rfl rfl (xv_move rfl ?_)
  refine xr_op rfl rfl (xv_move rfl ?_)
  refine xr_op rfl rfl (xv_convI (m := (N : Int)) Tryd.underlying3 Tryd.underlying103 rfl (wrap_u64 (by omega) (by omega)) ?_)
  refine xr_op rfl rfl (xv_calls rfl hb57 (len_c (n := N) rfl hN (up_ret ?_)))
  refine xr_op rfl rfl (xv_move rfl ?_)
  refine xr_op rfl rfl (xv_calls rfl hb56 (pdq_all N hA hN hf (show (0 : Int) = ((0 : Nat) : Int) from rfl) rfl rfl (Nat.zero_le _) (Nat.le_refl _) (by omega) (by omega) (fun hA2 => up_ret ?_)))
  refine xr_end rfl ?_
  refine body_end (h' := ((bb, .cells ⟨(Go.Sort.pdq (ltc cm) d 0 N (Go.Sort.bitsLen N) true true).toList.flatMap eCard ++ sp⟩ 78) :: L)) rfl ro_nil (by (first|((repeat first|exact s_0|exact s_1|exact s_3|refine s_4 ?_|refine s_5 ?_|refine s_6 ?_|refine s_7 ?_);done)|((repeat first|exact s_0|exact s_1|exact s_3|refine s_4 ?_|refine s_5 ?_|refine s_6 ?_|refine s_8 ?_);done))) ?_
  exact H _ hA2 hps.1 hps.2

end Go.Proofs.YtckaaaebegemoaaDoor
