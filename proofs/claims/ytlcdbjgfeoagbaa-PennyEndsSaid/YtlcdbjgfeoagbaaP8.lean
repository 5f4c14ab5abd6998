/-
  Steps of the loops over tariffs and over hours.
-/
import Derived.Test.YtlcdbjgfeoagbaaP1
set_option linter.all false
namespace Go.Proofs.Ytlcdbjgfeoagbaa
open Go Go.H
theorem forceN_in {l : List Tariff} {hour : Int} {k : Nat} {t : Tariff} (h : l[k]? = some t) (hh : t.frm ≤ hour) : forceN l hour (k + 1) = k := by
  rw [forceN, h]; exact if_pos hh
theorem forceN_out {l : List Tariff} {hour : Int} {k : Nat} {t : Tariff} (h : l[k]? = some t) (hh : ¬ t.frm ≤ hour) : forceN l hour (k + 1) = forceN l hour k := by
  rw [forceN, h]; exact if_neg hh
def feetAt (s : Slot) (h : Int) : Int := (s.tars.getD (force s.tars h) default).feet
def FeetOk (s : Slot) : Prop := ∀ t ∈ s.tars, 0 ≤ t.feet ∧ t.feet ≤ 10000
theorem feet_at {s : Slot} (h : s.tars ≠ []) (x : Int) : ∃ t, s.tars[force s.tars x]? = some t ∧ feetAt s x = t.feet := by
  have h1 := force_lt h x
  refine ⟨s.tars[force s.tars x], List.getElem?_eq_getElem h1, ?_⟩
  unfold feetAt
  rw [List.getD_eq_getElem?_getD, List.getElem?_eq_getElem h1]; rfl
theorem feetAt_bd {s : Slot} (hf : FeetOk s) (h : s.tars ≠ []) (x : Int) : 0 ≤ feetAt s x ∧ feetAt s x ≤ 10000 := by
  obtain ⟨t, h1, h2⟩ := feet_at h x
  rw [h2]; exact hf t (List.mem_of_getElem? h1)
theorem byH_bd {s : Slot} (hf : FeetOk s) (h : s.tars ≠ []) (hour : Int) : ∀ (hours : List Int), 0 ≤ byH s hours hour ∧ byH s hours hour ≤ 10000 * (hours.length : Int)
  | [] => by simp [byH]
  | x :: l => by
    have ih := byH_bd hf h hour l
    have h1 := feetAt_bd hf h x
    have e : byH s (x :: l) hour = (if x ≤ hour then feetAt s x else 0) + byH s l hour := by unfold byH feetAt; rw [List.map_cons, List.sum_cons]
    rw [e, List.length_cons]
    split <;> omega
theorem eqc_spanD (a b : Span) : (!eqc [I a.lo, I a.hi] [I b.lo, I b.hi]) = !decide (a = b) := by
  obtain ⟨a, a'⟩ := a
  obtain ⟨b, b'⟩ := b
  simp only [eqc, Span.mk.injEq]
  by_cases ha : a = b <;> by_cases hb : a' = b' <;> simp [ha, hb]
end Go.Proofs.Ytlcdbjgfeoagbaa

/-
  Walks.
-/
namespace Go.Proofs.Ytlcdbjgfeoagbaa
open Go Go.H
set_option maxRecDepth 100000
set_option maxHeartbeats 8000000
set_option linter.all false
theorem within_c (n l u : Int) {h : Hp} {R : Ending → Hp → Prop} (H1 : l ≤ n → n ≤ u → R (.returned (.bool true)) h) (H2 : ¬ (l ≤ n ∧ n ≤ u) → R (.returned (.bool false)) h) :
    ACalls Try.prog 33 ⟨[.int .i64 n, .int .i64 l, .int .i64 u]⟩ h R := by
  refine calls_of_xc (N := 15) Try.func33 rfl (by rfl) ?_
  refine xc_seq (xc_region ?_)
  refine xr_op rfl rfl (xv_assign rfl ?_)
  refine xr_end rfl ?_
  refine th_n ?_
  refine xc_seq (xc_region ?_)
  refine xr_op rfl rfl (xv_move rfl ?_)
  refine xr_op rfl rfl (xv_move rfl ?_)
  refine xr_op rfl rfl (xv_leq2 rfl rfl (fun q1 => ?_) (fun q1 => ?_))
  · refine xr_op rfl rfl (xv_move rfl ?_)
    refine xr_gd rfl rfl rfl (xv_move rfl ?_)
    refine xr_gd rfl rfl rfl (xv_move rfl ?_)
    refine xr_gd rfl rfl rfl (xv_leq2 rfl rfl (fun q2 => ?_) (fun q2 => ?_))
    · refine xr_op rfl rfl (xv_pick rfl rfl ?_)
      refine xr_op rfl rfl (xv_assign rfl ?_)
      refine xr_end rfl ?_
      refine th_n ?_
      refine xc_ret ?_
      refine body_ret (h' := h) rfl (ro_tmp rfl ro_nil) (by (first|((repeat first|exact s_0|exact s_1|exact s_3|refine s_4 ?_|refine s_5 ?_|refine s_6 ?_|refine s_7 ?_);done)|((repeat first|exact s_0|exact s_1|exact s_3|refine s_4 ?_|refine s_5 ?_|refine s_6 ?_|refine s_8 ?_);done))) ?_
      first | exact H1 (by omega) (by omega) | exact H2 (by omega)
    · refine xr_op rfl rfl (xv_pick rfl rfl ?_)
      refine xr_op rfl rfl (xv_assign rfl ?_)
      refine xr_end rfl ?_
      refine th_n ?_
      refine xc_ret ?_
      refine body_ret (h' := h) rfl (ro_tmp rfl ro_nil) (by (first|((repeat first|exact s_0|exact s_1|exact s_3|refine s_4 ?_|refine s_5 ?_|refine s_6 ?_|refine s_7 ?_);done)|((repeat first|exact s_0|exact s_1|exact s_3|refine s_4 ?_|refine s_5 ?_|refine s_6 ?_|refine s_8 ?_);done))) ?_
      first | exact H1 (by omega) (by omega) | exact H2 (by omega)
  · refine xr_op rfl rfl (xv_move rfl ?_)
    refine xr_no rfl rfl rfl rfl ?_
    refine xr_no rfl rfl rfl rfl ?_
    refine xr_no rfl rfl rfl rfl ?_
    refine xr_op rfl rfl (xv_pick rfl rfl ?_)
    refine xr_op rfl rfl (xv_assign rfl ?_)
    refine xr_end rfl ?_
    refine th_n ?_
    refine xc_ret ?_
    refine body_ret (h' := h) rfl (ro_tmp rfl ro_nil) (by (first|((repeat first|exact s_0|exact s_1|exact s_3|refine s_4 ?_|refine s_5 ?_|refine s_6 ?_|refine s_7 ?_);done)|((repeat first|exact s_0|exact s_1|exact s_3|refine s_4 ?_|refine s_5 ?_|refine s_6 ?_|refine s_8 ?_);done))) ?_
    first | exact H1 (by omega) (by omega) | exact H2 (by omega)

theorem in_c (n l u : Int) {h : Hp} {R : Ending → Hp → Prop} (H1 : l ≤ n → n ≤ u → R (.returned (.bool true)) h) (H2 : ¬ (l ≤ n ∧ n ≤ u) → R (.returned (.bool false)) h) :
    ACalls Try.prog 39 ⟨[.int .i64 n, .int .i64 l, .int .i64 u]⟩ h R := by
  refine calls_of_xc (N := 15) Try.func39 rfl (by rfl) ?_
  refine xc_seq (xc_region ?_)
  refine xr_op rfl rfl (xv_assign rfl ?_)
  refine xr_end rfl ?_
  refine th_n ?_
  refine xc_seq (xc_region ?_)
  refine xr_op rfl rfl (xv_move rfl ?_)
  refine xr_op rfl rfl (xv_move rfl ?_)
  refine xr_op rfl rfl (xv_leq2 rfl rfl (fun q1 => ?_) (fun q1 => ?_))
  · refine xr_op rfl rfl (xv_move rfl ?_)
    refine xr_gd rfl rfl rfl (xv_move rfl ?_)
    refine xr_gd rfl rfl rfl (xv_move rfl ?_)
    refine xr_gd rfl rfl rfl (xv_leq2 rfl rfl (fun q2 => ?_) (fun q2 => ?_))
    · refine xr_op rfl rfl (xv_pick rfl rfl ?_)
      refine xr_op rfl rfl (xv_assign rfl ?_)
      refine xr_end rfl ?_
      refine th_n ?_
      refine xc_ret ?_
      refine body_ret (h' := h) rfl (ro_tmp rfl ro_nil) (by (first|((repeat first|exact s_0|exact s_1|exact s_3|refine s_4 ?_|refine s_5 ?_|refine s_6 ?_|refine s_7 ?_);done)|((repeat first|exact s_0|exact s_1|exact s_3|refine s_4 ?_|refine s_5 ?_|refine s_6 ?_|refine s_8 ?_);done))) ?_
      first | exact H1 (by omega) (by omega) | exact H2 (by omega)
    · refine xr_op rfl rfl (xv_pick rfl rfl ?_)
      refine xr_op rfl rfl (xv_assign rfl ?_)
      refine xr_end rfl ?_
      refine th_n ?_
      refine xc_ret ?_
      refine body_ret (h' := h) rfl (ro_tmp rfl ro_nil) (by (first|((repeat first|exact s_0|exact s_1|exact s_3|refine s_4 ?_|refine s_5 ?_|refine s_6 ?_|refine s_7 ?_);done)|((repeat first|exact s_0|exact s_1|exact s_3|refine s_4 ?_|refine s_5 ?_|refine s_6 ?_|refine s_8 ?_);done))) ?_
      first | exact H1 (by omega) (by omega) | exact H2 (by omega)
  · refine xr_op rfl rfl (xv_move rfl ?_)
    refine xr_no rfl rfl rfl rfl ?_
    refine xr_no rfl rfl rfl rfl ?_
    refine xr_no rfl rfl rfl rfl ?_
    refine xr_op rfl rfl (xv_pick rfl rfl ?_)
    refine xr_op rfl rfl (xv_assign rfl ?_)
    refine xr_end rfl ?_
    refine th_n ?_
    refine xc_ret ?_
    refine body_ret (h' := h) rfl (ro_tmp rfl ro_nil) (by (first|((repeat first|exact s_0|exact s_1|exact s_3|refine s_4 ?_|refine s_5 ?_|refine s_6 ?_|refine s_7 ?_);done)|((repeat first|exact s_0|exact s_1|exact s_3|refine s_4 ?_|refine s_5 ?_|refine s_6 ?_|refine s_8 ?_);done))) ?_
    first | exact H1 (by omega) (by omega) | exact H2 (by omega)

theorem Spans_c {a a2 : Option Addr} {c c2 : Nat} {xs ys : List Span} {h : Hp} {R : Ending → Hp → Prop} (hs : SlV h 2 eSpan a xs) (hs2 : SlV h 2 eSpan a2 ys) (hl : xs.length ≤ 1000000) (hl2 : ys.length ≤ 4611686018427387904)
    (H : R (.returned (.bool (decide (xs = ys)))) h) :
    ACalls Try.prog 18 ⟨[.slice a xs.length c, .slice a2 ys.length c2]⟩ h R := by
  refine calls_of_xc (N := 26) Try.func18 rfl (by rfl) ?_
  refine xc_seq (xc_region ?_)
  refine xr_op rfl rfl (xv_assign rfl ?_)
  refine xr_end rfl ?_
  refine th_n ?_
  refine xc_seq ?_
  refine xc_seq (xc_region ?_)
  refine xr_op rfl rfl (xv_move rfl ?_)
  refine xr_op rfl rfl (xv_len sl35 rfl ?_)
  refine xr_op rfl rfl (xv_move rfl ?_)
  refine xr_op rfl rfl (xv_len sl35 rfl ?_)
  refine xr_op rfl rfl (xv_neq2 rfl rfl (fun q1 => ?_) (fun q1 => ?_))
  · refine xr_end rfl ?_
    refine th_n ?_
    refine xc_true rfl ?_
    refine xc_seq (xc_region ?_)
    refine xr_op rfl rfl (xv_assign rfl ?_)
    refine xr_end rfl ?_
    refine th_n ?_
    refine xc_ret ?_
    refine th_r ?_
    refine body_ret (h' := h) rfl (ro_tmp rfl ro_nil) (by (first|((repeat first|exact s_0|exact s_1|exact s_3|refine s_4 ?_|refine s_5 ?_|refine s_6 ?_|refine s_7 ?_);done)|((repeat first|exact s_0|exact s_1|exact s_3|refine s_4 ?_|refine s_5 ?_|refine s_6 ?_|refine s_8 ?_);done))) ?_
    first | (rw [decide_eq_true hxy] at H; exact H) | (rw [decide_eq_false hne] at H; exact H) | (rw [decide_eq_false (fun hq => by subst hq; omega)] at H; exact H)
  · refine xr_end rfl ?_
    refine th_n ?_
    refine xc_false rfl ?_
    refine xc_skip ?_
    refine th_n ?_
    refine xc_seq ?_
    refine xc_seq (xc_region ?_)
    refine xr_op rfl rfl (xv_assign rfl ?_)
    refine xr_end rfl ?_
    refine th_n ?_
    refine xc_block ?_
    have hle : xs.length = ys.length := by (first|omega|(dsimp only at *;omega)|(simp at *;omega))
    refine xc_loop (σ := Nat) (fun k => k ≤ xs.length ∧ xs.take k = ys.take k) (fun k => (((emp.put (some 0) (.slice a xs.length c)).put (some 1) (.slice a2 ys.length c2)).put (some 5) (I k))) (fun k => h) (fun k => xs.length - k) 0 ⟨Nat.zero_le _, rfl⟩ (le_put (le_put (le_put (le_emp _) rfl) rfl) rfl) (by (first|((repeat first|exact s_0|exact s_1|exact s_3|refine s_4 ?_|refine s_5 ?_|refine s_6 ?_|refine s_7 ?_);done)|((repeat first|exact s_0|exact s_1|exact s_3|refine s_4 ?_|refine s_5 ?_|refine s_6 ?_|refine s_8 ?_);done))) ?_
    rintro k ⟨hk, hall⟩
    refine xc_seq ?_
    refine xc_seq (xc_region ?_)
    refine xr_op rfl rfl (xv_move rfl ?_)
    refine xr_op rfl rfl (xv_move rfl ?_)
    refine xr_op rfl rfl (xv_len sl35 rfl ?_)
    refine xr_op rfl rfl (xv_lss2 rfl rfl (fun q2 => ?_) (fun q2 => ?_))
    · refine xr_end rfl ?_
      refine th_n ?_
      refine xc_true rfl ?_
      refine xc_skip ?_
      refine th_n ?_
      refine xc_seq ?_
      refine xc_block ?_
      refine xc_seq ?_
      refine xc_draw0 [(0, .S), (1, .S), (2, .S), (3, .R), (4, .S), (5, .S), (6, .S), (7, .R), (8, .S)] mixed (by kernel_rfl) ?_
      have hlto : k < xs.length := by (first|omega|(dsimp only at *;omega)|(simp at *;omega))
      obtain ⟨bo, oo, lo, to, fzo, hao, hmo, hxo⟩ := (hs).at hlto
      obtain ⟨xo, hko⟩ : ∃ qq_, xs[k]? = some qq_ := ⟨_, List.getElem?_eq_getElem hlto⟩
      have hltp : k < ys.length := by (first|omega|(dsimp only at *;omega)|(simp at *;omega))
      obtain ⟨bp, op, lp, tp, fzp, hap, hmp, hxp⟩ := (hs2).at hltp
      obtain ⟨xp, hkp⟩ : ∃ qq_, ys[k]? = some qq_ := ⟨_, List.getElem?_eq_getElem hltp⟩
      refine js_S rfl rfl (.inl rfl) (xv_move rfl ⟨rfl, rfl⟩) ?_
      refine js_S rfl rfl (.inl rfl) (xv_move rfl ⟨rfl, rfl⟩) ?_
      refine js_S rfl rfl (.inl rfl) (xv_ia (sz := 2) (j := k) sl35 ty30 rfl (by rw [hao]; rfl) rfl (by (first | assumption | with_reducible exact Int.toNat_natCast _ | with_reducible rfl | rfl)) (by (first|omega|(dsimp only at *;omega)|(simp at *;omega))) (by (first|omega|(dsimp only at *;omega)|(simp at *;omega))) ⟨rfl, rfl⟩) ?_
      refine js_R0 rfl rfl (.inl rfl) (xv_loadA ty30 rfl rfl (by ((repeat first|exact z_0|assumption|refine z_1 ?_|(refine z_l ?_;(repeat first|exact z_0|assumption|refine z_1 ?_);done)|refine z_r ?_);done)) (hxo (k) xo hko) rfl ⟨rfl, rfl⟩) ?_
      refine js_S rfl rfl (.inl rfl) (xv_move rfl ⟨rfl, rfl⟩) ?_
      refine js_S rfl rfl (.inl rfl) (xv_move rfl ⟨rfl, rfl⟩) ?_
      refine js_S rfl rfl (.inl rfl) (xv_ia (sz := 2) (j := k) sl35 ty30 rfl (by rw [hap]; rfl) rfl (by (first | assumption | with_reducible exact Int.toNat_natCast _ | with_reducible rfl | rfl)) (by (first|omega|(dsimp only at *;omega)|(simp at *;omega))) (by (first|omega|(dsimp only at *;omega)|(simp at *;omega))) ⟨rfl, rfl⟩) ?_
      refine js_R0 rfl rfl (.inl rfl) (xv_loadA ty30 rfl rfl (by ((repeat first|exact z_0|assumption|refine z_1 ?_|(refine z_l ?_;(repeat first|exact z_0|assumption|refine z_1 ?_);done)|refine z_r ?_);done)) (hxp (k) xp hkp) rfl ⟨rfl, rfl⟩) ?_
      refine js_S rfl rfl (.inl rfl) (xv_neA (b := !decide (xo = xp)) fq30 rfl eg30 rfl rfl rfl rfl (by ((repeat' first | assumption | exact numNil | refine numCons ?_ | refine numApp ?_ ?_); done)) (by ((repeat' first | assumption | exact numNil | refine numCons ?_ | refine numApp ?_ ?_); done)) (eqc_spanD xo xp) ⟨rfl, rfl⟩) ?_
      refine j_end0 ?_
      refine th_n ?_
      refine xc_bool rfl (fun q3 => ?_) (fun q3 => ?_)
      · refine xc_seq (xc_region ?_)
        have hne : ¬ xs = ys := fun hq => by subst hq; have hq2 := Option.some.inj (hko.symm.trans hkp); simp_all
        refine xr_op rfl rfl (xv_assign rfl ?_)
        refine xr_end rfl ?_
        refine th_n ?_
        refine xc_ret ?_
        refine bk_r ?_
        refine th_r ?_
        refine th_r ?_
        refine bk_r ?_
        refine th_r ?_
        refine body_ret (h' := h) rfl (ro_tmp rfl ro_nil) (by (first|((repeat first|exact s_0|exact s_1|exact s_3|refine s_4 ?_|refine s_5 ?_|refine s_6 ?_|refine s_7 ?_);done)|((repeat first|exact s_0|exact s_1|exact s_3|refine s_4 ?_|refine s_5 ?_|refine s_6 ?_|refine s_8 ?_);done))) ?_
        first | (rw [decide_eq_true hxy] at H; exact H) | (rw [decide_eq_false hne] at H; exact H) | (rw [decide_eq_false (fun hq => by subst hq; omega)] at H; exact H)
      · refine xc_skip ?_
        refine bk_n ?_
        refine th_n ?_
        refine xc_region ?_
        have heq : xo = xp := by simp_all
        refine xr_op rfl rfl (xv_move rfl ?_)
        refine xr_op rfl rfl (xv_add rfl rfl (wrap_i64 (by (first|omega|(dsimp only at *;omega)|(simp at *;omega))) (by (first|omega|(dsimp only at *;omega)|(simp at *;omega)))) ?_)
        refine xr_op rfl rfl (xv_assign rfl ?_)
        refine xr_end rfl ?_
        exact rnd (k + 1) ⟨by (first|omega|(dsimp only at *;omega)|(simp at *;omega)), by rw [List.take_add_one, List.take_add_one, hko, hkp, hall, heq]⟩ (by (first|omega|(dsimp only at *;omega)|(simp at *;omega))) (le_put (le_put (le_put (le_emp _) rfl) rfl) rfl) (by (first|((repeat first|exact s_0|exact s_1|exact s_3|refine s_4 ?_|refine s_5 ?_|refine s_6 ?_|refine s_7 ?_);done)|((repeat first|exact s_0|exact s_1|exact s_3|refine s_4 ?_|refine s_5 ?_|refine s_6 ?_|refine s_8 ?_);done)))
    · refine xr_end rfl ?_
      refine th_n ?_
      refine xc_false rfl ?_
      refine xc_exit ?_
      refine th_x ?_
      refine th_x ?_
      refine bk_same ?_
      refine th_n ?_
      refine xc_seq (xc_region ?_)
      obtain rfl : k = xs.length := by (first|omega|(dsimp only at *;omega)|(simp at *;omega))
      have hxy : xs = ys := by rw [List.take_length] at hall; rw [hall, hle, List.take_length]
      refine xr_op rfl rfl (xv_assign rfl ?_)
      refine xr_end rfl ?_
      refine th_n ?_
      refine xc_ret ?_
      refine body_ret (h' := h) rfl (ro_tmp rfl ro_nil) (by (first|((repeat first|exact s_0|exact s_1|exact s_3|refine s_4 ?_|refine s_5 ?_|refine s_6 ?_|refine s_7 ?_);done)|((repeat first|exact s_0|exact s_1|exact s_3|refine s_4 ?_|refine s_5 ?_|refine s_6 ?_|refine s_8 ?_);done))) ?_
      first | (rw [decide_eq_true hxy] at H; exact H) | (rw [decide_eq_false hne] at H; exact H) | (rw [decide_eq_false (fun hq => by subst hq; omega)] at H; exact H)

theorem Force_c {s : Slot} {h : Hp} {R : Ending → Hp → Prop} (hs : SlotV h s) (hsl : s.tars.length ≤ 1000) {hour : Int} (H : R (.returned (I (force s.tars hour : Int))) h) : ACalls Try.prog 27 ⟨[.agg ⟨eSlot s⟩, I hour]⟩ h R := by
  refine calls_of_xc (N := 24) Try.func27 rfl (by rfl) ?_
  refine xc_seq (xc_region ?_)
  refine xr_op rfl rfl (xv_box rfl (fun b2 hb2 => ?_))
  refine xr_op rfl rfl (xv_assign rfl ?_)
  refine xr_end rfl ?_
  refine th_n ?_
  refine xc_seq (xc_region ?_)
  refine xr_op rfl rfl (xv_assign rfl ?_)
  refine xr_end rfl ?_
  refine th_n ?_
  refine xc_seq ?_
  refine xc_seq (xc_region ?_)
  refine xr_op rfl rfl (xv_assign rfl ?_)
  refine xr_end rfl ?_
  refine th_n ?_
  refine xc_block ?_
  refine xc_loop (σ := Nat) (fun k => k ≤ s.tars.length) (fun k => ((((emp.put (some 1) (I hour)).put (some 2) (.pointer (some ⟨b2, 0, none⟩))).put (some 5) (I (forceN s.tars hour k : Int))).put (some 6) (I k))) (fun k => ((b2, .cells ⟨eSlot s⟩ 25) :: h)) (fun k => s.tars.length - k) 0 (Nat.zero_le _) (le_put (le_put (le_put (le_put (le_emp _) rfl) rfl) rfl) rfl) (by (first|((repeat first|exact s_0|exact s_1|exact s_3|refine s_4 ?_|refine s_5 ?_|refine s_6 ?_|refine s_7 ?_);done)|((repeat first|exact s_0|exact s_1|exact s_3|refine s_4 ?_|refine s_5 ?_|refine s_6 ?_|refine s_8 ?_);done))) ?_
  rintro k hk
  refine xc_seq ?_
  refine xc_seq (xc_region ?_)
  refine xr_op rfl rfl (xv_move rfl ?_)
  refine xr_op rfl rfl (xv_faddr fl25_4 rfl ?_)
  refine xr_op rfl rfl (xv_load1 ty22 rfl rfl (by ((repeat first|exact z_0|assumption|refine z_1 ?_|(refine z_l ?_;(repeat first|exact z_0|assumption|refine z_1 ?_);done)|refine z_r ?_);done)) (by rfl) ?_)
  refine xr_op rfl rfl (xv_len sl22 rfl ?_)
  refine xr_op rfl rfl (xv_lss2 rfl rfl (fun q1 => ?_) (fun q1 => ?_))
  · refine xr_end rfl ?_
    refine th_n ?_
    refine xc_true rfl ?_
    refine xc_skip ?_
    refine th_n ?_
    refine xc_seq ?_
    refine xc_block ?_
    refine xc_seq (xc_region ?_)
    refine xr_op rfl rfl (xv_faddr fl25_4 rfl ?_)
    refine xr_op rfl rfl (xv_load1 ty22 rfl rfl (by ((repeat first|exact z_0|assumption|refine z_1 ?_|(refine z_l ?_;(repeat first|exact z_0|assumption|refine z_1 ?_);done)|refine z_r ?_);done)) (by rfl) ?_)
    refine xr_op rfl rfl (xv_move rfl ?_)
    have hlto : k < s.tars.length := by (first|omega|(dsimp only at *;omega)|(simp at *;omega))
    obtain ⟨bo, oo, lo, to, fzo, hao, hmo, hxo⟩ := (hs.tars).at hlto
    obtain ⟨xo, hko⟩ : ∃ qq_, s.tars[k]? = some qq_ := ⟨_, List.getElem?_eq_getElem hlto⟩
    refine xr_op rfl rfl (xv_ia (sz := 2) (j := k) sl22 ty54 rfl (by rw [hao]; rfl) rfl (by (first | assumption | with_reducible exact Int.toNat_natCast _ | with_reducible rfl | rfl)) (by (first|omega|(dsimp only at *;omega)|(simp at *;omega))) (by (first|omega|(dsimp only at *;omega)|(simp at *;omega))) ?_)
    refine xr_op rfl rfl (xv_faddr fl54_0 rfl ?_)
    refine xr_op rfl rfl (xv_load1 ty3 rfl rfl (by ((repeat first|exact z_0|assumption|refine z_1 ?_|(refine z_l ?_;(repeat first|exact z_0|assumption|refine z_1 ?_);done)|refine z_r ?_);done)) (take_get (hxo (k) xo hko) (j := 0) rfl) ?_)
    refine xr_op rfl rfl (xv_move rfl ?_)
    refine xr_op rfl rfl (xv_leq2 rfl rfl (fun q2 => ?_) (fun q2 => ?_))
    · refine xr_end rfl ?_
      refine th_n ?_
      refine xc_true rfl ?_
      refine xc_region ?_
      refine xr_op rfl rfl (xv_move rfl ?_)
      refine xr_op rfl rfl (xv_assign rfl ?_)
      refine xr_end rfl ?_
      refine bk_n ?_
      refine th_n ?_
      refine xc_region ?_
      refine xr_op rfl rfl (xv_move rfl ?_)
      refine xr_op rfl rfl (xv_add rfl rfl (wrap_i64 (by (first|omega|(dsimp only at *;omega)|(simp at *;omega))) (by (first|omega|(dsimp only at *;omega)|(simp at *;omega)))) ?_)
      refine xr_op rfl rfl (xv_assign rfl ?_)
      refine xr_end rfl ?_
      have hfs : forceN s.tars hour (k + 1) = k := forceN_in hko (by (first|omega|(dsimp only at *;omega)|(simp at *;omega)))
      exact rnd (k + 1) (by (first|omega|(dsimp only at *;omega)|(simp at *;omega))) (by (first|omega|(dsimp only at *;omega)|(simp at *;omega))) (le_put (le_put (le_put (le_put (le_emp _) rfl) rfl) (by rw [hfs]; rfl)) rfl) (by (first|((repeat first|exact s_0|exact s_1|exact s_3|refine s_4 ?_|refine s_5 ?_|refine s_6 ?_|refine s_7 ?_);done)|((repeat first|exact s_0|exact s_1|exact s_3|refine s_4 ?_|refine s_5 ?_|refine s_6 ?_|refine s_8 ?_);done)))
    · refine xr_end rfl ?_
      refine th_n ?_
      refine xc_false rfl ?_
      refine xc_skip ?_
      refine bk_n ?_
      refine th_n ?_
      refine xc_region ?_
      refine xr_op rfl rfl (xv_move rfl ?_)
      refine xr_op rfl rfl (xv_add rfl rfl (wrap_i64 (by (first|omega|(dsimp only at *;omega)|(simp at *;omega))) (by (first|omega|(dsimp only at *;omega)|(simp at *;omega)))) ?_)
      refine xr_op rfl rfl (xv_assign rfl ?_)
      refine xr_end rfl ?_
      have hfs : forceN s.tars hour (k + 1) = forceN s.tars hour k := forceN_out hko (by (first|omega|(dsimp only at *;omega)|(simp at *;omega)))
      exact rnd (k + 1) (by (first|omega|(dsimp only at *;omega)|(simp at *;omega))) (by (first|omega|(dsimp only at *;omega)|(simp at *;omega))) (le_put (le_put (le_put (le_put (le_emp _) rfl) rfl) (by rw [hfs]; rfl)) rfl) (by (first|((repeat first|exact s_0|exact s_1|exact s_3|refine s_4 ?_|refine s_5 ?_|refine s_6 ?_|refine s_7 ?_);done)|((repeat first|exact s_0|exact s_1|exact s_3|refine s_4 ?_|refine s_5 ?_|refine s_6 ?_|refine s_8 ?_);done)))
  · refine xr_end rfl ?_
    refine th_n ?_
    refine xc_false rfl ?_
    refine xc_exit ?_
    refine th_x ?_
    refine th_x ?_
    refine bk_same ?_
    refine th_n ?_
    refine xc_seq (xc_region ?_)
    obtain rfl : s.tars.length = k := by (first|omega|(dsimp only at *;omega)|(simp at *;omega))
    refine xr_op rfl rfl (xv_move rfl ?_)
    refine xr_op rfl rfl (xv_assign rfl ?_)
    refine xr_end rfl ?_
    refine th_n ?_
    refine xc_ret ?_
    refine body_ret (h' := h) rfl (ro_tmp rfl ro_nil) (by (first|((repeat first|exact s_0|exact s_1|exact s_3|refine s_4 ?_|refine s_5 ?_|refine s_6 ?_|refine s_7 ?_);done)|((repeat first|exact s_0|exact s_1|exact s_3|refine s_4 ?_|refine s_5 ?_|refine s_6 ?_|refine s_8 ?_);done))) ?_
    exact H

end Go.Proofs.Ytlcdbjgfeoagbaa

/-
  Tariffs that are valid, one after the other.
-/
set_option linter.all false
namespace Go.Proofs.Ytlcdbjgfeoagbaa
open Go Go.H
def lastF : Int → List Tariff → Int
  | last, [] => last
  | _, t :: l => lastF t.frm l
theorem tarsOk_snoc {hold now : Int} {t : Tariff} : ∀ {last : Int} {l : List Tariff}, tarsOk hold now last (l ++ [t]) ↔ tarsOk hold now last l ∧ tarOk hold now (lastF last l) t
  | last, [] => by simp [tarsOk, lastF]
  | last, x :: l => by
    rw [List.cons_append]
    unfold tarsOk lastF
    rw [tarsOk_snoc (last := x.frm) (l := l), and_assoc]
theorem lastF_snoc {t : Tariff} : ∀ {last : Int} {l : List Tariff}, lastF last (l ++ [t]) = t.frm
  | last, [] => rfl
  | last, x :: l => lastF_snoc (last := x.frm) (l := l)
theorem tarsOk_app {hold now : Int} {q : List Tariff} : ∀ {last : Int} {l : List Tariff}, tarsOk hold now last (l ++ q) → tarsOk hold now last l
  | last, [], _ => trivial
  | last, x :: l, h => ⟨h.1, tarsOk_app h.2⟩
theorem tarsOk_take {hold now last : Int} {l : List Tariff} (k : Nat) (h : tarsOk hold now last l) : tarsOk hold now last (l.take k) := by
  rw [← List.take_append_drop k l] at h; exact tarsOk_app h
theorem tarsOk_more {hold now last : Int} {l : List Tariff} {k : Nat} {t : Tariff} (h : tarsOk hold now last (l.take k)) (hk : l[k]? = some t) (ht : tarOk hold now (lastF last (l.take k)) t) : tarsOk hold now last (l.take (k + 1)) := by
  rw [List.take_add_one, hk]; exact tarsOk_snoc.2 ⟨h, ht⟩
theorem tarsOk_at {hold now last : Int} {l : List Tariff} {k : Nat} {t : Tariff} (h : tarsOk hold now last l) (hk : l[k]? = some t) : tarOk hold now (lastF last (l.take k)) t := by
  have h1 := tarsOk_take (k + 1) h
  rw [List.take_add_one, hk] at h1
  exact (tarsOk_snoc.1 h1).2
theorem lastF_p {last : Int} {l : List Tariff} {k : Nat} {t : Tariff} (h0 : 0 < k) (hk : l[k - 1]? = some t) : lastF last (l.take k) = t.frm := by
  obtain ⟨j, rfl⟩ : ∃ j, k = j + 1 := ⟨k - 1, by omega⟩
  rw [Nat.add_sub_cancel] at hk
  rw [List.take_add_one, hk]; exact lastF_snoc
theorem lastF_ge {hold now : Int} : ∀ {last : Int} {l : List Tariff}, tarsOk hold now last l → last ≤ lastF last l
  | last, [], _ => Int.le_refl _
  | last, x :: l, h => by
    have h1 := lastF_ge h.2
    have h2 := h.1.1.1
    unfold lastF
    omega
theorem frm0_at {s : Slot} {x : Tariff} (h : frm0 s) (hx : s.tars[0]? = some x) : x.frm = 0 := by
  unfold frm0 at h
  rw [List.head?_eq_getElem?, List.getElem?_map, hx] at h
  exact Option.some.inj h
theorem frm0_of {s : Slot} {x : Tariff} (hx : s.tars[0]? = some x) (h : x.frm = 0) : frm0 s := by
  unfold frm0
  rw [List.head?_eq_getElem?, List.getElem?_map, hx]
  exact congrArg some h
theorem GoodSlot.feet {s : Slot} (h : GoodSlot s) : FeetOk s := fun t ht => by
  obtain ⟨⟨⟨_, a⟩, _⟩, _, _, h4, _⟩ := h
  obtain ⟨k, hk⟩ := List.getElem?_of_mem ht
  have := (tarsOk_at h4 hk).2
  omega
theorem GoodSlot.ne {s : Slot} (h : GoodSlot s) : s.tars ≠ [] := fun e => by
  have := h.2.1.1.1
  rw [e] at this
  exact absurd this (by decide)
end Go.Proofs.Ytlcdbjgfeoagbaa

/-
  Pairs of marks that cannot be.
-/
set_option linter.all false
namespace Go.Proofs.Ytlcdbjgfeoagbaa
open Go Go.H
def twP (a b : Mark) : Bool := decide (a.hour = b.hour ∧ a.used ≠ b.used)
def crP (a b : Mark) : Bool := decide (a.hour < b.hour ∧ a.used > b.used)
theorem twiceB_eq (l : List Mark) : twiceB l = l.any fun a => l.any (twP a) := rfl
theorem crossB_eq (l : List Mark) : crossB l = l.any fun a => l.any (crP a) := rfl
theorem any_more {α : Type} {p : α → Bool} {l : List α} {k : Nat} {x : α} (h : l[k]? = some x) : (l.take (k + 1)).any p = ((l.take k).any p || p x) := by
  rw [List.take_add_one, h, List.any_append]; simp
theorem twice_at {l : List Mark} {a b : Mark} (ha : a ∈ l) (hb : b ∈ l) (h : twP a b = true) : twiceB l = true := by
  rw [twiceB_eq, List.any_eq_true]
  exact ⟨a, ha, List.any_eq_true.2 ⟨b, hb, h⟩⟩
def num7 (b : Bool) : Int := if b then 7 else 0
theorem errS_5 {s : Slot} (hg : GoodSlot s) (h : twiceB s.marks = true) : errS s = 5 := by unfold errS; rw [if_pos hg, if_pos h]
theorem errS_n {s : Slot} (hg : GoodSlot s) (h : twiceB s.marks = false) : errS s = num7 (crossB s.marks) := by unfold errS num7; rw [if_pos hg, h]; rfl
theorem errS_1 {s : Slot} (hg : ¬ GoodSlot s) : errS s = 1 := by unfold errS; exact if_neg hg
end Go.Proofs.Ytlcdbjgfeoagbaa

/-
  The last mark, and the credit.
-/
set_option linter.all false
namespace Go.Proofs.Ytlcdbjgfeoagbaa
open Go Go.H
theorem lastM_0 {s : Slot} (h : (sortM s.marks).length = 0) : lastM s = (0, false) := by
  unfold lastM
  rw [List.length_eq_zero_iff.1 h]; rfl
theorem lastM_p {s : Slot} {m : Mark} (h : (sortM s.marks)[(sortM s.marks).length - 1]? = some m) : lastM s = (m.used, decide (m.hour = s.now)) := by
  unfold lastM
  rw [List.getLast?_eq_getElem?, h]
theorem lastM_bd {s : Slot} (hg : GoodSlot s) : 0 ≤ (lastM s).1 ∧ (lastM s).1 ≤ 1073741824 := by
  by_cases h : (sortM s.marks).length = 0
  · rw [lastM_0 h]; decide
  · have hk : (sortM s.marks)[(sortM s.marks).length - 1]? = some ((sortM s.marks)[(sortM s.marks).length - 1]'(by omega)) := List.getElem?_eq_getElem (by omega)
    rw [lastM_p hk]
    have := hg.2.2.2.2 _ (sortM_mem.1 (List.mem_of_getElem? hk))
    exact this.2
theorem creditA_t {s : Slot} {b : Int} (h : (lastM s).2 = true) : creditA s b = ⟨s.start + b - (lastM s).1, s.start + b - (lastM s).1⟩ := by unfold creditA; rw [if_pos h]
theorem creditA_f {s : Slot} {b : Int} (h : (lastM s).2 = false) : creditA s b = ⟨0, min s.hold (s.start + b - (lastM s).1)⟩ := by unfold creditA; rw [h]; exact if_neg (by decide)
theorem badM_cons {s : Slot} {f : Int → Int} {m : Mark} {l : List Mark} : badM s f (m :: l) = if s.start + f m.hour < m.used then some (m.hour, 10) else if s.start + f m.hour > m.used + s.hold then some (m.hour, 9) else badM s f l := rfl
theorem badM_take {s : Slot} {f : Int → Int} : ∀ {l : List Mark} {k : Nat}, badM s f l = (match badM s f (l.take k) with
    | some z => some z
    | none => badM s f (l.drop k))
  | [], k => by simp [badM]
  | m :: l, 0 => rfl
  | m :: l, k + 1 => by
    rw [List.take_succ_cons, List.drop_succ_cons, badM_cons, badM_cons]
    split
    · rfl
    · split
      · rfl
      · exact badM_take
theorem badM_at {s : Slot} {f : Int → Int} {l : List Mark} {k : Nat} {m : Mark} {z : Int × Int} (h : badM s f (l.take k) = none) (hk : l[k]? = some m) (hz : badM s f [m] = some z) : badM s f l = some z := by
  rw [badM_take (k := k), h]
  have hlt := (List.getElem?_eq_some_iff.1 hk)
  obtain ⟨h1, h2⟩ := hlt
  show badM s f (l.drop k) = some z
  rw [List.drop_eq_getElem_cons h1, h2]
  rw [badM_cons] at hz ⊢
  split
  · rename_i q; rw [if_pos q] at hz; exact hz
  · rename_i q
    rw [if_neg q] at hz
    split
    · rename_i q2; rw [if_pos q2] at hz; exact hz
    · rename_i q2; rw [if_neg q2] at hz; simp [badM] at hz
theorem badM_more {s : Slot} {f : Int → Int} {l : List Mark} {k : Nat} {m : Mark} (h : badM s f (l.take k) = none) (hk : l[k]? = some m) (h1 : ¬ s.start + f m.hour < m.used) (h2 : ¬ s.start + f m.hour > m.used + s.hold) : badM s f (l.take (k + 1)) = none := by
  rw [badM_take (k := k), List.take_take, Nat.min_eq_left (by omega), h]
  show badM s f ((l.take (k + 1)).drop k) = none
  rw [List.take_add_one, hk]
  have hlt := (List.getElem?_eq_some_iff.1 hk).1
  rw [List.drop_append_of_le_length (by rw [List.length_take]; omega), List.drop_eq_nil_of_le (by rw [List.length_take]; omega)]
  show badM s f [m] = none
  rw [badM_cons, if_neg h1, if_neg h2]; rfl
end Go.Proofs.Ytlcdbjgfeoagbaa

/-
  What playing gives, case by case.
-/
set_option linter.all false
namespace Go.Proofs.Ytlcdbjgfeoagbaa
open Go Go.H
section
variable {s : Slot} {hours : List Int}
theorem good_of (h : errS s = 0) : GoodSlot s := by
  by_cases hg : GoodSlot s
  · exact hg
  · rw [errS_1 hg] at h; exact absurd h (by decide)
theorem playA_e (h : ¬ errS s = 0) : playA s hours = (0, ⟨0, 0⟩, 0, errS s) := by unfold playA; exact if_neg h
theorem playA_2 (h : errS s = 0) (h2 : ¬ ((hours.length : Int) = s.coins ∧ ∀ h ∈ hours, 0 ≤ h ∧ h ≤ s.now)) : playA s hours = (0, ⟨0, 0⟩, 0, 2) := by unfold playA; rw [if_pos h, if_neg h2]
theorem playA_b {a e : Int} (h : errS s = 0) (h2 : (hours.length : Int) = s.coins ∧ ∀ h ∈ hours, 0 ≤ h ∧ h ≤ s.now) (h3 : badM s (byH s hours) (sortM s.marks) = some (a, e)) : playA s hours = (0, ⟨0, 0⟩, a, e) := by unfold playA; rw [if_pos h, if_pos h2, h3]
theorem playA_0 (h : errS s = 0) (h2 : (hours.length : Int) = s.coins ∧ ∀ h ∈ hours, 0 ≤ h ∧ h ≤ s.now) (h3 : badM s (byH s hours) (sortM s.marks) = none) : playA s hours = (byH s hours s.now, creditA s (byH s hours s.now), s.now, 0) := by unfold playA; rw [if_pos h, if_pos h2, h3]
theorem badM_10 {f : Int → Int} {m : Mark} (h : s.start + f m.hour < m.used) : badM s f [m] = some (m.hour, 10) := if_pos h
theorem badM_9 {f : Int → Int} {m : Mark} (h1 : ¬ s.start + f m.hour < m.used) (h : s.start + f m.hour > m.used + s.hold) : badM s f [m] = some (m.hour, 9) := by rw [badM_cons, if_neg h1, if_pos h]
end
end Go.Proofs.Ytlcdbjgfeoagbaa

/-
  The last hour of a tariff, and what pennies are worth.
-/
set_option linter.all false
namespace Go.Proofs.Ytlcdbjgfeoagbaa
open Go Go.H
theorem frm_bd {s : Slot} (hg : GoodSlot s) {k : Nat} {t : Tariff} (h : s.tars[k]? = some t) : 0 ≤ t.frm ∧ t.frm ≤ 1048576 := by
  obtain ⟨⟨_, _, _, _, h8⟩, _, _, h4, _⟩ := id hg
  have h1 := (tarsOk_at h4 h).1
  have h2 := lastF_ge (tarsOk_take k h4)
  omega
def endT (s : Slot) (k : Nat) : Int := match s.tars[k + 1]? with
  | some t => t.frm - 1
  | none => s.now
theorem endT_p {s : Slot} {k : Nat} {t : Tariff} (h : s.tars[k + 1]? = some t) : endT s k = t.frm - 1 := by unfold endT; rw [h]
theorem endT_n {s : Slot} {k : Nat} (h : s.tars.length ≤ k + 1) : endT s k = s.now := by unfold endT; rw [List.getElem?_eq_none h]
def worthN (s : Slot) (n : List Int) : Nat → Int
  | 0 => 0
  | k + 1 => worthN s n k + n.getD k 0 * (s.tars.getD k default).feet
theorem worthN_at {s : Slot} {n : List Int} {k : Nat} {x : Int} {t : Tariff} (h : n[k]? = some x) (ht : s.tars[k]? = some t) : worthN s n (k + 1) = worthN s n k + x * t.feet := by
  rw [worthN, List.getD_eq_getElem?_getD, h, List.getD_eq_getElem?_getD, ht]; rfl
theorem mul_bd {x f : Int} (h : 0 ≤ x ∧ x ≤ 24) (hf : 0 ≤ f ∧ f ≤ 10000) : 0 ≤ x * f ∧ x * f ≤ 240000 := by
  refine ⟨Int.mul_nonneg h.1 hf.1, ?_⟩
  have h1 : x * f ≤ 24 * 10000 := Int.mul_le_mul h.2 hf.2 hf.1 (by decide)
  omega
theorem worthN_bd {s : Slot} {n : List Int} (hf : FeetOk s) (hn : ∀ x ∈ n, 0 ≤ x ∧ x ≤ 24) (hl : n.length ≤ s.tars.length) : ∀ k, k ≤ n.length → 0 ≤ worthN s n k ∧ worthN s n k ≤ 240000 * (k : Int)
  | 0, _ => by simp [worthN]
  | k + 1, h => by
    have ih := worthN_bd hf hn hl k (by omega)
    have h1 : n[k]? = some (n[k]'(by omega)) := List.getElem?_eq_getElem (by omega)
    have h2 : s.tars[k]? = some (s.tars[k]'(by omega)) := List.getElem?_eq_getElem (by omega)
    rw [worthN_at h1 h2]
    have := mul_bd (hn _ (List.mem_of_getElem? h1)) (hf _ (List.mem_of_getElem? h2))
    omega
end Go.Proofs.Ytlcdbjgfeoagbaa

/-
  Whether so many pennies can have been put in at each tariff: mark by mark.
-/
set_option linter.all false
namespace Go.Proofs.Ytlcdbjgfeoagbaa
open Go Go.H
def growN (sm f used nk : Int) : Nat → Int → Int
  | 0, b => b
  | q + 1, b => if b < nk ∧ sm + b * f < used then growN sm f used nk q (b + 1) else b
def grow (sm f used nk b : Int) : Int := growN sm f used nk (nk - b).toNat b
theorem grow_step {sm f used nk b : Int} (h1 : b < nk) (h2 : sm + b * f < used) : grow sm f used nk b = grow sm f used nk (b + 1) := by
  unfold grow
  rw [show (nk - b).toNat = (nk - (b + 1)).toNat + 1 by omega, growN, if_pos ⟨h1, h2⟩]
theorem grow_stop {sm f used nk b : Int} (h : ¬ (b < nk ∧ sm + b * f < used)) : grow sm f used nk b = b := by
  unfold grow
  cases (nk - b).toNat with
  | zero => rfl
  | succ q => rw [growN, if_neg h]
section
variable (s : Slot) (n : List Int)
def nAt (h : Int) : Int := n.getD (force s.tars h) 0
def smAt (h : Int) : Int := s.start + worthN s n (force s.tars h)
def stepB (m : Mark) (at_ bf : Int) : Int :=
  if m.hour = endT s (force s.tars m.hour) then nAt s n m.hour else grow (smAt s n m.hour) (feetAt s m.hour) m.used (nAt s n m.hour) (if (force s.tars m.hour : Int) = at_ then bf else 0)
def fitM (m : Mark) (b : Int) : Prop := m.used ≤ smAt s n m.hour + b * feetAt s m.hour ∧ smAt s n m.hour + b * feetAt s m.hour ≤ m.used + s.hold
instance (m : Mark) (b : Int) : Decidable (fitM s n m b) := by unfold fitM; infer_instance
def possM : List Mark → Option (Int × Int)
  | l => l.foldl (fun z m => match z with
    | none => none
    | some (a, b) => if fitM s n m (stepB s n m a b) then some ((force s.tars m.hour : Int), stepB s n m a b) else none) (some (-1, 0))
def possB : Bool := (possM s n (sortM s.marks)).isSome
end
theorem possM_snoc {s : Slot} {n : List Int} {l : List Mark} {m : Mark} : possM s n (l ++ [m]) = (match possM s n l with
    | none => none
    | some (a, b) => if fitM s n m (stepB s n m a b) then some ((force s.tars m.hour : Int), stepB s n m a b) else none) := by
  unfold possM; rw [List.foldl_append]; rfl
theorem possM_take {s : Slot} {n : List Int} {l : List Mark} {k : Nat} {m : Mark} {a b : Int} (h : possM s n (l.take k) = some (a, b)) (hk : l[k]? = some m) (hf : fitM s n m (stepB s n m a b)) : possM s n (l.take (k + 1)) = some ((force s.tars m.hour : Int), stepB s n m a b) := by
  rw [List.take_add_one, hk]
  show possM s n (l.take k ++ [m]) = _
  rw [possM_snoc, h]; exact if_pos hf
theorem possM_none {s : Slot} {n : List Int} {l q : List Mark} (h : possM s n l = none) : possM s n (l ++ q) = none := by
  induction q using snoc_ind with
  | h0 => rw [List.append_nil]; exact h
  | h1 q m ih => rw [← List.append_assoc, possM_snoc, ih]
theorem possM_bad {s : Slot} {n : List Int} {l : List Mark} {k : Nat} {m : Mark} {a b : Int} (h : possM s n (l.take k) = some (a, b)) (hk : l[k]? = some m) (hf : ¬ fitM s n m (stepB s n m a b)) : possM s n l = none := by
  rw [← List.take_append_drop (k + 1) l]
  refine possM_none ?_
  rw [List.take_add_one, hk]
  show possM s n (l.take k ++ [m]) = _
  rw [possM_snoc, h]; exact if_neg hf
end Go.Proofs.Ytlcdbjgfeoagbaa
