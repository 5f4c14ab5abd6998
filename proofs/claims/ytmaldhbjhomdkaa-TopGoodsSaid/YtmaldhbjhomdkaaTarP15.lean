/-
  Moves that are valid one by one.
-/
import Derived.Test.YtmaldhbjhomdkaaHW
import Derived.Test.YtmaldhbjhomdkaaCoalW16
import Derived.Test.YtmaldhbjhomdkaaCoalP23
import Derived.Test.YtmaldhbjhomdkaaTarW6
import Derived.Test.YtmaldhbjhomdkaaTarO
set_option linter.all false
namespace Go.Proofs.Ytmaldhbjhomdkaa.Coal
open Go Go.H
theorem movesOk_all {n : Nat} {l : List Move} (h : ∀ (k : Nat) (x : Move), l[k]? = some x → moveOk n (lastH 0 (l.take k)) x) : movesOk n 0 l := by
  have key : ∀ k, k ≤ l.length → movesOk n 0 (l.take k) := by
    intro k
    induction k with
    | zero => intro _; trivial
    | succ k ih =>
      intro hk
      obtain ⟨x, hx⟩ : ∃ x, l[k]? = some x := ⟨_, List.getElem?_eq_getElem (by omega)⟩
      exact (movesOk_take hx).2 ⟨ih (by omega), h k x hx⟩
  have := key l.length (Nat.le_refl _)
  rwa [List.take_length] at this
end Go.Proofs.Ytmaldhbjhomdkaa.Coal

/-
  Walks.
-/
namespace Go.Proofs.Ytmaldhbjhomdkaa.Coal
open Go Go.H
set_option maxRecDepth 100000
set_option maxHeartbeats 8000000
set_option linter.all false
theorem isYard_c {y : Yard} {h : Hp} {R : Ending → Hp → Prop} (hy : YardV h y) (hs : Small y) (H1 : GoodYard y → R (.returned (.bool true)) h) (H2 : ¬ GoodYard y → R (.returned (.bool false)) h) : ACalls Try.prog 34 ⟨[.agg ⟨eYard y⟩]⟩ h R := by
  refine calls_of_xc (N := 57) Try.func34 rfl (by rfl) ?_
  obtain ⟨hs1, hs2⟩ := id hs
  refine xc_seq (xc_region ?_)
  refine xr_op rfl rfl (xv_box rfl (fun b1 hb1 => ?_))
  refine xr_op rfl rfl (xv_assign rfl ?_)
  refine xr_end rfl ?_
  refine th_n ?_
  refine xc_seq (xc_region ?_)
  refine xr_op rfl rfl (xv_alloc ty3 (fun b3 hb3 => ?_))
  refine xr_op rfl rfl (xv_s1 ty3 rfl rfl rfl Up_ One_ Len_ Ev_ ?_)
  refine xr_end rfl ?_
  refine th_n ?_
  refine xc_seq (xc_region ?_)
  refine xr_op rfl rfl (xv_func rfl rfl ?_)
  refine xr_op rfl rfl (xv_assign rfl ?_)
  refine xr_end rfl ?_
  refine th_n ?_
  refine xc_seq ?_
  refine xc_seq (xc_region ?_)
  refine xr_op rfl rfl (xv_faddr fl25_0 rfl ?_)
  refine xr_op rfl rfl (xv_load1 ty22 rfl rfl Me_ (by rfl) ?_)
  refine xr_op rfl rfl (xv_len sl22 rfl ?_)
  refine xr_op rfl rfl (xv_move rfl ?_)
  refine xr_end rfl ?_
  refine th_n ?_
  refine xc_block ?_
  refine xc_loop (σ := Nat) (fun k => k ≤ y.coals.length ∧ ∀ x ∈ y.coals.take k, coalOk x) (fun k => (((((emp.put (some 1) (.pointer (some ⟨b1, 0, none⟩))).put (some 4) (.func (.func 59) ⟨[]⟩ ⟨[.pointer (some ⟨b3, 0, none⟩), .pointer (some ⟨b1, 0, none⟩)]⟩)).put (some 12) (.slice y.ca y.coals.length y.cc)).put (some 13) (I y.coals.length)).put (some 14) (I k))) (fun k => ((b3, .cells ⟨[I 0]⟩ 3) :: (b1, .cells ⟨eYard y⟩ 25) :: h)) (fun k => y.coals.length - k) 0 ⟨Nat.zero_le _, fun x hx => by simp at hx⟩ (le_put (le_put (le_put (le_put (le_put (le_emp _) rfl) rfl) rfl) rfl) rfl) Su_ ?_
  rintro k ⟨hk, hal⟩
  refine xc_seq (xc_region ?_)
  refine xr_op rfl rfl (xv_lss2 rfl rfl (fun q1 => ?_) (fun q1 => ?_))
  · refine xr_end rfl ?_
    refine th_n ?_
    refine xc_seq ?_
    refine xc_true rfl ?_
    refine xc_skip ?_
    refine th_n ?_
    refine xc_seq ?_
    refine xc_block ?_
    refine xc_seq (xc_region ?_)
    have hlto : k < y.coals.length := by (first|omega|(dsimp only at *;omega)|(simp at *;omega))
    obtain ⟨bo, oo, lo, to, fzo, hao, hmo, hxo⟩ := (hy.coals).at hlto
    obtain ⟨xo, hko⟩ : ∃ qq_, y.coals[k]? = some qq_ := ⟨_, List.getElem?_eq_getElem hlto⟩
    refine xr_op rfl rfl (xv_ia (sz := 8) (j := k) sl22 ty59 rfl (by rw [hao]; rfl) rfl Ix_ Om_ Om_ ?_)
    refine xr_op rfl rfl (xv_loadA ty59 rfl rfl Me_ (hxo (k) xo hko) rfl ?_)
    refine xr_op rfl rfl (xv_alloc ty59 (fun b6 hb6 => ?_))
    refine xr_op rfl rfl (xv_s ty59 rfl rfl Up_ Ev_ (by rfl) (by rfl) (by rfl) Ev_ ?_)
    refine xr_end rfl ?_
    refine th_n ?_
    refine xc_seq (xc_region ?_)
    refine xr_op rfl rfl (xv_calls rfl hb40 (given_c (up_ret ?_)))
    refine xr_op rfl rfl (xv_move rfl ?_)
    refine xr_end rfl ?_
    refine th_n ?_
    refine xc_block ?_
    refine xc_loop (σ := Nat) (fun i => i ≤ 4 ∧ ∀ (j : Nat) (s : Span), j < i → (ofL xo)[j]? = some s → spanOk s) (fun i => ((((((((emp.put (some 1) (.pointer (some ⟨b1, 0, none⟩))).put (some 4) (.func (.func 59) ⟨[]⟩ ⟨[.pointer (some ⟨b3, 0, none⟩), .pointer (some ⟨b1, 0, none⟩)]⟩)).put (some 12) (.slice y.ca y.coals.length y.cc)).put (some 13) (I y.coals.length)).put (some 14) (I k)).put (some 6) (.pointer (some ⟨b6, 0, none⟩))).put (some 18) (.agg ⟨[.func (.func 35) ⟨[]⟩ ⟨[]⟩, .func (.func 36) ⟨[]⟩ ⟨[]⟩, .func (.func 37) ⟨[]⟩ ⟨[]⟩, .func (.func 38) ⟨[]⟩ ⟨[]⟩]⟩)).put (some 19) (I i))) (fun i => ((b6, .cells ⟨eCoal xo⟩ 52) :: ((b3, .cells ⟨[I 0]⟩ 3) :: (b1, .cells ⟨eYard y⟩ 25) :: h))) (fun i => 4 - i) 0 ⟨Nat.zero_le _, fun j s hj => absurd hj (Nat.not_lt_zero _)⟩ (le_put (le_put (le_put (le_put (le_put (le_put (le_put (le_put (le_emp _) rfl) rfl) rfl) rfl) rfl) rfl) rfl) rfl) Su_ ?_
    rintro i ⟨hi, hi4⟩
    refine xc_seq (xc_region ?_)
    refine xr_op rfl rfl (xv_lss2 rfl rfl (fun q2 => ?_) (fun q2 => ?_))
    · refine xr_end rfl ?_
      refine th_n ?_
      refine xc_seq ?_
      refine xc_true rfl ?_
      refine xc_skip ?_
      refine th_n ?_
      refine xc_seq ?_
      refine xc_block ?_
      refine xc_seq (xc_region ?_)
      obtain rfl | rfl | rfl | rfl : i = 0 ∨ i = 1 ∨ i = 2 ∨ i = 3 := by (first|omega|(dsimp only at *;omega)|(simp at *;omega))
      · refine xr_op rfl rfl (xv_indexA Try.underlying73 ty89 rfl rfl rfl (by decide) (by decide) (by rfl) ?_)
        refine xr_op rfl rfl (xv_alloc ty89 (fun b8 hb8 => ?_))
        refine xr_op rfl rfl (xv_s ty89 rfl rfl Up_ Ev_ (by rfl) (by rfl) (by rfl) Ev_ ?_)
        refine xr_end rfl ?_
        refine th_n ?_
        refine xc_seq (xc_region ?_)
        refine xr_op rfl rfl (xv_faddr fl89_0 rfl ?_)
        refine xr_op rfl rfl (xv_load1 ty88 rfl rfl Me_ (by rfl) ?_)
        refine xr_op rfl rfl (xv_loadA ty59 rfl rfl Me_ Ev_ (by rfl) ?_)
        refine xr_op rfl rfl (xv_call (fi := []) (ca := []) rfl rfl hb54 rfl (give54_c (c := xo) (up_ret ?_)))
        refine xr_op rfl rfl (xv_alloc ty33 (fun b9 hb9 => ?_))
        refine xr_op rfl rfl (xv_s ty33 rfl rfl Up_ Ev_ (by rfl) (by rfl) (by rfl) Ev_ ?_)
        refine xr_end rfl ?_
        refine th_n ?_
        refine xc_seq (xc_region ?_)
        refine xr_op rfl rfl (xv_faddr fl33_1 rfl ?_)
        refine xr_op rfl rfl (xv_load1 ty3 rfl rfl Me_ (by rfl) ?_)
        refine xr_op rfl rfl (xv_calls rfl hb31 (within_c _ _ _ (fun hl3 hu4 => up_ret ?_) (fun hn5 => up_ret ?_)))
        · refine xr_op rfl rfl (xv_not rfl ?_)
          refine xr_op rfl rfl (xv_move rfl ?_)
          refine xr_gd rfl rfl rfl (xv_faddr fl33_0 rfl ?_)
          refine xr_gd rfl rfl rfl (xv_load1 ty3 rfl rfl Me_ (by rfl) ?_)
          refine xr_gd rfl rfl rfl (xv_faddr fl33_1 rfl ?_)
          refine xr_gd rfl rfl rfl (xv_load1 ty3 rfl rfl Me_ (by rfl) ?_)
          refine xr_gd rfl rfl rfl (xv_calls rfl hb31 (within_c _ _ _ (fun hl6 hu7 => up_ret ?_) (fun hn8 => up_ret ?_)))
          · refine xr_gd rfl rfl rfl (xv_not rfl ?_)
            refine xr_op rfl rfl (xv_pick rfl rfl ?_)
            refine xr_end rfl ?_
            refine th_n ?_
            refine xc_false rfl ?_
            refine xc_skip ?_
            refine bk_n ?_
            refine th_n ?_
            refine xc_region ?_
            refine xr_op rfl rfl (xv_add rfl rfl (wrap_i64 Om_ Om_) ?_)
            refine xr_op rfl rfl (xv_move rfl ?_)
            refine xr_end rfl ?_
            exact rnd (0 + 1) ⟨by omega, fun j s9 hj hs9 => by
              rcases Nat.lt_succ_iff_lt_or_eq.1 hj with hj | rfl
              · exact hi4 j s9 hj hs9
              · have hs8 : some xo.gas = some s9 := hs9
                cases hs8
                unfold spanOk; omega⟩ (by omega) (le_put (le_put (le_put (le_put (le_put (le_put (le_put (le_put (le_emp _) rfl) rfl) rfl) rfl) rfl) rfl) rfl) rfl) Su_
          · refine xr_gd rfl rfl rfl (xv_not rfl ?_)
            refine xr_op rfl rfl (xv_pick rfl rfl ?_)
            refine xr_end rfl ?_
            refine th_n ?_
            refine xc_true rfl ?_
            refine xc_seq (xc_region ?_)
            have hbs : ¬ spanOk xo.gas := fun hq => by unfold spanOk at hq; omega
            have hbc : ¬ coalOk xo := fun hq => hbs hq.1
            refine xr_op rfl rfl (xv_assign rfl ?_)
            refine xr_end rfl ?_
            refine th_n ?_
            refine xc_ret ?_
            refine bk_r ?_
            refine th_r ?_
            refine th_r ?_
            refine bk_r ?_
            refine bk_r ?_
            refine th_r ?_
            refine th_r ?_
            refine bk_r ?_
            refine th_r ?_
            refine body_ret (h' := h) rfl (ro_tmp rfl ro_nil) Su_ ?_
            first | exact H2 (fun hq9 => hbc (hq9.1 xo (List.mem_of_getElem? hko))) | exact H2 (fun hq9 => absurd (movesOk_at hq9.2.1 hkb) (by simpa using hpb)) | exact H1 ⟨hco, movesOk_all (fun k x hk => by simpa using hno k x hk), by omega, by omega⟩ | exact H2 (fun hq9 => by have h9 := hq9.2.2; omega)
        · refine xr_op rfl rfl (xv_not rfl ?_)
          refine xr_op rfl rfl (xv_move rfl ?_)
          refine xr_no rfl rfl rfl rfl ?_
          refine xr_no rfl rfl rfl rfl ?_
          refine xr_no rfl rfl rfl rfl ?_
          refine xr_no rfl rfl rfl rfl ?_
          refine xr_no rfl rfl rfl rfl ?_
          refine xr_no rfl rfl rfl rfl ?_
          refine xr_op rfl rfl (xv_pick rfl rfl ?_)
          refine xr_end rfl ?_
          refine th_n ?_
          refine xc_true rfl ?_
          refine xc_seq (xc_region ?_)
          have hbs : ¬ spanOk xo.gas := fun hq => by unfold spanOk at hq; omega
          have hbc : ¬ coalOk xo := fun hq => hbs hq.1
          refine xr_op rfl rfl (xv_assign rfl ?_)
          refine xr_end rfl ?_
          refine th_n ?_
          refine xc_ret ?_
          refine bk_r ?_
          refine th_r ?_
          refine th_r ?_
          refine bk_r ?_
          refine bk_r ?_
          refine th_r ?_
          refine th_r ?_
          refine bk_r ?_
          refine th_r ?_
          refine body_ret (h' := h) rfl (ro_tmp rfl ro_nil) Su_ ?_
          first | exact H2 (fun hq9 => hbc (hq9.1 xo (List.mem_of_getElem? hko))) | exact H2 (fun hq9 => absurd (movesOk_at hq9.2.1 hkb) (by simpa using hpb)) | exact H1 ⟨hco, movesOk_all (fun k x hk => by simpa using hno k x hk), by omega, by omega⟩ | exact H2 (fun hq9 => by have h9 := hq9.2.2; omega)
      · refine xr_op rfl rfl (xv_indexA Try.underlying73 ty89 rfl rfl rfl (by decide) (by decide) (by rfl) ?_)
        refine xr_op rfl rfl (xv_alloc ty89 (fun b8 hb8 => ?_))
        refine xr_op rfl rfl (xv_s ty89 rfl rfl Up_ Ev_ (by rfl) (by rfl) (by rfl) Ev_ ?_)
        refine xr_end rfl ?_
        refine th_n ?_
        refine xc_seq (xc_region ?_)
        refine xr_op rfl rfl (xv_faddr fl89_0 rfl ?_)
        refine xr_op rfl rfl (xv_load1 ty88 rfl rfl Me_ (by rfl) ?_)
        refine xr_op rfl rfl (xv_loadA ty59 rfl rfl Me_ Ev_ (by rfl) ?_)
        refine xr_op rfl rfl (xv_call (fi := []) (ca := []) rfl rfl hb55 rfl (give55_c (c := xo) (up_ret ?_)))
        refine xr_op rfl rfl (xv_alloc ty33 (fun b9 hb9 => ?_))
        refine xr_op rfl rfl (xv_s ty33 rfl rfl Up_ Ev_ (by rfl) (by rfl) (by rfl) Ev_ ?_)
        refine xr_end rfl ?_
        refine th_n ?_
        refine xc_seq (xc_region ?_)
        refine xr_op rfl rfl (xv_faddr fl33_1 rfl ?_)
        refine xr_op rfl rfl (xv_load1 ty3 rfl rfl Me_ (by rfl) ?_)
        refine xr_op rfl rfl (xv_calls rfl hb31 (within_c _ _ _ (fun hl9 hu10 => up_ret ?_) (fun hn11 => up_ret ?_)))
        · refine xr_op rfl rfl (xv_not rfl ?_)
          refine xr_op rfl rfl (xv_move rfl ?_)
          refine xr_gd rfl rfl rfl (xv_faddr fl33_0 rfl ?_)
          refine xr_gd rfl rfl rfl (xv_load1 ty3 rfl rfl Me_ (by rfl) ?_)
          refine xr_gd rfl rfl rfl (xv_faddr fl33_1 rfl ?_)
          refine xr_gd rfl rfl rfl (xv_load1 ty3 rfl rfl Me_ (by rfl) ?_)
          refine xr_gd rfl rfl rfl (xv_calls rfl hb31 (within_c _ _ _ (fun hl12 hu13 => up_ret ?_) (fun hn14 => up_ret ?_)))
          · refine xr_gd rfl rfl rfl (xv_not rfl ?_)
            refine xr_op rfl rfl (xv_pick rfl rfl ?_)
            refine xr_end rfl ?_
            refine th_n ?_
            refine xc_false rfl ?_
            refine xc_skip ?_
            refine bk_n ?_
            refine th_n ?_
            refine xc_region ?_
            refine xr_op rfl rfl (xv_add rfl rfl (wrap_i64 Om_ Om_) ?_)
            refine xr_op rfl rfl (xv_move rfl ?_)
            refine xr_end rfl ?_
            exact rnd (1 + 1) ⟨by omega, fun j s9 hj hs9 => by
              rcases Nat.lt_succ_iff_lt_or_eq.1 hj with hj | rfl
              · exact hi4 j s9 hj hs9
              · have hs8 : some xo.tar = some s9 := hs9
                cases hs8
                unfold spanOk; omega⟩ (by omega) (le_put (le_put (le_put (le_put (le_put (le_put (le_put (le_put (le_emp _) rfl) rfl) rfl) rfl) rfl) rfl) rfl) rfl) Su_
          · refine xr_gd rfl rfl rfl (xv_not rfl ?_)
            refine xr_op rfl rfl (xv_pick rfl rfl ?_)
            refine xr_end rfl ?_
            refine th_n ?_
            refine xc_true rfl ?_
            refine xc_seq (xc_region ?_)
            have hbs : ¬ spanOk xo.tar := fun hq => by unfold spanOk at hq; omega
            have hbc : ¬ coalOk xo := fun hq => hbs hq.2.1
            refine xr_op rfl rfl (xv_assign rfl ?_)
            refine xr_end rfl ?_
            refine th_n ?_
            refine xc_ret ?_
            refine bk_r ?_
            refine th_r ?_
            refine th_r ?_
            refine bk_r ?_
            refine bk_r ?_
            refine th_r ?_
            refine th_r ?_
            refine bk_r ?_
            refine th_r ?_
            refine body_ret (h' := h) rfl (ro_tmp rfl ro_nil) Su_ ?_
            first | exact H2 (fun hq9 => hbc (hq9.1 xo (List.mem_of_getElem? hko))) | exact H2 (fun hq9 => absurd (movesOk_at hq9.2.1 hkb) (by simpa using hpb)) | exact H1 ⟨hco, movesOk_all (fun k x hk => by simpa using hno k x hk), by omega, by omega⟩ | exact H2 (fun hq9 => by have h9 := hq9.2.2; omega)
        · refine xr_op rfl rfl (xv_not rfl ?_)
          refine xr_op rfl rfl (xv_move rfl ?_)
          refine xr_no rfl rfl rfl rfl ?_
          refine xr_no rfl rfl rfl rfl ?_
          refine xr_no rfl rfl rfl rfl ?_
          refine xr_no rfl rfl rfl rfl ?_
          refine xr_no rfl rfl rfl rfl ?_
          refine xr_no rfl rfl rfl rfl ?_
          refine xr_op rfl rfl (xv_pick rfl rfl ?_)
          refine xr_end rfl ?_
          refine th_n ?_
          refine xc_true rfl ?_
          refine xc_seq (xc_region ?_)
          have hbs : ¬ spanOk xo.tar := fun hq => by unfold spanOk at hq; omega
          have hbc : ¬ coalOk xo := fun hq => hbs hq.2.1
          refine xr_op rfl rfl (xv_assign rfl ?_)
          refine xr_end rfl ?_
          refine th_n ?_
          refine xc_ret ?_
          refine bk_r ?_
          refine th_r ?_
          refine th_r ?_
          refine bk_r ?_
          refine bk_r ?_
          refine th_r ?_
          refine th_r ?_
          refine bk_r ?_
          refine th_r ?_
          refine body_ret (h' := h) rfl (ro_tmp rfl ro_nil) Su_ ?_
          first | exact H2 (fun hq9 => hbc (hq9.1 xo (List.mem_of_getElem? hko))) | exact H2 (fun hq9 => absurd (movesOk_at hq9.2.1 hkb) (by simpa using hpb)) | exact H1 ⟨hco, movesOk_all (fun k x hk => by simpa using hno k x hk), by omega, by omega⟩ | exact H2 (fun hq9 => by have h9 := hq9.2.2; omega)
      · refine xr_op rfl rfl (xv_indexA Try.underlying73 ty89 rfl rfl rfl (by decide) (by decide) (by rfl) ?_)
        refine xr_op rfl rfl (xv_alloc ty89 (fun b8 hb8 => ?_))
        refine xr_op rfl rfl (xv_s ty89 rfl rfl Up_ Ev_ (by rfl) (by rfl) (by rfl) Ev_ ?_)
        refine xr_end rfl ?_
        refine th_n ?_
        refine xc_seq (xc_region ?_)
        refine xr_op rfl rfl (xv_faddr fl89_0 rfl ?_)
        refine xr_op rfl rfl (xv_load1 ty88 rfl rfl Me_ (by rfl) ?_)
        refine xr_op rfl rfl (xv_loadA ty59 rfl rfl Me_ Ev_ (by rfl) ?_)
        refine xr_op rfl rfl (xv_call (fi := []) (ca := []) rfl rfl hb56 rfl (give56_c (c := xo) (up_ret ?_)))
        refine xr_op rfl rfl (xv_alloc ty33 (fun b9 hb9 => ?_))
        refine xr_op rfl rfl (xv_s ty33 rfl rfl Up_ Ev_ (by rfl) (by rfl) (by rfl) Ev_ ?_)
        refine xr_end rfl ?_
        refine th_n ?_
        refine xc_seq (xc_region ?_)
        refine xr_op rfl rfl (xv_faddr fl33_1 rfl ?_)
        refine xr_op rfl rfl (xv_load1 ty3 rfl rfl Me_ (by rfl) ?_)
        refine xr_op rfl rfl (xv_calls rfl hb31 (within_c _ _ _ (fun hl15 hu16 => up_ret ?_) (fun hn17 => up_ret ?_)))
        · refine xr_op rfl rfl (xv_not rfl ?_)
          refine xr_op rfl rfl (xv_move rfl ?_)
          refine xr_gd rfl rfl rfl (xv_faddr fl33_0 rfl ?_)
          refine xr_gd rfl rfl rfl (xv_load1 ty3 rfl rfl Me_ (by rfl) ?_)
          refine xr_gd rfl rfl rfl (xv_faddr fl33_1 rfl ?_)
          refine xr_gd rfl rfl rfl (xv_load1 ty3 rfl rfl Me_ (by rfl) ?_)
          refine xr_gd rfl rfl rfl (xv_calls rfl hb31 (within_c _ _ _ (fun hl18 hu19 => up_ret ?_) (fun hn20 => up_ret ?_)))
          · refine xr_gd rfl rfl rfl (xv_not rfl ?_)
            refine xr_op rfl rfl (xv_pick rfl rfl ?_)
            refine xr_end rfl ?_
            refine th_n ?_
            refine xc_false rfl ?_
            refine xc_skip ?_
            refine bk_n ?_
            refine th_n ?_
            refine xc_region ?_
            refine xr_op rfl rfl (xv_add rfl rfl (wrap_i64 Om_ Om_) ?_)
            refine xr_op rfl rfl (xv_move rfl ?_)
            refine xr_end rfl ?_
            exact rnd (2 + 1) ⟨by omega, fun j s9 hj hs9 => by
              rcases Nat.lt_succ_iff_lt_or_eq.1 hj with hj | rfl
              · exact hi4 j s9 hj hs9
              · have hs8 : some xo.sulphur = some s9 := hs9
                cases hs8
                unfold spanOk; omega⟩ (by omega) (le_put (le_put (le_put (le_put (le_put (le_put (le_put (le_put (le_emp _) rfl) rfl) rfl) rfl) rfl) rfl) rfl) rfl) Su_
          · refine xr_gd rfl rfl rfl (xv_not rfl ?_)
            refine xr_op rfl rfl (xv_pick rfl rfl ?_)
            refine xr_end rfl ?_
            refine th_n ?_
            refine xc_true rfl ?_
            refine xc_seq (xc_region ?_)
            have hbs : ¬ spanOk xo.sulphur := fun hq => by unfold spanOk at hq; omega
            have hbc : ¬ coalOk xo := fun hq => hbs hq.2.2.1
            refine xr_op rfl rfl (xv_assign rfl ?_)
            refine xr_end rfl ?_
            refine th_n ?_
            refine xc_ret ?_
            refine bk_r ?_
            refine th_r ?_
            refine th_r ?_
            refine bk_r ?_
            refine bk_r ?_
            refine th_r ?_
            refine th_r ?_
            refine bk_r ?_
            refine th_r ?_
            refine body_ret (h' := h) rfl (ro_tmp rfl ro_nil) Su_ ?_
            first | exact H2 (fun hq9 => hbc (hq9.1 xo (List.mem_of_getElem? hko))) | exact H2 (fun hq9 => absurd (movesOk_at hq9.2.1 hkb) (by simpa using hpb)) | exact H1 ⟨hco, movesOk_all (fun k x hk => by simpa using hno k x hk), by omega, by omega⟩ | exact H2 (fun hq9 => by have h9 := hq9.2.2; omega)
        · refine xr_op rfl rfl (xv_not rfl ?_)
          refine xr_op rfl rfl (xv_move rfl ?_)
          refine xr_no rfl rfl rfl rfl ?_
          refine xr_no rfl rfl rfl rfl ?_
          refine xr_no rfl rfl rfl rfl ?_
          refine xr_no rfl rfl rfl rfl ?_
          refine xr_no rfl rfl rfl rfl ?_
          refine xr_no rfl rfl rfl rfl ?_
          refine xr_op rfl rfl (xv_pick rfl rfl ?_)
          refine xr_end rfl ?_
          refine th_n ?_
          refine xc_true rfl ?_
          refine xc_seq (xc_region ?_)
          have hbs : ¬ spanOk xo.sulphur := fun hq => by unfold spanOk at hq; omega
          have hbc : ¬ coalOk xo := fun hq => hbs hq.2.2.1
          refine xr_op rfl rfl (xv_assign rfl ?_)
          refine xr_end rfl ?_
          refine th_n ?_
          refine xc_ret ?_
          refine bk_r ?_
          refine th_r ?_
          refine th_r ?_
          refine bk_r ?_
          refine bk_r ?_
          refine th_r ?_
          refine th_r ?_
          refine bk_r ?_
          refine th_r ?_
          refine body_ret (h' := h) rfl (ro_tmp rfl ro_nil) Su_ ?_
          first | exact H2 (fun hq9 => hbc (hq9.1 xo (List.mem_of_getElem? hko))) | exact H2 (fun hq9 => absurd (movesOk_at hq9.2.1 hkb) (by simpa using hpb)) | exact H1 ⟨hco, movesOk_all (fun k x hk => by simpa using hno k x hk), by omega, by omega⟩ | exact H2 (fun hq9 => by have h9 := hq9.2.2; omega)
      · refine xr_op rfl rfl (xv_indexA Try.underlying73 ty89 rfl rfl rfl (by decide) (by decide) (by rfl) ?_)
        refine xr_op rfl rfl (xv_alloc ty89 (fun b8 hb8 => ?_))
        refine xr_op rfl rfl (xv_s ty89 rfl rfl Up_ Ev_ (by rfl) (by rfl) (by rfl) Ev_ ?_)
        refine xr_end rfl ?_
        refine th_n ?_
        refine xc_seq (xc_region ?_)
        refine xr_op rfl rfl (xv_faddr fl89_0 rfl ?_)
        refine xr_op rfl rfl (xv_load1 ty88 rfl rfl Me_ (by rfl) ?_)
        refine xr_op rfl rfl (xv_loadA ty59 rfl rfl Me_ Ev_ (by rfl) ?_)
        refine xr_op rfl rfl (xv_call (fi := []) (ca := []) rfl rfl hb57 rfl (give57_c (c := xo) (up_ret ?_)))
        refine xr_op rfl rfl (xv_alloc ty33 (fun b9 hb9 => ?_))
        refine xr_op rfl rfl (xv_s ty33 rfl rfl Up_ Ev_ (by rfl) (by rfl) (by rfl) Ev_ ?_)
        refine xr_end rfl ?_
        refine th_n ?_
        refine xc_seq (xc_region ?_)
        refine xr_op rfl rfl (xv_faddr fl33_1 rfl ?_)
        refine xr_op rfl rfl (xv_load1 ty3 rfl rfl Me_ (by rfl) ?_)
        refine xr_op rfl rfl (xv_calls rfl hb31 (within_c _ _ _ (fun hl21 hu22 => up_ret ?_) (fun hn23 => up_ret ?_)))
        · refine xr_op rfl rfl (xv_not rfl ?_)
          refine xr_op rfl rfl (xv_move rfl ?_)
          refine xr_gd rfl rfl rfl (xv_faddr fl33_0 rfl ?_)
          refine xr_gd rfl rfl rfl (xv_load1 ty3 rfl rfl Me_ (by rfl) ?_)
          refine xr_gd rfl rfl rfl (xv_faddr fl33_1 rfl ?_)
          refine xr_gd rfl rfl rfl (xv_load1 ty3 rfl rfl Me_ (by rfl) ?_)
          refine xr_gd rfl rfl rfl (xv_calls rfl hb31 (within_c _ _ _ (fun hl24 hu25 => up_ret ?_) (fun hn26 => up_ret ?_)))
          · refine xr_gd rfl rfl rfl (xv_not rfl ?_)
            refine xr_op rfl rfl (xv_pick rfl rfl ?_)
            refine xr_end rfl ?_
            refine th_n ?_
            refine xc_false rfl ?_
            refine xc_skip ?_
            refine bk_n ?_
            refine th_n ?_
            refine xc_region ?_
            refine xr_op rfl rfl (xv_add rfl rfl (wrap_i64 Om_ Om_) ?_)
            refine xr_op rfl rfl (xv_move rfl ?_)
            refine xr_end rfl ?_
            exact rnd (3 + 1) ⟨by omega, fun j s9 hj hs9 => by
              rcases Nat.lt_succ_iff_lt_or_eq.1 hj with hj | rfl
              · exact hi4 j s9 hj hs9
              · have hs8 : some xo.coke = some s9 := hs9
                cases hs8
                unfold spanOk; omega⟩ (by omega) (le_put (le_put (le_put (le_put (le_put (le_put (le_put (le_put (le_emp _) rfl) rfl) rfl) rfl) rfl) rfl) rfl) rfl) Su_
          · refine xr_gd rfl rfl rfl (xv_not rfl ?_)
            refine xr_op rfl rfl (xv_pick rfl rfl ?_)
            refine xr_end rfl ?_
            refine th_n ?_
            refine xc_true rfl ?_
            refine xc_seq (xc_region ?_)
            have hbs : ¬ spanOk xo.coke := fun hq => by unfold spanOk at hq; omega
            have hbc : ¬ coalOk xo := fun hq => hbs hq.2.2.2
            refine xr_op rfl rfl (xv_assign rfl ?_)
            refine xr_end rfl ?_
            refine th_n ?_
            refine xc_ret ?_
            refine bk_r ?_
            refine th_r ?_
            refine th_r ?_
            refine bk_r ?_
            refine bk_r ?_
            refine th_r ?_
            refine th_r ?_
            refine bk_r ?_
            refine th_r ?_
            refine body_ret (h' := h) rfl (ro_tmp rfl ro_nil) Su_ ?_
            first | exact H2 (fun hq9 => hbc (hq9.1 xo (List.mem_of_getElem? hko))) | exact H2 (fun hq9 => absurd (movesOk_at hq9.2.1 hkb) (by simpa using hpb)) | exact H1 ⟨hco, movesOk_all (fun k x hk => by simpa using hno k x hk), by omega, by omega⟩ | exact H2 (fun hq9 => by have h9 := hq9.2.2; omega)
        · refine xr_op rfl rfl (xv_not rfl ?_)
          refine xr_op rfl rfl (xv_move rfl ?_)
          refine xr_no rfl rfl rfl rfl ?_
          refine xr_no rfl rfl rfl rfl ?_
          refine xr_no rfl rfl rfl rfl ?_
          refine xr_no rfl rfl rfl rfl ?_
          refine xr_no rfl rfl rfl rfl ?_
          refine xr_no rfl rfl rfl rfl ?_
          refine xr_op rfl rfl (xv_pick rfl rfl ?_)
          refine xr_end rfl ?_
          refine th_n ?_
          refine xc_true rfl ?_
          refine xc_seq (xc_region ?_)
          have hbs : ¬ spanOk xo.coke := fun hq => by unfold spanOk at hq; omega
          have hbc : ¬ coalOk xo := fun hq => hbs hq.2.2.2
          refine xr_op rfl rfl (xv_assign rfl ?_)
          refine xr_end rfl ?_
          refine th_n ?_
          refine xc_ret ?_
          refine bk_r ?_
          refine th_r ?_
          refine th_r ?_
          refine bk_r ?_
          refine bk_r ?_
          refine th_r ?_
          refine th_r ?_
          refine bk_r ?_
          refine th_r ?_
          refine body_ret (h' := h) rfl (ro_tmp rfl ro_nil) Su_ ?_
          first | exact H2 (fun hq9 => hbc (hq9.1 xo (List.mem_of_getElem? hko))) | exact H2 (fun hq9 => absurd (movesOk_at hq9.2.1 hkb) (by simpa using hpb)) | exact H1 ⟨hco, movesOk_all (fun k x hk => by simpa using hno k x hk), by omega, by omega⟩ | exact H2 (fun hq9 => by have h9 := hq9.2.2; omega)
    · refine xr_end rfl ?_
      refine th_n ?_
      refine xc_seq ?_
      refine xc_false rfl ?_
      refine xc_exit ?_
      refine th_x ?_
      refine th_x ?_
      refine bk_same ?_
      refine bk_n ?_
      refine th_n ?_
      refine xc_region ?_
      refine xr_op rfl rfl (xv_add rfl rfl (wrap_i64 Om_ Om_) ?_)
      refine xr_op rfl rfl (xv_move rfl ?_)
      refine xr_end rfl ?_
      exact rnd (k + 1) ⟨by (first|omega|(dsimp only at *;omega)|(simp at *;omega)), (take_all hko).2 ⟨hal, hi4 0 _ (by omega) rfl, hi4 1 _ (by omega) rfl, hi4 2 _ (by omega) rfl, hi4 3 _ (by omega) rfl⟩⟩ Om_ (le_put (le_put (le_put (le_put (le_put (le_emp _) rfl) rfl) rfl) rfl) rfl) Su_
  · refine xr_end rfl ?_
    refine th_n ?_
    refine xc_seq ?_
    refine xc_false rfl ?_
    refine xc_exit ?_
    refine th_x ?_
    refine th_x ?_
    refine bk_same ?_
    refine th_n ?_
    refine xc_seq (xc_region ?_)
    have hco : CoalsOk y.coals := by
      have e9 : k = y.coals.length := by (first|omega|(dsimp only at *;omega)|(simp at *;omega))
      rw [e9, List.take_length] at hal; exact hal
    refine xr_op rfl rfl (xv_faddr fl25_0 rfl ?_)
    refine xr_op rfl rfl (xv_load1 ty22 rfl rfl Me_ (by rfl) ?_)
    refine xr_op rfl rfl (xv_len sl22 rfl ?_)
    refine xr_op rfl rfl (xv_calls rfl hb31 (within_c _ _ _ (fun hl27 hu28 => up_ret ?_) (fun hn29 => up_ret ?_)))
    · refine xr_op rfl rfl (xv_move rfl ?_)
      refine xr_gd rfl rfl rfl (xv_faddr fl25_1 rfl ?_)
      refine xr_gd rfl rfl rfl (xv_load1 ty23 rfl rfl Me_ (by rfl) ?_)
      refine xr_gd rfl rfl rfl (xv_len sl23 rfl ?_)
      refine xr_gd rfl rfl rfl (xv_leq2 rfl rfl (fun q30 => ?_) (fun q30 => ?_))
      · refine xr_op rfl rfl (xv_pick rfl rfl ?_)
        refine xr_op rfl rfl (xv_move rfl ?_)
        refine xr_gd rfl rfl rfl (xv_faddr fl25_1 rfl ?_)
        refine xr_gd rfl rfl rfl (xv_load1 ty23 rfl rfl Me_ (by rfl) ?_)
        refine xr_gd rfl rfl rfl (xv_move rfl ?_)
        refine xr_gd rfl rfl rfl (xv_calls rfl hb62 (containsMoveS_c (xs := y.moves) (p := fun k x => !decide (moveOk y.coals.length (lastH 0 (y.moves.take k)) x)) (Hs := (fun k => (b3, .cells ⟨[I (lastH 0 (y.moves.take k))]⟩ 3) :: (b1, .cells ⟨eYard y⟩ 25) :: h)) (fun k => hy.moves.sub (by intro z hz; ((repeat first|exact z_0|assumption|refine z_1 ?_|(refine z_l ?_;(repeat first|exact z_0|assumption|refine z_1 ?_);done)|refine z_r ?_);done))) (by omega) (fun k x hk R2 h2 => afn_func (fi := []) hb61 (bad_c (y := y) (m := x) Me_ hs1 (by rw [lastH_take hk] at h2; exact h2))) (fun kb xb hkb hpb => up_ret ?_) (fun hno => up_ret ?_)))
        · refine xr_gd rfl rfl rfl (xv_not rfl ?_)
          refine xr_op rfl rfl (xv_pick rfl rfl ?_)
          refine xr_op rfl rfl (xv_assign rfl ?_)
          refine xr_end rfl ?_
          refine th_n ?_
          refine xc_ret ?_
          refine body_ret (h' := h) rfl (ro_tmp rfl ro_nil) Su_ ?_
          first | exact H2 (fun hq9 => hbc (hq9.1 xo (List.mem_of_getElem? hko))) | exact H2 (fun hq9 => absurd (movesOk_at hq9.2.1 hkb) (by simpa using hpb)) | exact H1 ⟨hco, movesOk_all (fun k x hk => by simpa using hno k x hk), by omega, by omega⟩ | exact H2 (fun hq9 => by have h9 := hq9.2.2; omega)
        · refine xr_gd rfl rfl rfl (xv_not rfl ?_)
          refine xr_op rfl rfl (xv_pick rfl rfl ?_)
          refine xr_op rfl rfl (xv_assign rfl ?_)
          refine xr_end rfl ?_
          refine th_n ?_
          refine xc_ret ?_
          refine body_ret (h' := h) rfl (ro_tmp rfl ro_nil) Su_ ?_
          first | exact H2 (fun hq9 => hbc (hq9.1 xo (List.mem_of_getElem? hko))) | exact H2 (fun hq9 => absurd (movesOk_at hq9.2.1 hkb) (by simpa using hpb)) | exact H1 ⟨hco, movesOk_all (fun k x hk => by simpa using hno k x hk), by omega, by omega⟩ | exact H2 (fun hq9 => by have h9 := hq9.2.2; omega)
      · refine xr_op rfl rfl (xv_pick rfl rfl ?_)
        refine xr_op rfl rfl (xv_move rfl ?_)
        refine xr_no rfl rfl rfl rfl ?_
        refine xr_no rfl rfl rfl rfl ?_
        refine xr_no rfl rfl rfl rfl ?_
        refine xr_no rfl rfl rfl rfl ?_
        refine xr_no rfl rfl rfl rfl ?_
        refine xr_op rfl rfl (xv_pick rfl rfl ?_)
        refine xr_op rfl rfl (xv_assign rfl ?_)
        refine xr_end rfl ?_
        refine th_n ?_
        refine xc_ret ?_
        refine body_ret (h' := h) rfl (ro_tmp rfl ro_nil) Su_ ?_
        first | exact H2 (fun hq9 => hbc (hq9.1 xo (List.mem_of_getElem? hko))) | exact H2 (fun hq9 => absurd (movesOk_at hq9.2.1 hkb) (by simpa using hpb)) | exact H1 ⟨hco, movesOk_all (fun k x hk => by simpa using hno k x hk), by omega, by omega⟩ | exact H2 (fun hq9 => by have h9 := hq9.2.2; omega)
    · refine xr_op rfl rfl (xv_move rfl ?_)
      refine xr_no rfl rfl rfl rfl ?_
      refine xr_no rfl rfl rfl rfl ?_
      refine xr_no rfl rfl rfl rfl ?_
      refine xr_no rfl rfl rfl rfl ?_
      refine xr_op rfl rfl (xv_pick rfl rfl ?_)
      refine xr_op rfl rfl (xv_move rfl ?_)
      refine xr_no rfl rfl rfl rfl ?_
      refine xr_no rfl rfl rfl rfl ?_
      refine xr_no rfl rfl rfl rfl ?_
      refine xr_no rfl rfl rfl rfl ?_
      refine xr_no rfl rfl rfl rfl ?_
      refine xr_op rfl rfl (xv_pick rfl rfl ?_)
      refine xr_op rfl rfl (xv_assign rfl ?_)
      refine xr_end rfl ?_
      refine th_n ?_
      refine xc_ret ?_
      refine body_ret (h' := h) rfl (ro_tmp rfl ro_nil) Su_ ?_
      first | exact H2 (fun hq9 => hbc (hq9.1 xo (List.mem_of_getElem? hko))) | exact H2 (fun hq9 => absurd (movesOk_at hq9.2.1 hkb) (by simpa using hpb)) | exact H1 ⟨hco, movesOk_all (fun k x hk => by simpa using hno k x hk), by omega, by omega⟩ | exact H2 (fun hq9 => by have h9 := hq9.2.2; omega)

end Go.Proofs.Ytmaldhbjhomdkaa.Coal

/-
  Walks.
-/
namespace Go.Proofs.Ytmaldhbjhomdkaa.Coal
open Go Go.H
set_option maxRecDepth 100000
set_option maxHeartbeats 8000000
set_option linter.all false
theorem newShed_c {y : Yard} {h : Hp} {R : Ending → Hp → Prop} (hy : YardV h y) (hs : Small y) (H1 : ¬ GoodYard y → R (.returned (.tuple ⟨[.pointer none, I 1]⟩)) h) (H2 : GoodYard y → vecsR y = none → R (.returned (.tuple ⟨[.pointer none, I 10]⟩)) h)
    (H3 : ∀ (vs : List (List Int)) (b : Nat) (la : Option Addr) (lc : Nat) (bs : List Nat) (da : Option Addr) (dc : Nat) (ds : List PH) (G : Hp), GoodYard y → vecsR y = some vs → ShedV G y vs b la lc bs da dc ds → R (.returned (.tuple ⟨[.pointer (some ⟨b, 0, none⟩), I 0]⟩)) (G ++ h)) :
    ACalls Try.prog 19 ⟨[.agg ⟨eYard y⟩]⟩ h R := by
  refine calls_of_xc (N := 135) Try.func19 rfl (by rfl) ?_
  obtain ⟨hs1, hs2⟩ := id hs
  refine xc_seq (xc_region ?_)
  refine xr_op rfl rfl (xv_box rfl (fun b1 hb1 => ?_))
  refine xr_op rfl rfl (xv_assign rfl ?_)
  refine xr_op rfl rfl (xv_assign rfl ?_)
  refine xr_end rfl ?_
  refine th_n ?_
  refine xc_scope ?_
  refine xc_seq ?_
  refine xc_seq (xc_region ?_)
  refine xr_op rfl rfl (xv_loadA ty25 rfl rfl Me_ Ev_ (by rfl) ?_)
  refine xr_op rfl rfl (xv_calls rfl hb52 (isYard_c (hy.sub (by intro z hz; ((repeat first|exact z_0|assumption|refine z_1 ?_|(refine z_l ?_;(repeat first|exact z_0|assumption|refine z_1 ?_);done)|refine z_r ?_);done))) hs (fun hgy => up_ret ?_) (fun hgy => up_ret ?_)))
  · refine xr_op rfl rfl (xv_not rfl ?_)
    refine xr_end rfl ?_
    refine th_n ?_
    refine xc_false rfl ?_
    refine xc_skip ?_
    refine th_n ?_
    refine xc_seq (xc_region ?_)
    refine xr_op rfl rfl (xv_faddr fl25_0 rfl ?_)
    refine xr_op rfl rfl (xv_load1 ty22 rfl rfl Me_ (by rfl) ?_)
    refine xr_op rfl rfl (xv_build bt73 rfl Ev_ ?_)
    refine xr_op rfl rfl (xv_box rfl (fun b19 hb19 => ?_))
    refine xr_op rfl rfl (xv_assign rfl ?_)
    refine xr_end rfl ?_
    refine th_n ?_
    refine xc_seq (xc_region ?_)
    refine xr_op rfl rfl (xv_assign rfl ?_)
    refine xr_end rfl ?_
    refine th_n ?_
    refine xc_seq ?_
    refine xc_label ?_
    refine th_n ?_
    refine xc_seq ?_
    refine xc_seq (xc_region ?_)
    refine xr_op rfl rfl (xv_faddr fl25_1 rfl ?_)
    refine xr_op rfl rfl (xv_load1 ty23 rfl rfl Me_ (by rfl) ?_)
    refine xr_op rfl rfl (xv_len sl23 rfl ?_)
    refine xr_op rfl rfl (xv_move rfl ?_)
    refine xr_end rfl ?_
    refine th_n ?_
    refine xc_block ?_
    obtain ⟨hg1, hmv, ⟨hn1, hn6⟩, hl32⟩ := id hgy
    refine xc_loop (σ := Nat × List (List Int) × List Nat × Vec × List PH × Vec × Hp) (fun z => z.1 ≤ y.moves.length ∧ PInv y.coals.length y.moves (opn y.moves).1 z.1 z.2.1 ∧ z.2.2.1.length = (opn (y.moves.take z.1)).1 ∧ z.2.2.2.1.ok 1 z.2.2.1.length (z.2.2.1.flatMap eLp) ∧ z.2.2.2.2.2.1.ok 1 z.2.2.2.2.1.length (z.2.2.2.2.1.flatMap ePH) ∧ (z.2.2.2.2.1.map PH.m = z.2.1.map fun v => nzF (fun i => v.getD i 0) (opn y.moves).1) ∧ ∀ w ∈ z.2.2.2.2.1, SlV z.2.2.2.2.2.2 2 ePart w.a w.m) (fun z => ((((((emp.put (some 1) (.pointer (some ⟨b1, 0, none⟩))).put (some 4) (.pointer (some ⟨b19, 0, none⟩))).put (some 5) (I (opn (y.moves.take z.1)).2)).put (some 21) (.slice y.ma y.moves.length y.mc)).put (some 22) (I y.moves.length)).put (some 23) (I z.1))) (fun z => ((b19, .cells ⟨[.slice y.ca y.coals.length y.cc, .slice z.2.2.2.1.ad z.2.2.1.length z.2.2.2.1.cp, .slice z.2.2.2.2.2.1.ad z.2.2.2.2.1.length z.2.2.2.2.2.1.cp]⟩ 70) :: (z.2.2.2.1.hp 98 (z.2.2.1.flatMap eLp) ++ (z.2.2.2.2.2.1.hp 101 (z.2.2.2.2.1.flatMap ePH) ++ (layHp z.2.2.1 (layF y.moves z.1 (roomR y.coals.length y.moves z.1 z.2.1)) ++ (z.2.2.2.2.2.2 ++ (b1, .cells ⟨eYard y⟩ 25) :: h)))))) (fun z => y.moves.length - z.1) ((0, [], [], .nil, [], .nil, []) : Nat × List (List Int) × List Nat × Vec × List PH × Vec × Hp) ⟨Nat.zero_le _, pinv_0, rfl, ⟨rfl, rfl⟩, ⟨rfl, rfl⟩, rfl, fun w hw => (List.not_mem_nil hw).elim⟩ (le_put (le_put (le_put (le_put (le_put (le_put (le_emp _) rfl) rfl) rfl) rfl) rfl) rfl) Su_ ?_
    rintro ⟨k, prev, bs, V, ds, W, P⟩ ⟨hk, hP, hbl, hV, hW, hD, hS⟩
    dsimp only at hk hP hbl hV hW hD hS
    refine xc_seq (xc_region ?_)
    refine xr_op rfl rfl (xv_lss2 rfl rfl (fun q1 => ?_) (fun q1 => ?_))
    · refine xr_end rfl ?_
      refine th_n ?_
      refine xc_seq ?_
      refine xc_true rfl ?_
      refine xc_skip ?_
      refine th_n ?_
      refine xc_seq ?_
      refine xc_block ?_
      refine xc_seq (xc_region ?_)
      have hlto : k < y.moves.length := by (first|omega|(dsimp only at *;omega)|(simp at *;omega))
      obtain ⟨bo, oo, lo, to, fzo, hao, hmo, hxo⟩ := (hy.moves).at hlto
      obtain ⟨xo, hko⟩ : ∃ qq_, y.moves[k]? = some qq_ := ⟨_, List.getElem?_eq_getElem hlto⟩
      obtain ⟨⟨mh1, mh2⟩, ⟨mc1, mc2⟩, mt1, mt2⟩ := movesOk_at hmv hko
      have hob := opn_all y.moves k
      have hob2 := opn_all y.moves (k + 1)
      have hobm := opn_le y.moves
      have hz := fun j hj => room_zero hP (j := j) hj
      have hnn := fun j => room_nn hP j
      have hle := fun j => room_le hmv hP j
      have hbig : (y.coals.length : Int) * (1048576 * (k : Int)) ≤ 6 * (1048576 * 32) := Int.mul_le_mul (by omega) (by omega) (by omega) (by omega)
      have hol := opn_le (y.moves.take k)
      rw [List.length_take] at hol
      have hdl : ds.length = prev.length := by rw [← List.length_map (f := PH.m), hD, List.length_map]
      have hfw := hP.few
      refine xr_op rfl rfl (xv_ia (sz := 3) (j := k) sl23 ty63 rfl (by rw [hao]; rfl) rfl Ix_ Om_ Om_ ?_)
      refine xr_op rfl rfl (xv_loadA ty63 rfl rfl Me_ (hxo (k) xo hko) rfl ?_)
      refine xr_op rfl rfl (xv_alloc ty63 (fun b7 hb7 => ?_))
      refine xr_op rfl rfl (xv_s ty63 rfl rfl Up_ Ev_ (by rfl) (by rfl) (by rfl) Ev_ ?_)
      refine xr_end rfl ?_
      refine th_n ?_
      refine xc_seq ?_
      refine xc_seq (xc_region ?_)
      refine xr_op rfl rfl (xv_faddr fl63_1 rfl ?_)
      refine xr_op rfl rfl (xv_load1 ty3 rfl rfl Me_ (by rfl) ?_)
      refine xr_op rfl rfl (xv_neq2 rfl rfl (fun q2 => ?_) (fun q2 => ?_))
      · refine xr_end rfl ?_
        refine th_n ?_
        refine xc_true rfl ?_
        have hh0 := lastH_0le (movesOk_mono k hmv) (Nat.le_refl k)
        refine xc_join (σ := List Nat × Vec) (fun g => g.1.length = (opn (y.moves.take (k + 1))).1 ∧ g.2.ok 1 g.1.length (g.1.flatMap eLp)) (fun g => (((((((emp.put (some 1) (.pointer (some ⟨b1, 0, none⟩))).put (some 4) (.pointer (some ⟨b19, 0, none⟩))).put (some 5) (I (opn (y.moves.take (k + 1))).2)).put (some 7) (.pointer (some ⟨b7, 0, none⟩))).put (some 21) (.slice y.ma y.moves.length y.mc)).put (some 22) (I y.moves.length)).put (some 23) (I k))) (fun g => ((b7, .cells ⟨[I xo.hour, I xo.coal, I xo.tons]⟩ 55) :: (b19, .cells ⟨[.slice y.ca y.coals.length y.cc, .slice g.2.ad g.1.length g.2.cp, .slice W.ad ds.length W.cp]⟩ 70) :: (g.2.hp 98 (g.1.flatMap eLp) ++ (W.hp 101 (ds.flatMap ePH) ++ (layHp g.1 (layF y.moves k (roomR y.coals.length y.moves k prev)) ++ (P ++ (b1, .cells ⟨eYard y⟩ 25) :: h)))))) ?_ ?_
        · refine xc_seq (xc_region ?_)
          refine xr_op rfl rfl (xv_move rfl ?_)
          refine xr_op rfl rfl (xv_faddr fl63_0 rfl ?_)
          refine xr_op rfl rfl (xv_load1 ty3 rfl rfl Me_ (by rfl) ?_)
          refine xr_op rfl rfl (xv_neq2 rfl rfl (fun q3 => ?_) (fun q3 => ?_))
          · refine xr_end rfl ?_
            refine th_n ?_
            refine xc_true rfl ?_
            refine xc_draw [(0, .S), (1, .S), (2, .S), (3, .S), (4, .R), (5, .S), (9, .S), (10, .S), (6, .P), (6, .A), (7, .P), (7, .A), (8, .O), (11, .S), (12, .S), (13, .O), (14, .S)] [(b7, .cells ⟨[I xo.hour, I xo.coal, I xo.tons]⟩ 55)] ((b19, .cells ⟨[.slice y.ca y.coals.length y.cc, .slice V.ad bs.length V.cp, .slice W.ad ds.length W.cp]⟩ 70) :: (V.hp 98 (bs.flatMap eLp) ++ (W.hp 101 (ds.flatMap ePH) ++ (layHp bs (layF y.moves k (roomR y.coals.length y.moves k prev)) ++ (P ++ (b1, .cells ⟨eYard y⟩ 25) :: h))))) mixed (by kernel_rfl) (List.perm_append_singleton _ _) ?_
            refine js_S rfl rfl (.inl rfl) (xv_move rfl ⟨rfl, rfl⟩) ?_
            refine js_S rfl rfl (.inl rfl) (xv_move rfl ⟨rfl, rfl⟩) ?_
            refine js_S rfl rfl (.inl rfl) (xv_nilp rfl ⟨rfl, rfl⟩) ?_
            refine js_S rfl rfl (.inl rfl) (xv_faddr fl73_1 rfl ⟨rfl, rfl⟩) ?_
            refine js_R rfl rfl (.inl rfl) (xv_load1 ty70 rfl rfl Me_ (by rfl) ⟨rfl, rfl⟩) ?_
            refine js_S rfl rfl (.inl rfl) (xv_build bt107 rfl Ev_ ⟨rfl, rfl⟩) ?_
            refine js_S rfl rfl (.inl rfl) (xv_faddr fl63_0 rfl ⟨rfl, rfl⟩) ?_
            refine js_S rfl rfl (.inl rfl) (xv_load1 ty3 rfl rfl Me_ (by rfl) ⟨rfl, rfl⟩) ?_
            refine js_P rfl rfl rfl (al_box rfl) ?_
            refine js_A rfl rfl rfl rfl rfl ⟨rfl, trivial⟩ (fun b40 hb40 => ?_)
            refine js_P rfl rfl rfl (al_buildSlice sl70 ty105 rfl rfl rfl rfl rfl Ev_) ?_
            refine js_A rfl rfl rfl rfl rfl ⟨rfl, trivial⟩ (fun b41 hb41 => ?_)
            refine js_O rfl rfl (.inl rfl) (xv_append (V := V) (n := bs.length) (xs := bs.flatMap eLp) sl70 ty105 rfl (by rw [Vec.val_ad hV]; rfl) rfl hV (Tk.app _ (.there (.there (.there .here)))) Me_ Ev_ rfl rfl Om_ (by simp only []; (first|omega|(dsimp only at *;omega)|(simp at *;omega))) Om_ (fun V2 hV2 => ?_))
            refine jo_atL _ permR .nil ?_
            rw [Vec.val_ad hV2]
            refine js_S rfl rfl (.inl rfl) (xv_nilp rfl ⟨rfl, rfl⟩) ?_
            refine js_S rfl rfl (.inl rfl) (xv_faddr fl73_1 rfl ⟨rfl, rfl⟩) ?_
            refine js_O rfl rfl (.inl rfl) (xv_s1 ty70 rfl rfl rfl Up_ One_ Len_ Ev_ ?_)
            refine jo_same ?_
            refine js_S rfl rfl (.inl rfl) (xv_assign rfl ⟨rfl, rfl⟩) ?_
            refine j_endp permA ?_
            have hst : opn (y.moves.take (k + 1)) = ((opn (y.moves.take k)).1 + 1, xo.hour) := by
              rw [opn_take hko]; unfold stepO
              first | (rw [if_neg Om_, if_pos Om_]; done) | (rw [if_neg Om_, if_neg Om_]; done)
            have hz0 : layF y.moves k (roomR y.coals.length y.moves k prev) bs.length = [I 0, I 0, I 0, I 0, I 0, I 0, I 0] := by
              unfold layF
              rw [contF_zero _ (by omega), hz bs.length (by omega)]; rfl
            have hbl2 : (bs ++ [b40]).flatMap eLp = bs.flatMap eLp ++ [.pointer (some ⟨b40, 0, none⟩)] := by simp [eLp]
            exact jn_n ((bs ++ [b40], V2) : List Nat × Vec) ⟨by dsimp only; rw [hst, List.length_append, hbl]; rfl, by dsimp only; rw [hbl2, List.length_append]; exact hV2⟩ (le_put (le_put (le_put (le_put (le_put (le_put (le_put (le_emp _) rfl) rfl) (by rw [hst]; rfl)) rfl) rfl) rfl) rfl) (by dsimp only; rw [hbl2, List.length_append, layHp_snoc, hz0]; (first|((repeat first|exact s_0|exact s_1|exact s_3|refine s_4 ?_|refine s_5 ?_|refine s_6 ?_|refine s_7 ?_);done)|((repeat first|exact s_0|exact s_1|exact s_3|refine s_4 ?_|refine s_5 ?_|refine s_6 ?_|refine s_8 ?_);done)))
          · refine xr_end rfl ?_
            refine th_n ?_
            refine xc_false rfl ?_
            refine xc_skip ?_
            have hst : opn (y.moves.take (k + 1)) = opn (y.moves.take k) := by
              rw [opn_take hko]; unfold stepO
              first | (rw [if_neg Om_, if_pos Om_]; done) | (rw [if_neg Om_, if_neg Om_]; done)
            exact jn_n ((bs, V) : List Nat × Vec) ⟨by dsimp only; rw [hst]; exact hbl, hV⟩ (le_put (le_put (le_put (le_put (le_put (le_put (le_put (le_emp _) rfl) rfl) (by rw [hst]; rfl)) rfl) rfl) rfl) rfl) Su_
        · rintro ⟨cs, X⟩ ⟨hcl, hX⟩
          dsimp only at hcl hX
          have hop := opn_open (l := y.moves) (k := k + 1) (by omega) hko
          rw [if_neg Om_] at hop
          have hpos := opn_pos (y.moves.take (k + 1)) (by rw [hop]; omega)
          have hlo : ((opn (y.moves.take (k + 1))).1 : Int) - 1 = ((cs.length - 1 : Nat) : Int) := by omega
          refine xc_seq ?_
          refine xc_draw0 [(0, .S), (1, .S), (2, .S), (3, .R), (4, .S), (5, .S), (6, .S), (7, .R), (8, .S), (9, .S), (10, .S), (11, .R), (12, .S)] mixed (by kernel_rfl) ?_
          have hltl : (cs.length - 1) < cs.length := by omega
          obtain ⟨bl, ol, ll, tl, fzl, hal, hml, hxl⟩ := (Vec.slvA (t := 98) eLp_len rfl hX).at hltl
          obtain ⟨xl, hkl⟩ : ∃ qq_, cs[(cs.length - 1)]? = some qq_ := ⟨_, List.getElem?_eq_getElem hltl⟩
          obtain ⟨hr1, hr2⟩ := room_in (prev := prev) hmv hko Om_ hlo
          have hlen6 := contF_len 6 (y.moves.take k) ((cs.length - 1 : Nat) : Int)
          obtain ⟨v, hkv⟩ : ∃ v, (contF 6 (y.moves.take k) ((cs.length - 1 : Nat) : Int))[xo.coal.toNat]? = some v := ⟨_, List.getElem?_eq_getElem (by omega)⟩
          have hvb := contF_bd (j := ((cs.length - 1 : Nat) : Int)) (movesOk_le hn6 (movesOk_mono k hmv)) v (List.mem_of_getElem? hkv)
          rw [List.length_take] at hvb
          have hr3 := hnn (cs.length - 1)
          have hr4 := hle (cs.length - 1)
          have hml : (xl, .cells ⟨layF y.moves k (roomR y.coals.length y.moves k prev) (cs.length - 1)⟩ 100 (0, 0)) ∈ layHp cs (layF y.moves k (roomR y.coals.length y.moves k prev)) := layHp_mem hkl
          have hu1 := u_3 (f := (P ++ (b1, .cells ⟨eYard y⟩ 25) :: h)) (layHp_upd (f := layF y.moves k (roomR y.coals.length y.moves k prev)) (g := layF y.moves (k + 1) (roomR y.coals.length y.moves k prev)) hkl (fun j _ hne => layF_other hko hlo hne))
          have hml2 : (xl, .cells ⟨layF y.moves (k + 1) (roomR y.coals.length y.moves k prev) (cs.length - 1)⟩ 100 (0, 0)) ∈ layHp cs (layF y.moves (k + 1) (roomR y.coals.length y.moves k prev)) := layHp_mem hkl
          have hu2 := u_3 (f := (P ++ (b1, .cells ⟨eYard y⟩ 25) :: h)) (layHp_upd (f := layF y.moves (k + 1) (roomR y.coals.length y.moves k prev)) (g := layF y.moves (k + 1) (roomR y.coals.length y.moves (k + 1) prev)) hkl (fun j _ hne => by unfold layF; rw [hr2 j hne]))
          refine js_S rfl rfl (.inl rfl) (xv_move rfl ⟨rfl, rfl⟩) ?_
          refine js_S rfl rfl (.inl rfl) (xv_nilp rfl ⟨rfl, rfl⟩) ?_
          refine js_S rfl rfl (.inl rfl) (xv_faddr fl73_1 rfl ⟨rfl, rfl⟩) ?_
          refine js_R0 rfl rfl (.inl rfl) (xv_load1 ty70 rfl rfl Me_ (by rfl) ⟨rfl, rfl⟩) ?_
          refine js_S rfl rfl (.inl rfl) (xv_move rfl ⟨rfl, rfl⟩) ?_
          refine js_S rfl rfl (.inl rfl) (xv_nilp rfl ⟨rfl, rfl⟩) ?_
          refine js_S rfl rfl (.inl rfl) (xv_faddr fl73_1 rfl ⟨rfl, rfl⟩) ?_
          refine js_R0 rfl rfl (.inl rfl) (xv_load1 ty70 rfl rfl Me_ (by rfl) ⟨rfl, rfl⟩) ?_
          refine js_S rfl rfl (.inl rfl) (xv_len sl70 rfl ⟨rfl, rfl⟩) ?_
          refine js_S rfl rfl (.inl rfl) (xv_sub rfl rfl (wrap_i64 Om_ Om_) ⟨rfl, rfl⟩) ?_
          refine js_S rfl rfl (.inl rfl) (xv_ia (sz := 1) (j := (cs.length - 1)) sl70 ty105 rfl (by rw [hal]; rfl) rfl Om_ Om_ Om_ ⟨rfl, rfl⟩) ?_
          refine js_R0 rfl rfl (.inl rfl) (xv_load1 ty105 rfl rfl Me_ (take_get (hxl (cs.length - 1) xl hkl) (j := 0) rfl) ⟨rfl, rfl⟩) ?_
          refine js_S rfl rfl (.inl rfl) (xv_assign rfl ⟨rfl, rfl⟩) ?_
          refine j_end0 ?_
          refine th_n ?_
          refine xc_seq ?_
          refine xc_draw0 [(0, .S), (1, .S), (2, .R), (3, .S), (4, .S), (5, .S), (6, .R), (7, .S), (8, .R), (9, .S), (10, .S), (11, .S), (12, .S), (13, .O)] mixed (by kernel_rfl) ?_
          refine js_S rfl rfl (.inl rfl) (xv_move rfl ⟨rfl, rfl⟩) ?_
          refine js_S rfl rfl (.inl rfl) (xv_faddr fl63_1 rfl ⟨rfl, rfl⟩) ?_
          refine js_R0 rfl rfl (.inl rfl) (xv_load1 ty3 rfl rfl Me_ (by rfl) ⟨rfl, rfl⟩) ?_
          refine js_S rfl rfl (.inl rfl) (xv_nilp rfl ⟨rfl, rfl⟩) ?_
          refine js_S rfl rfl (.inl rfl) (xv_faddr fl107_0 rfl ⟨rfl, rfl⟩) ?_
          refine js_S rfl rfl (.inl rfl) (xv_iaA (sz := 1) (j := xo.coal.toNat) Try.underlying84 ty3 rfl rfl rfl (by omega) Om_ Om_ ⟨rfl, rfl⟩) ?_
          refine js_R0 rfl rfl (.inl rfl) (xv_load1 ty3 rfl rfl Me_ (layF_get hkv (by omega)) ⟨rfl, rfl⟩) ?_
          refine js_S rfl rfl (.inl rfl) (xv_faddr fl63_2 rfl ⟨rfl, rfl⟩) ?_
          refine js_R0 rfl rfl (.inl rfl) (xv_load1 ty3 rfl rfl Me_ (by rfl) ⟨rfl, rfl⟩) ?_
          refine js_S rfl rfl (.inl rfl) (xv_add rfl rfl (wrap_i64 Om_ Om_) ⟨rfl, rfl⟩) ?_
          refine js_S rfl rfl (.inl rfl) (xv_nilp rfl ⟨rfl, rfl⟩) ?_
          refine js_S rfl rfl (.inl rfl) (xv_faddr fl107_0 rfl ⟨rfl, rfl⟩) ?_
          refine js_S rfl rfl (.inl rfl) (xv_iaA (sz := 1) (j := xo.coal.toNat) Try.underlying84 ty3 rfl rfl rfl (by omega) Om_ Om_ ⟨rfl, rfl⟩) ?_
          refine js_O0 rfl rfl (.inl rfl) (xv_s1 (l := layF y.moves k (roomR y.coals.length y.moves k prev) (cs.length - 1)) (l' := layF y.moves (k + 1) (roomR y.coals.length y.moves k prev) (cs.length - 1)) ty3 rfl rfl rfl Up_ rfl (by rw [layF_len]; omega) (layF_set1 hko Om_ hlo rfl hkv (by omega)) ?_)
          refine j_end0 ?_
          refine th_n ?_
          refine xc_seq ?_
          refine xc_draw0 [(0, .S), (1, .S), (2, .S), (3, .R), (4, .S), (5, .R), (6, .S), (7, .S), (8, .S), (9, .O)] mixed (by kernel_rfl) ?_
          refine js_S rfl rfl (.inl rfl) (xv_move rfl ⟨rfl, rfl⟩) ?_
          refine js_S rfl rfl (.inl rfl) (xv_nilp rfl ⟨rfl, rfl⟩) ?_
          refine js_S rfl rfl (.inl rfl) (xv_faddr fl107_1 rfl ⟨rfl, rfl⟩) ?_
          refine js_R0 rfl rfl (.inl rfl) (xv_load1 ty3 rfl rfl Me_ (layF_left (by omega)) ⟨rfl, rfl⟩) ?_
          refine js_S rfl rfl (.inl rfl) (xv_faddr fl63_2 rfl ⟨rfl, rfl⟩) ?_
          refine js_R0 rfl rfl (.inl rfl) (xv_load1 ty3 rfl rfl Me_ (by rfl) ⟨rfl, rfl⟩) ?_
          refine js_S rfl rfl (.inl rfl) (xv_add rfl rfl (wrap_i64 Om_ Om_) ⟨rfl, rfl⟩) ?_
          refine js_S rfl rfl (.inl rfl) (xv_nilp rfl ⟨rfl, rfl⟩) ?_
          refine js_S rfl rfl (.inl rfl) (xv_faddr fl107_1 rfl ⟨rfl, rfl⟩) ?_
          refine js_O0 rfl rfl (.inl rfl) (xv_s1 (l := layF y.moves (k + 1) (roomR y.coals.length y.moves k prev) (cs.length - 1)) (l' := layF y.moves (k + 1) (roomR y.coals.length y.moves (k + 1) prev) (cs.length - 1)) ty3 rfl rfl rfl Up_ rfl (by rw [layF_len]; omega) (layF_set2 (by omega) hr1) ?_)
          refine j_end0 ?_
          refine th_n ?_
          refine xc_exit ?_
          refine th_x ?_
          refine bk_same ?_
          refine th_n ?_
          refine xc_region ?_
          refine xr_op rfl rfl (xv_add rfl rfl (wrap_i64 Om_ Om_) ?_)
          refine xr_op rfl rfl (xv_move rfl ?_)
          refine xr_end rfl ?_
          exact rnd ((k + 1, prev, cs, X, ds, W, P) : Nat × List (List Int) × List Nat × Vec × List PH × Vec × Hp) ⟨by (first|omega|(dsimp only at *;omega)|(simp at *;omega)), hP.skip hmv hko Om_, hcl, hX, hW, hD, hS⟩ Om_ (le_put (le_put (le_put (le_put (le_put (le_put (le_emp _) rfl) rfl) rfl) rfl) rfl) rfl) Su_
      · refine xr_end rfl ?_
        refine th_n ?_
        refine xc_false rfl ?_
        refine xc_skip ?_
        refine th_n ?_
        refine xc_seq (xc_region ?_)
        refine xr_op rfl rfl (xv_assign rfl ?_)
        refine xr_end rfl ?_
        refine th_n ?_
        refine xc_seq (xc_region ?_)
        refine xr_op rfl rfl (xv_assign rfl ?_)
        refine xr_end rfl ?_
        refine th_n ?_
        refine xc_seq ?_
        refine xc_seq (xc_region ?_)
        refine xr_op rfl rfl (xv_move rfl ?_)
        refine xr_op rfl rfl (xv_nilp rfl ?_)
        refine xr_op rfl rfl (xv_faddr fl73_1 rfl ?_)
        refine xr_op rfl rfl (xv_load1 ty70 rfl rfl Me_ (by rfl) ?_)
        refine xr_op rfl rfl (xv_len sl70 rfl ?_)
        refine xr_op rfl rfl (xv_move rfl ?_)
        refine xr_end rfl ?_
        refine th_n ?_
        refine xc_block ?_
        refine xc_loop (σ := Nat × Vec) (fun q => q.1 ≤ bs.length ∧ q.2.ok 2 (nzF (vF (roomR y.coals.length y.moves k prev) xo.tons) q.1).length ((nzF (vF (roomR y.coals.length y.moves k prev) xo.tons) q.1).flatMap ePart)) (fun q => (((((((((((emp.put (some 1) (.pointer (some ⟨b1, 0, none⟩))).put (some 4) (.pointer (some ⟨b19, 0, none⟩))).put (some 5) (I (-1))).put (some 7) (.pointer (some ⟨b7, 0, none⟩))).put (some 9) (.slice q.2.ad (nzF (vF (roomR y.coals.length y.moves k prev) xo.tons) q.1).length q.2.cp)).put (some 21) (.slice y.ma y.moves.length y.mc)).put (some 22) (I y.moves.length)).put (some 23) (I k)).put (some 84) (.slice V.ad bs.length V.cp)).put (some 85) (I bs.length)).put (some 86) (I q.1))) (fun q => (q.2.hp 103 (nzF (vF (roomR y.coals.length y.moves k prev) xo.tons) q.1 |>.flatMap ePart) ++ (b7, .cells ⟨[I xo.hour, I xo.coal, I (vecR (roomR y.coals.length y.moves k prev) q.1 xo.tons).2]⟩ 55) :: (b19, .cells ⟨[.slice y.ca y.coals.length y.cc, .slice V.ad bs.length V.cp, .slice W.ad ds.length W.cp]⟩ 70) :: (V.hp 98 (bs.flatMap eLp) ++ (W.hp 101 (ds.flatMap ePH) ++ (layHp bs (layF y.moves k (lfJ (roomR y.coals.length y.moves k prev) xo.tons q.1)) ++ (P ++ (b1, .cells ⟨eYard y⟩ 25) :: h)))))) (fun q => bs.length - q.1) ((0, .nil) : Nat × Vec) ⟨Nat.zero_le _, ⟨rfl, rfl⟩⟩ (le_put (le_put (le_put (le_put (le_put (le_put (le_put (le_put (le_put (le_put (le_put (le_emp _) rfl) rfl) rfl) rfl) rfl) rfl) rfl) rfl) rfl) rfl) rfl) (by dsimp only; rw [lfJ_0]; (first|((repeat first|exact s_0|exact s_1|exact s_3|refine s_4 ?_|refine s_5 ?_|refine s_6 ?_|refine s_7 ?_);done)|((repeat first|exact s_0|exact s_1|exact s_3|refine s_4 ?_|refine s_5 ?_|refine s_6 ?_|refine s_8 ?_);done))) ?_
        rintro ⟨j, U⟩ ⟨hj, hU⟩
        dsimp only at hj hU
        refine xc_seq (xc_region ?_)
        refine xr_op rfl rfl (xv_lss2 rfl rfl (fun q6 => ?_) (fun q6 => ?_))
        · refine xr_end rfl ?_
          refine th_n ?_
          refine xc_seq ?_
          refine xc_true rfl ?_
          refine xc_skip ?_
          refine th_n ?_
          refine xc_seq ?_
          refine xc_block ?_
          refine xc_seq (xc_region ?_)
          have hltl : j < bs.length := by (first|omega|(dsimp only at *;omega)|(simp at *;omega))
          obtain ⟨bl, ol, ll, tl, fzl, hal, hml, hxl⟩ := (Vec.slvA (t := 98) eLp_len rfl hV).at hltl
          obtain ⟨xl, hkl⟩ : ∃ qq_, bs[j]? = some qq_ := ⟨_, List.getElem?_eq_getElem hltl⟩
          have hml : (xl, .cells ⟨layF y.moves k (lfJ (roomR y.coals.length y.moves k prev) xo.tons j) j⟩ 100 (0, 0)) ∈ layHp bs (layF y.moves k (lfJ (roomR y.coals.length y.moves k prev) xo.tons j)) := layHp_mem hkl
          have hlj := lfJ_at (roomR y.coals.length y.moves k prev) xo.tons j
          have hu1 := u_3 (f := (P ++ (b1, .cells ⟨eYard y⟩ 25) :: h)) (layHp_upd (f := layF y.moves k (lfJ (roomR y.coals.length y.moves k prev) xo.tons j)) (g := layF y.moves k (lfJ (roomR y.coals.length y.moves k prev) xo.tons (j + 1))) hkl (fun i _ hne => by unfold layF; rw [lfJ_other hne]))
          obtain ⟨⟨va, vb⟩, vc, vd⟩ := vecR_bd (room := (roomR y.coals.length y.moves k prev)) (t := xo.tons) (by omega) j (fun i _ => hnn i)
          have hrj := hnn j
          have hrj2 := hle j
          have hvf : (vF (roomR y.coals.length y.moves k prev) xo.tons j) = min ((roomR y.coals.length y.moves k prev) j) (vecR (roomR y.coals.length y.moves k prev) j xo.tons).2 := rfl
          refine xr_op rfl rfl (xv_move rfl ?_)
          refine xr_op rfl rfl (xv_ia (sz := 1) (j := j) sl70 ty105 rfl (by rw [hal]; rfl) rfl Ix_ Om_ Om_ ?_)
          refine xr_op rfl rfl (xv_load1 ty105 rfl rfl Me_ (take_get (hxl (j) xl hkl) (j := 0) rfl) ?_)
          refine xr_op rfl rfl (xv_assign rfl ?_)
          refine xr_op rfl rfl (xv_assign rfl ?_)
          refine xr_end rfl ?_
          refine th_n ?_
          refine xc_seq ?_
          refine xc_draw0 [(0, .S), (1, .S), (2, .S), (3, .R), (4, .S), (5, .R), (6, .S), (7, .S)] mixed (by kernel_rfl) ?_
          refine js_S rfl rfl (.inl rfl) (xv_move rfl ⟨rfl, rfl⟩) ?_
          refine js_S rfl rfl (.inl rfl) (xv_nilp rfl ⟨rfl, rfl⟩) ?_
          refine js_S rfl rfl (.inl rfl) (xv_faddr fl107_1 rfl ⟨rfl, rfl⟩) ?_
          refine js_R0 rfl rfl (.inl rfl) (xv_load1 ty3 rfl rfl Me_ ((layF_left (by omega)).trans (by rw [hlj])) ⟨rfl, rfl⟩) ?_
          refine js_S rfl rfl (.inl rfl) (xv_faddr fl63_2 rfl ⟨rfl, rfl⟩) ?_
          refine js_R0 rfl rfl (.inl rfl) (xv_load1 ty3 rfl rfl Me_ (by rfl) ⟨rfl, rfl⟩) ?_
          refine js_S rfl rfl (.inl rfl) (xv_min rfl rfl rfl ⟨rfl, rfl⟩) ?_
          refine js_S rfl rfl (.inl rfl) (xv_assign rfl ⟨rfl, rfl⟩) ?_
          refine j_end0 ?_
          refine th_n ?_
          refine xc_seq (xc_region ?_)
          refine xr_op rfl rfl (xv_move rfl ?_)
          refine xr_op rfl rfl (xv_gtr2 rfl rfl (fun q7 => ?_) (fun q7 => ?_))
          · refine xr_end rfl ?_
            refine th_n ?_
            refine xc_true rfl ?_
            refine xc_seq (xc_region ?_)
            have hvp : (vF (roomR y.coals.length y.moves k prev) xo.tons j) > 0 := by (first|omega|(dsimp only at *;omega)|(simp at *;omega))
            have hul := nzF_len (vF (roomR y.coals.length y.moves k prev) xo.tons) j
            refine xr_op rfl rfl (xv_move rfl ?_)
            refine xr_op rfl rfl (xv_move rfl ?_)
            refine xr_op rfl rfl (xv_move rfl ?_)
            refine xr_op rfl rfl (xv_build bt43 rfl Ev_ ?_)
            refine xr_op rfl rfl ((al_buildSlice sl39 ty43 rfl rfl rfl rfl rfl Ev_).xv (fun b104 hb104 => ?_))
            refine xr_op rfl rfl (xv_append (V := U) (n := (nzF (vF (roomR y.coals.length y.moves k prev) xo.tons) j).length) (xs := (nzF (vF (roomR y.coals.length y.moves k prev) xo.tons) j).flatMap ePart) sl39 ty43 rfl (by rw [Vec.val_ad hU]; rfl) rfl hU (.there .here) Me_ Ev_ rfl rfl Om_ (by simp only []; (first|omega|(dsimp only at *;omega)|(simp at *;omega))) Om_ (fun U2 hU2 => ?_))
            rw [Vec.val_ad hU2]
            refine xr_op rfl rfl (xv_assign rfl ?_)
            refine xr_end rfl ?_
            refine th_n ?_
            refine xc_seq (xc_region ?_)
            refine xr_op rfl rfl (xv_move rfl ?_)
            refine xr_op rfl rfl (xv_nilp rfl ?_)
            refine xr_op rfl rfl (xv_faddr fl107_1 rfl ?_)
            refine xr_op rfl rfl (xv_load1 ty3 rfl rfl Me_ ((layF_left (by omega)).trans (by rw [hlj])) ?_)
            refine xr_op rfl rfl (xv_move rfl ?_)
            refine xr_op rfl rfl (xv_sub rfl rfl (wrap_i64 Om_ Om_) ?_)
            refine xr_op rfl rfl (xv_nilp rfl ?_)
            refine xr_op rfl rfl (xv_faddr fl107_1 rfl ?_)
            refine xr_op rfl rfl (xv_s1 (l := layF y.moves k (lfJ (roomR y.coals.length y.moves k prev) xo.tons j) j) (l' := layF y.moves k (lfJ (roomR y.coals.length y.moves k prev) xo.tons (j + 1)) j) ty3 rfl rfl rfl Up_ rfl (by rw [layF_len]; omega) (layF_set2 (by omega) (lfJ_next _ _ _)) ?_)
            refine xr_end rfl ?_
            refine th_n ?_
            refine xc_region ?_
            refine xr_op rfl rfl (xv_faddr fl63_2 rfl ?_)
            refine xr_op rfl rfl (xv_load1 ty3 rfl rfl Me_ (by rfl) ?_)
            refine xr_op rfl rfl (xv_move rfl ?_)
            refine xr_op rfl rfl (xv_sub rfl rfl (wrap_i64 Om_ Om_) ?_)
            refine xr_op rfl rfl (xv_faddr fl63_2 rfl ?_)
            refine xr_op rfl rfl (xv_s1 ty3 rfl rfl rfl Up_ One_ Len_ Ev_ ?_)
            refine xr_end rfl ?_
            refine bk_n ?_
            refine th_n ?_
            refine xc_region ?_
            refine xr_op rfl rfl (xv_add rfl rfl (wrap_i64 Om_ Om_) ?_)
            refine xr_op rfl rfl (xv_move rfl ?_)
            refine xr_end rfl ?_
            exact rnd ((j + 1, U2) : Nat × Vec) ⟨by (first|omega|(dsimp only at *;omega)|(simp at *;omega)), by dsimp only; rw [nzF_app hvp, nzF_lenS hvp]; exact hU2⟩ Om_ (le_put (le_put (le_put (le_put (le_put (le_put (le_put (le_put (le_put (le_put (le_put (le_emp _) rfl) rfl) rfl) rfl) (by dsimp only; rw [nzF_lenS hvp]; rfl)) rfl) rfl) rfl) rfl) rfl) rfl) (by dsimp only; rw [nzF_app hvp, vecR_2]; (first|((repeat first|exact s_0|exact s_1|exact s_3|refine s_4 ?_|refine s_5 ?_|refine s_6 ?_|refine s_7 ?_);done)|((repeat first|exact s_0|exact s_1|exact s_3|refine s_4 ?_|refine s_5 ?_|refine s_6 ?_|refine s_8 ?_);done)))
          · refine xr_end rfl ?_
            refine th_n ?_
            refine xc_false rfl ?_
            refine xc_skip ?_
            refine bk_n ?_
            refine th_n ?_
            refine xc_region ?_
            have hvp : ¬ (vF (roomR y.coals.length y.moves k prev) xo.tons j) > 0 := by (first|omega|(dsimp only at *;omega)|(simp at *;omega))
            have hv0 : (vF (roomR y.coals.length y.moves k prev) xo.tons j) = 0 := by (first|omega|(dsimp only at *;omega)|(simp at *;omega))
            refine xr_op rfl rfl (xv_add rfl rfl (wrap_i64 Om_ Om_) ?_)
            refine xr_op rfl rfl (xv_move rfl ?_)
            refine xr_end rfl ?_
            exact rnd ((j + 1, U) : Nat × Vec) ⟨by (first|omega|(dsimp only at *;omega)|(simp at *;omega)), by dsimp only; rw [nzF_eq _ _ hvp]; exact hU⟩ Om_ (le_put (le_put (le_put (le_put (le_put (le_put (le_put (le_put (le_put (le_put (le_put (le_emp _) rfl) rfl) rfl) rfl) (by dsimp only; rw [nzF_eq _ _ hvp]; rfl)) rfl) rfl) rfl) rfl) rfl) rfl) (by dsimp only; rw [nzF_eq _ _ hvp, vecR_2, hv0, Int.sub_zero, lfJ_same hv0]; (first|((repeat first|exact s_0|exact s_1|exact s_3|refine s_4 ?_|refine s_5 ?_|refine s_6 ?_|refine s_7 ?_);done)|((repeat first|exact s_0|exact s_1|exact s_3|refine s_4 ?_|refine s_5 ?_|refine s_6 ?_|refine s_8 ?_);done)))
        · refine xr_end rfl ?_
          refine th_n ?_
          refine xc_seq ?_
          refine xc_false rfl ?_
          refine xc_exit ?_
          refine th_x ?_
          refine th_x ?_
          refine bk_same ?_
          refine th_n ?_
          refine xc_seq ?_
          refine xc_seq (xc_region ?_)
          obtain rfl : j = bs.length := by (first|omega|(dsimp only at *;omega)|(simp at *;omega))
          obtain ⟨⟨va, vb⟩, vc, vd⟩ := vecR_bd (room := (roomR y.coals.length y.moves k prev)) (t := xo.tons) (by omega) bs.length (fun i _ => hnn i)
          obtain ⟨hv2, hnz⟩ := draw_done (room := (roomR y.coals.length y.moves k prev)) (t := xo.tons) (c := bs.length) (L := (opn y.moves).1) (by omega) (fun j hj => hz j (by omega)) va
          refine xr_op rfl rfl (xv_faddr fl63_2 rfl ?_)
          refine xr_op rfl rfl (xv_load1 ty3 rfl rfl Me_ (by rfl) ?_)
          refine xr_op rfl rfl (xv_gtr2 rfl rfl (fun q8 => ?_) (fun q8 => ?_))
          · refine xr_end rfl ?_
            refine th_n ?_
            refine xc_true rfl ?_
            refine xc_seq (xc_region ?_)
            refine xr_op rfl rfl (xv_assign rfl ?_)
            refine xr_op rfl rfl (xv_assign rfl ?_)
            refine xr_end rfl ?_
            refine th_n ?_
            refine xc_ret ?_
            refine th_r ?_
            refine bk_r ?_
            refine th_r ?_
            refine th_r ?_
            refine bk_r ?_
            refine th_r ?_
            refine sc_r ?_
            refine body_ret (h' := h) rfl (ro_tmp rfl (ro_tmp rfl ro_nil)) (by first | (first|((repeat first|exact s_0|exact s_1|exact s_3|refine s_4 ?_|refine s_5 ?_|refine s_6 ?_|refine s_7 ?_);done)|((repeat first|exact s_0|exact s_1|exact s_3|refine s_4 ?_|refine s_5 ?_|refine s_6 ?_|refine s_8 ?_);done)) | (simp only [List.cons_append, List.append_assoc]; (first|((repeat first|exact s_0|exact s_1|exact s_3|refine s_4 ?_|refine s_5 ?_|refine s_6 ?_|refine s_7 ?_);done)|((repeat first|exact s_0|exact s_1|exact s_3|refine s_4 ?_|refine s_5 ?_|refine s_6 ?_|refine s_8 ?_);done)))) ?_
            first | exact H1 hgy | exact H2 hgy (parts_end (parts_bad hP.is hko Om_ Om_) Om_) | exact H3 prev b19 V.ad V.cp bs W.ad W.cp ds _ hgy hvs hsh
          · refine xr_end rfl ?_
            refine th_n ?_
            refine xc_false rfl ?_
            refine xc_skip ?_
            refine th_n ?_
            refine xc_region ?_
            have hnm : ¬ (vecR (roomR y.coals.length y.moves k prev) (opn y.moves).1 xo.tons).2 > 0 := by (first|omega|(dsimp only at *;omega)|(simp at *;omega))
            have hst : opn (y.moves.take (k + 1)) = ((opn (y.moves.take k)).1, -1) := by rw [opn_take hko]; unfold stepO; rw [if_pos Om_]
            have e27 : (ds ++ [(⟨U.ad, nzF (vF (roomR y.coals.length y.moves k prev) xo.tons) bs.length, U.cp⟩ : PH)]).flatMap ePH = ds.flatMap ePH ++ [.slice U.ad (nzF (vF (roomR y.coals.length y.moves k prev) xo.tons) bs.length).length U.cp] := by simp [ePH]
            have hlend : layHp bs (layF y.moves k (lfJ (roomR y.coals.length y.moves k prev) xo.tons bs.length)) = layHp bs (layF y.moves (k + 1) (roomR y.coals.length y.moves (k + 1) (prev ++ [(vecR (roomR y.coals.length y.moves k prev) (opn y.moves).1 xo.tons).1]))) := layHp_congr (fun i hi => layF_drawn hko Om_ (lfJ_end hmv hko Om_ hi (by omega)))
            refine xr_op rfl rfl (xv_move rfl ?_)
            refine xr_op rfl rfl (xv_move rfl ?_)
            refine xr_op rfl rfl (xv_nilp rfl ?_)
            refine xr_op rfl rfl (xv_faddr fl73_2 rfl ?_)
            refine xr_op rfl rfl (xv_load1 ty71 rfl rfl Me_ (by rfl) ?_)
            refine xr_op rfl rfl (xv_move rfl ?_)
            refine xr_op rfl rfl ((al_buildSlice sl71 ty39 rfl rfl rfl rfl rfl Ev_).xv (fun b129 hb129 => ?_))
            refine xr_op rfl rfl (xv_append (V := W) (n := ds.length) (xs := ds.flatMap ePH) sl71 ty39 rfl (by rw [Vec.val_ad hW]; rfl) rfl hW (.there (.skip (.there (.there (.skip .here))))) Me_ Ev_ rfl rfl Om_ (by simp only []; (first|omega|(dsimp only at *;omega)|(simp at *;omega))) Om_ (fun W2 hW2 => ?_))
            rw [Vec.val_ad hW2]
            refine xr_op rfl rfl (xv_nilp rfl ?_)
            refine xr_op rfl rfl (xv_faddr fl73_2 rfl ?_)
            refine xr_op rfl rfl (xv_s1 ty71 rfl rfl rfl Up_ One_ Len_ Ev_ ?_)
            refine xr_end rfl ?_
            refine bk_n ?_
            refine th_n ?_
            refine xc_region ?_
            refine XR.perm permB.symm ?_
            refine xr_op rfl rfl (xv_add rfl rfl (wrap_i64 Om_ Om_) ?_)
            refine xr_op rfl rfl (xv_move rfl ?_)
            refine xr_end rfl ?_
            exact rnd ((k + 1, prev ++ [(vecR (roomR y.coals.length y.moves k prev) (opn y.moves).1 xo.tons).1], bs, V, ds ++ [⟨U.ad, nzF (vF (roomR y.coals.length y.moves k prev) xo.tons) bs.length, U.cp⟩], W2, U.hp 103 ((nzF (vF (roomR y.coals.length y.moves k prev) xo.tons) bs.length).flatMap ePart) ++ P) : Nat × List (List Int) × List Nat × Vec × List PH × Vec × Hp) ⟨by (first|omega|(dsimp only at *;omega)|(simp at *;omega)), hP.more hmv hko Om_ hnm, by rw [hst]; exact hbl, hV, by dsimp only; rw [List.length_append, e27]; exact hW2, by dsimp only; rw [List.map_append, List.map_append, hD, List.map_singleton, List.map_singleton, hnz], fun w hw => by
              rcases List.mem_append.1 hw with hw | hw
              · exact (hS w hw).sub (fun z hz => List.mem_append_right _ hz)
              · rw [List.mem_singleton.1 hw]; exact (Vec.slvA ePart_len rfl hU).sub (fun z hz => List.mem_append_left _ hz)⟩ Om_ (le_put (le_put (le_put (le_put (le_put (le_put (le_emp _) rfl) rfl) (by rw [hst]; rfl)) rfl) rfl) rfl) (by dsimp only; rw [List.length_append, e27, ← hlend]; (first|((repeat first|exact s_0|exact s_1|exact s_3|refine s_4 ?_|refine s_5 ?_|refine s_6 ?_|refine s_7 ?_);done)|((repeat first|exact s_0|exact s_1|exact s_3|refine s_4 ?_|refine s_5 ?_|refine s_6 ?_|refine s_8 ?_);done)))
    · refine xr_end rfl ?_
      refine th_n ?_
      refine xc_seq ?_
      refine xc_false rfl ?_
      refine xc_exit ?_
      refine th_x ?_
      refine th_x ?_
      refine bk_same ?_
      refine th_n ?_
      refine xc_seq (xc_region ?_)
      obtain rfl : y.moves.length = k := by (first|omega|(dsimp only at *;omega)|(simp at *;omega))
      have hvs : vecsR y = some prev := hP.is
      have hsh : ShedV ((b19, .cells ⟨[.slice y.ca y.coals.length y.cc, .slice V.ad bs.length V.cp, .slice W.ad ds.length W.cp]⟩ 70) :: (V.hp 98 (bs.flatMap eLp) ++ (W.hp 101 (ds.flatMap ePH) ++ (layHp bs (layF y.moves y.moves.length (roomR y.coals.length y.moves y.moves.length prev)) ++ P)))) y prev b19 V.ad V.cp bs W.ad W.cp ds := by
        refine ⟨List.mem_cons_self, (Vec.slvA (t := 98) eLp_len rfl hV).sub (by intro z hz; ((repeat first|exact z_0|assumption|refine z_1 ?_|(refine z_l ?_;(repeat first|exact z_0|assumption|refine z_1 ?_);done)|refine z_r ?_);done)), fun i c hc => ?_, by rw [hbl, List.take_length], (Vec.slvA (t := 101) ePH_len rfl hW).sub (by intro z hz; ((repeat first|exact z_0|assumption|refine z_1 ?_|(refine z_l ?_;(repeat first|exact z_0|assumption|refine z_1 ?_);done)|refine z_r ?_);done)), vec_cap hW, fun z hz => (hS z hz).sub (fun x hx => ?_), hD, hP⟩
        · have := layHp_mem (f := layF y.moves y.moves.length (roomR y.coals.length y.moves y.moves.length prev)) hc
          exact z_1 (z_r (z_r (z_l this)))
        · exact z_1 (z_r (z_r (z_r hx)))
      refine xr_op rfl rfl (xv_move rfl ?_)
      refine xr_op rfl rfl (xv_assign rfl ?_)
      refine xr_op rfl rfl (xv_assign rfl ?_)
      refine xr_end rfl ?_
      refine th_n ?_
      refine xc_ret ?_
      refine sc_r ?_
      refine body_ret (h' := (((b19, .cells ⟨[.slice y.ca y.coals.length y.cc, .slice V.ad bs.length V.cp, .slice W.ad ds.length W.cp]⟩ 70) :: (V.hp 98 (bs.flatMap eLp) ++ (W.hp 101 (ds.flatMap ePH) ++ (layHp bs (layF y.moves y.moves.length (roomR y.coals.length y.moves y.moves.length prev)) ++ P)))) ++ h)) rfl (ro_tmp rfl (ro_tmp rfl ro_nil)) (by first | (first|((repeat first|exact s_0|exact s_1|exact s_3|refine s_4 ?_|refine s_5 ?_|refine s_6 ?_|refine s_7 ?_);done)|((repeat first|exact s_0|exact s_1|exact s_3|refine s_4 ?_|refine s_5 ?_|refine s_6 ?_|refine s_8 ?_);done)) | (simp only [List.cons_append, List.append_assoc]; (first|((repeat first|exact s_0|exact s_1|exact s_3|refine s_4 ?_|refine s_5 ?_|refine s_6 ?_|refine s_7 ?_);done)|((repeat first|exact s_0|exact s_1|exact s_3|refine s_4 ?_|refine s_5 ?_|refine s_6 ?_|refine s_8 ?_);done)))) ?_
      first | exact H1 hgy | exact H2 hgy (parts_end (parts_bad hP.is hko Om_ Om_) Om_) | exact H3 prev b19 V.ad V.cp bs W.ad W.cp ds _ hgy hvs hsh
  · refine xr_op rfl rfl (xv_not rfl ?_)
    refine xr_end rfl ?_
    refine th_n ?_
    refine xc_true rfl ?_
    refine xc_seq (xc_region ?_)
    refine xr_op rfl rfl (xv_assign rfl ?_)
    refine xr_op rfl rfl (xv_assign rfl ?_)
    refine xr_end rfl ?_
    refine th_n ?_
    refine xc_ret ?_
    refine th_r ?_
    refine sc_r ?_
    refine body_ret (h' := h) rfl (ro_tmp rfl (ro_tmp rfl ro_nil)) (by first | (first|((repeat first|exact s_0|exact s_1|exact s_3|refine s_4 ?_|refine s_5 ?_|refine s_6 ?_|refine s_7 ?_);done)|((repeat first|exact s_0|exact s_1|exact s_3|refine s_4 ?_|refine s_5 ?_|refine s_6 ?_|refine s_8 ?_);done)) | (simp only [List.cons_append, List.append_assoc]; (first|((repeat first|exact s_0|exact s_1|exact s_3|refine s_4 ?_|refine s_5 ?_|refine s_6 ?_|refine s_7 ?_);done)|((repeat first|exact s_0|exact s_1|exact s_3|refine s_4 ?_|refine s_5 ?_|refine s_6 ?_|refine s_8 ?_);done)))) ?_
    first | exact H1 hgy | exact H2 hgy (parts_end (parts_bad hP.is hko Om_ Om_) Om_) | exact H3 prev b19 V.ad V.cp bs W.ad W.cp ds _ hgy hvs hsh

end Go.Proofs.Ytmaldhbjhomdkaa.Coal

/-
  Walks.
-/
namespace Go.Proofs.Ytmaldhbjhomdkaa.Coal
open Go Go.H
set_option maxRecDepth 100000
set_option maxHeartbeats 8000000
set_option linter.all false
theorem parts_c {b n c : Nat} {a : Option Addr} {h : Hp} {R : Ending → Hp → Prop} (H : ∀ p1 p2, R (.returned (.func (.func 39) ⟨[]⟩ ⟨[.pointer (some ⟨p1, 0, none⟩), .pointer (some ⟨p2, 0, none⟩)]⟩)) ((p2, .cells ⟨[.slice a n c]⟩ 68) :: (p1, .cells ⟨[.pointer (some ⟨b, 0, none⟩)]⟩ 64) :: h)) : ACalls Try.prog 23 ⟨[.pointer (some ⟨b, 0, none⟩), .slice a n c]⟩ h R := by
  refine calls_of_xc (N := 6) Try.func23 rfl (by rfl) ?_
  refine xc_seq (xc_region ?_)
  refine xr_op rfl rfl (xv_box rfl (fun p1 hp1 => ?_))
  refine xr_op rfl rfl (xv_box rfl (fun p2 hp2 => ?_))
  refine xr_op rfl rfl (xv_assign rfl ?_)
  refine xr_end rfl ?_
  refine th_n ?_
  refine xc_seq (xc_region ?_)
  refine xr_op rfl rfl (xv_func rfl rfl ?_)
  refine xr_op rfl rfl (xv_assign rfl ?_)
  refine xr_end rfl ?_
  refine th_n ?_
  refine xc_ret ?_
  refine body_ret (h' := ((p2, .cells ⟨[.slice a n c]⟩ 68) :: (p1, .cells ⟨[.pointer (some ⟨b, 0, none⟩)]⟩ 64) :: h)) rfl (ro_tmp rfl ro_nil) Su_ ?_
  exact H p1 p2

theorem partsIt {core : Hp} {y : Yard} {vs us : List (List Int)} {b lc dc p1 p2 c : Nat} {la da a : Option Addr} {bs : List Nat} {ds es : List PH} (hp1 : (p1, .cells ⟨[.pointer (some ⟨b, 0, none⟩)]⟩ 64 (0, 0)) ∈ core) (hp2 : (p2, .cells ⟨[.slice a es.length c]⟩ 68 (0, 0)) ∈ core)
    (hsh : ShedV core y vs b la lc bs da dc ds) (hu : SubV core y us a es) : Iter Try.prog 39 [] [.pointer (some ⟨p1, 0, none⟩), .pointer (some ⟨p2, 0, none⟩)] ePc (partsL y us) (fun h' => core ⊆ h') := by
  intro yv J Jx h hRd hyv hJ
  show ACalls Try.prog 39 ⟨[yv, .pointer (some ⟨p1, 0, none⟩), .pointer (some ⟨p2, 0, none⟩)]⟩ h _
  refine calls_of_xc (N := 66) Try.func39 rfl (by rfl) ?_
  have hc0 := hRd _ _ hJ
  have m1 := hc0 hp1
  have m2 := hc0 hp2
  have m3 := hc0 hsh.top
  have hbn := hsh.len
  have hL := hu.lay
  have hen := hu.cnt
  have hfw := hu.few
  refine xc_seq (xc_region ?_)
  refine xr_op rfl rfl (xv_load1 ty66 rfl rfl Me_ (by rfl) ?_)
  refine xr_op rfl rfl (xv_nilp rfl ?_)
  refine xr_op rfl rfl (xv_faddr fl73_1 rfl ?_)
  refine xr_op rfl rfl (xv_load1 ty70 rfl rfl Me_ (by rfl) ?_)
  refine xr_op rfl rfl (xv_len sl70 rfl ?_)
  refine xr_op rfl rfl (xv_make (n := bs.length) (l := (tkV (opn y.moves).1 [] []).flatMap eI) sl38 ty3 rfl rfl Om_ (by simp only []; (first|omega|(dsimp only at *;omega)|(simp at *;omega))) (by simp only []; (first|omega|(dsimp only at *;omega)|(simp at *;omega))) (by rw [tkV_0, hbn]; exact make_ints _) (fun b16 hb16 => ?_))
  refine xr_op rfl rfl (xv_assign rfl ?_)
  refine xr_end rfl ?_
  refine th_n ?_
  refine xc_seq ?_
  refine xc_seq (xc_region ?_)
  refine xr_op rfl rfl (xv_load1 ty71 rfl rfl Me_ (by rfl) ?_)
  refine xr_op rfl rfl (xv_len sl71 rfl ?_)
  refine xr_op rfl rfl (xv_move rfl ?_)
  refine xr_end rfl ?_
  refine th_n ?_
  refine xc_block ?_
  refine xc_loop (σ := Nat) (fun k => k ≤ es.length) (fun k => (((((((emp.put (some 0) (yv)).put (some 1) (.pointer (some ⟨p1, 0, none⟩))).put (some 2) (.pointer (some ⟨p2, 0, none⟩))).put (some 4) (.slice (some ⟨b16, 0, none⟩) (opn y.moves).1 (opn y.moves).1)).put (some 17) (.slice a es.length c)).put (some 18) (I es.length)).put (some 19) (I k))) (fun k => ((b16, .cells ⟨(tkV (opn y.moves).1 (us.take k) []).flatMap eI⟩ 3) :: h)) (fun k => es.length - k) 0 (Nat.zero_le _) (le_put (le_put (le_put (le_put (le_put (le_put (le_put (le_emp _) rfl) rfl) rfl) (by rw [← hbn]; rfl)) rfl) rfl) rfl) Su_ ?_
  rintro k hk
  refine xc_seq (xc_region ?_)
  have hkl : k ≤ us.length := by omega
  refine xr_op rfl rfl (xv_lss2 rfl rfl (fun q1 => ?_) (fun q1 => ?_))
  · refine xr_end rfl ?_
    refine th_n ?_
    refine xc_seq ?_
    refine xc_true rfl ?_
    refine xc_skip ?_
    refine th_n ?_
    refine xc_seq ?_
    refine xc_block ?_
    refine xc_seq (xc_region ?_)
    have hltw : k < es.length := by (first|omega|(dsimp only at *;omega)|(simp at *;omega))
    obtain ⟨bw, ow, lw, tw, fzw, haw, hmw, hxw⟩ := ((hu.sl.sub hc0)).at hltw
    obtain ⟨xw, hkw⟩ : ∃ qq_, es[k]? = some qq_ := ⟨_, List.getElem?_eq_getElem hltw⟩
    obtain ⟨v, hv, hvm⟩ := hu.part hkw
    have hv9 := List.mem_of_getElem? hv
    have hvl := hu.len v hv9
    have hvb := hu.bd v hv9
    have hwl : xw.m.length ≤ (opn y.moves).1 := by rw [hvm]; exact nzF_len _ _
    have hnx : tkV (opn y.moves).1 (us.take (k + 1)) [] = tkV (opn y.moves).1 (us.take k) xw.m := by rw [hvm, tkV_next hv hvl (fun x hx => (hvb x hx).1)]
    have hwp := (hu.parts xw (List.mem_of_getElem? hkw)).sub hc0
    refine xr_op rfl rfl (xv_ia (sz := 1) (j := k) sl71 ty39 rfl (by rw [haw]; rfl) rfl Ix_ Om_ Om_ ?_)
    refine xr_op rfl rfl (xv_load1 ty39 rfl rfl Me_ (take_get (hxw (k) xw hkw) (j := 0) rfl) ?_)
    refine xr_op rfl rfl (xv_assign rfl ?_)
    refine xr_end rfl ?_
    refine th_n ?_
    refine xc_seq (xc_region ?_)
    refine xr_op rfl rfl (xv_move rfl ?_)
    refine xr_op rfl rfl (xv_len sl39 rfl ?_)
    refine xr_op rfl rfl (xv_move rfl ?_)
    refine xr_end rfl ?_
    refine th_n ?_
    refine xc_block ?_
    refine xc_loop (σ := Nat) (fun j => j ≤ xw.m.length) (fun j => ((((((((((emp.put (some 0) (yv)).put (some 1) (.pointer (some ⟨p1, 0, none⟩))).put (some 2) (.pointer (some ⟨p2, 0, none⟩))).put (some 4) (.slice (some ⟨b16, 0, none⟩) (opn y.moves).1 (opn y.moves).1)).put (some 17) (.slice a es.length c)).put (some 18) (I es.length)).put (some 19) (I k)).put (some 23) (.slice xw.a xw.m.length xw.c)).put (some 24) (I xw.m.length)).put (some 25) (I j))) (fun j => ((b16, .cells ⟨(tkV (opn y.moves).1 (us.take k) (xw.m.take j)).flatMap eI⟩ 3) :: h)) (fun j => xw.m.length - j) 0 (Nat.zero_le _) (le_put (le_put (le_put (le_put (le_put (le_put (le_put (le_put (le_put (le_put (le_emp _) rfl) rfl) rfl) rfl) rfl) rfl) rfl) rfl) rfl) rfl) Su_ ?_
    rintro j hj
    refine xc_seq (xc_region ?_)
    refine xr_op rfl rfl (xv_lss2 rfl rfl (fun q2 => ?_) (fun q2 => ?_))
    · refine xr_end rfl ?_
      refine th_n ?_
      refine xc_seq ?_
      refine xc_true rfl ?_
      refine xc_skip ?_
      refine th_n ?_
      refine xc_seq ?_
      refine xc_block ?_
      refine xc_seq (xc_region ?_)
      have hltp : j < xw.m.length := by (first|omega|(dsimp only at *;omega)|(simp at *;omega))
      obtain ⟨bp, op, lp, tp, fzp, hap, hmp, hxp⟩ := (hwp).at hltp
      obtain ⟨xp, hkp⟩ : ∃ qq_, xw.m[j]? = some qq_ := ⟨_, List.getElem?_eq_getElem hltp⟩
      obtain ⟨pt0, pl0, pl1, _⟩ := nzF_mem (hvm ▸ List.mem_of_getElem? hkp)
      have hpos : ∀ q ∈ xw.m, 0 ≤ q.tons := fun q hq => Int.le_of_lt (nzF_mem (hvm ▸ hq)).1
      have hpi : xp.layer = ((xp.layer.toNat : Nat) : Int) := by omega
      have hpn : xp.layer.toNat < (opn y.moves).1 := by omega
      have hg := tkV_get (us := us.take k) (l := xw.m.take j) hpn
      have hb1 := taken_bd (prev := us.take k) (fun v hv => hu.bd v (List.mem_of_mem_take hv)) xp.layer.toNat
      rw [List.length_take] at hb1
      have hb2 := addP_bd hpos xp.layer.toNat (j + 1)
      have hb4 := addP_bd hpos xp.layer.toNat j
      rw [addP_take hkp, if_pos hpi] at hb2
      have hb3 : addP xw.m xp.layer.toNat ≤ 1048576 := by rw [hvm, addP_nz (fun j => (getD_bd (B := 1048576) (by decide) hvb j).1), if_pos hpn]; exact (getD_bd (by decide) hvb _).2
      refine xr_op rfl rfl (xv_ia (sz := 2) (j := j) sl39 ty43 rfl (by rw [hap]; rfl) rfl Ix_ Om_ Om_ ?_)
      refine xr_op rfl rfl (xv_loadA ty43 rfl rfl Me_ (hxp (j) xp hkp) rfl ?_)
      refine xr_op rfl rfl (xv_alloc ty43 (fun b8 hb8 => ?_))
      refine xr_op rfl rfl (xv_s ty43 rfl rfl Up_ Ev_ (by rfl) (by rfl) (by rfl) Ev_ ?_)
      refine xr_end rfl ?_
      refine th_n ?_
      refine xc_draw0 [(0, .S), (1, .S), (2, .R), (3, .S), (4, .R), (5, .S), (6, .R), (7, .S), (8, .S), (9, .O)] mixed (by kernel_rfl) ?_
      refine js_S rfl rfl (.inl rfl) (xv_move rfl ⟨rfl, rfl⟩) ?_
      refine js_S rfl rfl (.inl rfl) (xv_faddr fl43_0 rfl ⟨rfl, rfl⟩) ?_
      refine js_R0 rfl rfl (.inl rfl) (xv_load1 ty3 rfl rfl Me_ (by rfl) ⟨rfl, rfl⟩) ?_
      refine js_S rfl rfl (.inl rfl) (xv_ia (sz := 1) (j := xp.layer.toNat) sl38 ty3 rfl rfl rfl (by omega) Om_ Om_ ⟨rfl, rfl⟩) ?_
      refine js_R0 rfl rfl (.inl rfl) (xv_load1 ty3 rfl rfl Me_ (ints_get hg) ⟨rfl, rfl⟩) ?_
      refine js_S rfl rfl (.inl rfl) (xv_faddr fl43_1 rfl ⟨rfl, rfl⟩) ?_
      refine js_R0 rfl rfl (.inl rfl) (xv_load1 ty3 rfl rfl Me_ (by rfl) ⟨rfl, rfl⟩) ?_
      refine js_S rfl rfl (.inl rfl) (xv_add rfl rfl (wrap_i64 Om_ Om_) ⟨rfl, rfl⟩) ?_
      refine js_S rfl rfl (.inl rfl) (xv_ia (sz := 1) (j := xp.layer.toNat) sl38 ty3 rfl rfl rfl (by omega) Om_ Om_ ⟨rfl, rfl⟩) ?_
      refine js_O0 rfl rfl (.inl rfl) (xv_s1 (l := (tkV (opn y.moves).1 (us.take k) (xw.m.take j)).flatMap eI) (l' := (tkV (opn y.moves).1 (us.take k) (xw.m.take (j + 1))).flatMap eI) ty3 rfl rfl rfl Up_ rfl (by rw [ints_len, tkV_len]; (first|omega|(dsimp only at *;omega)|(simp at *;omega))) ((ints_setN (by rw [tkV_len]; omega)).trans (by rw [tkV_set hkp hpi hpn])) ?_)
      refine j_end0 ?_
      refine bk_n ?_
      refine th_n ?_
      refine xc_region ?_
      refine xr_op rfl rfl (xv_add rfl rfl (wrap_i64 Om_ Om_) ?_)
      refine xr_op rfl rfl (xv_move rfl ?_)
      refine xr_end rfl ?_
      exact rnd (j + 1) Om_ Om_ (le_put (le_put (le_put (le_put (le_put (le_put (le_put (le_put (le_put (le_put (le_emp _) rfl) rfl) rfl) rfl) rfl) rfl) rfl) rfl) rfl) rfl) Su_
    · refine xr_end rfl ?_
      refine th_n ?_
      refine xc_seq ?_
      refine xc_false rfl ?_
      refine xc_exit ?_
      refine th_x ?_
      refine th_x ?_
      refine bk_same ?_
      refine bk_n ?_
      refine th_n ?_
      refine xc_region ?_
      obtain rfl : xw.m.length = j := by (first|omega|(dsimp only at *;omega)|(simp at *;omega))
      rw [List.take_length]
      refine xr_op rfl rfl (xv_add rfl rfl (wrap_i64 Om_ Om_) ?_)
      refine xr_op rfl rfl (xv_move rfl ?_)
      refine xr_end rfl ?_
      exact rnd (k + 1) Om_ Om_ (le_put (le_put (le_put (le_put (le_put (le_put (le_put (le_emp _) rfl) rfl) rfl) rfl) rfl) rfl) rfl) (by rw [hnx]; (first|((repeat first|exact s_0|exact s_1|exact s_3|refine s_4 ?_|refine s_5 ?_|refine s_6 ?_|refine s_7 ?_);done)|((repeat first|exact s_0|exact s_1|exact s_3|refine s_4 ?_|refine s_5 ?_|refine s_6 ?_|refine s_8 ?_);done)))
  · refine xr_end rfl ?_
    refine th_n ?_
    refine xc_seq ?_
    refine xc_false rfl ?_
    refine xc_exit ?_
    refine th_x ?_
    refine th_x ?_
    refine bk_same ?_
    refine th_n ?_
    refine xc_seq (xc_region ?_)
    obtain rfl : es.length = k := by (first|omega|(dsimp only at *;omega)|(simp at *;omega))
    rw [show us.take es.length = us from by rw [hen, List.take_length]]
    refine xr_op rfl rfl (xv_move rfl ?_)
    refine xr_op rfl rfl (xv_len sl38 rfl ?_)
    refine xr_op rfl rfl (xv_move rfl ?_)
    refine xr_end rfl ?_
    refine th_n ?_
    refine xc_block ?_
    refine xc_loop (σ := Nat × Hp) (fun z => z.1 ≤ (opn y.moves).1 ∧ J (partsN y us z.1).length z.2) (fun z => (((((((emp.put (some 0) (yv)).put (some 1) (.pointer (some ⟨p1, 0, none⟩))).put (some 2) (.pointer (some ⟨p2, 0, none⟩))).put (some 4) (.slice (some ⟨b16, 0, none⟩) (opn y.moves).1 (opn y.moves).1)).put (some 40) (.slice (some ⟨b16, 0, none⟩) (opn y.moves).1 (opn y.moves).1)).put (some 41) (I (opn y.moves).1)).put (some 42) (I z.1))) (fun z => ((b16, .cells ⟨(tkV (opn y.moves).1 us []).flatMap eI⟩ 3) :: z.2)) (fun z => (opn y.moves).1 - z.1) ((0, h) : Nat × Hp) ⟨Nat.zero_le _, hJ⟩ (le_put (le_put (le_put (le_put (le_put (le_put (le_put (le_emp _) rfl) rfl) rfl) rfl) rfl) rfl) rfl) Su_ ?_
    rintro ⟨j, h1⟩ ⟨hj, hJ1⟩
    dsimp only at hj hJ1
    have hc1 := hRd _ _ hJ1
    refine xc_seq (xc_region ?_)
    refine xr_op rfl rfl (xv_lss2 rfl rfl (fun q3 => ?_) (fun q3 => ?_))
    · refine xr_end rfl ?_
      refine th_n ?_
      refine xc_seq ?_
      refine xc_true rfl ?_
      refine xc_skip ?_
      refine th_n ?_
      refine xc_seq ?_
      refine xc_block ?_
      refine xc_seq (xc_region ?_)
      have hjl : j < (opn y.moves).1 := by (first|omega|(dsimp only at *;omega)|(simp at *;omega))
      have hg := tkV_get (us := us) (l := []) hjl
      rw [addP_nil, Int.add_zero] at hg
      have hb1 := taken_bd hu.bd j
      refine xr_op rfl rfl (xv_move rfl ?_)
      refine xr_op rfl rfl (xv_ia (sz := 1) (j := j) sl38 ty3 rfl rfl rfl Ix_ Om_ Om_ ?_)
      refine xr_op rfl rfl (xv_load1 ty3 rfl rfl Me_ (ints_get hg) ?_)
      refine xr_op rfl rfl (xv_assign rfl ?_)
      refine xr_op rfl rfl (xv_assign rfl ?_)
      refine xr_end rfl ?_
      refine th_n ?_
      refine xc_seq (xc_region ?_)
      refine xr_op rfl rfl (xv_move rfl ?_)
      refine xr_op rfl rfl (xv_gtr2 rfl rfl (fun q4 => ?_) (fun q4 => ?_))
      · refine xr_op rfl rfl (xv_move rfl ?_)
        have hpt : takenR us j > 0 := by (first|omega|(dsimp only at *;omega)|(simp at *;omega))
        have hz := partsN_at hpt hjl
        have hS1 := hsh.sub hc1
        have m6 := hc1 hp1
        have m7 := hS1.top
        have hltl : j < bs.length := by omega
        obtain ⟨bl, ol, ll, tl, fzl, hal, hml, hxl⟩ := (hS1.lays).at hltl
        obtain ⟨xl, hkl⟩ : ∃ qq_, bs[j]? = some qq_ := ⟨_, List.getElem?_eq_getElem hltl⟩
        have hlay := hS1.lay j xl hkl
        have hll : ((layF y.moves y.moves.length (roomR y.coals.length y.moves y.moves.length vs) j).drop 0).take 6 = (contF 6 (y.moves.take y.moves.length) (j : Int)).flatMap eI := by unfold layF; rw [List.drop_zero, List.take_append_of_le_length (by rw [ints_len, contF_len]; exact Nat.le_refl _), List.take_of_length_le (by rw [ints_len, contF_len]; exact Nat.le_refl _)]
        refine xr_gd rfl rfl rfl (xv_move rfl ?_)
        refine xr_gd rfl rfl rfl (xv_load1 ty66 rfl rfl Me_ (by rfl) ?_)
        refine xr_gd rfl rfl rfl (xv_nilp rfl ?_)
        refine xr_gd rfl rfl rfl (xv_faddr fl73_1 rfl ?_)
        refine xr_gd rfl rfl rfl (xv_load1 ty70 rfl rfl Me_ (by rfl) ?_)
        refine xr_gd rfl rfl rfl (xv_move rfl ?_)
        refine xr_gd rfl rfl rfl (xv_ia (sz := 1) (j := j) sl70 ty105 rfl (by rw [hal]; rfl) rfl Ix_ Om_ Om_ ?_)
        refine xr_gd rfl rfl rfl (xv_load1 ty105 rfl rfl Me_ (take_get (hxl (j) xl hkl) (j := 0) rfl) ?_)
        refine xr_gd rfl rfl rfl (xv_nilp rfl ?_)
        refine xr_gd rfl rfl rfl (xv_faddr fl107_0 rfl ?_)
        refine xr_gd rfl rfl rfl (xv_loadA ty80 rfl rfl Me_ hll (by rw [ints_len]; exact contF_len _ _ _) ?_)
        refine xr_gd rfl rfl rfl (xv_move rfl ?_)
        refine xr_gd rfl rfl rfl (xv_fn rfl rfl (yieldTo (g := [(b16, .cells ⟨(tkV (opn y.moves).1 us []).flatMap eI⟩ 3)]) (hyv _ _ hz _ hJ1) (fun h3 hJ3 => up_ret ?_) (fun h3 hJ3 => up_ret ?_)))
        · refine xr_gd rfl rfl rfl (xv_not rfl ?_)
          refine xr_op rfl rfl (xv_pick rfl rfl ?_)
          refine xr_end rfl ?_
          refine th_n ?_
          refine xc_false rfl ?_
          refine xc_skip ?_
          refine bk_n ?_
          refine th_n ?_
          refine xc_region ?_
          refine xr_op rfl rfl (xv_add rfl rfl (wrap_i64 Om_ Om_) ?_)
          refine xr_op rfl rfl (xv_move rfl ?_)
          refine xr_end rfl ?_
          exact rnd ((j + 1, h3) : Nat × Hp) ⟨by (first|omega|(dsimp only at *;omega)|(simp at *;omega)), by dsimp only; rw [partsN_lenS hpt]; exact hJ3⟩ Om_ (le_put (le_put (le_put (le_put (le_put (le_put (le_put (le_emp _) rfl) rfl) rfl) rfl) rfl) rfl) rfl) Su_
        · refine xr_gd rfl rfl rfl (xv_not rfl ?_)
          refine xr_op rfl rfl (xv_pick rfl rfl ?_)
          refine xr_end rfl ?_
          refine th_n ?_
          refine xc_true rfl ?_
          refine xc_ret ?_
          refine bk_r ?_
          refine th_r ?_
          refine th_r ?_
          refine bk_r ?_
          refine body_ret (h' := h3) rfl ro_nil Su_ ?_
          exact ⟨⟨_, rfl⟩, .inr ⟨_, (List.getElem?_eq_some_iff.1 hz).1, hJ3⟩⟩
      · refine xr_op rfl rfl (xv_move rfl ?_)
        refine xr_no rfl rfl rfl rfl ?_
        refine xr_no rfl rfl rfl rfl ?_
        refine xr_no rfl rfl rfl rfl ?_
        refine xr_no rfl rfl rfl rfl ?_
        refine xr_no rfl rfl rfl rfl ?_
        refine xr_no rfl rfl rfl rfl ?_
        refine xr_no rfl rfl rfl rfl ?_
        refine xr_no rfl rfl rfl rfl ?_
        refine xr_no rfl rfl rfl rfl ?_
        refine xr_no rfl rfl rfl rfl ?_
        refine xr_no rfl rfl rfl rfl ?_
        refine xr_no rfl rfl rfl rfl ?_
        refine xr_no rfl rfl rfl rfl ?_
        refine xr_no rfl rfl rfl rfl ?_
        refine xr_op rfl rfl (xv_pick rfl rfl ?_)
        refine xr_end rfl ?_
        refine th_n ?_
        refine xc_false rfl ?_
        refine xc_skip ?_
        refine bk_n ?_
        refine th_n ?_
        refine xc_region ?_
        have hpt : ¬ takenR us j > 0 := by (first|omega|(dsimp only at *;omega)|(simp at *;omega))
        refine xr_op rfl rfl (xv_add rfl rfl (wrap_i64 Om_ Om_) ?_)
        refine xr_op rfl rfl (xv_move rfl ?_)
        refine xr_end rfl ?_
        exact rnd ((j + 1, h1) : Nat × Hp) ⟨by (first|omega|(dsimp only at *;omega)|(simp at *;omega)), by dsimp only; rw [partsN_eq hpt]; exact hJ1⟩ Om_ (le_put (le_put (le_put (le_put (le_put (le_put (le_put (le_emp _) rfl) rfl) rfl) rfl) rfl) rfl) rfl) Su_
    · refine xr_end rfl ?_
      refine th_n ?_
      refine xc_seq ?_
      refine xc_false rfl ?_
      refine xc_exit ?_
      refine th_x ?_
      refine th_x ?_
      refine bk_same ?_
      refine body_end (h' := h1) rfl ro_nil Su_ ?_
      exact ⟨⟨_, rfl⟩, .inl (by have hk9 : j = (opn y.moves).1 := Om_; rw [hk9] at hJ1; exact hJ1)⟩

end Go.Proofs.Ytmaldhbjhomdkaa.Coal

/-
  Walks.
-/
namespace Go.Proofs.Ytmaldhbjhomdkaa.Coal
open Go Go.H
set_option maxRecDepth 100000
set_option maxHeartbeats 8000000
set_option linter.all false
theorem sortA_c {V : Vec} {xs : List Share} {n : Nat} {f : Value} {cm : Share → Share → Int} {L : Hp} {R : Ending → Hp → Prop} (hn : n = xs.length) (hV : V.ok 2 n (xs.flatMap eShare)) (h49 : n ≤ 49)
    (hf : ∀ x y, x ∈ xs → y ∈ xs → ∀ H R', L ⊆ H → R' (.returned (I (cm x y))) H → AFn Try.prog f [.agg ⟨eShare x⟩, .agg ⟨eShare y⟩] H R') (hs : Go.Sort.SWO (ltc cm))
    (H : ∀ ys : List Share, ys.Perm xs → ys.Pairwise (fun a b => ¬ cm b a < 0) → V.ok 2 n (ys.flatMap eShare) → R (.returned (.tuple #[])) (V.hp 76 (ys.flatMap eShare) ++ L)) :
    ACalls Try.prog 24 ⟨[.slice V.ad n V.cp, f]⟩ (V.hp 76 (xs.flatMap eShare) ++ L) R := by
  rw [← Vec.val_ad hV]
  subst hn
  exact sortV_c hV h49 hf hs fun ys hp ho hk => H ys hp ho (by rw [← hp.length_eq]; exact hk)
theorem reverseA_c {V : Vec} {xs : List Share} {n : Nat} {L : Hp} {R : Ending → Hp → Prop} (hn : n = xs.length) (h0 : 0 < n) (hV : V.ok 2 n (xs.flatMap eShare)) (hlen : n ≤ 1000)
    (H : V.ok 2 n (xs.reverse.flatMap eShare) → R (.returned (.tuple #[])) (V.hp 76 (xs.reverse.flatMap eShare) ++ L)) : ACalls Try.prog 25 ⟨[.slice V.ad n V.cp]⟩ (V.hp 76 (xs.flatMap eShare) ++ L) R := by
  subst hn
  cases V with
  | nil => exact absurd hV.2 (by omega)
  | «at» bb cap sp =>
    refine reverse_c hlen (H ?_)
    obtain ⟨h1, h2, h3⟩ := hV
    rw [List.length_append, flat_lenM eShare_len] at h3
    exact ⟨by rw [flat_lenM eShare_len, List.length_reverse], h2, by rw [List.length_append, flat_lenM eShare_len, List.length_reverse]; exact h3⟩
theorem firstA_c {l : List Share} {a : Option Addr} {c n : Nat} {need : Int} {h : Hp} {R : Ending → Hp → Prop} (hn : n = l.length) (hl : SlV h 2 eShare a l) (hlen : n ≤ 1000) (hok : ∀ x ∈ l, ShareOk x) (hn0 : 0 ≤ need) (hn1 : need ≤ 1048576000) (H : R (.returned (I (fstP l need).1)) h) : ACalls Try.prog 27 ⟨[.slice a n c, I need]⟩ h R := by
  subst hn; exact first_c hl hlen hok hn0 hn1 H
theorem giv_fn {w : Int} (h0 : 0 ≤ w) (h1 : w ≤ 3) : ∃ fv : Value, fv.oneCell' = true ∧ (([.func (.func 35) ⟨[]⟩ ⟨[]⟩, .func (.func 36) ⟨[]⟩ ⟨[]⟩, .func (.func 37) ⟨[]⟩ ⟨[]⟩, .func (.func 38) ⟨[]⟩ ⟨[]⟩] : List Value).drop (w.toNat * 1)).take 1 = [fv] ∧ ∀ (c : Coal) (h : Hp) (R : Ending → Hp → Prop), R (.returned (.agg ⟨eSpan (ofF c w)⟩)) h → AFn Try.prog fv [.agg ⟨eCoal c⟩] h R := by
  obtain rfl | rfl | rfl | rfl : w = 0 ∨ w = 1 ∨ w = 2 ∨ w = 3 := by omega
  · exact ⟨_, rfl, rfl, fun c h R H => afn_func (fi := []) (lb := []) hb54 (give54_c H)⟩
  · exact ⟨_, rfl, rfl, fun c h R H => afn_func (fi := []) (lb := []) hb55 (give55_c H)⟩
  · exact ⟨_, rfl, rfl, fun c h R H => afn_func (fi := []) (lb := []) hb56 (give56_c H)⟩
  · exact ⟨_, rfl, rfl, fun c h R H => afn_func (fi := []) (lb := []) hb57 (give57_c H)⟩

theorem Yield_c {y : Yard} {h : Hp} {R : Ending → Hp → Prop} (hy : YardV h y) (hs : Small y) {f t w : Int} (H : R (.returned (.tuple ⟨[.agg ⟨eSpan (yieldA y f t w).1⟩, I (yieldA y f t w).2]⟩)) h) : ACalls Try.prog 8 ⟨[.agg ⟨eYard y⟩, I f, I t, I w]⟩ h R := by
  refine calls_of_xc (N := 121) Try.func8 rfl (by rfl) ?_
  obtain ⟨hs1, hs2⟩ := id hs
  refine xc_seq (xc_region ?_)
  refine xr_op rfl rfl (xv_box rfl (fun b4 hb4 => ?_))
  refine xr_op rfl rfl (xv_alloc ty33 (fun b8 hb8 => ?_))
  refine xr_op rfl rfl (xv_assign rfl ?_)
  refine xr_end rfl ?_
  refine th_n ?_
  refine xc_seq (xc_region ?_)
  refine xr_op rfl rfl (xv_loadA ty25 rfl rfl Me_ Ev_ (by rfl) ?_)
  refine xr_op rfl rfl (xv_calls rfl hb30 (newShed_c (hy.sub (by intro z hz; ((repeat first|exact z_0|assumption|refine z_1 ?_|(refine z_l ?_;(repeat first|exact z_0|assumption|refine z_1 ?_);done)|refine z_r ?_);done))) hs (fun hng => up_ret ?_) (fun hgy hpn => up_ret ?_) (fun vs b la lc bs da dc ds G hgy hvs hsh => up_ret ?_)))
  · refine xr_op rfl rfl (xv_move rfl ?_)
    refine xr_op rfl rfl (xv_extract rfl rfl ?_)
    refine xr_op rfl rfl (xv_extract rfl rfl ?_)
    refine xr_op rfl rfl (xv_alloc ty66 (fun b10 hb10 => ?_))
    refine xr_op rfl rfl (xv_s1 ty66 rfl rfl rfl Up_ One_ Len_ Ev_ ?_)
    refine xr_op rfl rfl (xv_assign rfl ?_)
    refine xr_end rfl ?_
    refine th_n ?_
    refine xc_seq ?_
    refine xc_block ?_
    refine xc_seq (xc_region ?_)
    refine xr_op rfl rfl (xv_move rfl ?_)
    refine xr_op rfl rfl (xv_neqT rfl rfl (by decide) ?_)
    refine xr_op rfl rfl (xv_assign rfl ?_)
    refine xr_end rfl ?_
    refine th_n ?_
    refine xc_true rfl ?_
    refine xc_seq (xc_region ?_)
    refine xr_op rfl rfl (xv_build bt33 rfl Ev_ ?_)
    refine xr_op rfl rfl (xv_move rfl ?_)
    refine xr_op rfl rfl (xv_s ty33 rfl rfl Up_ Ev_ (by rfl) (by rfl) (by rfl) Ev_ ?_)
    refine xr_op rfl rfl (xv_assign rfl ?_)
    refine xr_end rfl ?_
    refine th_n ?_
    refine xc_ret ?_
    refine bk_r ?_
    refine th_r ?_
    refine body_ret (h' := h) rfl (ro_cellA ty33 rfl rfl Me_ (by rfl) (by rfl) (ro_tmp rfl ro_nil)) Su_ ?_
    first | (rw [eans] at H; exact H) | (rw [yieldA_1 hng] at H; exact H) | (rw [yieldA_10 hgy hpn] at H; exact H) | (rw [yieldA_2 hgy hvs (by omega)] at H; exact H)
  · refine xr_op rfl rfl (xv_move rfl ?_)
    refine xr_op rfl rfl (xv_extract rfl rfl ?_)
    refine xr_op rfl rfl (xv_extract rfl rfl ?_)
    refine xr_op rfl rfl (xv_alloc ty66 (fun b10 hb10 => ?_))
    refine xr_op rfl rfl (xv_s1 ty66 rfl rfl rfl Up_ One_ Len_ Ev_ ?_)
    refine xr_op rfl rfl (xv_assign rfl ?_)
    refine xr_end rfl ?_
    refine th_n ?_
    refine xc_seq ?_
    refine xc_block ?_
    refine xc_seq (xc_region ?_)
    refine xr_op rfl rfl (xv_move rfl ?_)
    refine xr_op rfl rfl (xv_neqT rfl rfl (by decide) ?_)
    refine xr_op rfl rfl (xv_assign rfl ?_)
    refine xr_end rfl ?_
    refine th_n ?_
    refine xc_true rfl ?_
    refine xc_seq (xc_region ?_)
    refine xr_op rfl rfl (xv_build bt33 rfl Ev_ ?_)
    refine xr_op rfl rfl (xv_move rfl ?_)
    refine xr_op rfl rfl (xv_s ty33 rfl rfl Up_ Ev_ (by rfl) (by rfl) (by rfl) Ev_ ?_)
    refine xr_op rfl rfl (xv_assign rfl ?_)
    refine xr_end rfl ?_
    refine th_n ?_
    refine xc_ret ?_
    refine bk_r ?_
    refine th_r ?_
    refine body_ret (h' := h) rfl (ro_cellA ty33 rfl rfl Me_ (by rfl) (by rfl) (ro_tmp rfl ro_nil)) Su_ ?_
    first | (rw [eans] at H; exact H) | (rw [yieldA_1 hng] at H; exact H) | (rw [yieldA_10 hgy hpn] at H; exact H) | (rw [yieldA_2 hgy hvs (by omega)] at H; exact H)
  · refine xr_op rfl rfl (xv_move rfl ?_)
    refine xr_op rfl rfl (xv_extract rfl rfl ?_)
    refine xr_op rfl rfl (xv_extract rfl rfl ?_)
    refine xr_op rfl rfl (xv_alloc ty66 (fun b10 hb10 => ?_))
    refine xr_op rfl rfl (xv_s1 ty66 rfl rfl rfl Up_ One_ Len_ Ev_ ?_)
    refine xr_op rfl rfl (xv_assign rfl ?_)
    refine xr_end rfl ?_
    refine th_n ?_
    refine xc_seq ?_
    refine xc_block ?_
    refine xc_seq (xc_region ?_)
    refine xr_op rfl rfl (xv_move rfl ?_)
    refine xr_op rfl rfl (xv_neqF rfl rfl rfl ?_)
    refine xr_op rfl rfl (xv_assign rfl ?_)
    refine xr_end rfl ?_
    refine th_n ?_
    refine xc_false rfl ?_
    refine xc_seq (xc_region ?_)
    have hcn := hsh.cnt
    have mtop := hsh.top
    have hm32 := hgy.2.2.2
    have hfw := hsh.inv.few
    refine xr_op rfl rfl (xv_move rfl ?_)
    refine xr_op rfl rfl (xv_load1 ty66 rfl rfl Me_ (by rfl) ?_)
    refine xr_op rfl rfl (xv_nilp rfl ?_)
    refine xr_op rfl rfl (xv_faddr fl73_2 rfl ?_)
    refine xr_op rfl rfl (xv_load1 ty71 rfl rfl Me_ (by rfl) ?_)
    refine xr_op rfl rfl (xv_len sl71 rfl ?_)
    refine xr_op rfl rfl (xv_sub rfl rfl (wrap_i64 Om_ Om_) ?_)
    refine xr_op rfl rfl (xv_calls rfl hb31 (within_c _ _ _ (fun hl1 hu2 => up_ret ?_) (fun hn3 => up_ret ?_)))
    · refine xr_op rfl rfl (xv_not rfl ?_)
      refine xr_op rfl rfl (xv_move rfl ?_)
      refine xr_gd rfl rfl rfl (xv_move rfl ?_)
      refine xr_gd rfl rfl rfl (xv_move rfl ?_)
      refine xr_gd rfl rfl rfl (xv_calls rfl hb31 (within_c _ _ _ (fun hl4 hu5 => up_ret ?_) (fun hn6 => up_ret ?_)))
      · refine xr_gd rfl rfl rfl (xv_not rfl ?_)
        refine xr_op rfl rfl (xv_pick rfl rfl ?_)
        refine xr_op rfl rfl (xv_move rfl ?_)
        refine xr_gd rfl rfl rfl (xv_move rfl ?_)
        refine xr_gd rfl rfl rfl (xv_calls rfl hb31 (within_c _ _ _ (fun hl7 hu8 => up_ret ?_) (fun hn9 => up_ret ?_)))
        · refine xr_gd rfl rfl rfl (xv_not rfl ?_)
          refine xr_op rfl rfl (xv_pick rfl rfl ?_)
          refine xr_op rfl rfl (xv_assign rfl ?_)
          refine xr_end rfl ?_
          refine th_n ?_
          refine xc_false rfl ?_
          refine xc_skip ?_
          refine bk_n ?_
          refine th_n ?_
          refine xc_seq (xc_region ?_)
          have hw0 : 0 ≤ w := by omega
          have hw1 : w ≤ 3 := by omega
          obtain ⟨fv, hf1, hfv, hfc⟩ := giv_fn hw0 hw1
          have hdn : f.toNat < ds.length := by (first|omega|(dsimp only at *;omega)|(simp at *;omega))
          have hltw : f.toNat < ds.length := hdn
          obtain ⟨bw, ow, lw, tw, fzw, haw, hmw, hxw⟩ := (hsh.draws).at hltw
          obtain ⟨xw, hkw⟩ : ∃ qq_, ds[f.toNat]? = some qq_ := ⟨_, List.getElem?_eq_getElem hltw⟩
          subst haw
          have eans := yieldA_0 (w := w) hgy hvs (f := f) (t := t) ⟨⟨by omega, by omega, by omega⟩, hw0, hw1⟩
          have hcut := hsh.cut hgy f.toNat (t.toNat + 1 - f.toNat)
          have hcap := hsh.cap
          have hn6 := hgy.2.2.1.2
          have hn1 := hgy.2.2.1.1
          have hpl := partsN_len y ((vs.drop f.toNat).take (t.toNat + 1 - f.toNat)) (opn y.moves).1
          have hop := opn_le y.moves
          have hple : (partsL y ((vs.drop f.toNat).take (t.toNat + 1 - f.toNat))).length ≤ 32 := Nat.le_trans hpl (by omega)
          have hyl : ylS y w (partsL y ((vs.drop f.toNat).take (t.toNat + 1 - f.toNat))) = ⟨yLo y w (takenR ((vs.drop f.toNat).take (t.toNat + 1 - f.toNat))) (opn y.moves).1, yHi y w (takenR ((vs.drop f.toNat).take (t.toNat + 1 - f.toNat))) (opn y.moves).1⟩ := ylS_parts hgy hcut.bd hw0 hw1 _
          refine xr_op rfl rfl (xv_calls rfl hb40 (given_c (up_ret ?_)))
          refine xr_op rfl rfl (xv_move rfl ?_)
          refine xr_op rfl rfl (xv_indexA Try.underlying73 ty89 rfl rfl rfl hw0 (by omega) hfv ?_)
          refine xr_op rfl rfl (xv_field1 fl89_0 rfl (by rfl) ?_)
          refine xr_op rfl rfl (xv_alloc ty88 (fun b12 hb12 => ?_))
          refine xr_op rfl rfl (xv_s1 ty88 rfl rfl rfl Up_ hf1 Len_ Ev_ ?_)
          refine xr_end rfl ?_
          refine th_n ?_
          refine xc_seq (xc_region ?_)
          refine xr_op rfl rfl (xv_alloc ty94 (fun b13 hb13 => ?_))
          refine xr_op rfl rfl (xv_s1 ty94 rfl rfl rfl Up_ One_ Len_ Ev_ ?_)
          refine xr_end rfl ?_
          refine th_n ?_
          refine xc_seq (xc_region ?_)
          refine xr_op rfl rfl (xv_alloc ty75 (fun b14 hb14 => ?_))
          refine xr_end rfl ?_
          refine th_n ?_
          refine xc_seq ?_
          refine xc_seq ?_
          refine xc_draw0 [(0, .R), (1, .R), (2, .S), (3, .S), (4, .R), (5, .S), (6, .S), (7, .S), (8, .S), (9, .O)] mixed (by kernel_rfl) ?_
          refine js_R0 rfl rfl (.inl rfl) (xv_load1 ty66 rfl rfl Me_ (by rfl) ⟨rfl, rfl⟩) ?_
          refine js_R0 rfl rfl (.inl rfl) (xv_load1 ty66 rfl rfl Me_ (by rfl) ⟨rfl, rfl⟩) ?_
          refine js_S rfl rfl (.inl rfl) (xv_nilp rfl ⟨rfl, rfl⟩) ?_
          refine js_S rfl rfl (.inl rfl) (xv_faddr fl73_2 rfl ⟨rfl, rfl⟩) ?_
          refine js_R0 rfl rfl (.inl rfl) (xv_load1 ty71 rfl rfl Me_ (by rfl) ⟨rfl, rfl⟩) ?_
          refine js_S rfl rfl (.inl rfl) (xv_move rfl ⟨rfl, rfl⟩) ?_
          refine js_S rfl rfl (.inl rfl) (xv_move rfl ⟨rfl, rfl⟩) ?_
          refine js_S rfl rfl (.inl rfl) (xv_add rfl rfl (wrap_i64 Om_ Om_) ⟨rfl, rfl⟩) ?_
          refine js_S rfl rfl (.inl rfl) (xv_cut (m := ((ds.drop f.toNat).take (t.toNat + 1 - f.toNat)).length) sl71 ty39 rfl rfl rfl Om_ Om_ Om_ Om_ (by rw [List.length_take, List.length_drop]; (first|omega|(dsimp only at *;omega)|(simp at *;omega))) ⟨rfl, rfl⟩) ?_
          refine js_O0 rfl rfl (.inl rfl) (xv_calls rfl hb32 (parts_c (fun p1 p2 => up_ret ?_)))
          refine j_end0 ?_
          refine th_n ?_
          refine xc_block ?_
          refine xc_range2 (γ := Unit) ePc (partsL y ((vs.drop f.toNat).take (t.toNat + 1 - f.toNat))) ((p2, .cells ⟨[.slice (some ⟨bw, ow + f.toNat * 1, none⟩) ((ds.drop f.toNat).take (t.toNat + 1 - f.toNat)).length (dc - f.toNat)]⟩ 68) :: (p1, .cells ⟨[.pointer (some ⟨b, 0, none⟩)]⟩ 64) :: G) rfl hb53 (partsIt (core := ((p2, .cells ⟨[.slice (some ⟨bw, ow + f.toNat * 1, none⟩) ((ds.drop f.toNat).take (t.toNat + 1 - f.toNat)).length (dc - f.toNat)]⟩ 68) :: (p1, .cells ⟨[.pointer (some ⟨b, 0, none⟩)]⟩ 64) :: G)) Me_ Me_ (hsh.sub (by intro z hz; ((repeat first|exact z_0|assumption|refine z_1 ?_|(refine z_l ?_;(repeat first|exact z_0|assumption|refine z_1 ?_);done)|refine z_r ?_);done))) (hcut.sub (by intro z hz; ((repeat first|exact z_0|assumption|refine z_1 ?_|(refine z_l ?_;(repeat first|exact z_0|assumption|refine z_1 ?_);done)|refine z_r ?_);done)))) (fun x => rfl) (by decide) ((((emp.put (some 10) (.pointer (some ⟨b10, 0, none⟩))).put (some 12) (.pointer (some ⟨b12, 0, none⟩))).put (some 13) (.pointer (some ⟨b13, 0, none⟩))).put (some 14) (.pointer (some ⟨b14, 0, none⟩))) (fun k g => True) (fun k g => ((p2, .cells ⟨[.slice (some ⟨bw, ow + f.toNat * 1, none⟩) ((ds.drop f.toNat).take (t.toNat + 1 - f.toNat)).length (dc - f.toNat)]⟩ 68) :: (p1, .cells ⟨[.pointer (some ⟨b, 0, none⟩)]⟩ 64) :: (b14, .cells ⟨[I (ylS y w ((partsL y ((vs.drop f.toNat).take (t.toNat + 1 - f.toNat))).take k)).lo, I (ylS y w ((partsL y ((vs.drop f.toNat).take (t.toNat + 1 - f.toNat))).take k)).hi]⟩ 79) :: (b13, .cells ⟨[.func (.func 22) ⟨[]⟩ ⟨[]⟩]⟩ 77) :: (b12, .cells ⟨[fv]⟩ 71) :: (b10, .cells ⟨[.pointer (some ⟨b, 0, none⟩)]⟩ 64) :: (G ++ (b8, .cells ⟨[I 0, I 0]⟩ 42) :: (b4, .cells ⟨eYard y⟩ 25) :: h))) (fun _ _ _ => False) () (mon_bk (mon_th)) (le_put (le_put (le_put (le_put (le_emp _) rfl) rfl) rfl) rfl) trivial Su_ (fun k g z hz => by
            simp only [List.mem_cons] at hz
            rcases hz with rfl | rfl | hz
            · exact z_0
            · exact z_1 z_0
            · exact z_1 (z_1 (z_1 (z_1 (z_1 (z_1 (z_l hz))))))) ?_ (fun _ _ _ _ _ hf _ => hf.elim) ?_
          · intro ll k x gu hkx _i
            have hkl := (List.getElem?_eq_some_iff.1 hkx).1
            have hxm := List.mem_of_getElem? hkx
            obtain ⟨hx6, hxb, hx0, hx1⟩ := partsL_ok hgy hcut.bd hcut.few hxm
            have hxn := parts_need hgy hsh.inv hxm
            have hxnn : ∀ z ∈ x.1, 0 ≤ z := fun z hz => (hxb z hz).1
            have hx32 : x.2 ≤ 33554432 := by have := hcut.few; omega
            have hso1 := shL_ok (g := Span.lo) (c := x.1) hgy (fun s hs => ⟨hs.1, by have := hs.2; omega⟩) hw0 hw1 hxnn (Nat.le_refl _)
            have hso2 := shL_ok (g := Span.hi) (c := x.1) hgy (fun s hs => ⟨by have := hs.1; have := hs.2.1; omega, hs.2.2⟩) hw0 hw1 hxnn (Nat.le_refl _)
            have hbb := ylS_bd (l := (partsL y ((vs.drop f.toNat).take (t.toNat + 1 - f.toNat))).take k) hgy hw0 hw1 (fun z hz => by obtain ⟨a, _, b, c⟩ := partsL_ok hgy hcut.bd hcut.few (List.mem_of_mem_take hz); have := hcut.few; exact ⟨a, by omega, by omega⟩)
            rw [List.length_take] at hbb
            have hfb := f_bd hgy hw0 hw1 hx6 (by omega) hx32
            refine xc_seq (xc_region ?_)
            refine xr_op rfl rfl (xv_alloc ty80 (fun b15 hb15 => ?_))
            refine xr_op rfl rfl (xv_sAll ty80 rfl rfl Up_ (by rw [ints_len]; exact hx6) rfl (flat_all eI_1 _) ?_)
            refine xr_end rfl ?_
            refine th_n ?_
            refine xc_region ?_
            refine xr_op rfl rfl (xv_assign rfl ?_)
            refine xr_end rfl ?_
            refine rndA_n ?_
            refine xc_block ?_
            refine xc_seq (xc_region ?_)
            refine xr_op rfl rfl (xv_assign rfl ?_)
            refine xr_op rfl rfl (xv_assign rfl ?_)
            refine xr_end rfl ?_
            refine th_n ?_
            refine xc_seq ?_
            refine xc_seq (xc_region ?_)
            refine xr_op rfl rfl (xv_load1 ty66 rfl rfl Me_ (by rfl) ?_)
            refine xr_op rfl rfl (xv_nilp rfl ?_)
            refine xr_op rfl rfl (xv_faddr fl73_0 rfl ?_)
            refine xr_op rfl rfl (xv_load1 ty22 rfl rfl Me_ (by rfl) ?_)
            refine xr_op rfl rfl (xv_len sl22 rfl ?_)
            refine xr_op rfl rfl (xv_move rfl ?_)
            refine xr_end rfl ?_
            refine th_n ?_
            refine xc_block ?_
            refine xc_loop (σ := Nat × Vec × Vec) (fun z => z.1 ≤ y.coals.length ∧ z.2.1.ok 2 z.1 ((shL y Span.lo w x.1 z.1).flatMap eShare) ∧ z.2.2.ok 2 z.1 ((shL y Span.hi w x.1 z.1).flatMap eShare)) (fun z => (((((((((((emp.put (some 10) (.pointer (some ⟨b10, 0, none⟩))).put (some 12) (.pointer (some ⟨b12, 0, none⟩))).put (some 13) (.pointer (some ⟨b13, 0, none⟩))).put (some 14) (.pointer (some ⟨b14, 0, none⟩))).put (some 15) (.pointer (some ⟨b15, 0, none⟩))).put (some 16) (I x.2)).put (some 17) (.slice z.2.1.ad z.1 z.2.1.cp)).put (some 18) (.slice z.2.2.ad z.1 z.2.2.cp)).put (some 72) (.slice y.ca y.coals.length y.cc)).put (some 73) (I y.coals.length)).put (some 74) (I z.1))) (fun z => (z.2.1.hp 76 ((shL y Span.lo w x.1 z.1).flatMap eShare) ++ (z.2.2.hp 76 ((shL y Span.hi w x.1 z.1).flatMap eShare) ++ ((b15, .cells ⟨x.1.flatMap eI⟩ 84) :: (p2, .cells ⟨[.slice (some ⟨bw, ow + f.toNat * 1, none⟩) ((ds.drop f.toNat).take (t.toNat + 1 - f.toNat)).length (dc - f.toNat)]⟩ 68) :: (p1, .cells ⟨[.pointer (some ⟨b, 0, none⟩)]⟩ 64) :: (b14, .cells ⟨[I (ylS y w ((partsL y ((vs.drop f.toNat).take (t.toNat + 1 - f.toNat))).take k)).lo, I (ylS y w ((partsL y ((vs.drop f.toNat).take (t.toNat + 1 - f.toNat))).take k)).hi]⟩ 79) :: (b13, .cells ⟨[.func (.func 22) ⟨[]⟩ ⟨[]⟩]⟩ 77) :: (b12, .cells ⟨[fv]⟩ 71) :: (b10, .cells ⟨[.pointer (some ⟨b, 0, none⟩)]⟩ 64) :: (G ++ (b8, .cells ⟨[I 0, I 0]⟩ 42) :: (b4, .cells ⟨eYard y⟩ 25) :: h))))) (fun z => y.coals.length - z.1) ((0, .nil, .nil) : Nat × Vec × Vec) ⟨Nat.zero_le _, ⟨rfl, rfl⟩, ⟨rfl, rfl⟩⟩ (le_put (le_put (le_put (le_put (le_put (le_put (le_put (le_put (le_put (le_put (le_put (le_emp _) rfl) rfl) rfl) rfl) rfl) rfl) rfl) rfl) rfl) rfl) rfl) Su_ ?_
            rintro ⟨i, V1, V2⟩ ⟨hi, hV1, hV2⟩
            dsimp only at hi hV1 hV2
            refine xc_seq (xc_region ?_)
            refine xr_op rfl rfl (xv_lss2 rfl rfl (fun q10 => ?_) (fun q10 => ?_))
            · refine xr_end rfl ?_
              refine th_n ?_
              refine xc_seq ?_
              refine xc_true rfl ?_
              refine xc_skip ?_
              refine th_n ?_
              refine xc_seq ?_
              refine xc_block ?_
              refine xc_seq (xc_region ?_)
              have hlto : i < y.coals.length := by (first|omega|(dsimp only at *;omega)|(simp at *;omega))
              obtain ⟨bo, oo, lo, to, fzo, hao, hmo, hxo⟩ := (hy.coals).at hlto
              obtain ⟨xo, hko⟩ : ∃ qq_, y.coals[i]? = some qq_ := ⟨_, List.getElem?_eq_getElem hlto⟩
              obtain ⟨ci, hci⟩ : ∃ c, x.1[i]? = some c := ⟨_, List.getElem?_eq_getElem Om_⟩
              refine xr_op rfl rfl (xv_move rfl ?_)
              refine xr_op rfl rfl (xv_ia (sz := 8) (j := i) sl22 ty59 rfl (by rw [hao]; rfl) rfl Ix_ Om_ Om_ ?_)
              refine xr_op rfl rfl (xv_loadA ty59 rfl rfl Me_ (hxo (i) xo hko) rfl ?_)
              refine xr_op rfl rfl (xv_alloc ty59 (fun b20 hb20 => ?_))
              refine xr_op rfl rfl (xv_assign rfl ?_)
              refine xr_op rfl rfl (xv_s ty59 rfl rfl Up_ Ev_ (by rfl) (by rfl) (by rfl) Ev_ ?_)
              refine xr_end rfl ?_
              refine th_n ?_
              refine xc_draw [(0, .S), (1, .S), (2, .S), (3, .R), (4, .R), (5, .R), (6, .R), (7, .S), (8, .S), (9, .P), (11, .S), (12, .S), (13, .S), (14, .S), (15, .S), (16, .S), (9, .A), (10, .O), (17, .R), (18, .S), (19, .S), (20, .P), (20, .A), (21, .O), (22, .S), (23, .S)] [(b20, .cells ⟨eCoal xo⟩ 52), (b15, .cells ⟨x.1.flatMap eI⟩ 84), (b12, .cells ⟨[fv]⟩ 71)] (V1.hp 76 ((shL y Span.lo w x.1 i).flatMap eShare) ++ (V2.hp 76 ((shL y Span.hi w x.1 i).flatMap eShare) ++ ((p2, .cells ⟨[.slice (some ⟨bw, ow + f.toNat * 1, none⟩) ((ds.drop f.toNat).take (t.toNat + 1 - f.toNat)).length (dc - f.toNat)]⟩ 68) :: (p1, .cells ⟨[.pointer (some ⟨b, 0, none⟩)]⟩ 64) :: (b14, .cells ⟨[I (ylS y w ((partsL y ((vs.drop f.toNat).take (t.toNat + 1 - f.toNat))).take k)).lo, I (ylS y w ((partsL y ((vs.drop f.toNat).take (t.toNat + 1 - f.toNat))).take k)).hi]⟩ 79) :: (b13, .cells ⟨[.func (.func 22) ⟨[]⟩ ⟨[]⟩]⟩ 77) :: (b10, .cells ⟨[.pointer (some ⟨b, 0, none⟩)]⟩ 64) :: (G ++ (b8, .cells ⟨[I 0, I 0]⟩ 42) :: (b4, .cells ⟨eYard y⟩ 25) :: h)))) mixed (by kernel_rfl) permF ?_
              refine js_S rfl rfl (.inl rfl) (xv_move rfl ⟨rfl, rfl⟩) ?_
              refine js_S rfl rfl (.inl rfl) (xv_move rfl ⟨rfl, rfl⟩) ?_
              refine js_S rfl rfl (.inl rfl) (xv_iaA (sz := 1) (j := i) Try.underlying84 ty3 rfl rfl rfl Ix_ Om_ Om_ ⟨rfl, rfl⟩) ?_
              refine js_R rfl rfl (.inl rfl) (xv_load1 ty3 rfl rfl Me_ (ints_get hci) ⟨rfl, rfl⟩) ?_
              refine js_R rfl rfl (.inl rfl) (xv_load1 ty88 rfl rfl Me_ (by rfl) ⟨rfl, rfl⟩) ?_
              refine js_R rfl rfl (.inl rfl) (xv_loadA (l := eCoal xo) (l' := eCoal xo) ty59 rfl rfl Me_ rfl rfl ⟨rfl, rfl⟩) ?_
              refine js_R rfl rfl (.inl rfl) (xv_fn rfl rfl (hfc xo _ _ (up_ret ⟨rfl, rfl⟩))) ?_
              refine js_S rfl rfl (.inl rfl) (xv_field1 fl33_0 rfl (by rfl) ⟨rfl, rfl⟩) ?_
              refine js_S rfl rfl (.inl rfl) (xv_build bt93 rfl Ev_ ⟨rfl, rfl⟩) ?_
              refine js_P rfl rfl rfl (al_buildSlice sl95 ty93 rfl rfl rfl rfl rfl Ev_) ?_
              refine js_S rfl rfl (.inl rfl) (xv_move rfl ⟨rfl, rfl⟩) ?_
              refine js_S rfl rfl (.inl rfl) (xv_move rfl ⟨rfl, rfl⟩) ?_
              refine js_S rfl rfl (.inl rfl) (xv_iaA (sz := 1) (j := i) Try.underlying84 ty3 rfl rfl rfl Ix_ Om_ Om_ ⟨rfl, rfl⟩) ?_
              refine js_S rfl rfl (.inl rfl) (xv_load1 ty3 rfl rfl Me_ (ints_get hci) ⟨rfl, rfl⟩) ?_
              refine js_S rfl rfl (.inl rfl) (xv_load1 ty88 rfl rfl Me_ (by rfl) ⟨rfl, rfl⟩) ?_
              refine js_S rfl rfl (.inl rfl) (xv_loadA (l := eCoal xo) (l' := eCoal xo) ty59 rfl rfl Me_ rfl rfl ⟨rfl, rfl⟩) ?_
              refine js_A rfl rfl rfl rfl rfl ⟨rfl, trivial⟩ (fun b88 hb88 => ?_)
              refine js_O rfl rfl (.inl rfl) (xv_append (V := V1) (n := i) (xs := ((shL y Span.lo w x.1 i).flatMap eShare)) sl95 ty93 rfl (by rw [Vec.val_ad hV1]; rfl) rfl hV1 (Tk.app _ (.there .here)) Me_ Ev_ rfl rfl Om_ (by simp only []; (first|omega|(dsimp only at *;omega)|(simp at *;omega))) Om_ (fun V3 hV3 => ?_))
              refine jo_atL _ permR .nil ?_
              refine js_R rfl rfl (.inl rfl) (xv_fn rfl rfl (hfc xo _ _ (up_ret ⟨rfl, rfl⟩))) ?_
              refine js_S rfl rfl (.inl rfl) (xv_field1 fl33_1 rfl (by rfl) ⟨rfl, rfl⟩) ?_
              refine js_S rfl rfl (.inl rfl) (xv_build bt93 rfl Ev_ ⟨rfl, rfl⟩) ?_
              refine js_P rfl rfl rfl (al_buildSlice sl95 ty93 rfl rfl rfl rfl rfl Ev_) ?_
              refine js_A rfl rfl rfl rfl rfl ⟨rfl, trivial⟩ (fun b99 hb99 => ?_)
              refine js_O rfl rfl (.inl rfl) (xv_append (V := V2) (n := i) (xs := ((shL y Span.hi w x.1 i).flatMap eShare)) sl95 ty93 rfl (by rw [Vec.val_ad hV2]; rfl) rfl hV2 (Tk.app _ (.there (.skip (.there .here)))) Me_ Ev_ rfl rfl Om_ (by simp only []; (first|omega|(dsimp only at *;omega)|(simp at *;omega))) Om_ (fun V4 hV4 => ?_))
              refine jo_atL _ permR .nil ?_
              refine js_S rfl rfl (.inl rfl) (xv_assign rfl ⟨rfl, rfl⟩) ?_
              refine js_S rfl rfl (.inl rfl) (xv_assign rfl ⟨rfl, rfl⟩) ?_
              refine j_endp permG ?_
              refine bk_n ?_
              refine th_n ?_
              refine xc_region ?_
              refine xr_op rfl rfl (xv_add rfl rfl (wrap_i64 Om_ Om_) ?_)
              refine xr_op rfl rfl (xv_move rfl ?_)
              refine xr_end rfl ?_
              have e1 := shL_flat (g := Span.lo) (w := w) hci hko
              have e2 := shL_flat (g := Span.hi) (w := w) hci hko
              exact rnd ((i + 1, V3, V4) : Nat × Vec × Vec) ⟨by (first|omega|(dsimp only at *;omega)|(simp at *;omega)), by dsimp only; rw [e1]; exact hV3, by dsimp only; rw [e2]; exact hV4⟩ Om_ (le_put (le_put (le_put (le_put (le_put (le_put (le_put (le_put (le_put (le_put (le_put (le_emp _) rfl) rfl) rfl) rfl) rfl) rfl) (by rw [← Vec.val_ad hV3]; rfl)) (by rw [← Vec.val_ad hV4]; rfl)) rfl) rfl) rfl) (by dsimp only; rw [e1, e2]; (first|((repeat first|exact s_0|exact s_1|exact s_3|refine s_4 ?_|refine s_5 ?_|refine s_6 ?_|refine s_7 ?_);done)|((repeat first|exact s_0|exact s_1|exact s_3|refine s_4 ?_|refine s_5 ?_|refine s_6 ?_|refine s_8 ?_);done)))
            · refine xr_end rfl ?_
              refine th_n ?_
              refine xc_seq ?_
              refine xc_false rfl ?_
              refine xc_exit ?_
              refine th_x ?_
              refine th_x ?_
              refine bk_same ?_
              refine th_n ?_
              refine xc_seq (xc_region ?_)
              obtain rfl : y.coals.length = i := by (first|omega|(dsimp only at *;omega)|(simp at *;omega))
              refine xr_op rfl rfl (xv_move rfl ?_)
              refine xr_op rfl rfl (xv_load1 ty94 rfl rfl Me_ (by rfl) ?_)
              refine xr_op rfl rfl (xv_calls rfl hb42 (sortA_c (V := V1) (xs := shL y Span.lo w x.1 y.coals.length) (cm := cmS) (shL_len _ _ _ _ _).symm hV1 (by omega) (fun a b ha hb H9 R2 _ h2 => afn_func (fi := []) (lb := []) hb41 (byEach_c (by obtain ⟨_, q1, q2⟩ := hso1 a ha; exact ⟨q1, q2⟩) (by obtain ⟨_, q1, q2⟩ := hso1 b hb; exact ⟨q1, q2⟩) h2)) cmS_swo (fun ys hpm hsd hVa => up_ret ?_)))
              refine xr_end rfl ?_
              refine th_n ?_
              refine xc_seq (xc_region ?_)
              refine xr_op rfl rfl (xv_move rfl ?_)
              refine xr_op rfl rfl (xv_load1 ty94 rfl rfl Me_ (by rfl) ?_)
              refine xr_op rfl rfl (xv_calls rfl hb42 (ACalls.framed _ (sortA_c (V := V2) (xs := shL y Span.hi w x.1 y.coals.length) (cm := cmS) (shL_len _ _ _ _ _).symm hV2 (by omega) (fun a b ha hb H9 R2 _ h2 => afn_func (fi := []) (lb := []) hb41 (byEach_c (by obtain ⟨_, q1, q2⟩ := hso2 a ha; exact ⟨q1, q2⟩) (by obtain ⟨_, q1, q2⟩ := hso2 b hb; exact ⟨q1, q2⟩) h2)) cmS_swo (fun zs hpn2 hse hVb => up_ret ?_))))
              refine xr_end rfl ?_
              refine th_n ?_
              refine xc_seq (xc_region ?_)
              refine xr_op rfl rfl (xv_move rfl ?_)
              refine xr_op rfl rfl (xv_calls rfl hb43 (ACalls.framed _ (reverseA_c (V := V2) (xs := zs) (by rw [hpn2.length_eq, shL_len]) (by omega) hVb (by omega) (fun hVc => up_ret ?_))))
              refine xr_end rfl ?_
              refine th_n ?_
              refine xc_draw0 [(0, .R), (1, .S), (2, .S), (3, .R), (4, .S), (5, .S), (6, .R), (7, .S), (8, .R), (9, .O)] mixed (by kernel_rfl) ?_
              have hlv : (fstP ys x.2).1 = fLo y w x := low_val hgy hx6 hxnn (by omega) hxn hpm hsd
              have hhv : (fstP zs.reverse x.2).1 = fHi y w x := high_val hgy hx6 hxnn (by omega) hxn hpn2 hse
              refine js_R0 rfl rfl (.inl rfl) (xv_loadA ty75 rfl rfl Me_ Ev_ (by rfl) ⟨rfl, rfl⟩) ?_
              refine js_S rfl rfl (.inl rfl) (xv_move rfl ⟨rfl, rfl⟩) ?_
              refine js_S rfl rfl (.inl rfl) (xv_move rfl ⟨rfl, rfl⟩) ?_
              refine js_R0 rfl rfl (.inl rfl) (xv_calls rfl hb44 (firstA_c (l := ys) (by rw [hpm.length_eq, shL_len]) ((Vec.slvA (t := 76) eShare_len (by rw [hpm.length_eq, shL_len]) hVa).sub (by intro z hz; ((repeat first|exact z_0|assumption|refine z_1 ?_|(refine z_l ?_;(repeat first|exact z_0|assumption|refine z_1 ?_);done)|refine z_r ?_);done))) (by omega) (fun z hz => hso1 z (hpm.mem_iff.1 hz)) (by omega) (by omega) (up_ret ⟨rfl, rfl⟩))) ?_
              refine js_S rfl rfl (.inl rfl) (xv_move rfl ⟨rfl, rfl⟩) ?_
              refine js_S rfl rfl (.inl rfl) (xv_move rfl ⟨rfl, rfl⟩) ?_
              refine js_R0 rfl rfl (.inl rfl) (xv_calls rfl hb44 (firstA_c (l := zs.reverse) (by rw [List.length_reverse, hpn2.length_eq, shL_len]) ((Vec.slvA (t := 76) eShare_len (by rw [List.length_reverse, hpn2.length_eq, shL_len]) hVc).sub (by intro z hz; ((repeat first|exact z_0|assumption|refine z_1 ?_|(refine z_l ?_;(repeat first|exact z_0|assumption|refine z_1 ?_);done)|refine z_r ?_);done))) (by omega) (fun z hz => hso2 z (hpn2.mem_iff.1 (List.mem_reverse.1 hz))) (by omega) (by omega) (up_ret ⟨rfl, rfl⟩))) ?_
              refine js_S rfl rfl (.inl rfl) (xv_build bt75 rfl Ev_ ⟨rfl, rfl⟩) ?_
              refine js_R0 rfl rfl (.inl rfl) (xv_calls rfl hb33 (add_c (a := (ylS y w ((partsL y ((vs.drop f.toNat).take (t.toNat + 1 - f.toNat))).take k))) (b := ⟨(fstP ys x.2).1, (fstP zs.reverse x.2).1⟩) ⟨⟨by omega, by omega⟩, by omega, by omega⟩ ⟨⟨by dsimp only; omega, by dsimp only; omega⟩, by dsimp only; omega, by dsimp only; omega⟩ (up_ret ⟨rfl, rfl⟩))) ?_
              refine js_O0 rfl rfl (.inl rfl) (xv_s ty75 rfl rfl Up_ Ev_ (by rfl) (by rfl) (by rfl) Ev_ ?_)
              refine j_end0 ?_
              refine bk_n ?_
              exact rndQ_n () trivial (by rw [ylS_take hkx, ← hlv, ← hhv]; (first|((repeat first|exact s_0|exact s_1|exact s_3|refine s_4 ?_|refine s_5 ?_|refine s_6 ?_|refine s_7 ?_);done)|((repeat first|exact s_0|exact s_1|exact s_3|refine s_4 ?_|refine s_5 ?_|refine s_6 ?_|refine s_8 ?_);done)))
          · intro kd g hi hkd
            rw [List.take_length, hyl]
            rw [List.take_length, hyl] at hkd
            refine bk_n ?_
            refine th_n ?_
            refine xc_seq (xc_region ?_)
            refine xr_op rfl rfl (xv_loadA ty75 rfl rfl Me_ Ev_ (by rfl) ?_)
            refine xr_op rfl rfl (xv_calls rfl hb35 (spanOf_c (a := ⟨yLo y w (takenR ((vs.drop f.toNat).take (t.toNat + 1 - f.toNat))) (opn y.moves).1, yHi y w (takenR ((vs.drop f.toNat).take (t.toNat + 1 - f.toNat))) (opn y.moves).1⟩) (up_ret ?_)))
            refine xr_op rfl rfl (xv_s ty33 rfl rfl Up_ Ev_ (by rfl) (by rfl) (by rfl) Ev_ ?_)
            refine xr_op rfl rfl (xv_assign rfl ?_)
            refine xr_end rfl ?_
            refine th_n ?_
            refine xc_ret ?_
            refine body_retM (h' := h) rfl (ro_cellA ty33 rfl rfl Me_ (by rfl) (by rfl) (ro_tmp rfl ro_nil)) Su_ Me_ (nkeys (by intro z hz; ((repeat first|exact z_0|assumption|refine z_1 ?_|(refine z_l ?_;(repeat first|exact z_0|assumption|refine z_1 ?_);done)|refine z_r ?_);done)) hkd) ?_
            first | (rw [eans] at H; exact H) | (rw [yieldA_1 hng] at H; exact H) | (rw [yieldA_10 hgy hpn] at H; exact H) | (rw [yieldA_2 hgy hvs (by omega)] at H; exact H)
        · refine xr_gd rfl rfl rfl (xv_not rfl ?_)
          refine xr_op rfl rfl (xv_pick rfl rfl ?_)
          refine xr_op rfl rfl (xv_assign rfl ?_)
          refine xr_end rfl ?_
          refine th_n ?_
          refine xc_true rfl ?_
          refine xc_seq (xc_region ?_)
          refine xr_op rfl rfl (xv_build bt33 rfl Ev_ ?_)
          refine xr_op rfl rfl (xv_s ty33 rfl rfl Up_ Ev_ (by rfl) (by rfl) (by rfl) Ev_ ?_)
          refine xr_op rfl rfl (xv_assign rfl ?_)
          refine xr_end rfl ?_
          refine th_n ?_
          refine xc_ret ?_
          refine bk_r ?_
          refine th_r ?_
          refine body_ret (h' := h) rfl (ro_cellA ty33 rfl rfl Me_ (by rfl) (by rfl) (ro_tmp rfl ro_nil)) Su_ ?_
          first | (rw [eans] at H; exact H) | (rw [yieldA_1 hng] at H; exact H) | (rw [yieldA_10 hgy hpn] at H; exact H) | (rw [yieldA_2 hgy hvs (by omega)] at H; exact H)
      · refine xr_gd rfl rfl rfl (xv_not rfl ?_)
        refine xr_op rfl rfl (xv_pick rfl rfl ?_)
        refine xr_op rfl rfl (xv_move rfl ?_)
        refine xr_no rfl rfl rfl rfl ?_
        refine xr_no rfl rfl rfl rfl ?_
        refine xr_no rfl rfl rfl rfl ?_
        refine xr_op rfl rfl (xv_pick rfl rfl ?_)
        refine xr_op rfl rfl (xv_assign rfl ?_)
        refine xr_end rfl ?_
        refine th_n ?_
        refine xc_true rfl ?_
        refine xc_seq (xc_region ?_)
        refine xr_op rfl rfl (xv_build bt33 rfl Ev_ ?_)
        refine xr_op rfl rfl (xv_s ty33 rfl rfl Up_ Ev_ (by rfl) (by rfl) (by rfl) Ev_ ?_)
        refine xr_op rfl rfl (xv_assign rfl ?_)
        refine xr_end rfl ?_
        refine th_n ?_
        refine xc_ret ?_
        refine bk_r ?_
        refine th_r ?_
        refine body_ret (h' := h) rfl (ro_cellA ty33 rfl rfl Me_ (by rfl) (by rfl) (ro_tmp rfl ro_nil)) Su_ ?_
        first | (rw [eans] at H; exact H) | (rw [yieldA_1 hng] at H; exact H) | (rw [yieldA_10 hgy hpn] at H; exact H) | (rw [yieldA_2 hgy hvs (by omega)] at H; exact H)
    · refine xr_op rfl rfl (xv_not rfl ?_)
      refine xr_op rfl rfl (xv_move rfl ?_)
      refine xr_no rfl rfl rfl rfl ?_
      refine xr_no rfl rfl rfl rfl ?_
      refine xr_no rfl rfl rfl rfl ?_
      refine xr_no rfl rfl rfl rfl ?_
      refine xr_op rfl rfl (xv_pick rfl rfl ?_)
      refine xr_op rfl rfl (xv_move rfl ?_)
      refine xr_no rfl rfl rfl rfl ?_
      refine xr_no rfl rfl rfl rfl ?_
      refine xr_no rfl rfl rfl rfl ?_
      refine xr_op rfl rfl (xv_pick rfl rfl ?_)
      refine xr_op rfl rfl (xv_assign rfl ?_)
      refine xr_end rfl ?_
      refine th_n ?_
      refine xc_true rfl ?_
      refine xc_seq (xc_region ?_)
      refine xr_op rfl rfl (xv_build bt33 rfl Ev_ ?_)
      refine xr_op rfl rfl (xv_s ty33 rfl rfl Up_ Ev_ (by rfl) (by rfl) (by rfl) Ev_ ?_)
      refine xr_op rfl rfl (xv_assign rfl ?_)
      refine xr_end rfl ?_
      refine th_n ?_
      refine xc_ret ?_
      refine bk_r ?_
      refine th_r ?_
      refine body_ret (h' := h) rfl (ro_cellA ty33 rfl rfl Me_ (by rfl) (by rfl) (ro_tmp rfl ro_nil)) Su_ ?_
      first | (rw [eans] at H; exact H) | (rw [yieldA_1 hng] at H; exact H) | (rw [yieldA_10 hgy hpn] at H; exact H) | (rw [yieldA_2 hgy hvs (by omega)] at H; exact H)

end Go.Proofs.Ytmaldhbjhomdkaa.Coal

/-
  The best plan: all plans that can be are among those that are tried, in lexicographic order; the first of those with the greatest income is kept.
-/
set_option linter.all false
namespace Go.Proofs.Ytmaldhbjhomdkaa.Tar
open Go Go.H
def LexLt (p q : List Int) : Prop := ∃ k a b, p.take k = q.take k ∧ p[k]? = some a ∧ q[k]? = some b ∧ a < b
theorem LexLt.irrefl {p : List Int} : ¬ LexLt p p := fun ⟨k, a, b, _, h1, h2, h3⟩ => by rw [h1] at h2; cases h2; omega
theorem take_get_lt {p q : List Int} {k i : Nat} (h : p.take k = q.take k) (hi : i < k) : p[i]? = q[i]? := by
  have := congrArg (fun l => l[i]?) h
  simpa [List.getElem?_take, hi] using this
theorem LexLt.asymm {p q : List Int} (h1 : LexLt p q) (h2 : LexLt q p) : False := by
  obtain ⟨k, a, b, e1, p1, q1, l1⟩ := h1
  obtain ⟨j, c, d, e2, q2, p2, l2⟩ := h2
  rcases Nat.lt_trichotomy k j with h | rfl | h
  · have := take_get_lt e2 h; rw [p1, q1] at this; cases this; omega
  · rw [p1] at p2; rw [q1] at q2; cases p2; cases q2; omega
  · have := take_get_lt e1 h; rw [p2, q2] at this; cases this; omega
theorem plansG_pre {xs : List Still} {pre : List Int} {g : Goods} {p : List Int} (h : p ∈ plansG xs pre g) : p.take pre.length = pre := by
  obtain ⟨ts, rfl, _⟩ := plansG_mem h
  simp
theorem ways_pair (x : Still) (g : Goods) : (ways x g).Pairwise (· < ·) := by
  refine List.Pairwise.sublist (List.takeWhile_sublist _) ?_
  unfold nums
  rw [List.pairwise_map]
  exact List.pairwise_lt_range.imp (fun h => by omega)
theorem plansG_sorted : ∀ (xs : List Still) (pre : List Int) (g : Goods), (plansG xs pre g).Pairwise LexLt
  | [], pre, g => by simp [plansG]
  | x :: xs, pre, g => by
    unfold plansG
    rw [List.pairwise_flatMap]
    refine ⟨fun n _ => plansG_sorted xs _ _, (ways_pair x g).imp (fun {n m} hnm p hp q hq => ?_)⟩
    have h1 := plansG_pre hp
    have h2 := plansG_pre hq
    have l1 : (pre ++ [n]).length = pre.length + 1 := by simp
    have l2 : (pre ++ [m]).length = pre.length + 1 := by simp
    rw [l1] at h1
    rw [l2] at h2
    refine ⟨pre.length, n, m, ?_, ?_, ?_, hnm⟩
    · have e1 := congrArg (List.take pre.length) h1
      have e2 := congrArg (List.take pre.length) h2
      simp [List.take_take] at e1 e2
      rw [e1, e2]
    · have e1 := congrArg (fun l => l[pre.length]?) h1
      simpa [List.getElem?_take] using e1
    · have e1 := congrArg (fun l => l[pre.length]?) h2
      simpa [List.getElem?_take] using e1
theorem canWork_le {x : Still} {g : Goods} {a b : Int} (hx : 1 ≤ x.takes) (h : a ≤ b) (hc : canWork x b g = true) : canWork x a g = true := by
  simp only [canWork, decide_eq_true_eq] at *
  have := Int.mul_le_mul_of_nonneg_left h (show 0 ≤ x.takes by omega)
  omega
theorem mem_ways {x : Still} {g : Goods} {n : Int} (hx : 1 ≤ x.takes) (h0 : 0 ≤ n) (h1 : n ≤ x.most) (hc : canWork x n g = true) : n ∈ ways x g := by
  obtain ⟨k, rfl⟩ := Int.eq_ofNat_of_zero_le h0
  obtain ⟨r, hr⟩ := ways_take (x := x) (g := g) (k := k) h1 (fun j hj => canWork_le hx (show (j : Int) ≤ k by omega) hc)
  rw [hr, nums_succ]
  simp
theorem plansG_all : ∀ {xs : List Still} {pre ts : List Int} {g g' : Goods}, (∀ x ∈ xs, 1 ≤ x.takes) → ts.length = xs.length → (∀ (j : Nat) (x : Still) (t : Int), xs[j]? = some x → ts[j]? = some t → 0 ≤ t ∧ t ≤ x.most) → afterG xs ts g = some g' → pre ++ ts ∈ plansG xs pre g
  | [], pre, ts, g, g', _, hl, _, _ => by
    have : ts = [] := List.length_eq_zero_iff.1 (by simpa using hl)
    subst this
    simp [plansG]
  | x :: xs, pre, [], g, g', _, hl, _, _ => by simp at hl
  | x :: xs, pre, t :: ts, g, g', hx, hl, hp, h => by
    unfold afterG at h
    split at h
    · rename_i hc
      have ht := hp 0 x t rfl rfl
      have := plansG_all (pre := pre ++ [t]) (fun z hz => hx z (List.mem_cons_of_mem _ hz)) (by simpa using hl) (fun j z u hz hu => hp (j + 1) z u hz hu) h
      unfold plansG
      rw [List.mem_flatMap]
      exact ⟨t, mem_ways (hx x List.mem_cons_self) ht.1 ht.2 hc, by simpa using this⟩
    · cases h
theorem GoodYard.takes {y : Yard} (hy : GoodYard y) : ∀ x ∈ y.stills, 1 ≤ x.takes := fun x hx => by
  obtain ⟨j, hj⟩ := List.getElem?_of_mem hx
  exact (hy.stills j x hj).2.1.1
theorem plansY_all {y : Yard} (hy : GoodYard y) {p : List Int} {g : Goods} (hl : p.length = y.stills.length) (hp : PlanOk y p) (h : afterG y.stills p (newG y) = some g) : p ∈ plansY y := by
  have := plansG_all (pre := []) hy.takes hl hp h
  rw [List.nil_append] at this
  exact this
structure Best (y : Yard) (l : List (List Int)) (k : Nat) (q : List Int) (m : Int) : Prop where
  inc : m = incomeP y q
  top : ∀ j p, j < k → l[j]? = some p → incomeP y p ≤ m
  fst : ∃ i, i < k ∧ l[i]? = some q ∧ ∀ j p, j < i → l[j]? = some p → incomeP y p < m
theorem bestF_spec {y : Yard} {l : List (List Int)} : ∀ k, k ≤ l.length → (k = 0 ∧ bestF y (l.take k) = none) ∨ ∃ q m, bestF y (l.take k) = some (q, m) ∧ Best y l k q m
  | 0, _ => .inl ⟨rfl, rfl⟩
  | k + 1, hk => by
    right
    have hk' : k < l.length := hk
    have hp : l[k]? = some l[k] := List.getElem?_eq_getElem hk'
    rw [bestF_succ hp]
    rcases bestF_spec (y := y) (l := l) k (by omega) with ⟨rfl, h⟩ | ⟨q, m, h, hb⟩
    · rw [h]
      refine ⟨l[0], _, rfl, rfl, fun j p hj hp2 => ?_, 0, by omega, hp, fun j p hj => by omega⟩
      obtain rfl : j = 0 := by omega
      rw [hp] at hp2; cases hp2; exact Int.le_refl _
    · rw [h]
      unfold stepB
      dsimp only
      split
      · rename_i hgt
        refine ⟨_, _, rfl, rfl, fun j p hj hp2 => ?_, k, by omega, hp, fun j p hj hp2 => ?_⟩
        · rcases Nat.lt_succ_iff_lt_or_eq.1 hj with hj | rfl
          · have := hb.top j p hj hp2; omega
          · rw [hp] at hp2; cases hp2; exact Int.le_refl _
        · have := hb.top j p hj hp2; omega
      · rename_i hgt
        obtain ⟨i, hi, hq, hlt⟩ := hb.fst
        refine ⟨_, _, rfl, hb.inc, fun j p hj hp2 => ?_, i, by omega, hq, hlt⟩
        rcases Nat.lt_succ_iff_lt_or_eq.1 hj with hj | rfl
        · exact hb.top j p hj hp2
        · rw [hp] at hp2; cases hp2; omega
def zeros (n : Nat) : List Int := List.replicate n 0
theorem after_zeros : ∀ {xs : List Still} {g : Goods}, (∀ j, 0 ≤ (g j).lo) → ∃ g', afterG xs (zeros xs.length) g = some g'
  | [], g, _ => ⟨g, rfl⟩
  | x :: xs, g, hg => by
    have hc : canWork x 0 g = true := by simp only [canWork, decide_eq_true_eq, Int.mul_zero]; exact hg _
    have hw : workG x 0 g = g := by
      funext j
      simp only [workG, addG, takeG, Int.mul_zero, Int.zero_mul, Int.sub_zero, Int.add_zero]
      split <;> (try split) <;> rfl
    show ∃ g', (if canWork x 0 g then afterG xs (zeros xs.length) (workG x 0 g) else none) = some g'
    rw [if_pos hc, hw]
    exact after_zeros hg
theorem plansY_ne {y : Yard} (hy : GoodYard y) : plansY y ≠ [] := by
  obtain ⟨g, hg⟩ := after_zeros (xs := y.stills) (g := newG y) (fun j => (GB.new hy j).1)
  have := plansY_all hy (p := zeros y.stills.length) (by simp [zeros]) (fun k x t hx ht => by
    have := List.getElem?_eq_some_iff.1 ht
    obtain ⟨h1, h2⟩ := this
    have h3 : t = 0 := by rw [← h2]; simp [zeros]
    have h4 := (hy.stills k x hx).2.2.2.2.1
    omega) hg
  exact List.ne_nil_of_mem this
structure IsBest (y : Yard) (q : List Int) (m : Int) : Prop where
  len : q.length = y.stills.length
  ok : PlanOk y q
  after : ∃ g, afterG y.stills q (newG y) = some g ∧ GB y.stills.length g ∧ m = incomeY y q g
  top : ∀ p g, p.length = y.stills.length → PlanOk y p → afterG y.stills p (newG y) = some g → incomeY y p g ≤ m ∧ (incomeY y p g = m → ¬ LexLt p q)
theorem best_is {y : Yard} (hy : GoodYard y) : ∃ q m, bestY y = some (q, m) ∧ IsBest y q m := by
  have hs := bestF_spec (y := y) (l := plansY y) (plansY y).length (Nat.le_refl _)
  rw [List.take_length] at hs
  rcases hs with ⟨h0, _⟩ | ⟨q, m, hb, hB⟩
  · exact (plansY_ne hy (List.length_eq_zero_iff.1 h0)).elim
  · obtain ⟨i, hi, hq, hlt⟩ := hB.fst
    obtain ⟨h1, h2, g, h3, h4⟩ := plansY_ok hy (List.mem_of_getElem? hq)
    refine ⟨q, m, hb, h1, h2, ⟨g, h3, h4, by rw [hB.inc, incomeP_eq h3]⟩, fun p g' hp1 hp2 hp3 => ?_⟩
    obtain ⟨j, hj⟩ := List.getElem?_of_mem (plansY_all hy hp1 hp2 hp3)
    have hjl := (List.getElem?_eq_some_iff.1 hj).1
    have hle := hB.top j p hjl hj
    rw [incomeP_eq hp3] at hle
    refine ⟨hle, fun he hlex => ?_⟩
    rcases Nat.lt_trichotomy j i with h | rfl | h
    · have := hlt j p h hj
      rw [incomeP_eq hp3] at this
      omega
    · rw [hq] at hj; cases hj; exact LexLt.irrefl hlex
    · have hP := plansG_sorted y.stills [] (newG y)
      have : LexLt (plansY y)[i] (plansY y)[j] := List.pairwise_iff_getElem.1 hP i j hi hjl h
      have e1 := (List.getElem?_eq_some_iff.1 hq).2
      have e2 := (List.getElem?_eq_some_iff.1 hj).2
      rw [e1, e2] at this
      exact LexLt.asymm hlex this
end Go.Proofs.Ytmaldhbjhomdkaa.Tar

/-
  What the reference's functions of the goods compute, step by step.
-/
set_option linter.all false
namespace Go.Proofs.Ytmaldhbjhomdkaa.Tar
open Go Go.H
def NextK (ss : List Sale) (op : List Bool) (k : Nat) (r : Int) : Prop := (r = -1 ∧ ∀ i : Nat, i < k → op[i]? ≠ some true) ∨ (∃ b : Nat, r = b ∧ b < k ∧ op[b]? = some true ∧ ∀ j : Nat, j < k → op[j]? = some true → j ≠ b → cmpS ss b j < 0)
theorem NextK.zero {ss : List Sale} {op : List Bool} : NextK ss op 0 (-1) := .inl ⟨rfl, fun i h => absurd h (Nat.not_lt_zero _)⟩
theorem lt_succ_or {j k : Nat} (h : j < k + 1) : j < k ∨ j = k := by omega
theorem NextK.first {ss : List Sale} {op : List Bool} {k : Nat} {r : Int} (H : NextK ss op k r) (hk : op[k]? = some true) (hr : r < 0) : NextK ss op (k + 1) k := by
  rcases H with ⟨h1, h2⟩ | ⟨b, h1, h2, h3, h4⟩
  · refine .inr ⟨k, rfl, by omega, hk, fun j hj hq hn => ?_⟩
    rcases lt_succ_or hj with hj | rfl
    · exact absurd hq (h2 j hj)
    · exact absurd rfl hn
  · omega
theorem NextK.better {ss : List Sale} {op : List Bool} {k : Nat} {r : Int} {x z : Sale} (H : NextK ss op k r) (hk : op[k]? = some true) (hr : 0 ≤ r) (hx : ss[k]? = some x) (hz : ss[r.toNat]? = some z) (hp : z.price < x.price) : NextK ss op (k + 1) k := by
  rcases H with ⟨h1, h2⟩ | ⟨b, h1, h2, h3, h4⟩
  · omega
  · refine .inr ⟨k, rfl, by omega, hk, fun j hj hq hn => ?_⟩
    rcases lt_succ_or hj with hj | rfl
    · subst h1
      rw [Int.toNat_natCast] at hz
      rw [cmpS_neg, Int.toNat_natCast, Int.toNat_natCast, sale_at hx]
      by_cases hjb : j = b
      · subst hjb; rw [sale_at hz]; omega
      · have := h4 j hj hq hjb
        rw [cmpS_neg, Int.toNat_natCast, Int.toNat_natCast, sale_at hz] at this
        omega
    · exact absurd rfl hn
end Go.Proofs.Ytmaldhbjhomdkaa.Tar

/-
  Selling in the order of prices is best; more goods, better prices, less pay: no less income.
-/
set_option linter.all false
namespace Go.Proofs.Ytmaldhbjhomdkaa.Tar
open Go Go.H
abbrev Lo := Nat → Int
def gd (ss : List Sale) (i : Int) : Nat := (sale ss i.toNat).good.toNat
def pr (ss : List Sale) (i : Int) : Int := (sale ss i.toNat).price
def mo (ss : List Sale) (i : Int) : Int := (sale ss i.toNat).most
def revF (ss : List Sale) : List Int → Lo → Int
  | [], _ => 0
  | i :: is, L => min (mo ss i) (L (gd ss i)) * pr ss i + revF ss is (upd L (gd ss i) (L (gd ss i) - min (mo ss i) (L (gd ss i))))
def loOf (g : Goods) : Lo := fun j => (g j).lo
theorem loOf_upd {g : Goods} {k : Nat} {s : Span} : loOf (upd g k s) = upd (loOf g) k s.lo := by
  funext j; simp only [loOf, upd]; split <;> rfl
theorem sells_rev (ss : List Sale) : ∀ (is : List Int) (st : Sell), (sells ss is st).rev.sum = st.rev.sum + revF ss is (loOf st.g)
  | [], st => by simp [sells, revF]
  | i :: is, st => by
    show (sells ss is (sell1 ss st i)).rev.sum = _
    rw [sells_rev ss is]
    have h1 : (sell1 ss st i).rev.sum = st.rev.sum + sellN ss st i * pr ss i := by simp [sell1, pr]
    have h2 : loOf (sell1 ss st i).g = upd (loOf st.g) (gd ss i) (loOf st.g (gd ss i) - sellN ss st i) := loOf_upd
    have h3 : sellN ss st i = min (mo ss i) (loOf st.g (gd ss i)) := rfl
    rw [h1, h2, h3]
    show _ = st.rev.sum + (min (mo ss i) (loOf st.g (gd ss i)) * pr ss i + revF ss is _)
    omega
theorem income_eq (y : Yard) (plan : List Int) (g : Goods) : incomeY y plan g = (pays y.stills plan).sum + revF y.sales (ord y.sales) (loOf g) := by
  unfold incomeY sellY
  rw [List.sum_append, sells_rev]
  simp [st0]
structure OkS (ss : List Sale) (is : List Int) (P : Int) : Prop where
  p0 : 0 ≤ P
  pr : ∀ i ∈ is, 0 ≤ pr ss i ∧ pr ss i ≤ P
  mo : ∀ i ∈ is, 0 ≤ mo ss i
theorem OkS.tail {ss : List Sale} {i : Int} {is : List Int} {P : Int} (h : OkS ss (i :: is) P) : OkS ss is P := ⟨h.p0, fun j hj => h.pr j (List.mem_cons_of_mem _ hj), fun j hj => h.mo j (List.mem_cons_of_mem _ hj)⟩
theorem revF_mono {ss : List Sale} {P : Int} : ∀ {is : List Int} {L L' : Lo}, OkS ss is P → (∀ j, L j ≤ L' j) → revF ss is L ≤ revF ss is L'
  | [], _, _, _, _ => Int.le_refl _
  | i :: is, L, L', h, hL => by
    have hp := h.pr i List.mem_cons_self
    have hLe := hL (gd ss i)
    simp only [revF]
    have h1 : min (mo ss i) (L (gd ss i)) * pr ss i ≤ min (mo ss i) (L' (gd ss i)) * pr ss i := Int.mul_le_mul_of_nonneg_right (by omega) hp.1
    have h2 := revF_mono (is := is) (L := upd L (gd ss i) (L (gd ss i) - min (mo ss i) (L (gd ss i)))) (L' := upd L' (gd ss i) (L' (gd ss i) - min (mo ss i) (L' (gd ss i)))) h.tail (fun j => by
      simp only [upd]; split
      · omega
      · exact hL j)
    omega
structure Better (ss ss' : List Sale) : Prop where
  len : ss'.length = ss.length
  gd : ∀ i, gd ss' i = gd ss i
  mo : ∀ i, mo ss i ≤ mo ss' i
  pr : ∀ i, pr ss i ≤ pr ss' i
theorem after_mono : ∀ {xs : List Still} {ts : List Int} {g g' r : Goods}, (∀ j, (g j).lo ≤ (g' j).lo) → afterG xs ts g = some r → ∃ r', afterG xs ts g' = some r' ∧ ∀ j, (r j).lo ≤ (r' j).lo
  | [], ts, g, g', r, hg, h => by
    have : r = g := by cases ts <;> (simp [afterG] at h; exact h.symm)
    subst this
    exact ⟨g', by cases ts <;> rfl, hg⟩
  | x :: xs, [], g, g', r, hg, h => by
    simp only [afterG, Option.some.injEq] at h
    subst h
    exact ⟨g', rfl, hg⟩
  | x :: xs, t :: ts, g, g', r, hg, h => by
    unfold afterG at h
    split at h
    · rename_i hc
      have hc' : canWork x t g' = true := by
        simp only [canWork, decide_eq_true_eq] at *
        have := hg x.in_.toNat
        omega
      obtain ⟨r', h1, h2⟩ := after_mono (g' := workG x t g') (fun j => by
        have := hg j
        simp only [workG, addG, takeG]
        split <;> split <;> (try dsimp only) <;> omega) h
      exact ⟨r', by unfold afterG; rw [if_pos hc']; exact h1, h2⟩
    · cases h
theorem GoodYard.okS {y : Yard} (hy : GoodYard y) : OkS y.sales (ord y.sales) 1000000 := by
  have key : ∀ i ∈ ord y.sales, saleOk y.stock.length (sale y.sales i.toNat) := fun i hi => by
    have h1 := (mem_ord hi).2.2
    have h2 : y.sales[i.toNat]? = some y.sales[i.toNat] := List.getElem?_eq_getElem h1
    rw [sale_at h2]
    exact hy.sales _ (List.getElem_mem h1)
  exact ⟨by decide, fun i hi => (key i hi).2.2, fun i hi => (key i hi).2.1.1⟩
theorem GB.lo {k : Nat} {g : Goods} (h : GB k g) : ∀ j, 0 ≤ loOf g j := fun j => (h j).1
def Cheap (x x' : Still) : Prop := x'.in_ = x.in_ ∧ x'.takes = x.takes ∧ x'.out = x.out ∧ x'.most = x.most ∧ x'.pay ≤ x.pay
inductive Cheaps : List Still → List Still → Prop where
  | nil : Cheaps [] []
  | cons {x x' : Still} {xs xs' : List Still} : Cheap x x' → Cheaps xs xs' → Cheaps (x :: xs) (x' :: xs')
theorem Cheaps.len : ∀ {xs xs' : List Still}, Cheaps xs xs' → xs.length = xs'.length
  | _, _, .nil => rfl
  | _, _, .cons _ h => by simp [h.len]
theorem Cheaps.at : ∀ {xs xs' : List Still} {k : Nat} {x' : Still}, Cheaps xs xs' → xs'[k]? = some x' → ∃ x, xs[k]? = some x ∧ Cheap x x'
  | _, _, k, x', .nil, h => by simp at h
  | x :: xs, _, 0, x', .cons hc h, hk => by
    simp at hk
    subst hk
    exact ⟨x, rfl, hc⟩
  | x :: xs, _, k + 1, x', .cons hc h, hk => by
    obtain ⟨z, h1, h2⟩ := h.at (k := k) (by simpa using hk)
    exact ⟨z, by simpa using h1, h2⟩
theorem Cheap.refl (x : Still) : Cheap x x := ⟨rfl, rfl, rfl, rfl, Int.le_refl _⟩
theorem Cheaps.refl : ∀ xs : List Still, Cheaps xs xs
  | [] => .nil
  | x :: xs => .cons (Cheap.refl x) (Cheaps.refl xs)
theorem Cheaps.set : ∀ {xs : List Still} {k : Nat} {x x' : Still}, xs[k]? = some x → Cheap x x' → Cheaps xs (xs.set k x')
  | [], k, x, x', h, _ => by simp at h
  | z :: xs, 0, x, x', h, hc => by
    simp at h
    subst h
    exact .cons hc (Cheaps.refl xs)
  | z :: xs, k + 1, x, x', h, hc => .cons (Cheap.refl z) (Cheaps.set (by simpa using h) hc)
end Go.Proofs.Ytmaldhbjhomdkaa.Tar
