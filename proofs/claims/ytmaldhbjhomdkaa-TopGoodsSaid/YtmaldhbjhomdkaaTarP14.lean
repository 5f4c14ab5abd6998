/-
  Walks.
-/
import Derived.Test.YtmaldhbjhomdkaaTarW4
import Derived.Test.YtmaldhbjhomdkaaTarO
import Derived.Test.YtmaldhbjhomdkaaTarP15
import Derived.Test.YtmaldhbjhomdkaaTarW6
import Derived.Test.YtmaldhbjhomdkaaHT
namespace Go.Proofs.Ytmaldhbjhomdkaa.Tar
open Go Go.H
set_option maxRecDepth 100000
set_option maxHeartbeats 8000000
set_option linter.all false
theorem Yards_c {y : Yard} {h : Hp} {R : Ending → Hp → Prop} (hv : YardV h y) (H1 : GoodYard y → R (.returned (.bool true)) h) (H2 : ¬ GoodYard y → R (.returned (.bool false)) h) :
    ACalls Try.prog 5 ⟨[.agg ⟨eYard y⟩]⟩ h R := by
  refine calls_of_xc (N := 156) Try.func5 rfl (by rfl) ?_
  refine xc_seq (xc_region ?_)
  refine xr_op rfl rfl (xv_box rfl (fun b1 hb1 => ?_))
  refine xr_op rfl rfl (xv_assign rfl ?_)
  refine xr_end rfl ?_
  refine th_n ?_
  refine xc_seq (xc_region ?_)
  refine xr_op rfl rfl (xv_faddr fl26_0 rfl ?_)
  refine xr_op rfl rfl (xv_load1 ty22 rfl rfl Me_ (by rfl) ?_)
  refine xr_op rfl rfl (xv_len sl22 rfl ?_)
  refine xr_op rfl rfl (xv_assign rfl ?_)
  refine xr_end rfl ?_
  refine th_n ?_
  refine xc_seq ?_
  refine xc_seq (xc_region ?_)
  refine xr_op rfl rfl (xv_move rfl ?_)
  refine xr_op rfl rfl (xv_calls rfl hb32 (in_c _ _ _ (fun hl1 hu2 => up_ret ?_) (fun hn3 => up_ret ?_)))
  · refine xr_op rfl rfl (xv_not rfl ?_)
    refine xr_op rfl rfl (xv_move rfl ?_)
    refine xr_gd rfl rfl rfl (xv_faddr fl26_1 rfl ?_)
    refine xr_gd rfl rfl rfl (xv_load1 ty23 rfl rfl Me_ (by rfl) ?_)
    refine xr_gd rfl rfl rfl (xv_len sl23 rfl ?_)
    refine xr_gd rfl rfl rfl (xv_gtr2 rfl rfl (fun q4 => ?_) (fun q4 => ?_))
    · refine xr_op rfl rfl (xv_pick rfl rfl ?_)
      refine xr_op rfl rfl (xv_move rfl ?_)
      refine xr_no rfl rfl rfl rfl ?_
      refine xr_no rfl rfl rfl rfl ?_
      refine xr_no rfl rfl rfl rfl ?_
      refine xr_no rfl rfl rfl rfl ?_
      refine xr_op rfl rfl (xv_pick rfl rfl ?_)
      refine xr_end rfl ?_
      refine th_n ?_
      refine xc_true rfl ?_
      refine xc_seq (xc_region ?_)
      refine xr_op rfl rfl (xv_assign rfl ?_)
      refine xr_end rfl ?_
      refine th_n ?_
      refine xc_ret ?_
      refine th_r ?_
      refine body_ret (h' := h) rfl (ro_tmp rfl ro_nil) Su_ ?_
      first | exact H2 (fun hg => by have := hg.n1; have := hg.n6; have := hg.s4; have := hg.s6; (first|omega|(dsimp only at *;omega)|(simp at *;omega))) | exact H2 (fun hg => by have := hg.stock xo (List.mem_of_getElem? hko); unfold tonsOk at this; (first|omega|(dsimp only at *;omega)|(simp at *;omega))) | exact H2 (fun hg => by have hn1 := hn0 hg; obtain ⟨g1, g2, g3, g4, g5, g6⟩ := hg.stills k xo hko; (first|omega|(dsimp only at *;omega)|(simp at *;omega))) | exact H2 (fun hg => hso ((hg.stills k xo hko).2.2.2.2.2 i xe hke).1) | exact H2 (fun hg => by rcases ((hg.stills k xo hko).2.2.2.2.2 i xe hke).2 with h1 | h1 <;> first | (first|omega|(dsimp only at *;omega)|(simp at *;omega)) | simp_all) | exact H2 (fun hg => by have := hg.sales xo (List.mem_of_getElem? hko); unfold saleOk at this; (first|omega|(dsimp only at *;omega)|(simp at *;omega))) | exact H1 ⟨by (first|omega|(dsimp only at *;omega)|(simp at *;omega)), by (first|omega|(dsimp only at *;omega)|(simp at *;omega)), by (first|omega|(dsimp only at *;omega)|(simp at *;omega)), by (first|omega|(dsimp only at *;omega)|(simp at *;omega)), hst, fun j q hq => hsti j q (List.getElem?_eq_some_iff.1 hq).1 hq, hsa⟩
    · refine xr_op rfl rfl (xv_pick rfl rfl ?_)
      refine xr_op rfl rfl (xv_move rfl ?_)
      refine xr_gd rfl rfl rfl (xv_faddr fl26_2 rfl ?_)
      refine xr_gd rfl rfl rfl (xv_load1 ty24 rfl rfl Me_ (by rfl) ?_)
      refine xr_gd rfl rfl rfl (xv_len sl24 rfl ?_)
      refine xr_gd rfl rfl rfl (xv_gtr2 rfl rfl (fun q5 => ?_) (fun q5 => ?_))
      · refine xr_op rfl rfl (xv_pick rfl rfl ?_)
        refine xr_end rfl ?_
        refine th_n ?_
        refine xc_true rfl ?_
        refine xc_seq (xc_region ?_)
        refine xr_op rfl rfl (xv_assign rfl ?_)
        refine xr_end rfl ?_
        refine th_n ?_
        refine xc_ret ?_
        refine th_r ?_
        refine body_ret (h' := h) rfl (ro_tmp rfl ro_nil) Su_ ?_
        first | exact H2 (fun hg => by have := hg.n1; have := hg.n6; have := hg.s4; have := hg.s6; (first|omega|(dsimp only at *;omega)|(simp at *;omega))) | exact H2 (fun hg => by have := hg.stock xo (List.mem_of_getElem? hko); unfold tonsOk at this; (first|omega|(dsimp only at *;omega)|(simp at *;omega))) | exact H2 (fun hg => by have hn1 := hn0 hg; obtain ⟨g1, g2, g3, g4, g5, g6⟩ := hg.stills k xo hko; (first|omega|(dsimp only at *;omega)|(simp at *;omega))) | exact H2 (fun hg => hso ((hg.stills k xo hko).2.2.2.2.2 i xe hke).1) | exact H2 (fun hg => by rcases ((hg.stills k xo hko).2.2.2.2.2 i xe hke).2 with h1 | h1 <;> first | (first|omega|(dsimp only at *;omega)|(simp at *;omega)) | simp_all) | exact H2 (fun hg => by have := hg.sales xo (List.mem_of_getElem? hko); unfold saleOk at this; (first|omega|(dsimp only at *;omega)|(simp at *;omega))) | exact H1 ⟨by (first|omega|(dsimp only at *;omega)|(simp at *;omega)), by (first|omega|(dsimp only at *;omega)|(simp at *;omega)), by (first|omega|(dsimp only at *;omega)|(simp at *;omega)), by (first|omega|(dsimp only at *;omega)|(simp at *;omega)), hst, fun j q hq => hsti j q (List.getElem?_eq_some_iff.1 hq).1 hq, hsa⟩
      · refine xr_op rfl rfl (xv_pick rfl rfl ?_)
        refine xr_end rfl ?_
        refine th_n ?_
        refine xc_false rfl ?_
        refine xc_skip ?_
        refine th_n ?_
        refine xc_seq ?_
        refine xc_seq (xc_region ?_)
        refine xr_op rfl rfl (xv_assign rfl ?_)
        refine xr_end rfl ?_
        refine th_n ?_
        refine xc_block ?_
        refine xc_loop (σ := Nat) (fun k => k ≤ y.stock.length ∧ ∀ t ∈ y.stock.take k, tonsOk t) (fun k => (((emp.put (some 1) (.pointer (some ⟨b1, 0, none⟩))).put (some 3) (I y.stock.length)).put (some 4) (I k))) (fun k => ((b1, .cells ⟨eYard y⟩ 30) :: h)) (fun k => y.stock.length - k) 0 ⟨Nat.zero_le _, by simp⟩ (le_put (le_put (le_put (le_emp _) rfl) rfl) rfl) Su_ ?_
        rintro k ⟨hk, hst⟩
        refine xc_seq ?_
        refine xc_seq (xc_region ?_)
        refine xr_op rfl rfl (xv_move rfl ?_)
        refine xr_op rfl rfl (xv_move rfl ?_)
        refine xr_op rfl rfl (xv_lss2 rfl rfl (fun q6 => ?_) (fun q6 => ?_))
        · refine xr_end rfl ?_
          refine th_n ?_
          refine xc_true rfl ?_
          refine xc_skip ?_
          refine th_n ?_
          refine xc_seq ?_
          refine xc_block ?_
          refine xc_seq (xc_region ?_)
          refine xr_op rfl rfl (xv_faddr fl26_0 rfl ?_)
          refine xr_op rfl rfl (xv_load1 ty22 rfl rfl Me_ (by rfl) ?_)
          have hlto : k < y.stock.length := by (first|omega|(dsimp only at *;omega)|(simp at *;omega))
          obtain ⟨bo, oo, lo, to, fzo, hao, hmo, hxo⟩ := (hv.stock).at hlto
          obtain ⟨xo, hko⟩ : ∃ qq_, y.stock[k]? = some qq_ := ⟨_, List.getElem?_eq_getElem hlto⟩
          refine xr_op rfl rfl (xv_move rfl ?_)
          refine xr_op rfl rfl (xv_ia (sz := 1) (j := k) sl22 ty3 rfl (by rw [hao]; rfl) rfl Ix_ Om_ Om_ ?_)
          refine xr_op rfl rfl (xv_load1 ty3 rfl rfl Me_ (take_get (hxo (k) xo hko) (j := 0) rfl) ?_)
          refine xr_op rfl rfl (xv_calls rfl hb32 (in_c _ _ _ (fun hl7 hu8 => up_ret ?_) (fun hn9 => up_ret ?_)))
          · refine xr_op rfl rfl (xv_not rfl ?_)
            refine xr_end rfl ?_
            refine th_n ?_
            refine xc_false rfl ?_
            refine xc_skip ?_
            refine bk_n ?_
            refine th_n ?_
            refine xc_region ?_
            refine xr_op rfl rfl (xv_move rfl ?_)
            refine xr_op rfl rfl (xv_add rfl rfl (wrap_i64 Om_ Om_) ?_)
            refine xr_op rfl rfl (xv_assign rfl ?_)
            refine xr_end rfl ?_
            exact rnd (k + 1) ⟨by (first|omega|(dsimp only at *;omega)|(simp at *;omega)), take_allS hko hst (by unfold tonsOk; (first|omega|(dsimp only at *;omega)|(simp at *;omega)))⟩ Om_ (le_put (le_put (le_put (le_emp _) rfl) rfl) rfl) Su_
          · refine xr_op rfl rfl (xv_not rfl ?_)
            refine xr_end rfl ?_
            refine th_n ?_
            refine xc_true rfl ?_
            refine xc_seq (xc_region ?_)
            refine xr_op rfl rfl (xv_assign rfl ?_)
            refine xr_end rfl ?_
            refine th_n ?_
            refine xc_ret ?_
            refine bk_r ?_
            refine th_r ?_
            refine th_r ?_
            refine bk_r ?_
            refine th_r ?_
            refine body_ret (h' := h) rfl (ro_tmp rfl ro_nil) Su_ ?_
            first | exact H2 (fun hg => by have := hg.n1; have := hg.n6; have := hg.s4; have := hg.s6; (first|omega|(dsimp only at *;omega)|(simp at *;omega))) | exact H2 (fun hg => by have := hg.stock xo (List.mem_of_getElem? hko); unfold tonsOk at this; (first|omega|(dsimp only at *;omega)|(simp at *;omega))) | exact H2 (fun hg => by have hn1 := hn0 hg; obtain ⟨g1, g2, g3, g4, g5, g6⟩ := hg.stills k xo hko; (first|omega|(dsimp only at *;omega)|(simp at *;omega))) | exact H2 (fun hg => hso ((hg.stills k xo hko).2.2.2.2.2 i xe hke).1) | exact H2 (fun hg => by rcases ((hg.stills k xo hko).2.2.2.2.2 i xe hke).2 with h1 | h1 <;> first | (first|omega|(dsimp only at *;omega)|(simp at *;omega)) | simp_all) | exact H2 (fun hg => by have := hg.sales xo (List.mem_of_getElem? hko); unfold saleOk at this; (first|omega|(dsimp only at *;omega)|(simp at *;omega))) | exact H1 ⟨by (first|omega|(dsimp only at *;omega)|(simp at *;omega)), by (first|omega|(dsimp only at *;omega)|(simp at *;omega)), by (first|omega|(dsimp only at *;omega)|(simp at *;omega)), by (first|omega|(dsimp only at *;omega)|(simp at *;omega)), hst, fun j q hq => hsti j q (List.getElem?_eq_some_iff.1 hq).1 hq, hsa⟩
        · refine xr_end rfl ?_
          refine th_n ?_
          refine xc_false rfl ?_
          refine xc_exit ?_
          refine th_x ?_
          refine th_x ?_
          refine bk_same ?_
          refine th_n ?_
          refine xc_seq ?_
          refine xc_seq (xc_region ?_)
          obtain rfl : k = y.stock.length := by (first|omega|(dsimp only at *;omega)|(simp at *;omega))
          rw [List.take_length] at hst
          refine xr_op rfl rfl (xv_assign rfl ?_)
          refine xr_end rfl ?_
          refine th_n ?_
          refine xc_block ?_
          refine xc_loop (σ := Nat) (fun k => k ≤ y.stills.length ∧ ∀ j x, j < k → y.stills[j]? = some x → stillOk y.stock.length (lastAt y.stills j) x) (fun k => (((emp.put (some 1) (.pointer (some ⟨b1, 0, none⟩))).put (some 3) (I y.stock.length)).put (some 5) (I k))) (fun k => ((b1, .cells ⟨eYard y⟩ 30) :: h)) (fun k => y.stills.length - k) 0 ⟨Nat.zero_le _, fun _ _ hq => absurd hq (Nat.not_lt_zero _)⟩ (le_put (le_put (le_put (le_emp _) rfl) rfl) rfl) Su_ ?_
          rintro k ⟨hk, hsti⟩
          refine xc_seq ?_
          refine xc_seq (xc_region ?_)
          refine xr_op rfl rfl (xv_move rfl ?_)
          refine xr_op rfl rfl (xv_faddr fl26_1 rfl ?_)
          refine xr_op rfl rfl (xv_load1 ty23 rfl rfl Me_ (by rfl) ?_)
          refine xr_op rfl rfl (xv_len sl23 rfl ?_)
          refine xr_op rfl rfl (xv_lss2 rfl rfl (fun q10 => ?_) (fun q10 => ?_))
          · refine xr_end rfl ?_
            refine th_n ?_
            refine xc_true rfl ?_
            refine xc_skip ?_
            refine th_n ?_
            refine xc_seq ?_
            refine xc_block ?_
            refine xc_seq (xc_region ?_)
            refine xr_op rfl rfl (xv_faddr fl26_1 rfl ?_)
            refine xr_op rfl rfl (xv_load1 ty23 rfl rfl Me_ (by rfl) ?_)
            have hlto : k < y.stills.length := by (first|omega|(dsimp only at *;omega)|(simp at *;omega))
            obtain ⟨bo, oo, lo, to, fzo, hao, hmo, hxo⟩ := (hv.stills).at hlto
            obtain ⟨xo, hko⟩ : ∃ qq_, y.stills[k]? = some qq_ := ⟨_, List.getElem?_eq_getElem hlto⟩
            have hla0 : k = 0 → lastAt y.stills k = 0 := by rintro rfl; rfl
            have hn0 : GoodYard y → 0 ≤ lastAt y.stills k := fun hg => lastAt_nn hg.stills k Om_
            refine xr_op rfl rfl (xv_move rfl ?_)
            refine xr_op rfl rfl (xv_ia (sz := 5) (j := k) sl23 ty48 rfl (by rw [hao]; rfl) rfl Ix_ Om_ Om_ ?_)
            refine xr_op rfl rfl (xv_loadA ty48 rfl rfl Me_ (hxo (k) xo hko) rfl ?_)
            refine xr_op rfl rfl (xv_alloc ty48 (fun b6 hb6 => ?_))
            refine xr_op rfl rfl (xv_s ty48 rfl rfl Up_ Ev_ (by rfl) (by rfl) (by rfl) Ev_ ?_)
            refine xr_end rfl ?_
            refine th_n ?_
            refine xc_seq ?_
            refine xc_seq ?_
            refine xc_draw0 [(0, .S), (1, .R), (2, .S), (3, .S), (4, .O), (5, .S), (6, .S), (7, .S), (8, .R), (9, .O), (10, .S), (11, .S), (12, .S), (13, .S), (14, .R), (15, .S), (16, .S), (17, .O), (18, .S), (19, .S), (20, .S), (21, .R), (22, .O), (23, .S), (24, .S), (25, .S), (26, .S), (27, .R), (28, .O), (29, .S), (30, .S), (31, .S), (32, .S), (33, .O), (34, .S), (35, .S), (36, .R), (37, .S), (38, .R), (39, .S), (40, .S), (41, .S), (42, .S), (43, .R), (44, .O), (45, .S), (46, .S)] mixed (by kernel_rfl) ?_
            refine js_S rfl rfl (.inl rfl) (xv_faddr fl48_0 rfl ⟨rfl, rfl⟩) ?_
            refine js_R0 rfl rfl (.inl rfl) (xv_load1 ty3 rfl rfl Me_ (by rfl) ⟨rfl, rfl⟩) ?_
            refine js_S rfl rfl (.inl rfl) (xv_move rfl ⟨rfl, rfl⟩) ?_
            refine js_S rfl rfl (.inl rfl) (xv_sub rfl rfl (wrap_i64 Om_ Om_) ⟨rfl, rfl⟩) ?_
            refine js_O0 rfl rfl (.inl rfl) (xv_calls rfl hb32 (in_c _ _ _ (fun hl11 hu12 => up_ret ?_) (fun hn13 => up_ret ?_)))
            · refine js_S rfl rfl (.inl rfl) (xv_not rfl ⟨rfl, rfl⟩) ?_
              refine js_S rfl rfl (.inl rfl) (xv_move rfl ⟨rfl, rfl⟩) ?_
              refine js_S rfl rfl (.inr ⟨_, _, rfl, rfl⟩) (xv_faddr fl48_1 rfl ⟨rfl, rfl⟩) ?_
              refine js_R0 rfl rfl (.inr ⟨_, _, rfl, rfl⟩) (xv_load1 ty3 rfl rfl Me_ (by rfl) ⟨rfl, rfl⟩) ?_
              refine js_O0 rfl rfl (.inr ⟨_, _, rfl, rfl⟩) (xv_calls rfl hb32 (in_c _ _ _ (fun hl14 hu15 => up_ret ?_) (fun hn16 => up_ret ?_)))
              · refine js_S rfl rfl (.inr ⟨_, _, rfl, rfl⟩) (xv_not rfl ⟨rfl, rfl⟩) ?_
                refine js_S rfl rfl (.inl rfl) (xv_pick rfl rfl ⟨rfl, rfl⟩) ?_
                refine js_S rfl rfl (.inl rfl) (xv_move rfl ⟨rfl, rfl⟩) ?_
                refine js_S rfl rfl (.inr ⟨_, _, rfl, rfl⟩) (xv_faddr fl48_2 rfl ⟨rfl, rfl⟩) ?_
                refine js_R0 rfl rfl (.inr ⟨_, _, rfl, rfl⟩) (xv_load1 ty35 rfl rfl Me_ (by rfl) ⟨rfl, rfl⟩) ?_
                refine js_S rfl rfl (.inr ⟨_, _, rfl, rfl⟩) (xv_len sl35 rfl ⟨rfl, rfl⟩) ?_
                refine js_S rfl rfl (.inr ⟨_, _, rfl, rfl⟩) (xv_move rfl ⟨rfl, rfl⟩) ?_
                refine js_O0 rfl rfl (.inr ⟨_, _, rfl, rfl⟩) (xv_neq2 rfl rfl (fun hq => ?_) (fun hq => ?_))
                · refine js_S rfl rfl (.inl rfl) (xv_pick rfl rfl ⟨rfl, rfl⟩) ?_
                  refine js_S rfl rfl (.inl rfl) (xv_move rfl ⟨rfl, rfl⟩) ?_
                  refine js_Ss rfl rfl ⟨_, _, _, rfl, rfl, rfl⟩ ?_
                  refine js_Rs rfl rfl ⟨_, _, _, rfl, rfl, rfl⟩ ?_
                  refine js_Os rfl rfl ⟨_, _, _, rfl, rfl, rfl⟩ ?_
                  refine js_Ss rfl rfl ⟨_, _, _, rfl, rfl, rfl⟩ ?_
                  refine js_S rfl rfl (.inl rfl) (xv_pick rfl rfl ⟨rfl, rfl⟩) ?_
                  refine js_S rfl rfl (.inl rfl) (xv_move rfl ⟨rfl, rfl⟩) ?_
                  refine js_Ss rfl rfl ⟨_, _, _, rfl, rfl, rfl⟩ ?_
                  refine js_Rs rfl rfl ⟨_, _, _, rfl, rfl, rfl⟩ ?_
                  refine js_Os rfl rfl ⟨_, _, _, rfl, rfl, rfl⟩ ?_
                  refine js_Ss rfl rfl ⟨_, _, _, rfl, rfl, rfl⟩ ?_
                  refine js_S rfl rfl (.inl rfl) (xv_pick rfl rfl ⟨rfl, rfl⟩) ?_
                  refine js_S rfl rfl (.inl rfl) (xv_move rfl ⟨rfl, rfl⟩) ?_
                  refine js_Ss rfl rfl ⟨_, _, _, rfl, rfl, rfl⟩ ?_
                  refine js_Os rfl rfl ⟨_, _, _, rfl, rfl, rfl⟩ ?_
                  refine js_Ss rfl rfl ⟨_, _, _, rfl, rfl, rfl⟩ ?_
                  refine js_Ss rfl rfl ⟨_, _, _, rfl, rfl, rfl⟩ ?_
                  refine js_Rs rfl rfl ⟨_, _, _, rfl, rfl, rfl⟩ ?_
                  refine js_Ss rfl rfl ⟨_, _, _, rfl, rfl, rfl⟩ ?_
                  refine js_Rs rfl rfl ⟨_, _, _, rfl, rfl, rfl⟩ ?_
                  refine js_Ss rfl rfl ⟨_, _, _, rfl, rfl, rfl⟩ ?_
                  refine js_Ss rfl rfl ⟨_, _, _, rfl, rfl, rfl⟩ ?_
                  refine js_Ss rfl rfl ⟨_, _, _, rfl, rfl, rfl⟩ ?_
                  refine js_Ss rfl rfl ⟨_, _, _, rfl, rfl, rfl⟩ ?_
                  refine js_Rs rfl rfl ⟨_, _, _, rfl, rfl, rfl⟩ ?_
                  refine js_Os rfl rfl ⟨_, _, _, rfl, rfl, rfl⟩ ?_
                  refine js_Ss rfl rfl ⟨_, _, _, rfl, rfl, rfl⟩ ?_
                  refine js_S rfl rfl (.inl rfl) (xv_pick rfl rfl ⟨rfl, rfl⟩) ?_
                  refine j_end0 ?_
                  refine th_n ?_
                  refine xc_true rfl ?_
                  refine xc_seq (xc_region ?_)
                  refine xr_op rfl rfl (xv_assign rfl ?_)
                  refine xr_end rfl ?_
                  refine th_n ?_
                  refine xc_ret ?_
                  refine th_r ?_
                  refine bk_r ?_
                  refine th_r ?_
                  refine th_r ?_
                  refine bk_r ?_
                  refine th_r ?_
                  refine body_ret (h' := h) rfl (ro_tmp rfl ro_nil) Su_ ?_
                  first | exact H2 (fun hg => by have := hg.n1; have := hg.n6; have := hg.s4; have := hg.s6; (first|omega|(dsimp only at *;omega)|(simp at *;omega))) | exact H2 (fun hg => by have := hg.stock xo (List.mem_of_getElem? hko); unfold tonsOk at this; (first|omega|(dsimp only at *;omega)|(simp at *;omega))) | exact H2 (fun hg => by have hn1 := hn0 hg; obtain ⟨g1, g2, g3, g4, g5, g6⟩ := hg.stills k xo hko; (first|omega|(dsimp only at *;omega)|(simp at *;omega))) | exact H2 (fun hg => hso ((hg.stills k xo hko).2.2.2.2.2 i xe hke).1) | exact H2 (fun hg => by rcases ((hg.stills k xo hko).2.2.2.2.2 i xe hke).2 with h1 | h1 <;> first | (first|omega|(dsimp only at *;omega)|(simp at *;omega)) | simp_all) | exact H2 (fun hg => by have := hg.sales xo (List.mem_of_getElem? hko); unfold saleOk at this; (first|omega|(dsimp only at *;omega)|(simp at *;omega))) | exact H1 ⟨by (first|omega|(dsimp only at *;omega)|(simp at *;omega)), by (first|omega|(dsimp only at *;omega)|(simp at *;omega)), by (first|omega|(dsimp only at *;omega)|(simp at *;omega)), by (first|omega|(dsimp only at *;omega)|(simp at *;omega)), hst, fun j q hq => hsti j q (List.getElem?_eq_some_iff.1 hq).1 hq, hsa⟩
                · refine js_S rfl rfl (.inl rfl) (xv_pick rfl rfl ⟨rfl, rfl⟩) ?_
                  refine js_S rfl rfl (.inl rfl) (xv_move rfl ⟨rfl, rfl⟩) ?_
                  refine js_S rfl rfl (.inr ⟨_, _, rfl, rfl⟩) (xv_faddr fl48_3 rfl ⟨rfl, rfl⟩) ?_
                  refine js_R0 rfl rfl (.inr ⟨_, _, rfl, rfl⟩) (xv_load1 ty3 rfl rfl Me_ (by rfl) ⟨rfl, rfl⟩) ?_
                  refine js_O0 rfl rfl (.inr ⟨_, _, rfl, rfl⟩) (xv_calls rfl hb32 (in_c _ _ _ (fun hl17 hu18 => up_ret ?_) (fun hn19 => up_ret ?_)))
                  · refine js_S rfl rfl (.inr ⟨_, _, rfl, rfl⟩) (xv_not rfl ⟨rfl, rfl⟩) ?_
                    refine js_S rfl rfl (.inl rfl) (xv_pick rfl rfl ⟨rfl, rfl⟩) ?_
                    refine js_S rfl rfl (.inl rfl) (xv_move rfl ⟨rfl, rfl⟩) ?_
                    refine js_S rfl rfl (.inr ⟨_, _, rfl, rfl⟩) (xv_faddr fl48_4 rfl ⟨rfl, rfl⟩) ?_
                    refine js_R0 rfl rfl (.inr ⟨_, _, rfl, rfl⟩) (xv_load1 ty3 rfl rfl Me_ (by rfl) ⟨rfl, rfl⟩) ?_
                    refine js_O0 rfl rfl (.inr ⟨_, _, rfl, rfl⟩) (xv_calls rfl hb32 (in_c _ _ _ (fun hl20 hu21 => up_ret ?_) (fun hn22 => up_ret ?_)))
                    · refine js_S rfl rfl (.inr ⟨_, _, rfl, rfl⟩) (xv_not rfl ⟨rfl, rfl⟩) ?_
                      refine js_S rfl rfl (.inl rfl) (xv_pick rfl rfl ⟨rfl, rfl⟩) ?_
                      refine js_S rfl rfl (.inl rfl) (xv_move rfl ⟨rfl, rfl⟩) ?_
                      refine js_S rfl rfl (.inr ⟨_, _, rfl, rfl⟩) (xv_move rfl ⟨rfl, rfl⟩) ?_
                      refine js_O0 rfl rfl (.inr ⟨_, _, rfl, rfl⟩) (xv_gtr2 rfl rfl (fun hq => ?_) (fun hq => ?_))
                      · refine js_S rfl rfl (.inr ⟨_, _, rfl, rfl⟩) (xv_move rfl ⟨rfl, rfl⟩) ?_
                        refine js_S rfl rfl (.inr ⟨_, _, rfl, rfl⟩) (xv_faddr fl48_0 rfl ⟨rfl, rfl⟩) ?_
                        refine js_R0 rfl rfl (.inr ⟨_, _, rfl, rfl⟩) (xv_load1 ty3 rfl rfl Me_ (by rfl) ⟨rfl, rfl⟩) ?_
                        have hltp : (k - 1) < y.stills.length := by omega
                        obtain ⟨bp, op, lp, tp, fzp, hap, hmp, hxp⟩ := (hv.stills).at hltp
                        obtain ⟨xp, hkp⟩ : ∃ qq_, y.stills[(k - 1)]? = some qq_ := ⟨_, List.getElem?_eq_getElem hltp⟩
                        have hla : lastAt y.stills k = xp.in_ := by rw [show k = (k - 1) + 1 by (first|omega|(dsimp only at *;omega)|(simp at *;omega))]; exact lastAt_succ hkp
                        refine js_S rfl rfl (.inr ⟨_, _, rfl, rfl⟩) (xv_faddr fl26_1 rfl ⟨rfl, rfl⟩) ?_
                        refine js_R0 rfl rfl (.inr ⟨_, _, rfl, rfl⟩) (xv_load1 ty23 rfl rfl Me_ (by rfl) ⟨rfl, rfl⟩) ?_
                        refine js_S rfl rfl (.inr ⟨_, _, rfl, rfl⟩) (xv_move rfl ⟨rfl, rfl⟩) ?_
                        refine js_S rfl rfl (.inr ⟨_, _, rfl, rfl⟩) (xv_sub rfl rfl (wrap_i64 Om_ Om_) ⟨rfl, rfl⟩) ?_
                        refine js_S rfl rfl (.inr ⟨_, _, rfl, rfl⟩) (xv_ia (sz := 5) (j := k - 1) sl23 ty48 rfl (by rw [hap]; rfl) rfl Om_ Om_ Om_ ⟨rfl, rfl⟩) ?_
                        refine js_S rfl rfl (.inr ⟨_, _, rfl, rfl⟩) (xv_faddr fl48_0 rfl ⟨rfl, rfl⟩) ?_
                        refine js_R0 rfl rfl (.inr ⟨_, _, rfl, rfl⟩) (xv_load1 ty3 rfl rfl Me_ (take_get (hxp ((k - 1)) xp hkp) (j := 0) rfl) ⟨rfl, rfl⟩) ?_
                        refine js_O0 rfl rfl (.inr ⟨_, _, rfl, rfl⟩) (xv_lss2 rfl rfl (fun hq => ?_) (fun hq => ?_))
                        · refine js_S rfl rfl (.inr ⟨_, _, rfl, rfl⟩) (xv_pick rfl rfl ⟨rfl, rfl⟩) ?_
                          refine js_S rfl rfl (.inl rfl) (xv_pick rfl rfl ⟨rfl, rfl⟩) ?_
                          refine j_end0 ?_
                          refine th_n ?_
                          refine xc_true rfl ?_
                          refine xc_seq (xc_region ?_)
                          refine xr_op rfl rfl (xv_assign rfl ?_)
                          refine xr_end rfl ?_
                          refine th_n ?_
                          refine xc_ret ?_
                          refine th_r ?_
                          refine bk_r ?_
                          refine th_r ?_
                          refine th_r ?_
                          refine bk_r ?_
                          refine th_r ?_
                          refine body_ret (h' := h) rfl (ro_tmp rfl ro_nil) Su_ ?_
                          first | exact H2 (fun hg => by have := hg.n1; have := hg.n6; have := hg.s4; have := hg.s6; (first|omega|(dsimp only at *;omega)|(simp at *;omega))) | exact H2 (fun hg => by have := hg.stock xo (List.mem_of_getElem? hko); unfold tonsOk at this; (first|omega|(dsimp only at *;omega)|(simp at *;omega))) | exact H2 (fun hg => by have hn1 := hn0 hg; obtain ⟨g1, g2, g3, g4, g5, g6⟩ := hg.stills k xo hko; (first|omega|(dsimp only at *;omega)|(simp at *;omega))) | exact H2 (fun hg => hso ((hg.stills k xo hko).2.2.2.2.2 i xe hke).1) | exact H2 (fun hg => by rcases ((hg.stills k xo hko).2.2.2.2.2 i xe hke).2 with h1 | h1 <;> first | (first|omega|(dsimp only at *;omega)|(simp at *;omega)) | simp_all) | exact H2 (fun hg => by have := hg.sales xo (List.mem_of_getElem? hko); unfold saleOk at this; (first|omega|(dsimp only at *;omega)|(simp at *;omega))) | exact H1 ⟨by (first|omega|(dsimp only at *;omega)|(simp at *;omega)), by (first|omega|(dsimp only at *;omega)|(simp at *;omega)), by (first|omega|(dsimp only at *;omega)|(simp at *;omega)), by (first|omega|(dsimp only at *;omega)|(simp at *;omega)), hst, fun j q hq => hsti j q (List.getElem?_eq_some_iff.1 hq).1 hq, hsa⟩
                        · refine js_S rfl rfl (.inr ⟨_, _, rfl, rfl⟩) (xv_pick rfl rfl ⟨rfl, rfl⟩) ?_
                          refine js_S rfl rfl (.inl rfl) (xv_pick rfl rfl ⟨rfl, rfl⟩) ?_
                          refine j_end0 ?_
                          refine th_n ?_
                          refine xc_false rfl ?_
                          refine xc_skip ?_
                          refine th_n ?_
                          refine xc_seq (xc_region ?_)
                          refine xr_op rfl rfl (xv_assign rfl ?_)
                          refine xr_end rfl ?_
                          refine th_n ?_
                          refine xc_block ?_
                          have hol : xo.out.length = y.stock.length := by (first|omega|(dsimp only at *;omega)|(simp at *;omega))
                          refine xc_loop (σ := Nat) (fun i => i ≤ y.stock.length ∧ OU xo i) (fun i => (((((emp.put (some 1) (.pointer (some ⟨b1, 0, none⟩))).put (some 3) (I y.stock.length)).put (some 5) (I k)).put (some 6) (.pointer (some ⟨b6, 0, none⟩))).put (some 7) (I i))) (fun i => ((b6, .cells ⟨eStill xo⟩ 37) :: (b1, .cells ⟨eYard y⟩ 30) :: h)) (fun i => y.stock.length - i) 0 ⟨Nat.zero_le _, OU.zero⟩ (le_put (le_put (le_put (le_put (le_put (le_emp _) rfl) rfl) rfl) rfl) rfl) Su_ ?_
                          rintro i ⟨hi, hou⟩
                          refine xc_seq ?_
                          refine xc_seq (xc_region ?_)
                          refine xr_op rfl rfl (xv_move rfl ?_)
                          refine xr_op rfl rfl (xv_move rfl ?_)
                          refine xr_op rfl rfl (xv_lss2 rfl rfl (fun q23 => ?_) (fun q23 => ?_))
                          · refine xr_end rfl ?_
                            refine th_n ?_
                            refine xc_true rfl ?_
                            refine xc_skip ?_
                            refine th_n ?_
                            refine xc_seq ?_
                            refine xc_block ?_
                            refine xc_seq (xc_region ?_)
                            refine xr_op rfl rfl (xv_faddr fl48_2 rfl ?_)
                            refine xr_op rfl rfl (xv_load1 ty35 rfl rfl Me_ (by rfl) ?_)
                            have hlte : i < xo.out.length := by (first|omega|(dsimp only at *;omega)|(simp at *;omega))
                            obtain ⟨be, oe, le, te, fze, hae, hme, hxe⟩ := (hv.out xo (List.mem_of_getElem? hko)).at hlte
                            obtain ⟨xe, hke⟩ : ∃ qq_, xo.out[i]? = some qq_ := ⟨_, List.getElem?_eq_getElem hlte⟩
                            refine xr_op rfl rfl (xv_move rfl ?_)
                            refine xr_op rfl rfl (xv_ia (sz := 2) (j := i) sl35 ty41 rfl (by rw [hae]; rfl) rfl Ix_ Om_ Om_ ?_)
                            refine xr_op rfl rfl (xv_loadA ty41 rfl rfl Me_ (hxe (i) xe hke) rfl ?_)
                            refine xr_op rfl rfl (xv_calls rfl hb39 (refspan_c _ _ (fun hso => up_ret ?_) (fun hso => up_ret ?_)))
                            · refine xr_op rfl rfl (xv_not rfl ?_)
                              refine xr_op rfl rfl (xv_move rfl ?_)
                              refine xr_gd rfl rfl rfl (xv_move rfl ?_)
                              refine xr_gd rfl rfl rfl (xv_faddr fl48_0 rfl ?_)
                              refine xr_gd rfl rfl rfl (xv_load1 ty3 rfl rfl Me_ (by rfl) ?_)
                              refine xr_gd rfl rfl rfl (xv_leq2 rfl rfl (fun q24 => ?_) (fun q24 => ?_))
                              · refine xr_gd rfl rfl rfl (xv_move rfl ?_)
                                refine xr_gd rfl rfl rfl (xv_faddr fl48_2 rfl ?_)
                                refine xr_gd rfl rfl rfl (xv_load1 ty35 rfl rfl Me_ (by rfl) ?_)
                                refine xr_gd rfl rfl rfl (xv_move rfl ?_)
                                refine xr_gd rfl rfl rfl (xv_ia (sz := 2) (j := i) sl35 ty41 rfl (by rw [hae]; rfl) rfl Ix_ Om_ Om_ ?_)
                                refine xr_gd rfl rfl rfl (xv_loadA ty41 rfl rfl Me_ (hxe (i) xe hke) rfl ?_)
                                refine xr_gd rfl rfl rfl (xv_build bt41 rfl Ev_ ?_)
                                refine xr_gd rfl rfl rfl (xv_neA (b := !decide (xe = ⟨0, 0⟩)) fq41 rfl eg41 rfl rfl rfl rfl Nums_ Nums_ (congrArg Bool.not (eqc_zero xe)) ?_)
                                refine xr_gd rfl rfl rfl (xv_pick rfl rfl ?_)
                                refine xr_op rfl rfl (xv_pick rfl rfl ?_)
                                refine xr_end rfl ?_
                                refine th_n ?_
                                refine xc_bool rfl (fun q25 => ?_) (fun q25 => ?_)
                                · refine xc_seq (xc_region ?_)
                                  refine xr_op rfl rfl (xv_assign rfl ?_)
                                  refine xr_end rfl ?_
                                  refine th_n ?_
                                  refine xc_ret ?_
                                  refine bk_r ?_
                                  refine th_r ?_
                                  refine th_r ?_
                                  refine bk_r ?_
                                  refine bk_r ?_
                                  refine th_r ?_
                                  refine th_r ?_
                                  refine bk_r ?_
                                  refine th_r ?_
                                  refine body_ret (h' := h) rfl (ro_tmp rfl ro_nil) Su_ ?_
                                  first | exact H2 (fun hg => by have := hg.n1; have := hg.n6; have := hg.s4; have := hg.s6; (first|omega|(dsimp only at *;omega)|(simp at *;omega))) | exact H2 (fun hg => by have := hg.stock xo (List.mem_of_getElem? hko); unfold tonsOk at this; (first|omega|(dsimp only at *;omega)|(simp at *;omega))) | exact H2 (fun hg => by have hn1 := hn0 hg; obtain ⟨g1, g2, g3, g4, g5, g6⟩ := hg.stills k xo hko; (first|omega|(dsimp only at *;omega)|(simp at *;omega))) | exact H2 (fun hg => hso ((hg.stills k xo hko).2.2.2.2.2 i xe hke).1) | exact H2 (fun hg => by rcases ((hg.stills k xo hko).2.2.2.2.2 i xe hke).2 with h1 | h1 <;> first | (first|omega|(dsimp only at *;omega)|(simp at *;omega)) | simp_all) | exact H2 (fun hg => by have := hg.sales xo (List.mem_of_getElem? hko); unfold saleOk at this; (first|omega|(dsimp only at *;omega)|(simp at *;omega))) | exact H1 ⟨by (first|omega|(dsimp only at *;omega)|(simp at *;omega)), by (first|omega|(dsimp only at *;omega)|(simp at *;omega)), by (first|omega|(dsimp only at *;omega)|(simp at *;omega)), by (first|omega|(dsimp only at *;omega)|(simp at *;omega)), hst, fun j q hq => hsti j q (List.getElem?_eq_some_iff.1 hq).1 hq, hsa⟩
                                · refine xc_skip ?_
                                  refine bk_n ?_
                                  refine th_n ?_
                                  refine xc_region ?_
                                  refine xr_op rfl rfl (xv_move rfl ?_)
                                  refine xr_op rfl rfl (xv_add rfl rfl (wrap_i64 Om_ Om_) ?_)
                                  refine xr_op rfl rfl (xv_assign rfl ?_)
                                  refine xr_end rfl ?_
                                  exact rnd (i + 1) ⟨by (first|omega|(dsimp only at *;omega)|(simp at *;omega)), (OU.succ hke).2 ⟨hou, hso, by first | exact .inl Om_ | (refine .inr ?_; simpa using (by assumption : (!decide (xe = ⟨0, 0⟩)) = false))⟩⟩ Om_ (le_put (le_put (le_put (le_put (le_put (le_emp _) rfl) rfl) rfl) rfl) rfl) Su_
                              · refine xr_gd rfl rfl rfl (xv_move rfl ?_)
                                refine xr_no rfl rfl rfl rfl ?_
                                refine xr_no rfl rfl rfl rfl ?_
                                refine xr_no rfl rfl rfl rfl ?_
                                refine xr_no rfl rfl rfl rfl ?_
                                refine xr_no rfl rfl rfl rfl ?_
                                refine xr_no rfl rfl rfl rfl ?_
                                refine xr_no rfl rfl rfl rfl ?_
                                refine xr_gd rfl rfl rfl (xv_pick rfl rfl ?_)
                                refine xr_op rfl rfl (xv_pick rfl rfl ?_)
                                refine xr_end rfl ?_
                                refine th_n ?_
                                refine xc_false rfl ?_
                                refine xc_skip ?_
                                refine bk_n ?_
                                refine th_n ?_
                                refine xc_region ?_
                                refine xr_op rfl rfl (xv_move rfl ?_)
                                refine xr_op rfl rfl (xv_add rfl rfl (wrap_i64 Om_ Om_) ?_)
                                refine xr_op rfl rfl (xv_assign rfl ?_)
                                refine xr_end rfl ?_
                                exact rnd (i + 1) ⟨by (first|omega|(dsimp only at *;omega)|(simp at *;omega)), (OU.succ hke).2 ⟨hou, hso, by first | exact .inl Om_ | (refine .inr ?_; simpa using (by assumption : (!decide (xe = ⟨0, 0⟩)) = false))⟩⟩ Om_ (le_put (le_put (le_put (le_put (le_put (le_emp _) rfl) rfl) rfl) rfl) rfl) Su_
                            · refine xr_op rfl rfl (xv_not rfl ?_)
                              refine xr_op rfl rfl (xv_move rfl ?_)
                              refine xr_no rfl rfl rfl rfl ?_
                              refine xr_no rfl rfl rfl rfl ?_
                              refine xr_no rfl rfl rfl rfl ?_
                              refine xr_no rfl rfl rfl rfl ?_
                              refine xr_no rfl rfl rfl rfl ?_
                              refine xr_nu rfl rfl rfl ?_
                              refine xr_nu rfl rfl rfl ?_
                              refine xr_nu rfl rfl rfl ?_
                              refine xr_nu rfl rfl rfl ?_
                              refine xr_nu rfl rfl rfl ?_
                              refine xr_nu rfl rfl rfl ?_
                              refine xr_nu rfl rfl rfl ?_
                              refine xr_no rfl rfl rfl rfl ?_
                              refine xr_op rfl rfl (xv_pick rfl rfl ?_)
                              refine xr_end rfl ?_
                              refine th_n ?_
                              refine xc_true rfl ?_
                              refine xc_seq (xc_region ?_)
                              refine xr_op rfl rfl (xv_assign rfl ?_)
                              refine xr_end rfl ?_
                              refine th_n ?_
                              refine xc_ret ?_
                              refine bk_r ?_
                              refine th_r ?_
                              refine th_r ?_
                              refine bk_r ?_
                              refine bk_r ?_
                              refine th_r ?_
                              refine th_r ?_
                              refine bk_r ?_
                              refine th_r ?_
                              refine body_ret (h' := h) rfl (ro_tmp rfl ro_nil) Su_ ?_
                              first | exact H2 (fun hg => by have := hg.n1; have := hg.n6; have := hg.s4; have := hg.s6; (first|omega|(dsimp only at *;omega)|(simp at *;omega))) | exact H2 (fun hg => by have := hg.stock xo (List.mem_of_getElem? hko); unfold tonsOk at this; (first|omega|(dsimp only at *;omega)|(simp at *;omega))) | exact H2 (fun hg => by have hn1 := hn0 hg; obtain ⟨g1, g2, g3, g4, g5, g6⟩ := hg.stills k xo hko; (first|omega|(dsimp only at *;omega)|(simp at *;omega))) | exact H2 (fun hg => hso ((hg.stills k xo hko).2.2.2.2.2 i xe hke).1) | exact H2 (fun hg => by rcases ((hg.stills k xo hko).2.2.2.2.2 i xe hke).2 with h1 | h1 <;> first | (first|omega|(dsimp only at *;omega)|(simp at *;omega)) | simp_all) | exact H2 (fun hg => by have := hg.sales xo (List.mem_of_getElem? hko); unfold saleOk at this; (first|omega|(dsimp only at *;omega)|(simp at *;omega))) | exact H1 ⟨by (first|omega|(dsimp only at *;omega)|(simp at *;omega)), by (first|omega|(dsimp only at *;omega)|(simp at *;omega)), by (first|omega|(dsimp only at *;omega)|(simp at *;omega)), by (first|omega|(dsimp only at *;omega)|(simp at *;omega)), hst, fun j q hq => hsti j q (List.getElem?_eq_some_iff.1 hq).1 hq, hsa⟩
                          · refine xr_end rfl ?_
                            refine th_n ?_
                            refine xc_false rfl ?_
                            refine xc_exit ?_
                            refine th_x ?_
                            refine th_x ?_
                            refine bk_same ?_
                            refine bk_n ?_
                            refine th_n ?_
                            refine xc_region ?_
                            obtain rfl : i = y.stock.length := by (first|omega|(dsimp only at *;omega)|(simp at *;omega))
                            refine xr_op rfl rfl (xv_move rfl ?_)
                            refine xr_op rfl rfl (xv_add rfl rfl (wrap_i64 Om_ Om_) ?_)
                            refine xr_op rfl rfl (xv_assign rfl ?_)
                            refine xr_end rfl ?_
                            exact rnd (k + 1) ⟨by (first|omega|(dsimp only at *;omega)|(simp at *;omega)), fun j q hj hjq => by
                              rcases Nat.lt_succ_iff_lt_or_eq.1 hj with hj | rfl
                              · exact hsti j q hj hjq
                              · rw [hko] at hjq; cases hjq; exact ⟨by (first|omega|(dsimp only at *;omega)|(simp at *;omega)), by (first|omega|(dsimp only at *;omega)|(simp at *;omega)), by (first|omega|(dsimp only at *;omega)|(simp at *;omega)), by (first|omega|(dsimp only at *;omega)|(simp at *;omega)), by (first|omega|(dsimp only at *;omega)|(simp at *;omega)), fun i s hs => hou i s (by have := (List.getElem?_eq_some_iff.1 hs).1; (first|omega|(dsimp only at *;omega)|(simp at *;omega))) hs⟩⟩ Om_ (le_put (le_put (le_put (le_emp _) rfl) rfl) rfl) Su_
                      · refine js_S rfl rfl (.inr ⟨_, _, rfl, rfl⟩) (xv_move rfl ⟨rfl, rfl⟩) ?_
                        refine js_Ss rfl rfl ⟨_, _, _, rfl, rfl, rfl⟩ ?_
                        refine js_Rs rfl rfl ⟨_, _, _, rfl, rfl, rfl⟩ ?_
                        refine js_Ss rfl rfl ⟨_, _, _, rfl, rfl, rfl⟩ ?_
                        refine js_Rs rfl rfl ⟨_, _, _, rfl, rfl, rfl⟩ ?_
                        refine js_Ss rfl rfl ⟨_, _, _, rfl, rfl, rfl⟩ ?_
                        refine js_Ss rfl rfl ⟨_, _, _, rfl, rfl, rfl⟩ ?_
                        refine js_Ss rfl rfl ⟨_, _, _, rfl, rfl, rfl⟩ ?_
                        refine js_Ss rfl rfl ⟨_, _, _, rfl, rfl, rfl⟩ ?_
                        refine js_Rs rfl rfl ⟨_, _, _, rfl, rfl, rfl⟩ ?_
                        refine js_Os rfl rfl ⟨_, _, _, rfl, rfl, rfl⟩ ?_
                        refine js_S rfl rfl (.inr ⟨_, _, rfl, rfl⟩) (xv_pick rfl rfl ⟨rfl, rfl⟩) ?_
                        refine js_S rfl rfl (.inl rfl) (xv_pick rfl rfl ⟨rfl, rfl⟩) ?_
                        refine j_end0 ?_
                        refine th_n ?_
                        refine xc_false rfl ?_
                        refine xc_skip ?_
                        refine th_n ?_
                        refine xc_seq (xc_region ?_)
                        refine xr_op rfl rfl (xv_assign rfl ?_)
                        refine xr_end rfl ?_
                        refine th_n ?_
                        refine xc_block ?_
                        have hol : xo.out.length = y.stock.length := by (first|omega|(dsimp only at *;omega)|(simp at *;omega))
                        refine xc_loop (σ := Nat) (fun i => i ≤ y.stock.length ∧ OU xo i) (fun i => (((((emp.put (some 1) (.pointer (some ⟨b1, 0, none⟩))).put (some 3) (I y.stock.length)).put (some 5) (I k)).put (some 6) (.pointer (some ⟨b6, 0, none⟩))).put (some 7) (I i))) (fun i => ((b6, .cells ⟨eStill xo⟩ 37) :: (b1, .cells ⟨eYard y⟩ 30) :: h)) (fun i => y.stock.length - i) 0 ⟨Nat.zero_le _, OU.zero⟩ (le_put (le_put (le_put (le_put (le_put (le_emp _) rfl) rfl) rfl) rfl) rfl) Su_ ?_
                        rintro i ⟨hi, hou⟩
                        refine xc_seq ?_
                        refine xc_seq (xc_region ?_)
                        refine xr_op rfl rfl (xv_move rfl ?_)
                        refine xr_op rfl rfl (xv_move rfl ?_)
                        refine xr_op rfl rfl (xv_lss2 rfl rfl (fun q26 => ?_) (fun q26 => ?_))
                        · refine xr_end rfl ?_
                          refine th_n ?_
                          refine xc_true rfl ?_
                          refine xc_skip ?_
                          refine th_n ?_
                          refine xc_seq ?_
                          refine xc_block ?_
                          refine xc_seq (xc_region ?_)
                          refine xr_op rfl rfl (xv_faddr fl48_2 rfl ?_)
                          refine xr_op rfl rfl (xv_load1 ty35 rfl rfl Me_ (by rfl) ?_)
                          have hlte : i < xo.out.length := by (first|omega|(dsimp only at *;omega)|(simp at *;omega))
                          obtain ⟨be, oe, le, te, fze, hae, hme, hxe⟩ := (hv.out xo (List.mem_of_getElem? hko)).at hlte
                          obtain ⟨xe, hke⟩ : ∃ qq_, xo.out[i]? = some qq_ := ⟨_, List.getElem?_eq_getElem hlte⟩
                          refine xr_op rfl rfl (xv_move rfl ?_)
                          refine xr_op rfl rfl (xv_ia (sz := 2) (j := i) sl35 ty41 rfl (by rw [hae]; rfl) rfl Ix_ Om_ Om_ ?_)
                          refine xr_op rfl rfl (xv_loadA ty41 rfl rfl Me_ (hxe (i) xe hke) rfl ?_)
                          refine xr_op rfl rfl (xv_calls rfl hb39 (refspan_c _ _ (fun hso => up_ret ?_) (fun hso => up_ret ?_)))
                          · refine xr_op rfl rfl (xv_not rfl ?_)
                            refine xr_op rfl rfl (xv_move rfl ?_)
                            refine xr_gd rfl rfl rfl (xv_move rfl ?_)
                            refine xr_gd rfl rfl rfl (xv_faddr fl48_0 rfl ?_)
                            refine xr_gd rfl rfl rfl (xv_load1 ty3 rfl rfl Me_ (by rfl) ?_)
                            refine xr_gd rfl rfl rfl (xv_leq2 rfl rfl (fun q27 => ?_) (fun q27 => ?_))
                            · refine xr_gd rfl rfl rfl (xv_move rfl ?_)
                              refine xr_gd rfl rfl rfl (xv_faddr fl48_2 rfl ?_)
                              refine xr_gd rfl rfl rfl (xv_load1 ty35 rfl rfl Me_ (by rfl) ?_)
                              refine xr_gd rfl rfl rfl (xv_move rfl ?_)
                              refine xr_gd rfl rfl rfl (xv_ia (sz := 2) (j := i) sl35 ty41 rfl (by rw [hae]; rfl) rfl Ix_ Om_ Om_ ?_)
                              refine xr_gd rfl rfl rfl (xv_loadA ty41 rfl rfl Me_ (hxe (i) xe hke) rfl ?_)
                              refine xr_gd rfl rfl rfl (xv_build bt41 rfl Ev_ ?_)
                              refine xr_gd rfl rfl rfl (xv_neA (b := !decide (xe = ⟨0, 0⟩)) fq41 rfl eg41 rfl rfl rfl rfl Nums_ Nums_ (congrArg Bool.not (eqc_zero xe)) ?_)
                              refine xr_gd rfl rfl rfl (xv_pick rfl rfl ?_)
                              refine xr_op rfl rfl (xv_pick rfl rfl ?_)
                              refine xr_end rfl ?_
                              refine th_n ?_
                              refine xc_bool rfl (fun q28 => ?_) (fun q28 => ?_)
                              · refine xc_seq (xc_region ?_)
                                refine xr_op rfl rfl (xv_assign rfl ?_)
                                refine xr_end rfl ?_
                                refine th_n ?_
                                refine xc_ret ?_
                                refine bk_r ?_
                                refine th_r ?_
                                refine th_r ?_
                                refine bk_r ?_
                                refine bk_r ?_
                                refine th_r ?_
                                refine th_r ?_
                                refine bk_r ?_
                                refine th_r ?_
                                refine body_ret (h' := h) rfl (ro_tmp rfl ro_nil) Su_ ?_
                                first | exact H2 (fun hg => by have := hg.n1; have := hg.n6; have := hg.s4; have := hg.s6; (first|omega|(dsimp only at *;omega)|(simp at *;omega))) | exact H2 (fun hg => by have := hg.stock xo (List.mem_of_getElem? hko); unfold tonsOk at this; (first|omega|(dsimp only at *;omega)|(simp at *;omega))) | exact H2 (fun hg => by have hn1 := hn0 hg; obtain ⟨g1, g2, g3, g4, g5, g6⟩ := hg.stills k xo hko; (first|omega|(dsimp only at *;omega)|(simp at *;omega))) | exact H2 (fun hg => hso ((hg.stills k xo hko).2.2.2.2.2 i xe hke).1) | exact H2 (fun hg => by rcases ((hg.stills k xo hko).2.2.2.2.2 i xe hke).2 with h1 | h1 <;> first | (first|omega|(dsimp only at *;omega)|(simp at *;omega)) | simp_all) | exact H2 (fun hg => by have := hg.sales xo (List.mem_of_getElem? hko); unfold saleOk at this; (first|omega|(dsimp only at *;omega)|(simp at *;omega))) | exact H1 ⟨by (first|omega|(dsimp only at *;omega)|(simp at *;omega)), by (first|omega|(dsimp only at *;omega)|(simp at *;omega)), by (first|omega|(dsimp only at *;omega)|(simp at *;omega)), by (first|omega|(dsimp only at *;omega)|(simp at *;omega)), hst, fun j q hq => hsti j q (List.getElem?_eq_some_iff.1 hq).1 hq, hsa⟩
                              · refine xc_skip ?_
                                refine bk_n ?_
                                refine th_n ?_
                                refine xc_region ?_
                                refine xr_op rfl rfl (xv_move rfl ?_)
                                refine xr_op rfl rfl (xv_add rfl rfl (wrap_i64 Om_ Om_) ?_)
                                refine xr_op rfl rfl (xv_assign rfl ?_)
                                refine xr_end rfl ?_
                                exact rnd (i + 1) ⟨by (first|omega|(dsimp only at *;omega)|(simp at *;omega)), (OU.succ hke).2 ⟨hou, hso, by first | exact .inl Om_ | (refine .inr ?_; simpa using (by assumption : (!decide (xe = ⟨0, 0⟩)) = false))⟩⟩ Om_ (le_put (le_put (le_put (le_put (le_put (le_emp _) rfl) rfl) rfl) rfl) rfl) Su_
                            · refine xr_gd rfl rfl rfl (xv_move rfl ?_)
                              refine xr_no rfl rfl rfl rfl ?_
                              refine xr_no rfl rfl rfl rfl ?_
                              refine xr_no rfl rfl rfl rfl ?_
                              refine xr_no rfl rfl rfl rfl ?_
                              refine xr_no rfl rfl rfl rfl ?_
                              refine xr_no rfl rfl rfl rfl ?_
                              refine xr_no rfl rfl rfl rfl ?_
                              refine xr_gd rfl rfl rfl (xv_pick rfl rfl ?_)
                              refine xr_op rfl rfl (xv_pick rfl rfl ?_)
                              refine xr_end rfl ?_
                              refine th_n ?_
                              refine xc_false rfl ?_
                              refine xc_skip ?_
                              refine bk_n ?_
                              refine th_n ?_
                              refine xc_region ?_
                              refine xr_op rfl rfl (xv_move rfl ?_)
                              refine xr_op rfl rfl (xv_add rfl rfl (wrap_i64 Om_ Om_) ?_)
                              refine xr_op rfl rfl (xv_assign rfl ?_)
                              refine xr_end rfl ?_
                              exact rnd (i + 1) ⟨by (first|omega|(dsimp only at *;omega)|(simp at *;omega)), (OU.succ hke).2 ⟨hou, hso, by first | exact .inl Om_ | (refine .inr ?_; simpa using (by assumption : (!decide (xe = ⟨0, 0⟩)) = false))⟩⟩ Om_ (le_put (le_put (le_put (le_put (le_put (le_emp _) rfl) rfl) rfl) rfl) rfl) Su_
                          · refine xr_op rfl rfl (xv_not rfl ?_)
                            refine xr_op rfl rfl (xv_move rfl ?_)
                            refine xr_no rfl rfl rfl rfl ?_
                            refine xr_no rfl rfl rfl rfl ?_
                            refine xr_no rfl rfl rfl rfl ?_
                            refine xr_no rfl rfl rfl rfl ?_
                            refine xr_no rfl rfl rfl rfl ?_
                            refine xr_nu rfl rfl rfl ?_
                            refine xr_nu rfl rfl rfl ?_
                            refine xr_nu rfl rfl rfl ?_
                            refine xr_nu rfl rfl rfl ?_
                            refine xr_nu rfl rfl rfl ?_
                            refine xr_nu rfl rfl rfl ?_
                            refine xr_nu rfl rfl rfl ?_
                            refine xr_no rfl rfl rfl rfl ?_
                            refine xr_op rfl rfl (xv_pick rfl rfl ?_)
                            refine xr_end rfl ?_
                            refine th_n ?_
                            refine xc_true rfl ?_
                            refine xc_seq (xc_region ?_)
                            refine xr_op rfl rfl (xv_assign rfl ?_)
                            refine xr_end rfl ?_
                            refine th_n ?_
                            refine xc_ret ?_
                            refine bk_r ?_
                            refine th_r ?_
                            refine th_r ?_
                            refine bk_r ?_
                            refine bk_r ?_
                            refine th_r ?_
                            refine th_r ?_
                            refine bk_r ?_
                            refine th_r ?_
                            refine body_ret (h' := h) rfl (ro_tmp rfl ro_nil) Su_ ?_
                            first | exact H2 (fun hg => by have := hg.n1; have := hg.n6; have := hg.s4; have := hg.s6; (first|omega|(dsimp only at *;omega)|(simp at *;omega))) | exact H2 (fun hg => by have := hg.stock xo (List.mem_of_getElem? hko); unfold tonsOk at this; (first|omega|(dsimp only at *;omega)|(simp at *;omega))) | exact H2 (fun hg => by have hn1 := hn0 hg; obtain ⟨g1, g2, g3, g4, g5, g6⟩ := hg.stills k xo hko; (first|omega|(dsimp only at *;omega)|(simp at *;omega))) | exact H2 (fun hg => hso ((hg.stills k xo hko).2.2.2.2.2 i xe hke).1) | exact H2 (fun hg => by rcases ((hg.stills k xo hko).2.2.2.2.2 i xe hke).2 with h1 | h1 <;> first | (first|omega|(dsimp only at *;omega)|(simp at *;omega)) | simp_all) | exact H2 (fun hg => by have := hg.sales xo (List.mem_of_getElem? hko); unfold saleOk at this; (first|omega|(dsimp only at *;omega)|(simp at *;omega))) | exact H1 ⟨by (first|omega|(dsimp only at *;omega)|(simp at *;omega)), by (first|omega|(dsimp only at *;omega)|(simp at *;omega)), by (first|omega|(dsimp only at *;omega)|(simp at *;omega)), by (first|omega|(dsimp only at *;omega)|(simp at *;omega)), hst, fun j q hq => hsti j q (List.getElem?_eq_some_iff.1 hq).1 hq, hsa⟩
                        · refine xr_end rfl ?_
                          refine th_n ?_
                          refine xc_false rfl ?_
                          refine xc_exit ?_
                          refine th_x ?_
                          refine th_x ?_
                          refine bk_same ?_
                          refine bk_n ?_
                          refine th_n ?_
                          refine xc_region ?_
                          obtain rfl : i = y.stock.length := by (first|omega|(dsimp only at *;omega)|(simp at *;omega))
                          refine xr_op rfl rfl (xv_move rfl ?_)
                          refine xr_op rfl rfl (xv_add rfl rfl (wrap_i64 Om_ Om_) ?_)
                          refine xr_op rfl rfl (xv_assign rfl ?_)
                          refine xr_end rfl ?_
                          exact rnd (k + 1) ⟨by (first|omega|(dsimp only at *;omega)|(simp at *;omega)), fun j q hj hjq => by
                            rcases Nat.lt_succ_iff_lt_or_eq.1 hj with hj | rfl
                            · exact hsti j q hj hjq
                            · rw [hko] at hjq; cases hjq; exact ⟨by (first|omega|(dsimp only at *;omega)|(simp at *;omega)), by (first|omega|(dsimp only at *;omega)|(simp at *;omega)), by (first|omega|(dsimp only at *;omega)|(simp at *;omega)), by (first|omega|(dsimp only at *;omega)|(simp at *;omega)), by (first|omega|(dsimp only at *;omega)|(simp at *;omega)), fun i s hs => hou i s (by have := (List.getElem?_eq_some_iff.1 hs).1; (first|omega|(dsimp only at *;omega)|(simp at *;omega))) hs⟩⟩ Om_ (le_put (le_put (le_put (le_emp _) rfl) rfl) rfl) Su_
                    · refine js_S rfl rfl (.inr ⟨_, _, rfl, rfl⟩) (xv_not rfl ⟨rfl, rfl⟩) ?_
                      refine js_S rfl rfl (.inl rfl) (xv_pick rfl rfl ⟨rfl, rfl⟩) ?_
                      refine js_S rfl rfl (.inl rfl) (xv_move rfl ⟨rfl, rfl⟩) ?_
                      refine js_Ss rfl rfl ⟨_, _, _, rfl, rfl, rfl⟩ ?_
                      refine js_Os rfl rfl ⟨_, _, _, rfl, rfl, rfl⟩ ?_
                      refine js_Ss rfl rfl ⟨_, _, _, rfl, rfl, rfl⟩ ?_
                      refine js_Ss rfl rfl ⟨_, _, _, rfl, rfl, rfl⟩ ?_
                      refine js_Rs rfl rfl ⟨_, _, _, rfl, rfl, rfl⟩ ?_
                      refine js_Ss rfl rfl ⟨_, _, _, rfl, rfl, rfl⟩ ?_
                      refine js_Rs rfl rfl ⟨_, _, _, rfl, rfl, rfl⟩ ?_
                      refine js_Ss rfl rfl ⟨_, _, _, rfl, rfl, rfl⟩ ?_
                      refine js_Ss rfl rfl ⟨_, _, _, rfl, rfl, rfl⟩ ?_
                      refine js_Ss rfl rfl ⟨_, _, _, rfl, rfl, rfl⟩ ?_
                      refine js_Ss rfl rfl ⟨_, _, _, rfl, rfl, rfl⟩ ?_
                      refine js_Rs rfl rfl ⟨_, _, _, rfl, rfl, rfl⟩ ?_
                      refine js_Os rfl rfl ⟨_, _, _, rfl, rfl, rfl⟩ ?_
                      refine js_Ss rfl rfl ⟨_, _, _, rfl, rfl, rfl⟩ ?_
                      refine js_S rfl rfl (.inl rfl) (xv_pick rfl rfl ⟨rfl, rfl⟩) ?_
                      refine j_end0 ?_
                      refine th_n ?_
                      refine xc_true rfl ?_
                      refine xc_seq (xc_region ?_)
                      refine xr_op rfl rfl (xv_assign rfl ?_)
                      refine xr_end rfl ?_
                      refine th_n ?_
                      refine xc_ret ?_
                      refine th_r ?_
                      refine bk_r ?_
                      refine th_r ?_
                      refine th_r ?_
                      refine bk_r ?_
                      refine th_r ?_
                      refine body_ret (h' := h) rfl (ro_tmp rfl ro_nil) Su_ ?_
                      first | exact H2 (fun hg => by have := hg.n1; have := hg.n6; have := hg.s4; have := hg.s6; (first|omega|(dsimp only at *;omega)|(simp at *;omega))) | exact H2 (fun hg => by have := hg.stock xo (List.mem_of_getElem? hko); unfold tonsOk at this; (first|omega|(dsimp only at *;omega)|(simp at *;omega))) | exact H2 (fun hg => by have hn1 := hn0 hg; obtain ⟨g1, g2, g3, g4, g5, g6⟩ := hg.stills k xo hko; (first|omega|(dsimp only at *;omega)|(simp at *;omega))) | exact H2 (fun hg => hso ((hg.stills k xo hko).2.2.2.2.2 i xe hke).1) | exact H2 (fun hg => by rcases ((hg.stills k xo hko).2.2.2.2.2 i xe hke).2 with h1 | h1 <;> first | (first|omega|(dsimp only at *;omega)|(simp at *;omega)) | simp_all) | exact H2 (fun hg => by have := hg.sales xo (List.mem_of_getElem? hko); unfold saleOk at this; (first|omega|(dsimp only at *;omega)|(simp at *;omega))) | exact H1 ⟨by (first|omega|(dsimp only at *;omega)|(simp at *;omega)), by (first|omega|(dsimp only at *;omega)|(simp at *;omega)), by (first|omega|(dsimp only at *;omega)|(simp at *;omega)), by (first|omega|(dsimp only at *;omega)|(simp at *;omega)), hst, fun j q hq => hsti j q (List.getElem?_eq_some_iff.1 hq).1 hq, hsa⟩
                  · refine js_S rfl rfl (.inr ⟨_, _, rfl, rfl⟩) (xv_not rfl ⟨rfl, rfl⟩) ?_
                    refine js_S rfl rfl (.inl rfl) (xv_pick rfl rfl ⟨rfl, rfl⟩) ?_
                    refine js_S rfl rfl (.inl rfl) (xv_move rfl ⟨rfl, rfl⟩) ?_
                    refine js_Ss rfl rfl ⟨_, _, _, rfl, rfl, rfl⟩ ?_
                    refine js_Rs rfl rfl ⟨_, _, _, rfl, rfl, rfl⟩ ?_
                    refine js_Os rfl rfl ⟨_, _, _, rfl, rfl, rfl⟩ ?_
                    refine js_Ss rfl rfl ⟨_, _, _, rfl, rfl, rfl⟩ ?_
                    refine js_S rfl rfl (.inl rfl) (xv_pick rfl rfl ⟨rfl, rfl⟩) ?_
                    refine js_S rfl rfl (.inl rfl) (xv_move rfl ⟨rfl, rfl⟩) ?_
                    refine js_Ss rfl rfl ⟨_, _, _, rfl, rfl, rfl⟩ ?_
                    refine js_Os rfl rfl ⟨_, _, _, rfl, rfl, rfl⟩ ?_
                    refine js_Ss rfl rfl ⟨_, _, _, rfl, rfl, rfl⟩ ?_
                    refine js_Ss rfl rfl ⟨_, _, _, rfl, rfl, rfl⟩ ?_
                    refine js_Rs rfl rfl ⟨_, _, _, rfl, rfl, rfl⟩ ?_
                    refine js_Ss rfl rfl ⟨_, _, _, rfl, rfl, rfl⟩ ?_
                    refine js_Rs rfl rfl ⟨_, _, _, rfl, rfl, rfl⟩ ?_
                    refine js_Ss rfl rfl ⟨_, _, _, rfl, rfl, rfl⟩ ?_
                    refine js_Ss rfl rfl ⟨_, _, _, rfl, rfl, rfl⟩ ?_
                    refine js_Ss rfl rfl ⟨_, _, _, rfl, rfl, rfl⟩ ?_
                    refine js_Ss rfl rfl ⟨_, _, _, rfl, rfl, rfl⟩ ?_
                    refine js_Rs rfl rfl ⟨_, _, _, rfl, rfl, rfl⟩ ?_
                    refine js_Os rfl rfl ⟨_, _, _, rfl, rfl, rfl⟩ ?_
                    refine js_Ss rfl rfl ⟨_, _, _, rfl, rfl, rfl⟩ ?_
                    refine js_S rfl rfl (.inl rfl) (xv_pick rfl rfl ⟨rfl, rfl⟩) ?_
                    refine j_end0 ?_
                    refine th_n ?_
                    refine xc_true rfl ?_
                    refine xc_seq (xc_region ?_)
                    refine xr_op rfl rfl (xv_assign rfl ?_)
                    refine xr_end rfl ?_
                    refine th_n ?_
                    refine xc_ret ?_
                    refine th_r ?_
                    refine bk_r ?_
                    refine th_r ?_
                    refine th_r ?_
                    refine bk_r ?_
                    refine th_r ?_
                    refine body_ret (h' := h) rfl (ro_tmp rfl ro_nil) Su_ ?_
                    first | exact H2 (fun hg => by have := hg.n1; have := hg.n6; have := hg.s4; have := hg.s6; (first|omega|(dsimp only at *;omega)|(simp at *;omega))) | exact H2 (fun hg => by have := hg.stock xo (List.mem_of_getElem? hko); unfold tonsOk at this; (first|omega|(dsimp only at *;omega)|(simp at *;omega))) | exact H2 (fun hg => by have hn1 := hn0 hg; obtain ⟨g1, g2, g3, g4, g5, g6⟩ := hg.stills k xo hko; (first|omega|(dsimp only at *;omega)|(simp at *;omega))) | exact H2 (fun hg => hso ((hg.stills k xo hko).2.2.2.2.2 i xe hke).1) | exact H2 (fun hg => by rcases ((hg.stills k xo hko).2.2.2.2.2 i xe hke).2 with h1 | h1 <;> first | (first|omega|(dsimp only at *;omega)|(simp at *;omega)) | simp_all) | exact H2 (fun hg => by have := hg.sales xo (List.mem_of_getElem? hko); unfold saleOk at this; (first|omega|(dsimp only at *;omega)|(simp at *;omega))) | exact H1 ⟨by (first|omega|(dsimp only at *;omega)|(simp at *;omega)), by (first|omega|(dsimp only at *;omega)|(simp at *;omega)), by (first|omega|(dsimp only at *;omega)|(simp at *;omega)), by (first|omega|(dsimp only at *;omega)|(simp at *;omega)), hst, fun j q hq => hsti j q (List.getElem?_eq_some_iff.1 hq).1 hq, hsa⟩
              · refine js_S rfl rfl (.inr ⟨_, _, rfl, rfl⟩) (xv_not rfl ⟨rfl, rfl⟩) ?_
                refine js_S rfl rfl (.inl rfl) (xv_pick rfl rfl ⟨rfl, rfl⟩) ?_
                refine js_S rfl rfl (.inl rfl) (xv_move rfl ⟨rfl, rfl⟩) ?_
                refine js_Ss rfl rfl ⟨_, _, _, rfl, rfl, rfl⟩ ?_
                refine js_Rs rfl rfl ⟨_, _, _, rfl, rfl, rfl⟩ ?_
                refine js_Ss rfl rfl ⟨_, _, _, rfl, rfl, rfl⟩ ?_
                refine js_Ss rfl rfl ⟨_, _, _, rfl, rfl, rfl⟩ ?_
                refine js_Os rfl rfl ⟨_, _, _, rfl, rfl, rfl⟩ ?_
                refine js_S rfl rfl (.inl rfl) (xv_pick rfl rfl ⟨rfl, rfl⟩) ?_
                refine js_S rfl rfl (.inl rfl) (xv_move rfl ⟨rfl, rfl⟩) ?_
                refine js_Ss rfl rfl ⟨_, _, _, rfl, rfl, rfl⟩ ?_
                refine js_Rs rfl rfl ⟨_, _, _, rfl, rfl, rfl⟩ ?_
                refine js_Os rfl rfl ⟨_, _, _, rfl, rfl, rfl⟩ ?_
                refine js_Ss rfl rfl ⟨_, _, _, rfl, rfl, rfl⟩ ?_
                refine js_S rfl rfl (.inl rfl) (xv_pick rfl rfl ⟨rfl, rfl⟩) ?_
                refine js_S rfl rfl (.inl rfl) (xv_move rfl ⟨rfl, rfl⟩) ?_
                refine js_Ss rfl rfl ⟨_, _, _, rfl, rfl, rfl⟩ ?_
                refine js_Rs rfl rfl ⟨_, _, _, rfl, rfl, rfl⟩ ?_
                refine js_Os rfl rfl ⟨_, _, _, rfl, rfl, rfl⟩ ?_
                refine js_Ss rfl rfl ⟨_, _, _, rfl, rfl, rfl⟩ ?_
                refine js_S rfl rfl (.inl rfl) (xv_pick rfl rfl ⟨rfl, rfl⟩) ?_
                refine js_S rfl rfl (.inl rfl) (xv_move rfl ⟨rfl, rfl⟩) ?_
                refine js_Ss rfl rfl ⟨_, _, _, rfl, rfl, rfl⟩ ?_
                refine js_Os rfl rfl ⟨_, _, _, rfl, rfl, rfl⟩ ?_
                refine js_Ss rfl rfl ⟨_, _, _, rfl, rfl, rfl⟩ ?_
                refine js_Ss rfl rfl ⟨_, _, _, rfl, rfl, rfl⟩ ?_
                refine js_Rs rfl rfl ⟨_, _, _, rfl, rfl, rfl⟩ ?_
                refine js_Ss rfl rfl ⟨_, _, _, rfl, rfl, rfl⟩ ?_
                refine js_Rs rfl rfl ⟨_, _, _, rfl, rfl, rfl⟩ ?_
                refine js_Ss rfl rfl ⟨_, _, _, rfl, rfl, rfl⟩ ?_
                refine js_Ss rfl rfl ⟨_, _, _, rfl, rfl, rfl⟩ ?_
                refine js_Ss rfl rfl ⟨_, _, _, rfl, rfl, rfl⟩ ?_
                refine js_Ss rfl rfl ⟨_, _, _, rfl, rfl, rfl⟩ ?_
                refine js_Rs rfl rfl ⟨_, _, _, rfl, rfl, rfl⟩ ?_
                refine js_Os rfl rfl ⟨_, _, _, rfl, rfl, rfl⟩ ?_
                refine js_Ss rfl rfl ⟨_, _, _, rfl, rfl, rfl⟩ ?_
                refine js_S rfl rfl (.inl rfl) (xv_pick rfl rfl ⟨rfl, rfl⟩) ?_
                refine j_end0 ?_
                refine th_n ?_
                refine xc_true rfl ?_
                refine xc_seq (xc_region ?_)
                refine xr_op rfl rfl (xv_assign rfl ?_)
                refine xr_end rfl ?_
                refine th_n ?_
                refine xc_ret ?_
                refine th_r ?_
                refine bk_r ?_
                refine th_r ?_
                refine th_r ?_
                refine bk_r ?_
                refine th_r ?_
                refine body_ret (h' := h) rfl (ro_tmp rfl ro_nil) Su_ ?_
                first | exact H2 (fun hg => by have := hg.n1; have := hg.n6; have := hg.s4; have := hg.s6; (first|omega|(dsimp only at *;omega)|(simp at *;omega))) | exact H2 (fun hg => by have := hg.stock xo (List.mem_of_getElem? hko); unfold tonsOk at this; (first|omega|(dsimp only at *;omega)|(simp at *;omega))) | exact H2 (fun hg => by have hn1 := hn0 hg; obtain ⟨g1, g2, g3, g4, g5, g6⟩ := hg.stills k xo hko; (first|omega|(dsimp only at *;omega)|(simp at *;omega))) | exact H2 (fun hg => hso ((hg.stills k xo hko).2.2.2.2.2 i xe hke).1) | exact H2 (fun hg => by rcases ((hg.stills k xo hko).2.2.2.2.2 i xe hke).2 with h1 | h1 <;> first | (first|omega|(dsimp only at *;omega)|(simp at *;omega)) | simp_all) | exact H2 (fun hg => by have := hg.sales xo (List.mem_of_getElem? hko); unfold saleOk at this; (first|omega|(dsimp only at *;omega)|(simp at *;omega))) | exact H1 ⟨by (first|omega|(dsimp only at *;omega)|(simp at *;omega)), by (first|omega|(dsimp only at *;omega)|(simp at *;omega)), by (first|omega|(dsimp only at *;omega)|(simp at *;omega)), by (first|omega|(dsimp only at *;omega)|(simp at *;omega)), hst, fun j q hq => hsti j q (List.getElem?_eq_some_iff.1 hq).1 hq, hsa⟩
            · refine js_S rfl rfl (.inl rfl) (xv_not rfl ⟨rfl, rfl⟩) ?_
              refine js_S rfl rfl (.inl rfl) (xv_move rfl ⟨rfl, rfl⟩) ?_
              refine js_Ss rfl rfl ⟨_, _, _, rfl, rfl, rfl⟩ ?_
              refine js_Rs rfl rfl ⟨_, _, _, rfl, rfl, rfl⟩ ?_
              refine js_Os rfl rfl ⟨_, _, _, rfl, rfl, rfl⟩ ?_
              refine js_Ss rfl rfl ⟨_, _, _, rfl, rfl, rfl⟩ ?_
              refine js_S rfl rfl (.inl rfl) (xv_pick rfl rfl ⟨rfl, rfl⟩) ?_
              refine js_S rfl rfl (.inl rfl) (xv_move rfl ⟨rfl, rfl⟩) ?_
              refine js_Ss rfl rfl ⟨_, _, _, rfl, rfl, rfl⟩ ?_
              refine js_Rs rfl rfl ⟨_, _, _, rfl, rfl, rfl⟩ ?_
              refine js_Ss rfl rfl ⟨_, _, _, rfl, rfl, rfl⟩ ?_
              refine js_Ss rfl rfl ⟨_, _, _, rfl, rfl, rfl⟩ ?_
              refine js_Os rfl rfl ⟨_, _, _, rfl, rfl, rfl⟩ ?_
              refine js_S rfl rfl (.inl rfl) (xv_pick rfl rfl ⟨rfl, rfl⟩) ?_
              refine js_S rfl rfl (.inl rfl) (xv_move rfl ⟨rfl, rfl⟩) ?_
              refine js_Ss rfl rfl ⟨_, _, _, rfl, rfl, rfl⟩ ?_
              refine js_Rs rfl rfl ⟨_, _, _, rfl, rfl, rfl⟩ ?_
              refine js_Os rfl rfl ⟨_, _, _, rfl, rfl, rfl⟩ ?_
              refine js_Ss rfl rfl ⟨_, _, _, rfl, rfl, rfl⟩ ?_
              refine js_S rfl rfl (.inl rfl) (xv_pick rfl rfl ⟨rfl, rfl⟩) ?_
              refine js_S rfl rfl (.inl rfl) (xv_move rfl ⟨rfl, rfl⟩) ?_
              refine js_Ss rfl rfl ⟨_, _, _, rfl, rfl, rfl⟩ ?_
              refine js_Rs rfl rfl ⟨_, _, _, rfl, rfl, rfl⟩ ?_
              refine js_Os rfl rfl ⟨_, _, _, rfl, rfl, rfl⟩ ?_
              refine js_Ss rfl rfl ⟨_, _, _, rfl, rfl, rfl⟩ ?_
              refine js_S rfl rfl (.inl rfl) (xv_pick rfl rfl ⟨rfl, rfl⟩) ?_
              refine js_S rfl rfl (.inl rfl) (xv_move rfl ⟨rfl, rfl⟩) ?_
              refine js_Ss rfl rfl ⟨_, _, _, rfl, rfl, rfl⟩ ?_
              refine js_Os rfl rfl ⟨_, _, _, rfl, rfl, rfl⟩ ?_
              refine js_Ss rfl rfl ⟨_, _, _, rfl, rfl, rfl⟩ ?_
              refine js_Ss rfl rfl ⟨_, _, _, rfl, rfl, rfl⟩ ?_
              refine js_Rs rfl rfl ⟨_, _, _, rfl, rfl, rfl⟩ ?_
              refine js_Ss rfl rfl ⟨_, _, _, rfl, rfl, rfl⟩ ?_
              refine js_Rs rfl rfl ⟨_, _, _, rfl, rfl, rfl⟩ ?_
              refine js_Ss rfl rfl ⟨_, _, _, rfl, rfl, rfl⟩ ?_
              refine js_Ss rfl rfl ⟨_, _, _, rfl, rfl, rfl⟩ ?_
              refine js_Ss rfl rfl ⟨_, _, _, rfl, rfl, rfl⟩ ?_
              refine js_Ss rfl rfl ⟨_, _, _, rfl, rfl, rfl⟩ ?_
              refine js_Rs rfl rfl ⟨_, _, _, rfl, rfl, rfl⟩ ?_
              refine js_Os rfl rfl ⟨_, _, _, rfl, rfl, rfl⟩ ?_
              refine js_Ss rfl rfl ⟨_, _, _, rfl, rfl, rfl⟩ ?_
              refine js_S rfl rfl (.inl rfl) (xv_pick rfl rfl ⟨rfl, rfl⟩) ?_
              refine j_end0 ?_
              refine th_n ?_
              refine xc_true rfl ?_
              refine xc_seq (xc_region ?_)
              refine xr_op rfl rfl (xv_assign rfl ?_)
              refine xr_end rfl ?_
              refine th_n ?_
              refine xc_ret ?_
              refine th_r ?_
              refine bk_r ?_
              refine th_r ?_
              refine th_r ?_
              refine bk_r ?_
              refine th_r ?_
              refine body_ret (h' := h) rfl (ro_tmp rfl ro_nil) Su_ ?_
              first | exact H2 (fun hg => by have := hg.n1; have := hg.n6; have := hg.s4; have := hg.s6; (first|omega|(dsimp only at *;omega)|(simp at *;omega))) | exact H2 (fun hg => by have := hg.stock xo (List.mem_of_getElem? hko); unfold tonsOk at this; (first|omega|(dsimp only at *;omega)|(simp at *;omega))) | exact H2 (fun hg => by have hn1 := hn0 hg; obtain ⟨g1, g2, g3, g4, g5, g6⟩ := hg.stills k xo hko; (first|omega|(dsimp only at *;omega)|(simp at *;omega))) | exact H2 (fun hg => hso ((hg.stills k xo hko).2.2.2.2.2 i xe hke).1) | exact H2 (fun hg => by rcases ((hg.stills k xo hko).2.2.2.2.2 i xe hke).2 with h1 | h1 <;> first | (first|omega|(dsimp only at *;omega)|(simp at *;omega)) | simp_all) | exact H2 (fun hg => by have := hg.sales xo (List.mem_of_getElem? hko); unfold saleOk at this; (first|omega|(dsimp only at *;omega)|(simp at *;omega))) | exact H1 ⟨by (first|omega|(dsimp only at *;omega)|(simp at *;omega)), by (first|omega|(dsimp only at *;omega)|(simp at *;omega)), by (first|omega|(dsimp only at *;omega)|(simp at *;omega)), by (first|omega|(dsimp only at *;omega)|(simp at *;omega)), hst, fun j q hq => hsti j q (List.getElem?_eq_some_iff.1 hq).1 hq, hsa⟩
          · refine xr_end rfl ?_
            refine th_n ?_
            refine xc_false rfl ?_
            refine xc_exit ?_
            refine th_x ?_
            refine th_x ?_
            refine bk_same ?_
            refine th_n ?_
            refine xc_seq ?_
            refine xc_seq (xc_region ?_)
            obtain rfl : k = y.stills.length := by (first|omega|(dsimp only at *;omega)|(simp at *;omega))
            refine xr_op rfl rfl (xv_assign rfl ?_)
            refine xr_end rfl ?_
            refine th_n ?_
            refine xc_block ?_
            refine xc_loop (σ := Nat) (fun k => k ≤ y.sales.length ∧ ∀ t ∈ y.sales.take k, saleOk y.stock.length t) (fun k => (((emp.put (some 1) (.pointer (some ⟨b1, 0, none⟩))).put (some 3) (I y.stock.length)).put (some 8) (I k))) (fun k => ((b1, .cells ⟨eYard y⟩ 30) :: h)) (fun k => y.sales.length - k) 0 ⟨Nat.zero_le _, by simp⟩ (le_put (le_put (le_put (le_emp _) rfl) rfl) rfl) Su_ ?_
            rintro k ⟨hk, hsa⟩
            refine xc_seq ?_
            refine xc_seq (xc_region ?_)
            refine xr_op rfl rfl (xv_move rfl ?_)
            refine xr_op rfl rfl (xv_faddr fl26_2 rfl ?_)
            refine xr_op rfl rfl (xv_load1 ty24 rfl rfl Me_ (by rfl) ?_)
            refine xr_op rfl rfl (xv_len sl24 rfl ?_)
            refine xr_op rfl rfl (xv_lss2 rfl rfl (fun q29 => ?_) (fun q29 => ?_))
            · refine xr_end rfl ?_
              refine th_n ?_
              refine xc_true rfl ?_
              refine xc_skip ?_
              refine th_n ?_
              refine xc_seq ?_
              refine xc_block ?_
              refine xc_seq (xc_region ?_)
              refine xr_op rfl rfl (xv_faddr fl26_2 rfl ?_)
              refine xr_op rfl rfl (xv_load1 ty24 rfl rfl Me_ (by rfl) ?_)
              have hlto : k < y.sales.length := by (first|omega|(dsimp only at *;omega)|(simp at *;omega))
              obtain ⟨bo, oo, lo, to, fzo, hao, hmo, hxo⟩ := (hv.sales).at hlto
              obtain ⟨xo, hko⟩ : ∃ qq_, y.sales[k]? = some qq_ := ⟨_, List.getElem?_eq_getElem hlto⟩
              refine xr_op rfl rfl (xv_move rfl ?_)
              refine xr_op rfl rfl (xv_ia (sz := 3) (j := k) sl24 ty51 rfl (by rw [hao]; rfl) rfl Ix_ Om_ Om_ ?_)
              refine xr_op rfl rfl (xv_loadA ty51 rfl rfl Me_ (hxo (k) xo hko) rfl ?_)
              refine xr_op rfl rfl (xv_alloc ty51 (fun b9 hb9 => ?_))
              refine xr_op rfl rfl (xv_s ty51 rfl rfl Up_ Ev_ (by rfl) (by rfl) (by rfl) Ev_ ?_)
              refine xr_end rfl ?_
              refine th_n ?_
              refine xc_seq (xc_region ?_)
              refine xr_op rfl rfl (xv_faddr fl51_0 rfl ?_)
              refine xr_op rfl rfl (xv_load1 ty3 rfl rfl Me_ (by rfl) ?_)
              refine xr_op rfl rfl (xv_move rfl ?_)
              refine xr_op rfl rfl (xv_sub rfl rfl (wrap_i64 Om_ Om_) ?_)
              refine xr_op rfl rfl (xv_calls rfl hb32 (in_c _ _ _ (fun hl30 hu31 => up_ret ?_) (fun hn32 => up_ret ?_)))
              · refine xr_op rfl rfl (xv_not rfl ?_)
                refine xr_op rfl rfl (xv_move rfl ?_)
                refine xr_gd rfl rfl rfl (xv_faddr fl51_1 rfl ?_)
                refine xr_gd rfl rfl rfl (xv_load1 ty3 rfl rfl Me_ (by rfl) ?_)
                refine xr_gd rfl rfl rfl (xv_calls rfl hb32 (in_c _ _ _ (fun hl33 hu34 => up_ret ?_) (fun hn35 => up_ret ?_)))
                · refine xr_gd rfl rfl rfl (xv_not rfl ?_)
                  refine xr_op rfl rfl (xv_pick rfl rfl ?_)
                  refine xr_op rfl rfl (xv_move rfl ?_)
                  refine xr_gd rfl rfl rfl (xv_faddr fl51_2 rfl ?_)
                  refine xr_gd rfl rfl rfl (xv_load1 ty3 rfl rfl Me_ (by rfl) ?_)
                  refine xr_gd rfl rfl rfl (xv_calls rfl hb32 (in_c _ _ _ (fun hl36 hu37 => up_ret ?_) (fun hn38 => up_ret ?_)))
                  · refine xr_gd rfl rfl rfl (xv_not rfl ?_)
                    refine xr_op rfl rfl (xv_pick rfl rfl ?_)
                    refine xr_end rfl ?_
                    refine th_n ?_
                    refine xc_false rfl ?_
                    refine xc_skip ?_
                    refine bk_n ?_
                    refine th_n ?_
                    refine xc_region ?_
                    refine xr_op rfl rfl (xv_move rfl ?_)
                    refine xr_op rfl rfl (xv_add rfl rfl (wrap_i64 Om_ Om_) ?_)
                    refine xr_op rfl rfl (xv_assign rfl ?_)
                    refine xr_end rfl ?_
                    exact rnd (k + 1) ⟨by (first|omega|(dsimp only at *;omega)|(simp at *;omega)), take_allS hko hsa (by unfold saleOk; (first|omega|(dsimp only at *;omega)|(simp at *;omega)))⟩ Om_ (le_put (le_put (le_put (le_emp _) rfl) rfl) rfl) Su_
                  · refine xr_gd rfl rfl rfl (xv_not rfl ?_)
                    refine xr_op rfl rfl (xv_pick rfl rfl ?_)
                    refine xr_end rfl ?_
                    refine th_n ?_
                    refine xc_true rfl ?_
                    refine xc_seq (xc_region ?_)
                    refine xr_op rfl rfl (xv_assign rfl ?_)
                    refine xr_end rfl ?_
                    refine th_n ?_
                    refine xc_ret ?_
                    refine bk_r ?_
                    refine th_r ?_
                    refine th_r ?_
                    refine bk_r ?_
                    refine th_r ?_
                    refine body_ret (h' := h) rfl (ro_tmp rfl ro_nil) Su_ ?_
                    first | exact H2 (fun hg => by have := hg.n1; have := hg.n6; have := hg.s4; have := hg.s6; (first|omega|(dsimp only at *;omega)|(simp at *;omega))) | exact H2 (fun hg => by have := hg.stock xo (List.mem_of_getElem? hko); unfold tonsOk at this; (first|omega|(dsimp only at *;omega)|(simp at *;omega))) | exact H2 (fun hg => by have hn1 := hn0 hg; obtain ⟨g1, g2, g3, g4, g5, g6⟩ := hg.stills k xo hko; (first|omega|(dsimp only at *;omega)|(simp at *;omega))) | exact H2 (fun hg => hso ((hg.stills k xo hko).2.2.2.2.2 i xe hke).1) | exact H2 (fun hg => by rcases ((hg.stills k xo hko).2.2.2.2.2 i xe hke).2 with h1 | h1 <;> first | (first|omega|(dsimp only at *;omega)|(simp at *;omega)) | simp_all) | exact H2 (fun hg => by have := hg.sales xo (List.mem_of_getElem? hko); unfold saleOk at this; (first|omega|(dsimp only at *;omega)|(simp at *;omega))) | exact H1 ⟨by (first|omega|(dsimp only at *;omega)|(simp at *;omega)), by (first|omega|(dsimp only at *;omega)|(simp at *;omega)), by (first|omega|(dsimp only at *;omega)|(simp at *;omega)), by (first|omega|(dsimp only at *;omega)|(simp at *;omega)), hst, fun j q hq => hsti j q (List.getElem?_eq_some_iff.1 hq).1 hq, hsa⟩
                · refine xr_gd rfl rfl rfl (xv_not rfl ?_)
                  refine xr_op rfl rfl (xv_pick rfl rfl ?_)
                  refine xr_op rfl rfl (xv_move rfl ?_)
                  refine xr_no rfl rfl rfl rfl ?_
                  refine xr_no rfl rfl rfl rfl ?_
                  refine xr_no rfl rfl rfl rfl ?_
                  refine xr_no rfl rfl rfl rfl ?_
                  refine xr_op rfl rfl (xv_pick rfl rfl ?_)
                  refine xr_end rfl ?_
                  refine th_n ?_
                  refine xc_true rfl ?_
                  refine xc_seq (xc_region ?_)
                  refine xr_op rfl rfl (xv_assign rfl ?_)
                  refine xr_end rfl ?_
                  refine th_n ?_
                  refine xc_ret ?_
                  refine bk_r ?_
                  refine th_r ?_
                  refine th_r ?_
                  refine bk_r ?_
                  refine th_r ?_
                  refine body_ret (h' := h) rfl (ro_tmp rfl ro_nil) Su_ ?_
                  first | exact H2 (fun hg => by have := hg.n1; have := hg.n6; have := hg.s4; have := hg.s6; (first|omega|(dsimp only at *;omega)|(simp at *;omega))) | exact H2 (fun hg => by have := hg.stock xo (List.mem_of_getElem? hko); unfold tonsOk at this; (first|omega|(dsimp only at *;omega)|(simp at *;omega))) | exact H2 (fun hg => by have hn1 := hn0 hg; obtain ⟨g1, g2, g3, g4, g5, g6⟩ := hg.stills k xo hko; (first|omega|(dsimp only at *;omega)|(simp at *;omega))) | exact H2 (fun hg => hso ((hg.stills k xo hko).2.2.2.2.2 i xe hke).1) | exact H2 (fun hg => by rcases ((hg.stills k xo hko).2.2.2.2.2 i xe hke).2 with h1 | h1 <;> first | (first|omega|(dsimp only at *;omega)|(simp at *;omega)) | simp_all) | exact H2 (fun hg => by have := hg.sales xo (List.mem_of_getElem? hko); unfold saleOk at this; (first|omega|(dsimp only at *;omega)|(simp at *;omega))) | exact H1 ⟨by (first|omega|(dsimp only at *;omega)|(simp at *;omega)), by (first|omega|(dsimp only at *;omega)|(simp at *;omega)), by (first|omega|(dsimp only at *;omega)|(simp at *;omega)), by (first|omega|(dsimp only at *;omega)|(simp at *;omega)), hst, fun j q hq => hsti j q (List.getElem?_eq_some_iff.1 hq).1 hq, hsa⟩
              · refine xr_op rfl rfl (xv_not rfl ?_)
                refine xr_op rfl rfl (xv_move rfl ?_)
                refine xr_no rfl rfl rfl rfl ?_
                refine xr_no rfl rfl rfl rfl ?_
                refine xr_no rfl rfl rfl rfl ?_
                refine xr_no rfl rfl rfl rfl ?_
                refine xr_op rfl rfl (xv_pick rfl rfl ?_)
                refine xr_op rfl rfl (xv_move rfl ?_)
                refine xr_no rfl rfl rfl rfl ?_
                refine xr_no rfl rfl rfl rfl ?_
                refine xr_no rfl rfl rfl rfl ?_
                refine xr_no rfl rfl rfl rfl ?_
                refine xr_op rfl rfl (xv_pick rfl rfl ?_)
                refine xr_end rfl ?_
                refine th_n ?_
                refine xc_true rfl ?_
                refine xc_seq (xc_region ?_)
                refine xr_op rfl rfl (xv_assign rfl ?_)
                refine xr_end rfl ?_
                refine th_n ?_
                refine xc_ret ?_
                refine bk_r ?_
                refine th_r ?_
                refine th_r ?_
                refine bk_r ?_
                refine th_r ?_
                refine body_ret (h' := h) rfl (ro_tmp rfl ro_nil) Su_ ?_
                first | exact H2 (fun hg => by have := hg.n1; have := hg.n6; have := hg.s4; have := hg.s6; (first|omega|(dsimp only at *;omega)|(simp at *;omega))) | exact H2 (fun hg => by have := hg.stock xo (List.mem_of_getElem? hko); unfold tonsOk at this; (first|omega|(dsimp only at *;omega)|(simp at *;omega))) | exact H2 (fun hg => by have hn1 := hn0 hg; obtain ⟨g1, g2, g3, g4, g5, g6⟩ := hg.stills k xo hko; (first|omega|(dsimp only at *;omega)|(simp at *;omega))) | exact H2 (fun hg => hso ((hg.stills k xo hko).2.2.2.2.2 i xe hke).1) | exact H2 (fun hg => by rcases ((hg.stills k xo hko).2.2.2.2.2 i xe hke).2 with h1 | h1 <;> first | (first|omega|(dsimp only at *;omega)|(simp at *;omega)) | simp_all) | exact H2 (fun hg => by have := hg.sales xo (List.mem_of_getElem? hko); unfold saleOk at this; (first|omega|(dsimp only at *;omega)|(simp at *;omega))) | exact H1 ⟨by (first|omega|(dsimp only at *;omega)|(simp at *;omega)), by (first|omega|(dsimp only at *;omega)|(simp at *;omega)), by (first|omega|(dsimp only at *;omega)|(simp at *;omega)), by (first|omega|(dsimp only at *;omega)|(simp at *;omega)), hst, fun j q hq => hsti j q (List.getElem?_eq_some_iff.1 hq).1 hq, hsa⟩
            · refine xr_end rfl ?_
              refine th_n ?_
              refine xc_false rfl ?_
              refine xc_exit ?_
              refine th_x ?_
              refine th_x ?_
              refine bk_same ?_
              refine th_n ?_
              refine xc_seq (xc_region ?_)
              obtain rfl : k = y.sales.length := by (first|omega|(dsimp only at *;omega)|(simp at *;omega))
              rw [List.take_length] at hsa
              refine xr_op rfl rfl (xv_assign rfl ?_)
              refine xr_end rfl ?_
              refine th_n ?_
              refine xc_ret ?_
              refine body_ret (h' := h) rfl (ro_tmp rfl ro_nil) Su_ ?_
              first | exact H2 (fun hg => by have := hg.n1; have := hg.n6; have := hg.s4; have := hg.s6; (first|omega|(dsimp only at *;omega)|(simp at *;omega))) | exact H2 (fun hg => by have := hg.stock xo (List.mem_of_getElem? hko); unfold tonsOk at this; (first|omega|(dsimp only at *;omega)|(simp at *;omega))) | exact H2 (fun hg => by have hn1 := hn0 hg; obtain ⟨g1, g2, g3, g4, g5, g6⟩ := hg.stills k xo hko; (first|omega|(dsimp only at *;omega)|(simp at *;omega))) | exact H2 (fun hg => hso ((hg.stills k xo hko).2.2.2.2.2 i xe hke).1) | exact H2 (fun hg => by rcases ((hg.stills k xo hko).2.2.2.2.2 i xe hke).2 with h1 | h1 <;> first | (first|omega|(dsimp only at *;omega)|(simp at *;omega)) | simp_all) | exact H2 (fun hg => by have := hg.sales xo (List.mem_of_getElem? hko); unfold saleOk at this; (first|omega|(dsimp only at *;omega)|(simp at *;omega))) | exact H1 ⟨by (first|omega|(dsimp only at *;omega)|(simp at *;omega)), by (first|omega|(dsimp only at *;omega)|(simp at *;omega)), by (first|omega|(dsimp only at *;omega)|(simp at *;omega)), by (first|omega|(dsimp only at *;omega)|(simp at *;omega)), hst, fun j q hq => hsti j q (List.getElem?_eq_some_iff.1 hq).1 hq, hsa⟩
  · refine xr_op rfl rfl (xv_not rfl ?_)
    refine xr_op rfl rfl (xv_move rfl ?_)
    refine xr_no rfl rfl rfl rfl ?_
    refine xr_no rfl rfl rfl rfl ?_
    refine xr_no rfl rfl rfl rfl ?_
    refine xr_no rfl rfl rfl rfl ?_
    refine xr_op rfl rfl (xv_pick rfl rfl ?_)
    refine xr_op rfl rfl (xv_move rfl ?_)
    refine xr_no rfl rfl rfl rfl ?_
    refine xr_no rfl rfl rfl rfl ?_
    refine xr_no rfl rfl rfl rfl ?_
    refine xr_no rfl rfl rfl rfl ?_
    refine xr_op rfl rfl (xv_pick rfl rfl ?_)
    refine xr_end rfl ?_
    refine th_n ?_
    refine xc_true rfl ?_
    refine xc_seq (xc_region ?_)
    refine xr_op rfl rfl (xv_assign rfl ?_)
    refine xr_end rfl ?_
    refine th_n ?_
    refine xc_ret ?_
    refine th_r ?_
    refine body_ret (h' := h) rfl (ro_tmp rfl ro_nil) Su_ ?_
    first | exact H2 (fun hg => by have := hg.n1; have := hg.n6; have := hg.s4; have := hg.s6; (first|omega|(dsimp only at *;omega)|(simp at *;omega))) | exact H2 (fun hg => by have := hg.stock xo (List.mem_of_getElem? hko); unfold tonsOk at this; (first|omega|(dsimp only at *;omega)|(simp at *;omega))) | exact H2 (fun hg => by have hn1 := hn0 hg; obtain ⟨g1, g2, g3, g4, g5, g6⟩ := hg.stills k xo hko; (first|omega|(dsimp only at *;omega)|(simp at *;omega))) | exact H2 (fun hg => hso ((hg.stills k xo hko).2.2.2.2.2 i xe hke).1) | exact H2 (fun hg => by rcases ((hg.stills k xo hko).2.2.2.2.2 i xe hke).2 with h1 | h1 <;> first | (first|omega|(dsimp only at *;omega)|(simp at *;omega)) | simp_all) | exact H2 (fun hg => by have := hg.sales xo (List.mem_of_getElem? hko); unfold saleOk at this; (first|omega|(dsimp only at *;omega)|(simp at *;omega))) | exact H1 ⟨by (first|omega|(dsimp only at *;omega)|(simp at *;omega)), by (first|omega|(dsimp only at *;omega)|(simp at *;omega)), by (first|omega|(dsimp only at *;omega)|(simp at *;omega)), by (first|omega|(dsimp only at *;omega)|(simp at *;omega)), hst, fun j q hq => hsti j q (List.getElem?_eq_some_iff.1 hq).1 hq, hsa⟩

end Go.Proofs.Ytmaldhbjhomdkaa.Tar

/-
  Walks.
-/
namespace Go.Proofs.Ytmaldhbjhomdkaa.Tar
open Go Go.H
set_option maxRecDepth 100000
set_option maxHeartbeats 8000000
set_option linter.all false
end Go.Proofs.Ytmaldhbjhomdkaa.Tar

/-
  What the laws use of the walked functions, for a yard that is valid; another plan, by remainders.
-/
set_option linter.all false
namespace Go.Proofs.Ytmaldhbjhomdkaa.Tar
open Go Go.H
set_option maxRecDepth 100000
section
variable {y : Yard} {h : Hp} {R : Ending → Hp → Prop}
theorem PlanB_c (hv : YardV h y) (hs : Small y) (H1 : ¬ GoodYard y → R (.returned (.tuple ⟨[.slice none 0 0, I 0, I 1]⟩)) h)
    (H2 : GoodYard y → ∀ q m, bestY y = some (q, m) → IsBest y q m → ∀ a c hp, SlV hp 1 eI a q → R (.returned (.tuple ⟨[.slice a q.length c, I m, I 0]⟩)) (hp ++ h)) :
    ACalls Try.prog 9 ⟨[.agg ⟨eYard y⟩]⟩ h R := by
  refine Plan_c hv hs H1 (fun hy a c hp hsl => ?_)
  obtain ⟨q, m, hb, hB⟩ := best_is hy
  have := H2 hy q m hb hB a c hp (by rw [hb] at hsl; exact hsl)
  rw [hb]
  exact this
variable {a : Option Addr} {c : Nat} {plan : List Int}
theorem IncomeT_c {g : Goods} {n : Nat} (hv : YardV h y) (hs : Small y) (hp : SlV h 1 eI a plan) (hn : plan.length = n) (hy : GoodYard y) (hl : plan.length = y.stills.length) (ho : PlanOk y plan) (hg : afterG y.stills plan (newG y) = some g)
    (H : ∀ b, R (.returned (.tuple ⟨[I (incomeY y plan g), .slice (some ⟨b, 0, none⟩) y.sales.length y.sales.length, I 0]⟩)) ((b, .cells ⟨(sellY y g).sold.flatMap eI ++ []⟩ 3) :: h)) :
    ACalls Try.prog 10 ⟨[.agg ⟨eYard y⟩, .slice a n c]⟩ h R := by
  subst hn
  exact Income_c hv hs hp (fun hn => absurd hy hn) (fun _ hn => absurd ⟨hl, ho⟩ hn) (fun _ _ _ hn => by rw [hg] at hn; cases hn) (fun _ _ _ g' b hg' _ => by rw [hg] at hg'; cases hg'; exact H b)
end
end Go.Proofs.Ytmaldhbjhomdkaa.Tar

/-
  What the reference's income needs: sales that are open, and results of all functions in one form.
-/
set_option linter.all false
namespace Go.Proofs.Ytmaldhbjhomdkaa.Tar
open Go Go.H
set_option maxRecDepth 100000
end Go.Proofs.Ytmaldhbjhomdkaa.Tar

/-
  Walks.
-/
namespace Go.Proofs.Ytmaldhbjhomdkaa.Tar
open Go Go.H
set_option maxRecDepth 100000
set_option maxHeartbeats 8000000
set_option linter.all false
end Go.Proofs.Ytmaldhbjhomdkaa.Tar

/-
  Results in one form: what the program's functions return for any plan.
-/
set_option linter.all false
namespace Go.Proofs.Ytmaldhbjhomdkaa.Tar
open Go Go.H
set_option maxRecDepth 100000
section
variable {y : Yard} {a : Option Addr} {c : Nat} {plan : List Int} {h : Hp} {R : Ending → Hp → Prop}
variable {l : List Weigh}
end
end Go.Proofs.Ytmaldhbjhomdkaa.Tar

/-
  Results in one form: the program's function and the reference's have the same contract.
-/
set_option linter.all false
namespace Go.Proofs.Ytmaldhbjhomdkaa.Tar
open Go Go.H
set_option maxRecDepth 100000
section
variable {y : Yard} {a : Option Addr} {c : Nat} {plan : List Int} {h : Hp} {R : Ending → Hp → Prop}
variable {l : List Weigh}
end
end Go.Proofs.Ytmaldhbjhomdkaa.Tar

/-
  The reference's plans: all of them, in lexicographic order; those that can be are the ones that are tried.
-/
set_option linter.all false
namespace Go.Proofs.Ytmaldhbjhomdkaa.Tar
open Go Go.H
set_option maxRecDepth 100000
structure PS where
  a : Option Addr
  c : Nat
  xs : List Int
section
variable {y : Yard} {h : Hp} {R : Ending → Hp → Prop} {a : Option Addr} {c : Nat} {plan : List Int}
end
end Go.Proofs.Ytmaldhbjhomdkaa.Tar
