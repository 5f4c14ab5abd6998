/-
  Walks.
-/
import Derived.Test.YtckaaaebegemoaaDoorW25
import Derived.Test.YtckaaaebegemoaaDoorP6
namespace Go.Proofs.YtckaaaebegemoaaDoor
open Go Go.H
set_option maxRecDepth 100000
set_option maxHeartbeats 2000000
set_option linter.all false
theorem GasE_c {r : Rnd} {house f t e : Int} {g : Span} {h : Hp} {R : Ending → Hp → Prop} (hv : RndV h r) (hs : Small r) (hT : TurnsV h) (he : gasAns r house f t = (g, e)) (H : R (.returned (.tuple ⟨[.agg ⟨eSpan g⟩, I e]⟩)) h) :
    ACalls Tryd.prog 17 ⟨[.agg ⟨eRnd r⟩, I house, I f, I t]⟩ h R := Gas_c hv hs hT (by rw [he]; exact H)
theorem DueE_c {r : Rnd} {house n e : Int} {h : Hp} {R : Ending → Hp → Prop} (hv : RndV h r) (hs : Small r) (hT : TurnsV h) (he : dueAns r house = (n, e)) (H : R (.returned (.tuple ⟨[I n, I e]⟩)) h) :
    ACalls Tryd.prog 19 ⟨[.agg ⟨eRnd r⟩, I house]⟩ h R := Due_c hv hs hT (by rw [he]; exact H)

theorem fit_c {d : Dial} {h : Hp} {R : Ending → Hp → Prop} (H1 : dialOk d → R (.returned (.bool true)) h) (H2 : ¬ dialOk d → R (.returned (.bool false)) h) :
    ACalls Tryd.prog 21 ⟨[.agg ⟨eDial d⟩]⟩ h R := by
  refine calls_of_xc (N := 32) Tryd.func21 rfl (by rfl) ?_
  refine xc_seq (xc_region ?_)
  refine xr_op rfl rfl (xv_box rfl (fun b1 hb1 => ?_))
  refine xr_op rfl rfl (xv_assign rfl ?_)
  refine xr_end rfl ?_
  refine th_n ?_
  refine xc_seq (xc_region ?_)
  refine xr_op rfl rfl (xv_faddr fl45_0 rfl ?_)
  refine xr_op rfl rfl (xv_load1 ty3 rfl rfl (by ((repeat first|exact z_0|assumption|refine z_1 ?_|(refine z_l ?_;(repeat first|exact z_0|assumption|refine z_1 ?_);done)|refine z_r ?_);done)) (by rfl) ?_)
  refine xr_op rfl rfl (xv_geq2 rfl rfl (fun q1 => ?_) (fun q1 => ?_))
  · refine xr_op rfl rfl (xv_move rfl ?_)
    refine xr_gd rfl rfl rfl (xv_faddr fl45_0 rfl ?_)
    refine xr_gd rfl rfl rfl (xv_load1 ty3 rfl rfl (by ((repeat first|exact z_0|assumption|refine z_1 ?_|(refine z_l ?_;(repeat first|exact z_0|assumption|refine z_1 ?_);done)|refine z_r ?_);done)) (by rfl) ?_)
    refine xr_gd rfl rfl rfl (xv_leq2 rfl rfl (fun q2 => ?_) (fun q2 => ?_))
    · refine xr_op rfl rfl (xv_pick rfl rfl ?_)
      refine xr_op rfl rfl (xv_move rfl ?_)
      refine xr_gd rfl rfl rfl (xv_faddr fl45_1 rfl ?_)
      refine xr_gd rfl rfl rfl (xv_faddr fl38_0 rfl ?_)
      refine xr_gd rfl rfl rfl (xv_load1 ty3 rfl rfl (by ((repeat first|exact z_0|assumption|refine z_1 ?_|(refine z_l ?_;(repeat first|exact z_0|assumption|refine z_1 ?_);done)|refine z_r ?_);done)) (by rfl) ?_)
      refine xr_gd rfl rfl rfl (xv_geq2 rfl rfl (fun q3 => ?_) (fun q3 => ?_))
      · refine xr_op rfl rfl (xv_pick rfl rfl ?_)
        refine xr_op rfl rfl (xv_move rfl ?_)
        refine xr_gd rfl rfl rfl (xv_faddr fl45_1 rfl ?_)
        refine xr_gd rfl rfl rfl (xv_faddr fl38_0 rfl ?_)
        refine xr_gd rfl rfl rfl (xv_load1 ty3 rfl rfl (by ((repeat first|exact z_0|assumption|refine z_1 ?_|(refine z_l ?_;(repeat first|exact z_0|assumption|refine z_1 ?_);done)|refine z_r ?_);done)) (by rfl) ?_)
        refine xr_gd rfl rfl rfl (xv_faddr fl45_1 rfl ?_)
        refine xr_gd rfl rfl rfl (xv_faddr fl38_1 rfl ?_)
        refine xr_gd rfl rfl rfl (xv_load1 ty3 rfl rfl (by ((repeat first|exact z_0|assumption|refine z_1 ?_|(refine z_l ?_;(repeat first|exact z_0|assumption|refine z_1 ?_);done)|refine z_r ?_);done)) (by rfl) ?_)
        refine xr_gd rfl rfl rfl (xv_leq2 rfl rfl (fun q4 => ?_) (fun q4 => ?_))
        · refine xr_op rfl rfl (xv_pick rfl rfl ?_)
          refine xr_op rfl rfl (xv_move rfl ?_)
          refine xr_gd rfl rfl rfl (xv_faddr fl45_1 rfl ?_)
          refine xr_gd rfl rfl rfl (xv_faddr fl38_1 rfl ?_)
          refine xr_gd rfl rfl rfl (xv_load1 ty3 rfl rfl (by ((repeat first|exact z_0|assumption|refine z_1 ?_|(refine z_l ?_;(repeat first|exact z_0|assumption|refine z_1 ?_);done)|refine z_r ?_);done)) (by rfl) ?_)
          refine xr_gd rfl rfl rfl (xv_leq2 rfl rfl (fun q5 => ?_) (fun q5 => ?_))
          · refine xr_op rfl rfl (xv_pick rfl rfl ?_)
            refine xr_op rfl rfl (xv_assign rfl ?_)
            refine xr_end rfl ?_
            refine th_n ?_
            refine xc_ret ?_
            refine body_ret (h' := h) rfl (ro_tmp rfl ro_nil) (by (first|((repeat first|exact s_0|exact s_1|exact s_3|refine s_4 ?_|refine s_5 ?_|refine s_6 ?_|refine s_7 ?_);done)|((repeat first|exact s_0|exact s_1|exact s_3|refine s_4 ?_|refine s_5 ?_|refine s_6 ?_|refine s_8 ?_);done))) ?_
            first | exact H1 ⟨by omega, by omega, by omega, by omega, by omega⟩ | exact H2 (fun hq9 => by unfold dialOk at hq9; omega)
          · refine xr_op rfl rfl (xv_pick rfl rfl ?_)
            refine xr_op rfl rfl (xv_assign rfl ?_)
            refine xr_end rfl ?_
            refine th_n ?_
            refine xc_ret ?_
            refine body_ret (h' := h) rfl (ro_tmp rfl ro_nil) (by (first|((repeat first|exact s_0|exact s_1|exact s_3|refine s_4 ?_|refine s_5 ?_|refine s_6 ?_|refine s_7 ?_);done)|((repeat first|exact s_0|exact s_1|exact s_3|refine s_4 ?_|refine s_5 ?_|refine s_6 ?_|refine s_8 ?_);done))) ?_
            first | exact H1 ⟨by omega, by omega, by omega, by omega, by omega⟩ | exact H2 (fun hq9 => by unfold dialOk at hq9; omega)
        · refine xr_op rfl rfl (xv_pick rfl rfl ?_)
          refine xr_op rfl rfl (xv_move rfl ?_)
          refine xr_no rfl rfl rfl rfl ?_
          refine xr_no rfl rfl rfl rfl ?_
          refine xr_no rfl rfl rfl rfl ?_
          refine xr_no rfl rfl rfl rfl ?_
          refine xr_op rfl rfl (xv_pick rfl rfl ?_)
          refine xr_op rfl rfl (xv_assign rfl ?_)
          refine xr_end rfl ?_
          refine th_n ?_
          refine xc_ret ?_
          refine body_ret (h' := h) rfl (ro_tmp rfl ro_nil) (by (first|((repeat first|exact s_0|exact s_1|exact s_3|refine s_4 ?_|refine s_5 ?_|refine s_6 ?_|refine s_7 ?_);done)|((repeat first|exact s_0|exact s_1|exact s_3|refine s_4 ?_|refine s_5 ?_|refine s_6 ?_|refine s_8 ?_);done))) ?_
          first | exact H1 ⟨by omega, by omega, by omega, by omega, by omega⟩ | exact H2 (fun hq9 => by unfold dialOk at hq9; omega)
      · refine xr_op rfl rfl (xv_pick rfl rfl ?_)
        refine xr_op rfl rfl (xv_move rfl ?_)
        refine xr_no rfl rfl rfl rfl ?_
        refine xr_no rfl rfl rfl rfl ?_
        refine xr_no rfl rfl rfl rfl ?_
        refine xr_no rfl rfl rfl rfl ?_
        refine xr_no rfl rfl rfl rfl ?_
        refine xr_no rfl rfl rfl rfl ?_
        refine xr_no rfl rfl rfl rfl ?_
        refine xr_op rfl rfl (xv_pick rfl rfl ?_)
        refine xr_op rfl rfl (xv_move rfl ?_)
        refine xr_no rfl rfl rfl rfl ?_
        refine xr_no rfl rfl rfl rfl ?_
        refine xr_no rfl rfl rfl rfl ?_
        refine xr_no rfl rfl rfl rfl ?_
        refine xr_op rfl rfl (xv_pick rfl rfl ?_)
        refine xr_op rfl rfl (xv_assign rfl ?_)
        refine xr_end rfl ?_
        refine th_n ?_
        refine xc_ret ?_
        refine body_ret (h' := h) rfl (ro_tmp rfl ro_nil) (by (first|((repeat first|exact s_0|exact s_1|exact s_3|refine s_4 ?_|refine s_5 ?_|refine s_6 ?_|refine s_7 ?_);done)|((repeat first|exact s_0|exact s_1|exact s_3|refine s_4 ?_|refine s_5 ?_|refine s_6 ?_|refine s_8 ?_);done))) ?_
        first | exact H1 ⟨by omega, by omega, by omega, by omega, by omega⟩ | exact H2 (fun hq9 => by unfold dialOk at hq9; omega)
    · refine xr_op rfl rfl (xv_pick rfl rfl ?_)
      refine xr_op rfl rfl (xv_move rfl ?_)
      refine xr_no rfl rfl rfl rfl ?_
      refine xr_no rfl rfl rfl rfl ?_
      refine xr_no rfl rfl rfl rfl ?_
      refine xr_no rfl rfl rfl rfl ?_
      refine xr_op rfl rfl (xv_pick rfl rfl ?_)
      refine xr_op rfl rfl (xv_move rfl ?_)
      refine xr_no rfl rfl rfl rfl ?_
      refine xr_no rfl rfl rfl rfl ?_
      refine xr_no rfl rfl rfl rfl ?_
      refine xr_no rfl rfl rfl rfl ?_
      refine xr_no rfl rfl rfl rfl ?_
      refine xr_no rfl rfl rfl rfl ?_
      refine xr_no rfl rfl rfl rfl ?_
      refine xr_op rfl rfl (xv_pick rfl rfl ?_)
      refine xr_op rfl rfl (xv_move rfl ?_)
      refine xr_no rfl rfl rfl rfl ?_
      refine xr_no rfl rfl rfl rfl ?_
      refine xr_no rfl rfl rfl rfl ?_
      refine xr_no rfl rfl rfl rfl ?_
      refine xr_op rfl rfl (xv_pick rfl rfl ?_)
      refine xr_op rfl rfl (xv_assign rfl ?_)
      refine xr_end rfl ?_
      refine th_n ?_
      refine xc_ret ?_
      refine body_ret (h' := h) rfl (ro_tmp rfl ro_nil) (by (first|((repeat first|exact s_0|exact s_1|exact s_3|refine s_4 ?_|refine s_5 ?_|refine s_6 ?_|refine s_7 ?_);done)|((repeat first|exact s_0|exact s_1|exact s_3|refine s_4 ?_|refine s_5 ?_|refine s_6 ?_|refine s_8 ?_);done))) ?_
      first | exact H1 ⟨by omega, by omega, by omega, by omega, by omega⟩ | exact H2 (fun hq9 => by unfold dialOk at hq9; omega)
  · refine xr_op rfl rfl (xv_move rfl ?_)
    refine xr_no rfl rfl rfl rfl ?_
    refine xr_no rfl rfl rfl rfl ?_
    refine xr_no rfl rfl rfl rfl ?_
    refine xr_op rfl rfl (xv_pick rfl rfl ?_)
    refine xr_op rfl rfl (xv_move rfl ?_)
    refine xr_no rfl rfl rfl rfl ?_
    refine xr_no rfl rfl rfl rfl ?_
    refine xr_no rfl rfl rfl rfl ?_
    refine xr_no rfl rfl rfl rfl ?_
    refine xr_op rfl rfl (xv_pick rfl rfl ?_)
    refine xr_op rfl rfl (xv_move rfl ?_)
    refine xr_no rfl rfl rfl rfl ?_
    refine xr_no rfl rfl rfl rfl ?_
    refine xr_no rfl rfl rfl rfl ?_
    refine xr_no rfl rfl rfl rfl ?_
    refine xr_no rfl rfl rfl rfl ?_
    refine xr_no rfl rfl rfl rfl ?_
    refine xr_no rfl rfl rfl rfl ?_
    refine xr_op rfl rfl (xv_pick rfl rfl ?_)
    refine xr_op rfl rfl (xv_move rfl ?_)
    refine xr_no rfl rfl rfl rfl ?_
    refine xr_no rfl rfl rfl rfl ?_
    refine xr_no rfl rfl rfl rfl ?_
    refine xr_no rfl rfl rfl rfl ?_
    refine xr_op rfl rfl (xv_pick rfl rfl ?_)
    refine xr_op rfl rfl (xv_assign rfl ?_)
    refine xr_end rfl ?_
    refine th_n ?_
    refine xc_ret ?_
    refine body_ret (h' := h) rfl (ro_tmp rfl ro_nil) (by (first|((repeat first|exact s_0|exact s_1|exact s_3|refine s_4 ?_|refine s_5 ?_|refine s_6 ?_|refine s_7 ?_);done)|((repeat first|exact s_0|exact s_1|exact s_3|refine s_4 ?_|refine s_5 ?_|refine s_6 ?_|refine s_8 ?_);done))) ?_
    first | exact H1 ⟨by omega, by omega, by omega, by omega, by omega⟩ | exact H2 (fun hq9 => by unfold dialOk at hq9; omega)

theorem truth_c {d : Dial} {n : Nat} {bs : List Int} {a : Option Addr} {c : Nat} {h : Hp} {R : Ending → Hp → Prop} (hd : dialOk d) (hn : n ≤ 160) (hb : SlV h 1 eH a bs) (hbl : 0 < bs.length) (hbl2 : bs.length ≤ 40) (hbv : ∀ x ∈ bs, 0 ≤ x ∧ x ≤ 65535)
    (H : ∀ G a2 c2 q, G.length = n → InRate d G → SlV q 1 eI a2 G → R (.returned (.slice a2 G.length c2)) (q ++ h)) :
    ACalls Tryd.prog 22 ⟨[.agg ⟨eDial d⟩, I n, .slice a bs.length c]⟩ h R := by
  refine calls_of_xc (N := 44) Tryd.func22 rfl (by rfl) ?_
  obtain ⟨g1, g2, g3, g4, g5⟩ := hd
  refine xc_seq (xc_region ?_)
  refine xr_op rfl rfl (xv_box rfl (fun b3 hb3 => ?_))
  refine xr_op rfl rfl (xv_assign rfl ?_)
  refine xr_end rfl ?_
  refine th_n ?_
  refine xc_seq (xc_region ?_)
  refine xr_op rfl rfl (xv_assign rfl ?_)
  refine xr_end rfl ?_
  refine th_n ?_
  refine xc_seq ?_
  refine xc_seq (xc_region ?_)
  refine xr_op rfl rfl (xv_assign rfl ?_)
  refine xr_end rfl ?_
  refine th_n ?_
  refine xc_block ?_
  refine xc_loop (σ := Nat × List Int × Vec) (fun z => z.1 ≤ n ∧ z.2.1.length = z.1 ∧ InRate d z.2.1 ∧ z.2.2.ok 1 z.2.1.length (z.2.1.flatMap eI)) (fun z => (((((emp.put (some 1) (I n)).put (some 2) (.slice a bs.length c)).put (some 3) (.pointer (some ⟨b3, 0, none⟩))).put (some 7) (z.2.2.val z.2.1.length)).put (some 8) (I z.1))) (fun z => (z.2.2.hp 3 (z.2.1.flatMap eI) ++ (b3, .cells ⟨eDial d⟩ 45) :: h)) (fun z => n - z.1) ((0, [], .nil) : Nat × List Int × Vec) ⟨Nat.zero_le _, rfl, fun x hx => (by cases hx), rfl, rfl⟩ (le_put (le_put (le_put (le_put (le_put (le_emp _) rfl) rfl) rfl) rfl) rfl) (by (first|((repeat first|exact s_0|exact s_1|exact s_3|refine s_4 ?_|refine s_5 ?_|refine s_6 ?_|refine s_7 ?_);done)|((repeat first|exact s_0|exact s_1|exact s_3|refine s_4 ?_|refine s_5 ?_|refine s_6 ?_|refine s_8 ?_);done))) ?_
  rintro ⟨k, G, V⟩ ⟨hk, hgl, hin, hV⟩
  dsimp only at hk hgl hin hV
  refine xc_seq ?_
  refine xc_seq (xc_region ?_)
  refine xr_op rfl rfl (xv_move rfl ?_)
  refine xr_op rfl rfl (xv_move rfl ?_)
  refine xr_op rfl rfl (xv_lss2 rfl rfl (fun q1 => ?_) (fun q1 => ?_))
  · refine xr_end rfl ?_
    refine th_n ?_
    refine xc_true rfl ?_
    refine xc_skip ?_
    refine th_n ?_
    refine xc_seq ?_
    refine xc_block ?_
    refine xc_draw0 [(0, .S), (1, .S), (2, .S), (3, .R), (4, .S), (5, .S), (6, .S), (7, .S), (8, .S), (9, .S), (10, .R), (11, .S), (12, .S), (13, .S), (14, .S), (15, .S), (16, .S), (17, .S), (18, .S), (19, .R), (20, .S), (21, .S), (22, .R), (23, .S), (24, .S), (25, .S), (26, .S), (27, .P), (27, .A), (28, .O), (29, .S)] mixed (by kernel_rfl) ?_
    refine js_S rfl rfl (.inl rfl) (xv_move rfl ⟨rfl, rfl⟩) ?_
    refine js_S rfl rfl (.inl rfl) (xv_faddr fl45_1 rfl ⟨rfl, rfl⟩) ?_
    refine js_S rfl rfl (.inl rfl) (xv_faddr fl38_0 rfl ⟨rfl, rfl⟩) ?_
    refine js_R0 rfl rfl (.inl rfl) (xv_load1 ty3 rfl rfl (by ((repeat first|exact z_0|assumption|refine z_1 ?_|(refine z_l ?_;(repeat first|exact z_0|assumption|refine z_1 ?_);done)|refine z_r ?_);done)) (by rfl) ⟨rfl, rfl⟩) ?_
    refine js_S rfl rfl (.inl rfl) (xv_move rfl ⟨rfl, rfl⟩) ?_
    refine js_S rfl rfl (.inl rfl) (xv_move rfl ⟨rfl, rfl⟩) ?_
    refine js_S rfl rfl (.inl rfl) (xv_move rfl ⟨rfl, rfl⟩) ?_
    refine js_S rfl rfl (.inl rfl) (xv_len sl46 rfl ⟨rfl, rfl⟩) ?_
    obtain ⟨km, hkm⟩ : ∃ km : Nat, km = k % bs.length := ⟨_, rfl⟩
    obtain ⟨kq, hkq⟩ : ∃ kq : Nat, kq = k / bs.length := ⟨_, rfl⟩
    have hkml : km < bs.length := by rw [hkm]; exact Nat.mod_lt k hbl
    have hkd : kq ≤ k := by rw [hkq]; exact Nat.div_le_self k bs.length
    have hlto : km < bs.length := hkml
    obtain ⟨bo, oo, lo, to, fzo, hao, hmo, hxo⟩ := (hb).at hlto
    obtain ⟨xo, hko⟩ : ∃ qq_, bs[km]? = some qq_ := ⟨_, List.getElem?_eq_getElem hlto⟩
    have hxv := hbv xo (List.mem_of_getElem? hko)
    have hr0 := Int.emod_nonneg (xo + (kq : Int)) (show d.rate.hi - d.rate.lo + 1 ≠ 0 by omega)
    have hr1 := Int.emod_lt_of_pos (xo + (kq : Int)) (show 0 < d.rate.hi - d.rate.lo + 1 by omega)
    refine js_S rfl rfl (.inl rfl) (xv_rem (c := (km : Int)) rfl rfl (by omega) (by rw [hkm]; rfl) ⟨rfl, rfl⟩) ?_
    refine js_S rfl rfl (.inl rfl) (xv_ia (sz := 1) (j := km) sl46 ty47 rfl (by rw [hao]; rfl) rfl (by (first | assumption | with_reducible exact Int.toNat_natCast _ | with_reducible rfl | rfl)) (by (first | omega | (dsimp only at *; omega) | (simp at *; omega))) (by (first | omega | (dsimp only at *; omega) | (simp at *; omega))) ⟨rfl, rfl⟩) ?_
    refine js_R0 rfl rfl (.inl rfl) (xv_load1 ty47 rfl rfl (by ((repeat first|exact z_0|assumption|refine z_1 ?_|(refine z_l ?_;(repeat first|exact z_0|assumption|refine z_1 ?_);done)|refine z_r ?_);done)) (take_get (hxo (km) xo hko) (j := 0) rfl) ⟨rfl, rfl⟩) ?_
    refine js_S rfl rfl (.inl rfl) (xv_convI Tryd.underlying47 Tryd.underlying3 rfl (wrap_i64 (by (first | omega | (dsimp only at *; omega) | (simp at *; omega))) (by (first | omega | (dsimp only at *; omega) | (simp at *; omega)))) ⟨rfl, rfl⟩) ?_
    refine js_S rfl rfl (.inl rfl) (xv_move rfl ⟨rfl, rfl⟩) ?_
    refine js_S rfl rfl (.inl rfl) (xv_move rfl ⟨rfl, rfl⟩) ?_
    refine js_S rfl rfl (.inl rfl) (xv_len sl46 rfl ⟨rfl, rfl⟩) ?_
    refine js_S rfl rfl (.inl rfl) (xv_quo (c := (kq : Int)) rfl rfl (by omega) (by rw [quo_nat rfl, ← hkq]; exact wrap_i64 (by omega) (by omega)) ⟨rfl, rfl⟩) ?_
    refine js_S rfl rfl (.inl rfl) (xv_add rfl rfl (wrap_i64 (by (first | omega | (dsimp only at *; omega) | (simp at *; omega))) (by (first | omega | (dsimp only at *; omega) | (simp at *; omega)))) ⟨rfl, rfl⟩) ?_
    refine js_S rfl rfl (.inl rfl) (xv_faddr fl45_1 rfl ⟨rfl, rfl⟩) ?_
    refine js_S rfl rfl (.inl rfl) (xv_faddr fl38_1 rfl ⟨rfl, rfl⟩) ?_
    refine js_R0 rfl rfl (.inl rfl) (xv_load1 ty3 rfl rfl (by ((repeat first|exact z_0|assumption|refine z_1 ?_|(refine z_l ?_;(repeat first|exact z_0|assumption|refine z_1 ?_);done)|refine z_r ?_);done)) (by rfl) ⟨rfl, rfl⟩) ?_
    refine js_S rfl rfl (.inl rfl) (xv_faddr fl45_1 rfl ⟨rfl, rfl⟩) ?_
    refine js_S rfl rfl (.inl rfl) (xv_faddr fl38_0 rfl ⟨rfl, rfl⟩) ?_
    refine js_R0 rfl rfl (.inl rfl) (xv_load1 ty3 rfl rfl (by ((repeat first|exact z_0|assumption|refine z_1 ?_|(refine z_l ?_;(repeat first|exact z_0|assumption|refine z_1 ?_);done)|refine z_r ?_);done)) (by rfl) ⟨rfl, rfl⟩) ?_
    refine js_S rfl rfl (.inl rfl) (xv_sub rfl rfl (wrap_i64 (by (first | omega | (dsimp only at *; omega) | (simp at *; omega))) (by (first | omega | (dsimp only at *; omega) | (simp at *; omega)))) ⟨rfl, rfl⟩) ?_
    refine js_S rfl rfl (.inl rfl) (xv_add rfl rfl (wrap_i64 (by (first | omega | (dsimp only at *; omega) | (simp at *; omega))) (by (first | omega | (dsimp only at *; omega) | (simp at *; omega)))) ⟨rfl, rfl⟩) ?_
    refine js_S rfl rfl (.inl rfl) (xv_rem (c := (xo + (kq : Int)) % (d.rate.hi - d.rate.lo + 1)) rfl rfl (by omega) (Int.tmod_eq_emod_of_nonneg (by omega)) ⟨rfl, rfl⟩) ?_
    refine js_S rfl rfl (.inl rfl) (xv_add rfl rfl (wrap_i64 (by (first | omega | (dsimp only at *; omega) | (simp at *; omega))) (by (first | omega | (dsimp only at *; omega) | (simp at *; omega)))) ⟨rfl, rfl⟩) ?_
    refine js_P rfl rfl rfl (al_buildSlice sl32 ty3 rfl rfl rfl rfl rfl (by ((try apply evl_some rfl);(repeat (first|exact (rfl : _ = [])|apply evl_cons rfl (by (first|exact v_1|exact v_2|exact v_3|exact v_4|exact v_5|exact v_6|exact v_7|exact v_8|exact v_9|exact rfl))|exact rfl))))) ?_
    refine js_A0 rfl rfl rfl rfl rfl ⟨rfl, trivial⟩ (fun b4 hb4 => ?_)
    refine js_O0 rfl rfl (.inl rfl) (xv_append (V := V) (n := G.length) (xs := G.flatMap eI) sl32 ty3 rfl rfl rfl hV (.there .here) (by ((repeat first|exact z_0|assumption|refine z_1 ?_|(refine z_l ?_;(repeat first|exact z_0|assumption|refine z_1 ?_);done)|refine z_r ?_);done)) (by ((try apply evl_some rfl);(repeat (first|exact (rfl : _ = [])|apply evl_cons rfl (by (first|exact v_1|exact v_2|exact v_3|exact v_4|exact v_5|exact v_6|exact v_7|exact v_8|exact v_9|exact rfl))|exact rfl)))) rfl rfl (by (first | omega | (dsimp only at *; omega) | (simp at *; omega))) (by simp only []; (first | omega | (dsimp only at *; omega) | (simp at *; omega))) (by (first | omega | (dsimp only at *; omega) | (simp at *; omega))) (fun V2 hV2 => ?_))
    refine js_S rfl rfl (.inl rfl) (xv_assign rfl ⟨rfl, rfl⟩) ?_
    refine j_end0 ?_
    refine bk_n ?_
    refine th_n ?_
    refine xc_region ?_
    refine xr_op rfl rfl (xv_move rfl ?_)
    refine xr_op rfl rfl (xv_add rfl rfl (wrap_i64 (by (first | omega | (dsimp only at *; omega) | (simp at *; omega))) (by (first | omega | (dsimp only at *; omega) | (simp at *; omega)))) ?_)
    refine xr_op rfl rfl (xv_assign rfl ?_)
    refine xr_end rfl ?_
    exact rnd ((k + 1, G ++ [d.rate.lo + (xo + (kq : Int)) % (d.rate.hi - d.rate.lo + 1)], V2) : Nat × List Int × Vec) ⟨by (first | omega | (dsimp only at *; omega) | (simp at *; omega)), by dsimp only; rw [List.length_append]; simp only [List.length_singleton]; omega, fun x hx => by
      rcases List.mem_append.1 hx with hx | hx
      · exact hin x hx
      · rw [List.mem_singleton.1 hx]; exact ⟨by omega, by omega⟩, by simpa [eI] using hV2⟩ (by (first | omega | (dsimp only at *; omega) | (simp at *; omega))) (le_put (le_put (le_put (le_put (le_put (le_emp _) rfl) rfl) rfl) (by dsimp only; rw [List.length_append]; rfl)) rfl) (by simp only [List.flatMap_append, List.flatMap_cons, List.flatMap_nil, List.append_nil]; (first|((repeat first|exact s_0|exact s_1|exact s_3|refine s_4 ?_|refine s_5 ?_|refine s_6 ?_|refine s_7 ?_);done)|((repeat first|exact s_0|exact s_1|exact s_3|refine s_4 ?_|refine s_5 ?_|refine s_6 ?_|refine s_8 ?_);done)))
  · refine xr_end rfl ?_
    refine th_n ?_
    refine xc_false rfl ?_
    refine xc_exit ?_
    refine th_x ?_
    refine th_x ?_
    refine bk_same ?_
    refine th_n ?_
    refine xc_seq (xc_region ?_)
    obtain ⟨a2, c2, hsv, hsl⟩ := Vec.slv (enc := eI) (t := 3) (h := V.hp 3 (G.flatMap eI)) eI_len hV (fun _ hz => hz)
    rw [hsv]
    refine xr_op rfl rfl (xv_move rfl ?_)
    refine xr_op rfl rfl (xv_assign rfl ?_)
    refine xr_end rfl ?_
    refine th_n ?_
    refine xc_ret ?_
    refine body_ret (h' := (V.hp 3 (G.flatMap eI) ++ h)) rfl (ro_tmp rfl ro_nil) (by (first|((repeat first|exact s_0|exact s_1|exact s_3|refine s_4 ?_|refine s_5 ?_|refine s_6 ?_|refine s_7 ?_);done)|((repeat first|exact s_0|exact s_1|exact s_3|refine s_4 ?_|refine s_5 ?_|refine s_6 ?_|refine s_8 ?_);done))) ?_
    exact H G a2 c2 _ (by (first | omega | (dsimp only at *; omega) | (simp at *; omega))) hin hsl

theorem hours_c {most : Int} {bs : List Int} {a : Option Addr} {c : Nat} {h : Hp} {R : Ending → Hp → Prop} (hm0 : 0 ≤ most) (hm1 : most ≤ 159) (hb : SlV h 1 eH a bs) (hbl2 : bs.length ≤ 40) (hbv : ∀ x ∈ bs, 0 ≤ x ∧ x ≤ 65535)
    (H : ∀ at_ a2 c2 q, at_.length ≤ 8 → Up at_ → (∀ x ∈ at_, 1 ≤ x ∧ x ≤ most) → SlV q 1 eI a2 at_ → R (.returned (.slice a2 at_.length c2)) (q ++ h)) :
    ACalls Tryd.prog 23 ⟨[.slice a bs.length c, I most]⟩ h R := by
  refine calls_of_xc (N := 37) Tryd.func23 rfl (by rfl) ?_
  refine xc_seq (xc_region ?_)
  refine xr_op rfl rfl (xv_assign rfl ?_)
  refine xr_end rfl ?_
  refine th_n ?_
  refine xc_seq (xc_region ?_)
  refine xr_op rfl rfl (xv_assign rfl ?_)
  refine xr_end rfl ?_
  refine th_n ?_
  refine xc_seq (xc_region ?_)
  refine xr_op rfl rfl (xv_assign rfl ?_)
  refine xr_end rfl ?_
  refine th_n ?_
  refine xc_seq ?_
  refine xc_seq (xc_region ?_)
  refine xr_op rfl rfl (xv_assign rfl ?_)
  refine xr_end rfl ?_
  refine th_n ?_
  refine xc_block ?_
  refine xc_loop (σ := Nat × Int × List Int × Vec) (fun z => z.1 ≤ bs.length ∧ (0 ≤ z.2.1 ∧ z.2.1 ≤ most) ∧ z.2.2.1.length ≤ 8 ∧ Up z.2.2.1 ∧ (∀ x ∈ z.2.2.1, 1 ≤ x ∧ x ≤ z.2.1) ∧ z.2.2.2.ok 1 z.2.2.1.length (z.2.2.1.flatMap eI)) (fun z => (((((emp.put (some 0) (.slice a bs.length c)).put (some 1) (I most)).put (some 5) (z.2.2.2.val z.2.2.1.length)).put (some 6) (I z.2.1)).put (some 7) (I z.1))) (fun z => (z.2.2.2.hp 3 (z.2.2.1.flatMap eI) ++ h)) (fun z => bs.length - z.1) ((0, 0, [], .nil) : Nat × Int × List Int × Vec) ⟨Nat.zero_le _, ⟨Int.le_refl _, hm0⟩, Nat.zero_le _, List.Pairwise.nil, fun x hx => (by cases hx), rfl, rfl⟩ (le_put (le_put (le_put (le_put (le_put (le_emp _) rfl) rfl) rfl) rfl) rfl) (by (first|((repeat first|exact s_0|exact s_1|exact s_3|refine s_4 ?_|refine s_5 ?_|refine s_6 ?_|refine s_7 ?_);done)|((repeat first|exact s_0|exact s_1|exact s_3|refine s_4 ?_|refine s_5 ?_|refine s_6 ?_|refine s_8 ?_);done))) ?_
  rintro ⟨k, hc, L, V⟩ ⟨hk, hcb, hl8, hup, hall, hV⟩
  dsimp only at hk hcb hl8 hup hall hV
  obtain ⟨sa, sc, hsv, hsl⟩ := Vec.slv (enc := eI) (t := 3) (h := V.hp 3 (L.flatMap eI)) eI_len hV (fun _ hz => hz)
  refine xc_seq ?_
  refine xc_seq (xc_region ?_)
  refine xr_op rfl rfl (xv_move rfl ?_)
  refine xr_op rfl rfl (xv_move rfl ?_)
  refine xr_op rfl rfl (xv_len sl46 rfl ?_)
  refine xr_op rfl rfl (xv_lss2 rfl rfl (fun q1 => ?_) (fun q1 => ?_))
  · refine xr_op rfl rfl (xv_move rfl ?_)
    refine xr_gd rfl rfl rfl (xv_move rfl ?_)
    refine xr_gd rfl rfl rfl (xv_lenV sl32 hV rfl ?_)
    refine xr_gd rfl rfl rfl (xv_lss2 rfl rfl (fun q2 => ?_) (fun q2 => ?_))
    · refine xr_op rfl rfl (xv_pick rfl rfl ?_)
      refine xr_end rfl ?_
      refine th_n ?_
      refine xc_true rfl ?_
      refine xc_skip ?_
      refine th_n ?_
      refine xc_seq ?_
      refine xc_block ?_
      refine xc_seq (xc_region ?_)
      refine xr_op rfl rfl (xv_move rfl ?_)
      refine xr_op rfl rfl (xv_add rfl rfl (wrap_i64 (by (first | omega | (dsimp only at *; omega) | (simp at *; omega))) (by (first | omega | (dsimp only at *; omega) | (simp at *; omega)))) ?_)
      refine xr_op rfl rfl (xv_move rfl ?_)
      refine xr_op rfl rfl (xv_move rfl ?_)
      have hlto : k < bs.length := by (first | omega | (dsimp only at *; omega) | (simp at *; omega))
      obtain ⟨bo, oo, lo, to, fzo, hao, hmo, hxo⟩ := (hb).at hlto
      obtain ⟨xo, hko⟩ : ∃ qq_, bs[k]? = some qq_ := ⟨_, List.getElem?_eq_getElem hlto⟩
      have hxv := hbv xo (List.mem_of_getElem? hko)
      have hr0 := Int.emod_nonneg xo (show (20 : Int) ≠ 0 by omega)
      have hr1 := Int.emod_lt_of_pos xo (show (0 : Int) < 20 by omega)
      refine xr_op rfl rfl (xv_ia (sz := 1) (j := k) sl46 ty47 rfl (by rw [hao]; rfl) rfl (by (first | assumption | with_reducible exact Int.toNat_natCast _ | with_reducible rfl | rfl)) (by (first | omega | (dsimp only at *; omega) | (simp at *; omega))) (by (first | omega | (dsimp only at *; omega) | (simp at *; omega))) ?_)
      refine xr_op rfl rfl (xv_load1 ty47 rfl rfl (by ((repeat first|exact z_0|assumption|refine z_1 ?_|(refine z_l ?_;(repeat first|exact z_0|assumption|refine z_1 ?_);done)|refine z_r ?_);done)) (take_get (hxo (k) xo hko) (j := 0) rfl) ?_)
      refine xr_op rfl rfl (xv_convI Tryd.underlying47 Tryd.underlying3 rfl (wrap_i64 (by (first | omega | (dsimp only at *; omega) | (simp at *; omega))) (by (first | omega | (dsimp only at *; omega) | (simp at *; omega)))) ?_)
      refine xr_op rfl rfl (xv_rem (c := xo % 20) rfl rfl (by omega) (Int.tmod_eq_emod_of_nonneg (by omega)) ?_)
      refine xr_op rfl rfl (xv_add rfl rfl (wrap_i64 (by (first | omega | (dsimp only at *; omega) | (simp at *; omega))) (by (first | omega | (dsimp only at *; omega) | (simp at *; omega)))) ?_)
      refine xr_op rfl rfl (xv_assign rfl ?_)
      refine xr_end rfl ?_
      refine th_n ?_
      refine xc_seq ?_
      refine xc_seq (xc_region ?_)
      refine xr_op rfl rfl (xv_move rfl ?_)
      refine xr_op rfl rfl (xv_move rfl ?_)
      refine xr_op rfl rfl (xv_gtr2 rfl rfl (fun q3 => ?_) (fun q3 => ?_))
      · refine xr_end rfl ?_
        refine th_n ?_
        refine xc_true rfl ?_
        refine xc_seq (xc_region ?_)
        rw [hsv]
        refine xr_op rfl rfl (xv_move rfl ?_)
        refine xr_op rfl rfl (xv_assign rfl ?_)
        refine xr_end rfl ?_
        refine th_n ?_
        refine xc_ret ?_
        refine th_r ?_
        refine bk_r ?_
        refine th_r ?_
        refine th_r ?_
        refine bk_r ?_
        refine th_r ?_
        refine body_ret (h' := (V.hp 3 (L.flatMap eI) ++ h)) rfl (ro_tmp rfl ro_nil) (by (first|((repeat first|exact s_0|exact s_1|exact s_3|refine s_4 ?_|refine s_5 ?_|refine s_6 ?_|refine s_7 ?_);done)|((repeat first|exact s_0|exact s_1|exact s_3|refine s_4 ?_|refine s_5 ?_|refine s_6 ?_|refine s_8 ?_);done))) ?_
        exact H L sa sc _ hl8 hup (fun x hx => by have := hall x hx; omega) hsl
      · refine xr_end rfl ?_
        refine th_n ?_
        refine xc_false rfl ?_
        refine xc_skip ?_
        refine th_n ?_
        refine xc_region ?_
        refine xr_op rfl rfl (xv_move rfl ?_)
        refine xr_op rfl rfl (xv_move rfl ?_)
        refine xr_op rfl rfl ((al_buildSlice sl32 ty3 rfl rfl rfl rfl rfl (by ((try apply evl_some rfl);(repeat (first|exact (rfl : _ = [])|apply evl_cons rfl (by (first|exact v_1|exact v_2|exact v_3|exact v_4|exact v_5|exact v_6|exact v_7|exact v_8|exact v_9|exact rfl))|exact rfl))))).xv (fun b4 hb4 => ?_))
        refine xr_op rfl rfl (xv_append (V := V) (n := L.length) (xs := L.flatMap eI) sl32 ty3 rfl rfl rfl hV (.there .here) (by ((repeat first|exact z_0|assumption|refine z_1 ?_|(refine z_l ?_;(repeat first|exact z_0|assumption|refine z_1 ?_);done)|refine z_r ?_);done)) (by ((try apply evl_some rfl);(repeat (first|exact (rfl : _ = [])|apply evl_cons rfl (by (first|exact v_1|exact v_2|exact v_3|exact v_4|exact v_5|exact v_6|exact v_7|exact v_8|exact v_9|exact rfl))|exact rfl)))) rfl rfl (by (first | omega | (dsimp only at *; omega) | (simp at *; omega))) (by simp only []; (first | omega | (dsimp only at *; omega) | (simp at *; omega))) (by (first | omega | (dsimp only at *; omega) | (simp at *; omega))) (fun V2 hV2 => ?_))
        refine xr_op rfl rfl (xv_assign rfl ?_)
        refine xr_end rfl ?_
        refine bk_n ?_
        refine th_n ?_
        refine xc_region ?_
        refine xr_op rfl rfl (xv_move rfl ?_)
        refine xr_op rfl rfl (xv_add rfl rfl (wrap_i64 (by (first | omega | (dsimp only at *; omega) | (simp at *; omega))) (by (first | omega | (dsimp only at *; omega) | (simp at *; omega)))) ?_)
        refine xr_op rfl rfl (xv_assign rfl ?_)
        refine xr_end rfl ?_
        exact rnd ((k + 1, hc + 1 + xo % 20, L ++ [hc + 1 + xo % 20], V2) : Nat × Int × List Int × Vec) ⟨by (first | omega | (dsimp only at *; omega) | (simp at *; omega)), ⟨by dsimp only; omega, by (first | omega | (dsimp only at *; omega) | (simp at *; omega))⟩, by dsimp only; rw [List.length_append, List.length_singleton]; (first | omega | (dsimp only at *; omega) | (simp at *; omega)), hup.snoc (fun y hy => by have := hall y hy; omega), fun x hx => by
          rcases List.mem_append.1 hx with hx | hx
          · have := hall x hx; dsimp only; omega
          · rw [List.mem_singleton.1 hx]; dsimp only; omega, by simpa [eI] using hV2⟩ (by (first | omega | (dsimp only at *; omega) | (simp at *; omega))) (le_put (le_put (le_put (le_put (le_put (le_emp _) rfl) rfl) (by dsimp only; rw [List.length_append]; rfl)) rfl) rfl) (by simp only [List.flatMap_append, List.flatMap_cons, List.flatMap_nil, List.append_nil]; (first|((repeat first|exact s_0|exact s_1|exact s_3|refine s_4 ?_|refine s_5 ?_|refine s_6 ?_|refine s_7 ?_);done)|((repeat first|exact s_0|exact s_1|exact s_3|refine s_4 ?_|refine s_5 ?_|refine s_6 ?_|refine s_8 ?_);done)))
    · refine xr_op rfl rfl (xv_pick rfl rfl ?_)
      refine xr_end rfl ?_
      refine th_n ?_
      refine xc_false rfl ?_
      refine xc_exit ?_
      refine th_x ?_
      refine th_x ?_
      refine bk_same ?_
      refine th_n ?_
      refine xc_seq (xc_region ?_)
      rw [hsv]
      refine xr_op rfl rfl (xv_move rfl ?_)
      refine xr_op rfl rfl (xv_assign rfl ?_)
      refine xr_end rfl ?_
      refine th_n ?_
      refine xc_ret ?_
      refine body_ret (h' := (V.hp 3 (L.flatMap eI) ++ h)) rfl (ro_tmp rfl ro_nil) (by (first|((repeat first|exact s_0|exact s_1|exact s_3|refine s_4 ?_|refine s_5 ?_|refine s_6 ?_|refine s_7 ?_);done)|((repeat first|exact s_0|exact s_1|exact s_3|refine s_4 ?_|refine s_5 ?_|refine s_6 ?_|refine s_8 ?_);done))) ?_
      exact H L sa sc _ hl8 hup (fun x hx => by have := hall x hx; omega) hsl
  · refine xr_op rfl rfl (xv_move rfl ?_)
    refine xr_no rfl rfl rfl rfl ?_
    refine xr_no rfl rfl rfl rfl ?_
    refine xr_no rfl rfl rfl rfl ?_
    refine xr_op rfl rfl (xv_pick rfl rfl ?_)
    refine xr_end rfl ?_
    refine th_n ?_
    refine xc_false rfl ?_
    refine xc_exit ?_
    refine th_x ?_
    refine th_x ?_
    refine bk_same ?_
    refine th_n ?_
    refine xc_seq (xc_region ?_)
    rw [hsv]
    refine xr_op rfl rfl (xv_move rfl ?_)
    refine xr_op rfl rfl (xv_assign rfl ?_)
    refine xr_end rfl ?_
    refine th_n ?_
    refine xc_ret ?_
    refine body_ret (h' := (V.hp 3 (L.flatMap eI) ++ h)) rfl (ro_tmp rfl ro_nil) (by (first|((repeat first|exact s_0|exact s_1|exact s_3|refine s_4 ?_|refine s_5 ?_|refine s_6 ?_|refine s_7 ?_);done)|((repeat first|exact s_0|exact s_1|exact s_3|refine s_4 ?_|refine s_5 ?_|refine s_6 ?_|refine s_8 ?_);done))) ?_
    exact H L sa sc _ hl8 hup (fun x hx => by have := hall x hx; omega) hsl

theorem sumG_c {d : Dial} {G : List Int} {f t : Int} {a : Option Addr} {c : Nat} {h : Hp} {R : Ending → Hp → Prop} (hd : dialOk d) (hG : InRate d G) (hgl : G.length ≤ 1048576) (hs : SlV h 1 eI a G) (h0 : 0 ≤ f) (h1 : f ≤ t) (h2 : t ≤ G.length) (H : R (.returned (I (SG G f t))) h) :
    ACalls Tryd.prog 25 ⟨[.slice a G.length c, I f, I t]⟩ h R := by
  obtain ⟨f, rfl⟩ := Int.eq_ofNat_of_zero_le h0
  obtain ⟨t, rfl⟩ := Int.eq_ofNat_of_zero_le (Int.le_trans h0 h1)
  obtain ⟨g1, g2, g3, g4, g5⟩ := hd
  refine calls_of_xc (N := 22) Tryd.func25 rfl (by rfl) ?_
  refine xc_seq (xc_region ?_)
  refine xr_op rfl rfl (xv_assign rfl ?_)
  refine xr_end rfl ?_
  refine th_n ?_
  refine xc_seq (xc_region ?_)
  refine xr_op rfl rfl (xv_assign rfl ?_)
  refine xr_end rfl ?_
  refine th_n ?_
  refine xc_seq ?_
  refine xc_seq (xc_region ?_)
  refine xr_op rfl rfl (xv_move rfl ?_)
  refine xr_op rfl rfl (xv_assign rfl ?_)
  refine xr_end rfl ?_
  refine th_n ?_
  refine xc_block ?_
  refine xc_loop (σ := Nat) (fun k => f ≤ k ∧ k ≤ t) (fun k => ((((emp.put (some 0) (.slice a G.length c)).put (some 2) (I (t : Int))).put (some 7) (I (PS G k - PS G f))).put (some 8) (I k))) (fun k => h) (fun k => t - k) f ⟨Nat.le_refl _, by omega⟩ (le_put (le_put (le_put (le_put (le_emp _) rfl) rfl) (by rw [Int.sub_self]; rfl)) rfl) (by (first|((repeat first|exact s_0|exact s_1|exact s_3|refine s_4 ?_|refine s_5 ?_|refine s_6 ?_|refine s_7 ?_);done)|((repeat first|exact s_0|exact s_1|exact s_3|refine s_4 ?_|refine s_5 ?_|refine s_6 ?_|refine s_8 ?_);done))) ?_
  rintro k ⟨hk1, hk2⟩
  refine xc_seq ?_
  refine xc_seq (xc_region ?_)
  refine xr_op rfl rfl (xv_move rfl ?_)
  refine xr_op rfl rfl (xv_move rfl ?_)
  refine xr_op rfl rfl (xv_lss2 rfl rfl (fun q1 => ?_) (fun q1 => ?_))
  · refine xr_end rfl ?_
    refine th_n ?_
    refine xc_true rfl ?_
    refine xc_skip ?_
    refine th_n ?_
    refine xc_seq ?_
    refine xc_block ?_
    refine xc_region ?_
    refine xr_op rfl rfl (xv_move rfl ?_)
    refine xr_op rfl rfl (xv_move rfl ?_)
    refine xr_op rfl rfl (xv_move rfl ?_)
    have hlto : k < G.length := by (first | omega | (dsimp only at *; omega) | (simp at *; omega))
    obtain ⟨bo, oo, lo, to, fzo, hao, hmo, hxo⟩ := (hs).at hlto
    obtain ⟨xo, hko⟩ : ∃ qq_, G[k]? = some qq_ := ⟨_, List.getElem?_eq_getElem hlto⟩
    have hbk := PS_bd hG (k - f) f (by omega)
    rw [show f + (k - f) = k by omega] at hbk
    have hmb := mul_bdI (a := d.rate.hi) (A := 10000) (x := ((k - f : Nat) : Int)) (B := 1048576) (by omega) g5 (by omega) (by omega) (by omega)
    have hmc : 0 ≤ d.rate.lo * ((k - f : Nat) : Int) := Int.mul_nonneg g3 (by omega)
    have hxb := hG xo (List.mem_of_getElem? hko)
    refine xr_op rfl rfl (xv_ia (sz := 1) (j := k) sl32 ty3 rfl (by rw [hao]; rfl) rfl (by (first | assumption | with_reducible exact Int.toNat_natCast _ | with_reducible rfl | rfl)) (by (first | omega | (dsimp only at *; omega) | (simp at *; omega))) (by (first | omega | (dsimp only at *; omega) | (simp at *; omega))) ?_)
    refine xr_op rfl rfl (xv_load1 ty3 rfl rfl (by ((repeat first|exact z_0|assumption|refine z_1 ?_|(refine z_l ?_;(repeat first|exact z_0|assumption|refine z_1 ?_);done)|refine z_r ?_);done)) (take_get (hxo (k) xo hko) (j := 0) rfl) ?_)
    refine xr_op rfl rfl (xv_add rfl rfl (wrap_i64 (by (first | omega | (dsimp only at *; omega) | (simp at *; omega))) (by (first | omega | (dsimp only at *; omega) | (simp at *; omega)))) ?_)
    refine xr_op rfl rfl (xv_assign rfl ?_)
    refine xr_end rfl ?_
    refine bk_n ?_
    refine th_n ?_
    refine xc_region ?_
    refine xr_op rfl rfl (xv_move rfl ?_)
    refine xr_op rfl rfl (xv_add rfl rfl (wrap_i64 (by (first | omega | (dsimp only at *; omega) | (simp at *; omega))) (by (first | omega | (dsimp only at *; omega) | (simp at *; omega)))) ?_)
    refine xr_op rfl rfl (xv_assign rfl ?_)
    refine xr_end rfl ?_
    exact rnd (k + 1) ⟨by omega, by (first | omega | (dsimp only at *; omega) | (simp at *; omega))⟩ (by (first | omega | (dsimp only at *; omega) | (simp at *; omega))) (le_put (le_put (le_put (le_put (le_emp _) rfl) rfl) (by rw [PS_succ hko, show PS G k + xo - PS G f = PS G k - PS G f + xo by omega]; rfl)) rfl) (by (first|((repeat first|exact s_0|exact s_1|exact s_3|refine s_4 ?_|refine s_5 ?_|refine s_6 ?_|refine s_7 ?_);done)|((repeat first|exact s_0|exact s_1|exact s_3|refine s_4 ?_|refine s_5 ?_|refine s_6 ?_|refine s_8 ?_);done)))
  · refine xr_end rfl ?_
    refine th_n ?_
    refine xc_false rfl ?_
    refine xc_exit ?_
    refine th_x ?_
    refine th_x ?_
    refine bk_same ?_
    refine th_n ?_
    refine xc_seq (xc_region ?_)
    obtain rfl : k = t := by (first | omega | (dsimp only at *; omega) | (simp at *; omega))
    refine xr_op rfl rfl (xv_move rfl ?_)
    refine xr_op rfl rfl (xv_assign rfl ?_)
    refine xr_end rfl ?_
    refine th_n ?_
    refine xc_ret ?_
    refine body_ret (h' := h) rfl (ro_tmp rfl ro_nil) (by (first|((repeat first|exact s_0|exact s_1|exact s_3|refine s_4 ?_|refine s_5 ?_|refine s_6 ?_|refine s_7 ?_);done)|((repeat first|exact s_0|exact s_1|exact s_3|refine s_4 ?_|refine s_5 ?_|refine s_6 ?_|refine s_8 ?_);done))) ?_
    exact H

end Go.Proofs.YtckaaaebegemoaaDoor
