/-
  Walks.
-/
import Derived.Test.YtckaaaebegemoaaDoorW28
namespace Go.Proofs.YtckaaaebegemoaaDoor
open Go Go.H
set_option maxRecDepth 100000
set_option maxHeartbeats 2000000
set_option linter.all false
theorem shown_c {d : Dial} {house begin : Int} {G at_ bs : List Int} {ag aa ab : Option Addr} {cg ca cb : Nat} {h : Hp} {R : Ending → Hp → Prop} (hd : dialOk d) (hG : InRate d G) (hgl : G.length ≤ 160) (hgs : SlV h 1 eI ag G) (has : SlV h 1 eI aa at_) (hup : Up at_) (hin : ∀ x ∈ at_, 0 ≤ x ∧ x ≤ G.length) (hal : at_.length ≤ 40)
    (hb0 : 0 ≤ begin) (hb1 : begin ≤ 1000000000000000) (hb : SlV h 1 eH ab bs) (hbl : 0 < bs.length) (hbv : ∀ x ∈ bs, 0 ≤ x ∧ x ≤ 65535)
    (H : ∀ cs a2 c2 q, Shown d house G at_ cs → SlV q 3 eCard a2 cs → R (.returned (.slice a2 cs.length c2)) (q ++ h)) :
    ACalls Tryd.prog 24 ⟨[.agg ⟨eDial d⟩, I house, .slice ag G.length cg, .slice aa at_.length ca, I begin, .slice ab bs.length cb]⟩ h R := by
  refine calls_of_xc (N := 74) Tryd.func24 rfl (by rfl) ?_
  obtain ⟨g1, g2, g3, g4, g5⟩ := id hd
  have htb := turn_bd g1 g2
  have hn0 := Int.emod_nonneg begin (show turnI d.digits ≠ 0 by omega)
  have hn1 := Int.emod_lt_of_pos begin (show 0 < turnI d.digits by omega)
  refine xc_seq (xc_region ?_)
  refine xr_op rfl rfl (xv_box rfl (fun b6 hb6 => ?_))
  refine xr_op rfl rfl (xv_assign rfl ?_)
  refine xr_end rfl ?_
  refine th_n ?_
  refine xc_seq (xc_region ?_)
  refine xr_op rfl rfl (xv_assign rfl ?_)
  refine xr_end rfl ?_
  refine th_n ?_
  refine xc_seq (xc_region ?_)
  refine xr_op rfl rfl (xv_faddr fl45_0 rfl ?_)
  refine xr_op rfl rfl (xv_load1 ty3 rfl rfl (by ((repeat first|exact z_0|assumption|refine z_1 ?_|(refine z_l ?_;(repeat first|exact z_0|assumption|refine z_1 ?_);done)|refine z_r ?_);done)) (by rfl) ?_)
  refine xr_op rfl rfl (xv_calls rfl hb26 (Turn_c (by omega) (by omega) (up_ret ?_)))
  refine xr_op rfl rfl (xv_assign rfl ?_)
  refine xr_end rfl ?_
  refine th_n ?_
  refine xc_seq (xc_region ?_)
  refine xr_op rfl rfl (xv_move rfl ?_)
  refine xr_op rfl rfl (xv_move rfl ?_)
  refine xr_op rfl rfl (xv_rem (c := begin % turnI d.digits) rfl rfl (by omega) (Int.tmod_eq_emod_of_nonneg (by omega)) ?_)
  refine xr_op rfl rfl (xv_assign rfl ?_)
  refine xr_end rfl ?_
  refine th_n ?_
  refine xc_seq ?_
  refine xc_seq (xc_region ?_)
  refine xr_op rfl rfl (xv_assign rfl ?_)
  refine xr_end rfl ?_
  refine th_n ?_
  refine xc_block ?_
  refine xc_loop (σ := Nat × List Card × Int × Vec) (fun z => z.1 ≤ at_.length ∧ z.2.1.length = z.1 ∧ Shown d house G (at_.take z.1) z.2.1 ∧ (0 ≤ z.2.2.1 ∧ z.2.2.1 ≤ turnI d.digits - 1) ∧ (∀ a, 0 < z.1 → z.2.1[z.1 - 1]? = some a → a.shows = z.2.2.1) ∧ z.2.2.2.ok 3 z.2.1.length (z.2.1.flatMap eCard)) (fun z => (((((((((emp.put (some 1) (I house)).put (some 2) (.slice ag G.length cg)).put (some 3) (.slice aa at_.length ca)).put (some 5) (.slice ab bs.length cb)).put (some 6) (.pointer (some ⟨b6, 0, none⟩))).put (some 13) (z.2.2.2.val z.2.1.length)).put (some 14) (I (turnI d.digits))).put (some 15) (I z.2.2.1)).put (some 16) (I z.1))) (fun z => (z.2.2.2.hp 59 (z.2.1.flatMap eCard) ++ (b6, .cells ⟨eDial d⟩ 45) :: h)) (fun z => at_.length - z.1) ((0, [], begin % turnI d.digits, .nil) : Nat × List Card × Int × Vec) ⟨Nat.zero_le _, rfl, shown_nil, ⟨hn0, by dsimp only; omega⟩, fun a h0 => absurd h0 (Nat.lt_irrefl _), rfl, rfl⟩ (le_put (le_put (le_put (le_put (le_put (le_put (le_put (le_put (le_put (le_emp _) rfl) rfl) rfl) rfl) rfl) rfl) rfl) rfl) rfl) (by (first|((repeat first|exact s_0|exact s_1|exact s_3|refine s_4 ?_|refine s_5 ?_|refine s_6 ?_|refine s_7 ?_);done)|((repeat first|exact s_0|exact s_1|exact s_3|refine s_4 ?_|refine s_5 ?_|refine s_6 ?_|refine s_8 ?_);done))) ?_
  rintro ⟨i, cs, n, V⟩ ⟨hi, hcl, hsh, hn, hlast, hV⟩
  dsimp only at hi hcl hsh hn hlast hV
  refine xc_seq ?_
  refine xc_seq (xc_region ?_)
  refine xr_op rfl rfl (xv_move rfl ?_)
  refine xr_op rfl rfl (xv_move rfl ?_)
  refine xr_op rfl rfl (xv_len sl32 rfl ?_)
  refine xr_op rfl rfl (xv_lss2 rfl rfl (fun q1 => ?_) (fun q1 => ?_))
  · refine xr_end rfl ?_
    refine th_n ?_
    refine xc_true rfl ?_
    refine xc_skip ?_
    refine th_n ?_
    refine xc_seq ?_
    refine xc_block ?_
    have hlto : i < at_.length := by (first | omega | (dsimp only at *; omega) | (simp at *; omega))
    obtain ⟨bo, oo, lo, to, fzo, hao, hmo, hxo⟩ := (has).at hlto
    obtain ⟨xo, hko⟩ : ∃ qq_, at_[i]? = some qq_ := ⟨_, List.getElem?_eq_getElem hlto⟩
    have hoi := hin xo (List.mem_of_getElem? hko)
    refine xc_join (σ := Int) (fun q => (0 ≤ q ∧ q ≤ turnI d.digits - 1) ∧ (0 < i → ∀ xp, at_[i - 1]? = some xp → ∃ w, 0 ≤ w ∧ w ≤ SG G xp xo ∧ (d.sticks = false → w = SG G xp xo) ∧ q = (n + w) % turnI d.digits)) (fun q => (((((((((emp.put (some 1) (I house)).put (some 2) (.slice ag G.length cg)).put (some 3) (.slice aa at_.length ca)).put (some 5) (.slice ab bs.length cb)).put (some 6) (.pointer (some ⟨b6, 0, none⟩))).put (some 13) (V.val cs.length)).put (some 14) (I (turnI d.digits))).put (some 16) (I i)).put (some 15) (I q))) (fun q => (V.hp 59 (cs.flatMap eCard) ++ (b6, .cells ⟨eDial d⟩ 45) :: h)) ?_ ?_
    · refine xc_seq (xc_region ?_)
      refine xr_op rfl rfl (xv_move rfl ?_)
      refine xr_op rfl rfl (xv_gtr2 rfl rfl (fun q2 => ?_) (fun q2 => ?_))
      · refine xr_end rfl ?_
        refine th_n ?_
        refine xc_true rfl ?_
        refine xc_seq ?_
        refine xc_draw0 [(0, .S), (1, .S), (2, .S), (3, .S), (4, .S), (5, .R), (6, .S), (7, .S), (8, .S), (9, .R), (10, .O), (11, .S)] mixed (by kernel_rfl) ?_
        refine js_S rfl rfl (.inl rfl) (xv_move rfl ⟨rfl, rfl⟩) ?_
        refine js_S rfl rfl (.inl rfl) (xv_move rfl ⟨rfl, rfl⟩) ?_
        refine js_S rfl rfl (.inl rfl) (xv_move rfl ⟨rfl, rfl⟩) ?_
        refine js_S rfl rfl (.inl rfl) (xv_sub rfl rfl (wrap_i64 (by (first | omega | (dsimp only at *; omega) | (simp at *; omega))) (by (first | omega | (dsimp only at *; omega) | (simp at *; omega)))) ⟨rfl, rfl⟩) ?_
        have hltp : (i - 1) < at_.length := by (first | omega | (dsimp only at *; omega) | (simp at *; omega))
        obtain ⟨bp, op, lp, tp, fzp, hap, hmp, hxp⟩ := (has).at hltp
        obtain ⟨xp, hkp⟩ : ∃ qq_, at_[(i - 1)]? = some qq_ := ⟨_, List.getElem?_eq_getElem hltp⟩
        have hpi := hin xp (List.mem_of_getElem? hkp)
        have hpo := hup.get (by (first | omega | (dsimp only at *; omega) | (simp at *; omega))) hkp hko
        have hsb := SG_bd hG hpi.1 (Int.le_of_lt hpo) hoi.2
        have hsl0 : 0 ≤ d.rate.lo * (xo - xp) := Int.mul_nonneg g3 (by omega)
        have hsl1 := mul_bdI (a := d.rate.hi) (A := 10000) (x := xo - xp) (B := 160) (by omega) g5 (by omega) (by omega) (by omega)
        refine js_S rfl rfl (.inl rfl) (xv_ia (sz := 1) (j := i - 1) sl32 ty3 rfl (by rw [hap]; rfl) rfl (by (first | omega | (dsimp only at *; omega) | (simp at *; omega))) (by (first | omega | (dsimp only at *; omega) | (simp at *; omega))) (by (first | omega | (dsimp only at *; omega) | (simp at *; omega))) ⟨rfl, rfl⟩) ?_
        refine js_R0 rfl rfl (.inl rfl) (xv_load1 ty3 rfl rfl (by ((repeat first|exact z_0|assumption|refine z_1 ?_|(refine z_l ?_;(repeat first|exact z_0|assumption|refine z_1 ?_);done)|refine z_r ?_);done)) (take_get (hxp (i - 1) xp hkp) (j := 0) rfl) ⟨rfl, rfl⟩) ?_
        refine js_S rfl rfl (.inl rfl) (xv_move rfl ⟨rfl, rfl⟩) ?_
        refine js_S rfl rfl (.inl rfl) (xv_move rfl ⟨rfl, rfl⟩) ?_
        refine js_S rfl rfl (.inl rfl) (xv_ia (sz := 1) (j := i) sl32 ty3 rfl (by rw [hao]; rfl) rfl (by (first | assumption | with_reducible exact Int.toNat_natCast _ | with_reducible rfl | rfl)) (by (first | omega | (dsimp only at *; omega) | (simp at *; omega))) (by (first | omega | (dsimp only at *; omega) | (simp at *; omega))) ⟨rfl, rfl⟩) ?_
        refine js_R0 rfl rfl (.inl rfl) (xv_load1 ty3 rfl rfl (by ((repeat first|exact z_0|assumption|refine z_1 ?_|(refine z_l ?_;(repeat first|exact z_0|assumption|refine z_1 ?_);done)|refine z_r ?_);done)) (take_get (hxo (i) xo hko) (j := 0) rfl) ⟨rfl, rfl⟩) ?_
        refine js_O0 rfl rfl (.inl rfl) (xv_calls rfl hb25 (sumG_c hd hG (by omega) (hgs.sub (by intro z hz; ((repeat first|exact z_0|assumption|refine z_1 ?_|(refine z_l ?_;(repeat first|exact z_0|assumption|refine z_1 ?_);done)|refine z_r ?_);done))) hpi.1 (by omega) hoi.2 (up_ret ?_)))
        refine js_S rfl rfl (.inl rfl) (xv_assign rfl ⟨rfl, rfl⟩) ?_
        refine j_end0 ?_
        refine th_n ?_
        refine xc_seq ?_
        refine xc_seq (xc_region ?_)
        refine xr_op rfl rfl (xv_faddr fl45_2 rfl ?_)
        refine xr_op rfl rfl (xv_load1 ty4 rfl rfl (by ((repeat first|exact z_0|assumption|refine z_1 ?_|(refine z_l ?_;(repeat first|exact z_0|assumption|refine z_1 ?_);done)|refine z_r ?_);done)) (by rfl) ?_)
        refine xr_end rfl ?_
        refine th_n ?_
        refine xc_bool rfl (fun q3 => ?_) (fun q3 => ?_)
        · refine xc_region ?_
          refine xr_op rfl rfl (xv_move rfl ?_)
          refine xr_op rfl rfl (xv_move rfl ?_)
          refine xr_op rfl rfl (xv_move rfl ?_)
          refine xr_op rfl rfl (xv_move rfl ?_)
          refine xr_op rfl rfl (xv_len sl46 rfl ?_)
          obtain ⟨km, hkm⟩ : ∃ km : Nat, km = i % bs.length := ⟨_, rfl⟩
          have hkml : km < bs.length := by rw [hkm]; exact Nat.mod_lt i hbl
          have hltu : km < bs.length := hkml
          obtain ⟨bu, ou, lu, tu, fzu, hau, hmu, hxu⟩ := (hb).at hltu
          obtain ⟨xu, hku⟩ : ∃ qq_, bs[km]? = some qq_ := ⟨_, List.getElem?_eq_getElem hltu⟩
          have huv := hbv xu (List.mem_of_getElem? hku)
          have hr0 := Int.emod_nonneg xu (show SG G xp xo + 1 ≠ 0 by omega)
          have hr1 := Int.emod_lt_of_pos xu (show 0 < SG G xp xo + 1 by omega)
          refine xr_op rfl rfl (xv_rem (c := (km : Int)) rfl rfl (by omega) (by rw [hkm]; rfl) ?_)
          refine xr_op rfl rfl (xv_ia (sz := 1) (j := km) sl46 ty47 rfl (by rw [hau]; rfl) rfl (by (first | assumption | with_reducible exact Int.toNat_natCast _ | with_reducible rfl | rfl)) (by (first | omega | (dsimp only at *; omega) | (simp at *; omega))) (by (first | omega | (dsimp only at *; omega) | (simp at *; omega))) ?_)
          refine xr_op rfl rfl (xv_load1 ty47 rfl rfl (by ((repeat first|exact z_0|assumption|refine z_1 ?_|(refine z_l ?_;(repeat first|exact z_0|assumption|refine z_1 ?_);done)|refine z_r ?_);done)) (take_get (hxu (km) xu hku) (j := 0) rfl) ?_)
          refine xr_op rfl rfl (xv_convI Tryd.underlying47 Tryd.underlying3 rfl (wrap_i64 (by (first | omega | (dsimp only at *; omega) | (simp at *; omega))) (by (first | omega | (dsimp only at *; omega) | (simp at *; omega)))) ?_)
          refine xr_op rfl rfl (xv_move rfl ?_)
          refine xr_op rfl rfl (xv_add rfl rfl (wrap_i64 (by (first | omega | (dsimp only at *; omega) | (simp at *; omega))) (by (first | omega | (dsimp only at *; omega) | (simp at *; omega)))) ?_)
          refine xr_op rfl rfl (xv_rem (c := xu % (SG G xp xo + 1)) rfl rfl (by omega) (Int.tmod_eq_emod_of_nonneg (by omega)) ?_)
          refine xr_op rfl rfl (xv_sub rfl rfl (wrap_i64 (by (first | omega | (dsimp only at *; omega) | (simp at *; omega))) (by (first | omega | (dsimp only at *; omega) | (simp at *; omega)))) ?_)
          refine xr_op rfl rfl (xv_assign rfl ?_)
          refine xr_end rfl ?_
          refine th_n ?_
          refine xc_region ?_
          obtain ⟨w, hwe, hw0, hw1, hw2⟩ : ∃ w, w = SG G xp xo - xu % (SG G xp xo + 1) ∧ 0 ≤ w ∧ w ≤ SG G xp xo ∧ (d.sticks = false → w = SG G xp xo) := ⟨_, rfl, by omega, by omega, fun h9 => by simp_all⟩
          rw [← hwe]
          refine xr_op rfl rfl (xv_move rfl ?_)
          refine xr_op rfl rfl (xv_move rfl ?_)
          refine xr_op rfl rfl (xv_add rfl rfl (wrap_i64 (by (first | omega | (dsimp only at *; omega) | (simp at *; omega))) (by (first | omega | (dsimp only at *; omega) | (simp at *; omega)))) ?_)
          refine xr_op rfl rfl (xv_move rfl ?_)
          refine xr_op rfl rfl (xv_rem (c := (n + w) % turnI d.digits) rfl rfl (by omega) (Int.tmod_eq_emod_of_nonneg (by (first | omega | (dsimp only at *; omega) | (simp at *; omega)))) ?_)
          refine xr_op rfl rfl (xv_assign rfl ?_)
          refine xr_end rfl ?_
          have hm0 := Int.emod_nonneg (n + w) (show turnI d.digits ≠ 0 by omega)
          have hm1 := Int.emod_lt_of_pos (n + w) (show 0 < turnI d.digits by omega)
          exact jn_n ((n + w) % turnI d.digits) ⟨⟨hm0, by omega⟩, fun _ xp2 hxp2 => by
            rw [hkp] at hxp2
            cases hxp2
            exact ⟨w, hw0, hw1, hw2, rfl⟩⟩ (le_put (le_put (le_put (le_put (le_put (le_put (le_put (le_put (le_put (le_emp _) rfl) rfl) rfl) rfl) rfl) rfl) rfl) rfl) rfl) (by (first|((repeat first|exact s_0|exact s_1|exact s_3|refine s_4 ?_|refine s_5 ?_|refine s_6 ?_|refine s_7 ?_);done)|((repeat first|exact s_0|exact s_1|exact s_3|refine s_4 ?_|refine s_5 ?_|refine s_6 ?_|refine s_8 ?_);done)))
        · refine xc_skip ?_
          refine th_n ?_
          refine xc_region ?_
          obtain ⟨w, hwe, hw0, hw1, hw2⟩ : ∃ w, w = SG G xp xo ∧ 0 ≤ w ∧ w ≤ SG G xp xo ∧ (d.sticks = false → w = SG G xp xo) := ⟨_, rfl, by omega, Int.le_refl _, fun _ => rfl⟩
          rw [← hwe]
          refine xr_op rfl rfl (xv_move rfl ?_)
          refine xr_op rfl rfl (xv_move rfl ?_)
          refine xr_op rfl rfl (xv_add rfl rfl (wrap_i64 (by (first | omega | (dsimp only at *; omega) | (simp at *; omega))) (by (first | omega | (dsimp only at *; omega) | (simp at *; omega)))) ?_)
          refine xr_op rfl rfl (xv_move rfl ?_)
          refine xr_op rfl rfl (xv_rem (c := (n + w) % turnI d.digits) rfl rfl (by omega) (Int.tmod_eq_emod_of_nonneg (by (first | omega | (dsimp only at *; omega) | (simp at *; omega)))) ?_)
          refine xr_op rfl rfl (xv_assign rfl ?_)
          refine xr_end rfl ?_
          have hm0 := Int.emod_nonneg (n + w) (show turnI d.digits ≠ 0 by omega)
          have hm1 := Int.emod_lt_of_pos (n + w) (show 0 < turnI d.digits by omega)
          exact jn_n ((n + w) % turnI d.digits) ⟨⟨hm0, by omega⟩, fun _ xp2 hxp2 => by
            rw [hkp] at hxp2
            cases hxp2
            exact ⟨w, hw0, hw1, hw2, rfl⟩⟩ (le_put (le_put (le_put (le_put (le_put (le_put (le_put (le_put (le_put (le_emp _) rfl) rfl) rfl) rfl) rfl) rfl) rfl) rfl) rfl) (by (first|((repeat first|exact s_0|exact s_1|exact s_3|refine s_4 ?_|refine s_5 ?_|refine s_6 ?_|refine s_7 ?_);done)|((repeat first|exact s_0|exact s_1|exact s_3|refine s_4 ?_|refine s_5 ?_|refine s_6 ?_|refine s_8 ?_);done)))
      · refine xr_end rfl ?_
        refine th_n ?_
        refine xc_false rfl ?_
        refine xc_skip ?_
        exact jn_n n ⟨hn, fun h0 => absurd h0 (by (first | omega | (dsimp only at *; omega) | (simp at *; omega)))⟩ (le_put (le_put (le_put (le_put (le_put (le_put (le_put (le_put (le_put (le_emp _) rfl) rfl) rfl) rfl) rfl) rfl) rfl) rfl) rfl) (by (first|((repeat first|exact s_0|exact s_1|exact s_3|refine s_4 ?_|refine s_5 ?_|refine s_6 ?_|refine s_7 ?_);done)|((repeat first|exact s_0|exact s_1|exact s_3|refine s_4 ?_|refine s_5 ?_|refine s_6 ?_|refine s_8 ?_);done)))
    · rintro n2 ⟨hn2, hst⟩
      refine xc_region ?_
      refine xr_op rfl rfl (xv_move rfl ?_)
      refine xr_op rfl rfl (xv_move rfl ?_)
      refine xr_op rfl rfl (xv_move rfl ?_)
      refine xr_op rfl rfl (xv_move rfl ?_)
      refine xr_op rfl rfl (xv_ia (sz := 1) (j := i) sl32 ty3 rfl (by rw [hao]; rfl) rfl (by (first | assumption | with_reducible exact Int.toNat_natCast _ | with_reducible rfl | rfl)) (by (first | omega | (dsimp only at *; omega) | (simp at *; omega))) (by (first | omega | (dsimp only at *; omega) | (simp at *; omega))) ?_)
      refine xr_op rfl rfl (xv_load1 ty3 rfl rfl (by ((repeat first|exact z_0|assumption|refine z_1 ?_|(refine z_l ?_;(repeat first|exact z_0|assumption|refine z_1 ?_);done)|refine z_r ?_);done)) (take_get (hxo (i) xo hko) (j := 0) rfl) ?_)
      refine xr_op rfl rfl (xv_move rfl ?_)
      refine xr_op rfl rfl (xv_build bt59 rfl (by ((try apply evl_some rfl);(repeat (first|exact (rfl : _ = [])|apply evl_cons rfl (by (first|exact v_1|exact v_2|exact v_3|exact v_4|exact v_5|exact v_6|exact v_7|exact v_8|exact v_9|exact rfl))|exact rfl)))) ?_)
      refine xr_op rfl rfl ((al_buildSlice sl23 ty59 rfl rfl rfl rfl rfl (by ((try apply evl_some rfl);(repeat (first|exact (rfl : _ = [])|apply evl_cons rfl (by (first|exact v_1|exact v_2|exact v_3|exact v_4|exact v_5|exact v_6|exact v_7|exact v_8|exact v_9|exact rfl))|exact rfl))))).xv (fun b4 hb4 => ?_))
      refine xr_op rfl rfl (xv_append (V := V) (n := cs.length) (xs := cs.flatMap eCard) sl23 ty59 rfl rfl rfl hV (.there .here) (by ((repeat first|exact z_0|assumption|refine z_1 ?_|(refine z_l ?_;(repeat first|exact z_0|assumption|refine z_1 ?_);done)|refine z_r ?_);done)) (by ((try apply evl_some rfl);(repeat (first|exact (rfl : _ = [])|apply evl_cons rfl (by (first|exact v_1|exact v_2|exact v_3|exact v_4|exact v_5|exact v_6|exact v_7|exact v_8|exact v_9|exact rfl))|exact rfl)))) rfl rfl (by (first | omega | (dsimp only at *; omega) | (simp at *; omega))) (by simp only []; (first | omega | (dsimp only at *; omega) | (simp at *; omega))) (by (first | omega | (dsimp only at *; omega) | (simp at *; omega))) (fun V2 hV2 => ?_))
      refine xr_op rfl rfl (xv_assign rfl ?_)
      refine xr_end rfl ?_
      refine bk_n ?_
      refine th_n ?_
      refine xc_region ?_
      refine xr_op rfl rfl (xv_move rfl ?_)
      refine xr_op rfl rfl (xv_add rfl rfl (wrap_i64 (by (first | omega | (dsimp only at *; omega) | (simp at *; omega))) (by (first | omega | (dsimp only at *; omega) | (simp at *; omega)))) ?_)
      refine xr_op rfl rfl (xv_assign rfl ?_)
      refine xr_end rfl ?_
      exact rnd ((i + 1, cs ++ [⟨house, xo, n2⟩], n2, V2) : Nat × List Card × Int × Vec) ⟨by (first | omega | (dsimp only at *; omega) | (simp at *; omega)), by dsimp only; rw [List.length_append, List.length_singleton]; omega, hsh.snoc hcl hko hn2 (fun a h0 ha => by
        have e1 := hsh.hour _ _ ha
        rw [List.getElem?_take_of_lt (by omega)] at e1
        have e2 := hst h0 _ e1
        rw [hlast a h0 ha]; exact e2), hn2, fun a h0 ha => (by dsimp only at ha ⊢; rw [Nat.add_sub_cancel, List.getElem?_append_right (by omega), hcl, Nat.sub_self] at ha; simp at ha; rw [← ha]), by simpa [eCard] using hV2⟩ (by (first | omega | (dsimp only at *; omega) | (simp at *; omega))) (le_put (le_put (le_put (le_put (le_put (le_put (le_put (le_put (le_put (le_emp _) rfl) rfl) rfl) rfl) rfl) (by dsimp only; rw [List.length_append]; rfl)) rfl) rfl) rfl) (by simp only [List.flatMap_append, List.flatMap_cons, List.flatMap_nil, List.append_nil]; (first|((repeat first|exact s_0|exact s_1|exact s_3|refine s_4 ?_|refine s_5 ?_|refine s_6 ?_|refine s_7 ?_);done)|((repeat first|exact s_0|exact s_1|exact s_3|refine s_4 ?_|refine s_5 ?_|refine s_6 ?_|refine s_8 ?_);done)))
  · refine xr_end rfl ?_
    refine th_n ?_
    refine xc_false rfl ?_
    refine xc_exit ?_
    refine th_x ?_
    refine th_x ?_
    refine bk_same ?_
    refine th_n ?_
    refine xc_seq (xc_region ?_)
    obtain ⟨sa, sc, hsv, hsl⟩ := Vec.slv (enc := eCard) (t := 59) (h := V.hp 59 (cs.flatMap eCard)) eCard_len hV (fun _ hz => hz)
    rw [hsv]
    have hil : i = at_.length := by (first | omega | (dsimp only at *; omega) | (simp at *; omega))
    rw [hil, List.take_length] at hsh
    refine xr_op rfl rfl (xv_move rfl ?_)
    refine xr_op rfl rfl (xv_assign rfl ?_)
    refine xr_end rfl ?_
    refine th_n ?_
    refine xc_ret ?_
    refine body_ret (h' := (V.hp 59 (cs.flatMap eCard) ++ h)) rfl (ro_tmp rfl ro_nil) (by (first|((repeat first|exact s_0|exact s_1|exact s_3|refine s_4 ?_|refine s_5 ?_|refine s_6 ?_|refine s_7 ?_);done)|((repeat first|exact s_0|exact s_1|exact s_3|refine s_4 ?_|refine s_5 ?_|refine s_6 ?_|refine s_8 ?_);done))) ?_
    exact H cs sa sc _ hsh hsl

end Go.Proofs.YtckaaaebegemoaaDoor
