/-
  Walks.
-/
import Derived.Test.YtckaaaebegemoaaDoorW28
import Derived.Test.YtckaaaebegemoaaDoorP9
import Derived.Test.YtckaaaebegemoaaDoorP10
namespace Go.Proofs.YtckaaaebegemoaaDoor
open Go Go.H
set_option maxRecDepth 100000
set_option maxHeartbeats 8000000
set_option linter.all false
theorem shownB_c {d : Dial} {house begin : Int} {G at_ bs : List Int} {ag aa ab : Option Addr} {cg ca cb : Nat} {h : Hp} {R : Ending → Hp → Prop} (hd : dialOk d) (hG : InRate d G) (hgl : G.length ≤ 160) (hgs : SlV h 1 eI ag G) (has : SlV h 1 eI aa at_) (hup : Up at_) (hin : ∀ x ∈ at_, 0 ≤ x ∧ x ≤ G.length) (hal : at_.length ≤ 40)
    (hb0 : 0 ≤ begin) (hb1 : begin ≤ 1000000000000000) (hb : SlV h 1 eH ab bs) (hbl : 0 < bs.length) (hbv : ∀ x ∈ bs, 0 ≤ x ∧ x ≤ 65535)
    (H : ∀ cs a2 c2 q, Shown d house G at_ cs → (∀ a, cs[0]? = some a → a.shows = begin % turnI d.digits) → SlV q 3 eCard a2 cs → R (.returned (.slice a2 cs.length c2)) (q ++ h)) :
    ACalls Tryd.prog 24 ⟨[.agg ⟨eDial d⟩, I house, .slice ag G.length cg, .slice aa at_.length ca, I begin, .slice ab bs.length cb]⟩ h R := by
  refine calls_of_xc (N := 74) Tryd.func24 rfl (by rfl) ?_
  obtain ⟨g1, g2, g3, g4, g5⟩ := id hd
  have htb := turn_bd g1 g2
  have hn0 := Int.emod_nonneg begin (show turnI d.digits ≠ 0 by omega)
  have hn1 := Int.emod_lt_of_pos begin (show 0 < turnI d.digits by omega)
  refine xc_seq (xc_region ?_)
  refine xr_op rfl rfl (xv_box rfl (fun b6 hb6 => ?_))
  refine xr_op rfl rfl (xv_assign rfl ?_)
  refine xr_end rfl ?_
  refine th_n ?_
  refine xc_seq (xc_region ?_)
  refine xr_op rfl rfl (xv_assign rfl ?_)
  refine xr_end rfl ?_
  refine th_n ?_
  refine xc_seq (xc_region ?_)
  refine xr_op rfl rfl (xv_faddr fl45_0 rfl ?_)
  refine xr_op rfl rfl (xv_load1 ty3 rfl rfl (by ((repeat first|exact z_0|assumption|refine z_1 ?_|(refine z_l ?_;(repeat first|exact z_0|assumption|refine z_1 ?_);done)|refine z_r ?_);done)) (by rfl) ?_)
  refine xr_op rfl rfl (xv_calls rfl hb26 (Turn_c (by omega) (by omega) (up_ret ?_)))
  refine xr_op rfl rfl (xv_assign rfl ?_)
  refine xr_end rfl ?_
  refine th_n ?_
  refine xc_seq (xc_region ?_)
  refine xr_op rfl rfl (xv_move rfl ?_)
  refine xr_op rfl rfl (xv_move rfl ?_)
  refine xr_op rfl rfl (xv_rem (c := begin % turnI d.digits) rfl rfl (by omega) (Int.tmod_eq_emod_of_nonneg (by omega)) ?_)
  refine xr_op rfl rfl (xv_assign rfl ?_)
  refine xr_end rfl ?_
  refine th_n ?_
  refine xc_seq ?_
  refine xc_seq (xc_region ?_)
  refine xr_op rfl rfl (xv_assign rfl ?_)
  refine xr_end rfl ?_
  refine th_n ?_
  refine xc_block ?_
  refine xc_loop (σ := Nat × List Card × Int × Vec) (fun z => z.1 ≤ at_.length ∧ z.2.1.length = z.1 ∧ Shown d house G (at_.take z.1) z.2.1 ∧ (0 ≤ z.2.2.1 ∧ z.2.2.1 ≤ turnI d.digits - 1) ∧ (∀ a, 0 < z.1 → z.2.1[z.1 - 1]? = some a → a.shows = z.2.2.1) ∧ z.2.2.2.ok 3 z.2.1.length (z.2.1.flatMap eCard) ∧ (∀ a, z.2.1[0]? = some a → a.shows = begin % turnI d.digits) ∧ (z.1 = 0 → z.2.2.1 = begin % turnI d.digits)) (fun z => (((((((((emp.put (some 1) (I house)).put (some 2) (.slice ag G.length cg)).put (some 3) (.slice aa at_.length ca)).put (some 5) (.slice ab bs.length cb)).put (some 6) (.pointer (some ⟨b6, 0, none⟩))).put (some 13) (z.2.2.2.val z.2.1.length)).put (some 14) (I (turnI d.digits))).put (some 15) (I z.2.2.1)).put (some 16) (I z.1))) (fun z => (z.2.2.2.hp 59 (z.2.1.flatMap eCard) ++ (b6, .cells ⟨eDial d⟩ 45) :: h)) (fun z => at_.length - z.1) ((0, [], begin % turnI d.digits, .nil) : Nat × List Card × Int × Vec) ⟨Nat.zero_le _, rfl, shown_nil, ⟨hn0, by dsimp only; omega⟩, fun a h0 => absurd h0 (Nat.lt_irrefl _), ⟨rfl, rfl⟩, fun a h0 => (by cases h0), fun _ => rfl⟩ (le_put (le_put (le_put (le_put (le_put (le_put (le_put (le_put (le_put (le_emp _) rfl) rfl) rfl) rfl) rfl) rfl) rfl) rfl) rfl) (by (first|((repeat first|exact s_0|exact s_1|exact s_3|refine s_4 ?_|refine s_5 ?_|refine s_6 ?_|refine s_7 ?_);done)|((repeat first|exact s_0|exact s_1|exact s_3|refine s_4 ?_|refine s_5 ?_|refine s_6 ?_|refine s_8 ?_);done))) ?_
  rintro ⟨i, cs, n, V⟩ ⟨hi, hcl, hsh, hn, hlast, hV, hfst, hbeg⟩
  dsimp only at hi hcl hsh hn hlast hV hfst hbeg
  refine xc_seq ?_
  refine xc_seq (xc_region ?_)
  refine xr_op rfl rfl (xv_move rfl ?_)
  refine xr_op rfl rfl (xv_move rfl ?_)
  refine xr_op rfl rfl (xv_len sl32 rfl ?_)
  refine xr_op rfl rfl (xv_lss2 rfl rfl (fun q1 => ?_) (fun q1 => ?_))
  · refine xr_end rfl ?_
    refine th_n ?_
    refine xc_true rfl ?_
    refine xc_skip ?_
    refine th_n ?_
    refine xc_seq ?_
    refine xc_block ?_
    have hlto : i < at_.length := by (first | omega | (dsimp only at *; omega) | (simp at *; omega))
    obtain ⟨bo, oo, lo, to, fzo, hao, hmo, hxo⟩ := (has).at hlto
    obtain ⟨xo, hko⟩ : ∃ qq_, at_[i]? = some qq_ := ⟨_, List.getElem?_eq_getElem hlto⟩
    have hoi := hin xo (List.mem_of_getElem? hko)
    refine xc_join (σ := Int) (fun q => (0 ≤ q ∧ q ≤ turnI d.digits - 1) ∧ (0 < i → ∀ xp, at_[i - 1]? = some xp → ∃ w, 0 ≤ w ∧ w ≤ SG G xp xo ∧ (d.sticks = false → w = SG G xp xo) ∧ q = (n + w) % turnI d.digits) ∧ (i = 0 → q = begin % turnI d.digits)) (fun q => (((((((((emp.put (some 1) (I house)).put (some 2) (.slice ag G.length cg)).put (some 3) (.slice aa at_.length ca)).put (some 5) (.slice ab bs.length cb)).put (some 6) (.pointer (some ⟨b6, 0, none⟩))).put (some 13) (V.val cs.length)).put (some 14) (I (turnI d.digits))).put (some 16) (I i)).put (some 15) (I q))) (fun q => (V.hp 59 (cs.flatMap eCard) ++ (b6, .cells ⟨eDial d⟩ 45) :: h)) ?_ ?_
    · refine xc_seq (xc_region ?_)
      refine xr_op rfl rfl (xv_move rfl ?_)
      refine xr_op rfl rfl (xv_gtr2 rfl rfl (fun q2 => ?_) (fun q2 => ?_))
      · refine xr_end rfl ?_
        refine th_n ?_
        refine xc_true rfl ?_
        refine xc_seq ?_
        refine xc_draw0 [(0, .S), (1, .S), (2, .S), (3, .S), (4, .S), (5, .R), (6, .S), (7, .S), (8, .S), (9, .R), (10, .O), (11, .S)] mixed (by kernel_rfl) ?_
        refine js_S rfl rfl (.inl rfl) (xv_move rfl ⟨rfl, rfl⟩) ?_
        refine js_S rfl rfl (.inl rfl) (xv_move rfl ⟨rfl, rfl⟩) ?_
        refine js_S rfl rfl (.inl rfl) (xv_move rfl ⟨rfl, rfl⟩) ?_
        refine js_S rfl rfl (.inl rfl) (xv_sub rfl rfl (wrap_i64 (by (first | omega | (dsimp only at *; omega) | (simp at *; omega))) (by (first | omega | (dsimp only at *; omega) | (simp at *; omega)))) ⟨rfl, rfl⟩) ?_
        have hltp : (i - 1) < at_.length := by (first | omega | (dsimp only at *; omega) | (simp at *; omega))
        obtain ⟨bp, op, lp, tp, fzp, hap, hmp, hxp⟩ := (has).at hltp
        obtain ⟨xp, hkp⟩ : ∃ qq_, at_[(i - 1)]? = some qq_ := ⟨_, List.getElem?_eq_getElem hltp⟩
        have hpi := hin xp (List.mem_of_getElem? hkp)
        have hpo := hup.get (by (first | omega | (dsimp only at *; omega) | (simp at *; omega))) hkp hko
        have hsb := SG_bd hG hpi.1 (Int.le_of_lt hpo) hoi.2
        have hsl0 : 0 ≤ d.rate.lo * (xo - xp) := Int.mul_nonneg g3 (by omega)
        have hsl1 := mul_bdI (a := d.rate.hi) (A := 10000) (x := xo - xp) (B := 160) (by omega) g5 (by omega) (by omega) (by omega)
        refine js_S rfl rfl (.inl rfl) (xv_ia (sz := 1) (j := i - 1) sl32 ty3 rfl (by rw [hap]; rfl) rfl (by (first | omega | (dsimp only at *; omega) | (simp at *; omega))) (by (first | omega | (dsimp only at *; omega) | (simp at *; omega))) (by (first | omega | (dsimp only at *; omega) | (simp at *; omega))) ⟨rfl, rfl⟩) ?_
        refine js_R0 rfl rfl (.inl rfl) (xv_load1 ty3 rfl rfl (by ((repeat first|exact z_0|assumption|refine z_1 ?_|(refine z_l ?_;(repeat first|exact z_0|assumption|refine z_1 ?_);done)|refine z_r ?_);done)) (take_get (hxp (i - 1) xp hkp) (j := 0) rfl) ⟨rfl, rfl⟩) ?_
        refine js_S rfl rfl (.inl rfl) (xv_move rfl ⟨rfl, rfl⟩) ?_
        refine js_S rfl rfl (.inl rfl) (xv_move rfl ⟨rfl, rfl⟩) ?_
        refine js_S rfl rfl (.inl rfl) (xv_ia (sz := 1) (j := i) sl32 ty3 rfl (by rw [hao]; rfl) rfl (by (first | assumption | with_reducible exact Int.toNat_natCast _ | with_reducible rfl | rfl)) (by (first | omega | (dsimp only at *; omega) | (simp at *; omega))) (by (first | omega | (dsimp only at *; omega) | (simp at *; omega))) ⟨rfl, rfl⟩) ?_
        refine js_R0 rfl rfl (.inl rfl) (xv_load1 ty3 rfl rfl (by ((repeat first|exact z_0|assumption|refine z_1 ?_|(refine z_l ?_;(repeat first|exact z_0|assumption|refine z_1 ?_);done)|refine z_r ?_);done)) (take_get (hxo (i) xo hko) (j := 0) rfl) ⟨rfl, rfl⟩) ?_
        refine js_O0 rfl rfl (.inl rfl) (xv_calls rfl hb25 (sumG_c hd hG (by omega) (hgs.sub (by intro z hz; ((repeat first|exact z_0|assumption|refine z_1 ?_|(refine z_l ?_;(repeat first|exact z_0|assumption|refine z_1 ?_);done)|refine z_r ?_);done))) hpi.1 (by omega) hoi.2 (up_ret ?_)))
        refine js_S rfl rfl (.inl rfl) (xv_assign rfl ⟨rfl, rfl⟩) ?_
        refine j_end0 ?_
        refine th_n ?_
        refine xc_seq ?_
        refine xc_seq (xc_region ?_)
        refine xr_op rfl rfl (xv_faddr fl45_2 rfl ?_)
        refine xr_op rfl rfl (xv_load1 ty4 rfl rfl (by ((repeat first|exact z_0|assumption|refine z_1 ?_|(refine z_l ?_;(repeat first|exact z_0|assumption|refine z_1 ?_);done)|refine z_r ?_);done)) (by rfl) ?_)
        refine xr_end rfl ?_
        refine th_n ?_
        refine xc_bool rfl (fun q3 => ?_) (fun q3 => ?_)
        · refine xc_region ?_
          refine xr_op rfl rfl (xv_move rfl ?_)
          refine xr_op rfl rfl (xv_move rfl ?_)
          refine xr_op rfl rfl (xv_move rfl ?_)
          refine xr_op rfl rfl (xv_move rfl ?_)
          refine xr_op rfl rfl (xv_len sl46 rfl ?_)
          obtain ⟨km, hkm⟩ : ∃ km : Nat, km = i % bs.length := ⟨_, rfl⟩
          have hkml : km < bs.length := by rw [hkm]; exact Nat.mod_lt i hbl
          have hltu : km < bs.length := hkml
          obtain ⟨bu, ou, lu, tu, fzu, hau, hmu, hxu⟩ := (hb).at hltu
          obtain ⟨xu, hku⟩ : ∃ qq_, bs[km]? = some qq_ := ⟨_, List.getElem?_eq_getElem hltu⟩
          have huv := hbv xu (List.mem_of_getElem? hku)
          have hr0 := Int.emod_nonneg xu (show SG G xp xo + 1 ≠ 0 by omega)
          have hr1 := Int.emod_lt_of_pos xu (show 0 < SG G xp xo + 1 by omega)
          refine xr_op rfl rfl (xv_rem (c := (km : Int)) rfl rfl (by omega) (by rw [hkm]; rfl) ?_)
          refine xr_op rfl rfl (xv_ia (sz := 1) (j := km) sl46 ty47 rfl (by rw [hau]; rfl) rfl (by (first | assumption | with_reducible exact Int.toNat_natCast _ | with_reducible rfl | rfl)) (by (first | omega | (dsimp only at *; omega) | (simp at *; omega))) (by (first | omega | (dsimp only at *; omega) | (simp at *; omega))) ?_)
          refine xr_op rfl rfl (xv_load1 ty47 rfl rfl (by ((repeat first|exact z_0|assumption|refine z_1 ?_|(refine z_l ?_;(repeat first|exact z_0|assumption|refine z_1 ?_);done)|refine z_r ?_);done)) (take_get (hxu (km) xu hku) (j := 0) rfl) ?_)
          refine xr_op rfl rfl (xv_convI Tryd.underlying47 Tryd.underlying3 rfl (wrap_i64 (by (first | omega | (dsimp only at *; omega) | (simp at *; omega))) (by (first | omega | (dsimp only at *; omega) | (simp at *; omega)))) ?_)
          refine xr_op rfl rfl (xv_move rfl ?_)
          refine xr_op rfl rfl (xv_add rfl rfl (wrap_i64 (by (first | omega | (dsimp only at *; omega) | (simp at *; omega))) (by (first | omega | (dsimp only at *; omega) | (simp at *; omega)))) ?_)
          refine xr_op rfl rfl (xv_rem (c := xu % (SG G xp xo + 1)) rfl rfl (by omega) (Int.tmod_eq_emod_of_nonneg (by omega)) ?_)
          refine xr_op rfl rfl (xv_sub rfl rfl (wrap_i64 (by (first | omega | (dsimp only at *; omega) | (simp at *; omega))) (by (first | omega | (dsimp only at *; omega) | (simp at *; omega)))) ?_)
          refine xr_op rfl rfl (xv_assign rfl ?_)
          refine xr_end rfl ?_
          refine th_n ?_
          refine xc_region ?_
          obtain ⟨w, hwe, hw0, hw1, hw2⟩ : ∃ w, w = SG G xp xo - xu % (SG G xp xo + 1) ∧ 0 ≤ w ∧ w ≤ SG G xp xo ∧ (d.sticks = false → w = SG G xp xo) := ⟨_, rfl, by omega, by omega, fun h9 => by simp_all⟩
          rw [← hwe]
          refine xr_op rfl rfl (xv_move rfl ?_)
          refine xr_op rfl rfl (xv_move rfl ?_)
          refine xr_op rfl rfl (xv_add rfl rfl (wrap_i64 (by (first | omega | (dsimp only at *; omega) | (simp at *; omega))) (by (first | omega | (dsimp only at *; omega) | (simp at *; omega)))) ?_)
          refine xr_op rfl rfl (xv_move rfl ?_)
          refine xr_op rfl rfl (xv_rem (c := (n + w) % turnI d.digits) rfl rfl (by omega) (Int.tmod_eq_emod_of_nonneg (by (first | omega | (dsimp only at *; omega) | (simp at *; omega)))) ?_)
          refine xr_op rfl rfl (xv_assign rfl ?_)
          refine xr_end rfl ?_
          have hm0 := Int.emod_nonneg (n + w) (show turnI d.digits ≠ 0 by omega)
          have hm1 := Int.emod_lt_of_pos (n + w) (show 0 < turnI d.digits by omega)
          exact jn_n ((n + w) % turnI d.digits) ⟨⟨hm0, by omega⟩, fun _ xp2 hxp2 => by
            rw [hkp] at hxp2
            cases hxp2
            exact ⟨w, hw0, hw1, hw2, rfl⟩, fun h9 => absurd h9 (by (first | omega | (dsimp only at *; omega) | (simp at *; omega)))⟩ (le_put (le_put (le_put (le_put (le_put (le_put (le_put (le_put (le_put (le_emp _) rfl) rfl) rfl) rfl) rfl) rfl) rfl) rfl) rfl) (by (first|((repeat first|exact s_0|exact s_1|exact s_3|refine s_4 ?_|refine s_5 ?_|refine s_6 ?_|refine s_7 ?_);done)|((repeat first|exact s_0|exact s_1|exact s_3|refine s_4 ?_|refine s_5 ?_|refine s_6 ?_|refine s_8 ?_);done)))
        · refine xc_skip ?_
          refine th_n ?_
          refine xc_region ?_
          obtain ⟨w, hwe, hw0, hw1, hw2⟩ : ∃ w, w = SG G xp xo ∧ 0 ≤ w ∧ w ≤ SG G xp xo ∧ (d.sticks = false → w = SG G xp xo) := ⟨_, rfl, by omega, Int.le_refl _, fun _ => rfl⟩
          rw [← hwe]
          refine xr_op rfl rfl (xv_move rfl ?_)
          refine xr_op rfl rfl (xv_move rfl ?_)
          refine xr_op rfl rfl (xv_add rfl rfl (wrap_i64 (by (first | omega | (dsimp only at *; omega) | (simp at *; omega))) (by (first | omega | (dsimp only at *; omega) | (simp at *; omega)))) ?_)
          refine xr_op rfl rfl (xv_move rfl ?_)
          refine xr_op rfl rfl (xv_rem (c := (n + w) % turnI d.digits) rfl rfl (by omega) (Int.tmod_eq_emod_of_nonneg (by (first | omega | (dsimp only at *; omega) | (simp at *; omega)))) ?_)
          refine xr_op rfl rfl (xv_assign rfl ?_)
          refine xr_end rfl ?_
          have hm0 := Int.emod_nonneg (n + w) (show turnI d.digits ≠ 0 by omega)
          have hm1 := Int.emod_lt_of_pos (n + w) (show 0 < turnI d.digits by omega)
          exact jn_n ((n + w) % turnI d.digits) ⟨⟨hm0, by omega⟩, fun _ xp2 hxp2 => by
            rw [hkp] at hxp2
            cases hxp2
            exact ⟨w, hw0, hw1, hw2, rfl⟩, fun h9 => absurd h9 (by (first | omega | (dsimp only at *; omega) | (simp at *; omega)))⟩ (le_put (le_put (le_put (le_put (le_put (le_put (le_put (le_put (le_put (le_emp _) rfl) rfl) rfl) rfl) rfl) rfl) rfl) rfl) rfl) (by (first|((repeat first|exact s_0|exact s_1|exact s_3|refine s_4 ?_|refine s_5 ?_|refine s_6 ?_|refine s_7 ?_);done)|((repeat first|exact s_0|exact s_1|exact s_3|refine s_4 ?_|refine s_5 ?_|refine s_6 ?_|refine s_8 ?_);done)))
      · refine xr_end rfl ?_
        refine th_n ?_
        refine xc_false rfl ?_
        refine xc_skip ?_
        exact jn_n n ⟨hn, fun h0 => absurd h0 (by (first | omega | (dsimp only at *; omega) | (simp at *; omega))), fun h9 => hbeg h9⟩ (le_put (le_put (le_put (le_put (le_put (le_put (le_put (le_put (le_put (le_emp _) rfl) rfl) rfl) rfl) rfl) rfl) rfl) rfl) rfl) (by (first|((repeat first|exact s_0|exact s_1|exact s_3|refine s_4 ?_|refine s_5 ?_|refine s_6 ?_|refine s_7 ?_);done)|((repeat first|exact s_0|exact s_1|exact s_3|refine s_4 ?_|refine s_5 ?_|refine s_6 ?_|refine s_8 ?_);done)))
    · rintro n2 ⟨hn2, hst, hst0⟩
      refine xc_region ?_
      refine xr_op rfl rfl (xv_move rfl ?_)
      refine xr_op rfl rfl (xv_move rfl ?_)
      refine xr_op rfl rfl (xv_move rfl ?_)
      refine xr_op rfl rfl (xv_move rfl ?_)
      refine xr_op rfl rfl (xv_ia (sz := 1) (j := i) sl32 ty3 rfl (by rw [hao]; rfl) rfl (by (first | assumption | with_reducible exact Int.toNat_natCast _ | with_reducible rfl | rfl)) (by (first | omega | (dsimp only at *; omega) | (simp at *; omega))) (by (first | omega | (dsimp only at *; omega) | (simp at *; omega))) ?_)
      refine xr_op rfl rfl (xv_load1 ty3 rfl rfl (by ((repeat first|exact z_0|assumption|refine z_1 ?_|(refine z_l ?_;(repeat first|exact z_0|assumption|refine z_1 ?_);done)|refine z_r ?_);done)) (take_get (hxo (i) xo hko) (j := 0) rfl) ?_)
      refine xr_op rfl rfl (xv_move rfl ?_)
      refine xr_op rfl rfl (xv_build bt59 rfl (by ((try apply evl_some rfl);(repeat (first|exact (rfl : _ = [])|apply evl_cons rfl (by (first|exact v_1|exact v_2|exact v_3|exact v_4|exact v_5|exact v_6|exact v_7|exact v_8|exact v_9|exact rfl))|exact rfl)))) ?_)
      refine xr_op rfl rfl ((al_buildSlice sl23 ty59 rfl rfl rfl rfl rfl (by ((try apply evl_some rfl);(repeat (first|exact (rfl : _ = [])|apply evl_cons rfl (by (first|exact v_1|exact v_2|exact v_3|exact v_4|exact v_5|exact v_6|exact v_7|exact v_8|exact v_9|exact rfl))|exact rfl))))).xv (fun b4 hb4 => ?_))
      refine xr_op rfl rfl (xv_append (V := V) (n := cs.length) (xs := cs.flatMap eCard) sl23 ty59 rfl rfl rfl hV (.there .here) (by ((repeat first|exact z_0|assumption|refine z_1 ?_|(refine z_l ?_;(repeat first|exact z_0|assumption|refine z_1 ?_);done)|refine z_r ?_);done)) (by ((try apply evl_some rfl);(repeat (first|exact (rfl : _ = [])|apply evl_cons rfl (by (first|exact v_1|exact v_2|exact v_3|exact v_4|exact v_5|exact v_6|exact v_7|exact v_8|exact v_9|exact rfl))|exact rfl)))) rfl rfl (by (first | omega | (dsimp only at *; omega) | (simp at *; omega))) (by simp only []; (first | omega | (dsimp only at *; omega) | (simp at *; omega))) (by (first | omega | (dsimp only at *; omega) | (simp at *; omega))) (fun V2 hV2 => ?_))
      refine xr_op rfl rfl (xv_assign rfl ?_)
      refine xr_end rfl ?_
      refine bk_n ?_
      refine th_n ?_
      refine xc_region ?_
      refine xr_op rfl rfl (xv_move rfl ?_)
      refine xr_op rfl rfl (xv_add rfl rfl (wrap_i64 (by (first | omega | (dsimp only at *; omega) | (simp at *; omega))) (by (first | omega | (dsimp only at *; omega) | (simp at *; omega)))) ?_)
      refine xr_op rfl rfl (xv_assign rfl ?_)
      refine xr_end rfl ?_
      exact rnd ((i + 1, cs ++ [⟨house, xo, n2⟩], n2, V2) : Nat × List Card × Int × Vec) ⟨by (first | omega | (dsimp only at *; omega) | (simp at *; omega)), by dsimp only; rw [List.length_append, List.length_singleton]; omega, hsh.snoc hcl hko hn2 (fun a h0 ha => by
        have e1 := hsh.hour _ _ ha
        rw [List.getElem?_take_of_lt (by omega)] at e1
        have e2 := hst h0 _ e1
        rw [hlast a h0 ha]; exact e2), hn2, fun a h0 ha => (by dsimp only at ha ⊢; rw [Nat.add_sub_cancel, List.getElem?_append_right (by omega), hcl, Nat.sub_self] at ha; simp at ha; rw [← ha]), by simpa [eCard] using hV2, fun a ha => (by
        dsimp only at ha
        by_cases h9 : i = 0
        · have e9 : cs = [] := List.length_eq_zero_iff.1 (by omega)
          rw [e9] at ha
          simp at ha
          rw [← ha]; exact hst0 h9
        · rw [List.getElem?_append_left (by omega)] at ha; exact hfst a ha), fun h9 => absurd h9 (Nat.succ_ne_zero _)⟩ (by (first | omega | (dsimp only at *; omega) | (simp at *; omega))) (le_put (le_put (le_put (le_put (le_put (le_put (le_put (le_put (le_put (le_emp _) rfl) rfl) rfl) rfl) rfl) (by dsimp only; rw [List.length_append]; rfl)) rfl) rfl) rfl) (by simp only [List.flatMap_append, List.flatMap_cons, List.flatMap_nil, List.append_nil]; (first|((repeat first|exact s_0|exact s_1|exact s_3|refine s_4 ?_|refine s_5 ?_|refine s_6 ?_|refine s_7 ?_);done)|((repeat first|exact s_0|exact s_1|exact s_3|refine s_4 ?_|refine s_5 ?_|refine s_6 ?_|refine s_8 ?_);done)))
  · refine xr_end rfl ?_
    refine th_n ?_
    refine xc_false rfl ?_
    refine xc_exit ?_
    refine th_x ?_
    refine th_x ?_
    refine bk_same ?_
    refine th_n ?_
    refine xc_seq (xc_region ?_)
    obtain ⟨sa, sc, hsv, hsl⟩ := Vec.slv (enc := eCard) (t := 59) (h := V.hp 59 (cs.flatMap eCard)) eCard_len hV (fun _ hz => hz)
    rw [hsv]
    have hil : i = at_.length := by (first | omega | (dsimp only at *; omega) | (simp at *; omega))
    rw [hil, List.take_length] at hsh
    refine xr_op rfl rfl (xv_move rfl ?_)
    refine xr_op rfl rfl (xv_assign rfl ?_)
    refine xr_end rfl ?_
    refine th_n ?_
    refine xc_ret ?_
    refine body_ret (h' := (V.hp 59 (cs.flatMap eCard) ++ h)) rfl (ro_tmp rfl ro_nil) (by (first|((repeat first|exact s_0|exact s_1|exact s_3|refine s_4 ?_|refine s_5 ?_|refine s_6 ?_|refine s_7 ?_);done)|((repeat first|exact s_0|exact s_1|exact s_3|refine s_4 ?_|refine s_5 ?_|refine s_6 ?_|refine s_8 ?_);done))) ?_
    exact H cs sa sc _ hsh hfst hsl

theorem DialMore_c {d : Dial} {bs : List Int} {nb nf nu nm : Nat} {ab : Option Addr} {cb : Nat} {h : Hp} {R : Ending → Hp → Prop} (hb : SlV h 1 eH ab bs) (hbv : ∀ x ∈ bs, 0 ≤ x ∧ x ≤ 65535) (hnb : nb ≤ 65535) (hnf : nf ≤ 255) (hnu : nu ≤ 255) (hnm : nm ≤ 255) (hT : TurnsV h) (H : R (.returned (.bool true)) h) :
    ACalls Tryd.prog 8 ⟨[.agg ⟨eDial d⟩, .slice ab bs.length cb, .int .u16 nb, .int .u8 nf, .int .u8 nu, .int .u8 nm]⟩ h R := by
  refine calls_of_xc (N := 275) Tryd.func8 rfl (by rfl) ?_
  refine xc_seq (xc_region ?_)
  refine xr_op rfl rfl (xv_box rfl (fun b6 hb6 => ?_))
  refine xr_op rfl rfl (xv_assign rfl ?_)
  refine xr_end rfl ?_
  refine th_n ?_
  refine xc_seq ?_
  refine xc_seq (xc_region ?_)
  refine xr_op rfl rfl (xv_move rfl ?_)
  refine xr_op rfl rfl (xv_len sl46 rfl ?_)
  refine xr_op rfl rfl (xv_eql2 rfl rfl (fun q1 => ?_) (fun q1 => ?_))
  · refine xr_op rfl rfl (xv_move rfl ?_)
    refine xr_no rfl rfl rfl rfl ?_
    refine xr_no rfl rfl rfl rfl ?_
    refine xr_no rfl rfl rfl rfl ?_
    refine xr_op rfl rfl (xv_pick rfl rfl ?_)
    refine xr_op rfl rfl (xv_move rfl ?_)
    refine xr_no rfl rfl rfl rfl ?_
    refine xr_no rfl rfl rfl rfl ?_
    refine xr_no rfl rfl rfl rfl ?_
    refine xr_op rfl rfl (xv_pick rfl rfl ?_)
    refine xr_end rfl ?_
    refine th_n ?_
    refine xc_true rfl ?_
    refine xc_seq (xc_region ?_)
    refine xr_op rfl rfl (xv_calls rfl hb10 (awake_c (hT.sub (by intro z hz; ((repeat first|exact z_0|assumption|refine z_1 ?_|(refine z_l ?_;(repeat first|exact z_0|assumption|refine z_1 ?_);done)|refine z_r ?_);done))) (up_ret ?_)))
    refine xr_op rfl rfl (xv_assign rfl ?_)
    refine xr_end rfl ?_
    refine th_n ?_
    refine xc_ret ?_
    refine th_r ?_
    refine body_ret (h' := h) rfl (ro_tmp rfl ro_nil) (by (first|((repeat first|exact s_0|exact s_1|exact s_3|refine s_4 ?_|refine s_5 ?_|refine s_6 ?_|refine s_7 ?_);done)|((repeat first|exact s_0|exact s_1|exact s_3|refine s_4 ?_|refine s_5 ?_|refine s_6 ?_|refine s_8 ?_);done))) ?_
    first | exact H | (exfalso; (first | omega | (dsimp only at *; omega) | (simp at *; omega)))
  · refine xr_op rfl rfl (xv_move rfl ?_)
    refine xr_gd rfl rfl rfl (xv_move rfl ?_)
    refine xr_gd rfl rfl rfl (xv_len sl46 rfl ?_)
    refine xr_gd rfl rfl rfl (xv_gtr2 rfl rfl (fun q2 => ?_) (fun q2 => ?_))
    · refine xr_op rfl rfl (xv_pick rfl rfl ?_)
      refine xr_op rfl rfl (xv_move rfl ?_)
      refine xr_no rfl rfl rfl rfl ?_
      refine xr_no rfl rfl rfl rfl ?_
      refine xr_no rfl rfl rfl rfl ?_
      refine xr_op rfl rfl (xv_pick rfl rfl ?_)
      refine xr_end rfl ?_
      refine th_n ?_
      refine xc_true rfl ?_
      refine xc_seq (xc_region ?_)
      refine xr_op rfl rfl (xv_calls rfl hb10 (awake_c (hT.sub (by intro z hz; ((repeat first|exact z_0|assumption|refine z_1 ?_|(refine z_l ?_;(repeat first|exact z_0|assumption|refine z_1 ?_);done)|refine z_r ?_);done))) (up_ret ?_)))
      refine xr_op rfl rfl (xv_assign rfl ?_)
      refine xr_end rfl ?_
      refine th_n ?_
      refine xc_ret ?_
      refine th_r ?_
      refine body_ret (h' := h) rfl (ro_tmp rfl ro_nil) (by (first|((repeat first|exact s_0|exact s_1|exact s_3|refine s_4 ?_|refine s_5 ?_|refine s_6 ?_|refine s_7 ?_);done)|((repeat first|exact s_0|exact s_1|exact s_3|refine s_4 ?_|refine s_5 ?_|refine s_6 ?_|refine s_8 ?_);done))) ?_
      first | exact H | (exfalso; (first | omega | (dsimp only at *; omega) | (simp at *; omega)))
    · refine xr_op rfl rfl (xv_pick rfl rfl ?_)
      refine xr_op rfl rfl (xv_move rfl ?_)
      refine xr_gd rfl rfl rfl (xv_loadA ty45 rfl rfl (by ((repeat first|exact z_0|assumption|refine z_1 ?_|(refine z_l ?_;(repeat first|exact z_0|assumption|refine z_1 ?_);done)|refine z_r ?_);done)) (by ((try apply evl_some rfl);(repeat (first|exact (rfl : _ = [])|apply evl_cons rfl (by (first|exact v_1|exact v_2|exact v_3|exact v_4|exact v_5|exact v_6|exact v_7|exact v_8|exact v_9|exact rfl))|exact rfl)))) (by rfl) ?_)
      refine xr_gd rfl rfl rfl (xv_calls rfl hb21 (fit_c (fun hd => up_ret ?_) (fun hnd => up_ret ?_)))
      · refine xr_gd rfl rfl rfl (xv_not rfl ?_)
        refine xr_op rfl rfl (xv_pick rfl rfl ?_)
        refine xr_end rfl ?_
        refine th_n ?_
        refine xc_false rfl ?_
        refine xc_skip ?_
        refine th_n ?_
        refine xc_seq (xc_region ?_)
        refine xr_op rfl rfl (xv_loadA ty45 rfl rfl (by ((repeat first|exact z_0|assumption|refine z_1 ?_|(refine z_l ?_;(repeat first|exact z_0|assumption|refine z_1 ?_);done)|refine z_r ?_);done)) (by ((try apply evl_some rfl);(repeat (first|exact (rfl : _ = [])|apply evl_cons rfl (by (first|exact v_1|exact v_2|exact v_3|exact v_4|exact v_5|exact v_6|exact v_7|exact v_8|exact v_9|exact rfl))|exact rfl)))) (by rfl) ?_)
        refine xr_op rfl rfl (xv_move rfl ?_)
        refine xr_op rfl rfl (xv_calls rfl hb22 (truth_c (n := 160) hd (Nat.le_refl _) (hb.sub (by intro z hz; ((repeat first|exact z_0|assumption|refine z_1 ?_|(refine z_l ?_;(repeat first|exact z_0|assumption|refine z_1 ?_);done)|refine z_r ?_);done))) (by omega) (by omega) hbv (fun G ga gc qg hgl hgi sg => up_ret ?_)))
        refine xr_op rfl rfl (xv_assign rfl ?_)
        refine xr_end rfl ?_
        refine th_n ?_
        refine xc_seq (xc_region ?_)
        refine xr_op rfl rfl (xv_move rfl ?_)
        refine xr_op rfl rfl (xv_calls rfl hb23 (hours_c (by omega) (by omega) (hb.sub (by intro z hz; ((repeat first|exact z_0|assumption|refine z_1 ?_|(refine z_l ?_;(repeat first|exact z_0|assumption|refine z_1 ?_);done)|refine z_r ?_);done))) (by omega) hbv (fun at_ aa ac qa hal hup hin sa => up_ret ?_)))
        refine xr_op rfl rfl (xv_assign rfl ?_)
        refine xr_end rfl ?_
        refine th_n ?_
        refine xc_seq ?_
        refine xc_drawL (L := [(b6, fun o => o = .cells ⟨eDial d⟩ 45 (0, 0))]) [(0, .S), (1, .P), (2, .R), (3, .S), (4, .S), (5, .S), (6, .S), (7, .S), (10, .P), (8, .O), (1, .A), (9, .S), (10, .A), (11, .O)] [] _ mixed (by kernel_rfl) (by rw [List.append_nil]) (holds1 (by ((repeat first|exact z_0|assumption|refine z_1 ?_|(refine z_l ?_;(repeat first|exact z_0|assumption|refine z_1 ?_);done)|refine z_r ?_);done)) rfl) ?_
        have hin2 : ∀ x ∈ at_, 0 ≤ x ∧ x ≤ G.length := fun x hx => by have := hin x hx; omega
        obtain ⟨g1, g2, g3, g4, g5⟩ := id hd
        have htb := turn_bd g1 g2
        refine js_I rfl rfl (.inl rfl) (fun hh hv => by obtain ⟨o9, hm, rfl⟩ := hv b6 _ List.mem_cons_self; exact xv_loadA ty45 rfl rfl (List.mem_append_left _ hm) (by ((try apply evl_some rfl);(repeat (first|exact (rfl : _ = [])|apply evl_cons rfl (by (first|exact v_1|exact v_2|exact v_3|exact v_4|exact v_5|exact v_6|exact v_7|exact v_8|exact v_9|exact rfl))|exact rfl)))) (by rfl) ⟨rfl, rfl⟩) ?_
        refine js_P rfl rfl rfl (al_buildSlice sl22 ty45 rfl rfl rfl rfl rfl (by ((try apply evl_some rfl);(repeat (first|exact (rfl : _ = [])|apply evl_cons rfl (by (first|exact v_1|exact v_2|exact v_3|exact v_4|exact v_5|exact v_6|exact v_7|exact v_8|exact v_9|exact rfl))|exact rfl))))) ?_
        refine js_R0 rfl rfl (.inl rfl) (xv_loadA ty45 rfl rfl (by ((repeat first|exact z_0|assumption|refine z_1 ?_|(refine z_l ?_;(repeat first|exact z_0|assumption|refine z_1 ?_);done)|refine z_r ?_);done)) (by ((try apply evl_some rfl);(repeat (first|exact (rfl : _ = [])|apply evl_cons rfl (by (first|exact v_1|exact v_2|exact v_3|exact v_4|exact v_5|exact v_6|exact v_7|exact v_8|exact v_9|exact rfl))|exact rfl)))) (by rfl) ⟨rfl, rfl⟩) ?_
        refine js_S rfl rfl (.inl rfl) (xv_move rfl ⟨rfl, rfl⟩) ?_
        refine js_S rfl rfl (.inl rfl) (xv_move rfl ⟨rfl, rfl⟩) ?_
        refine js_S rfl rfl (.inl rfl) (xv_move rfl ⟨rfl, rfl⟩) ?_
        refine js_S rfl rfl (.inl rfl) (xv_convI Tryd.underlying47 Tryd.underlying3 rfl (wrap_i64 (by (first | omega | (dsimp only at *; omega) | (simp at *; omega))) (by (first | omega | (dsimp only at *; omega) | (simp at *; omega)))) ⟨rfl, rfl⟩) ?_
        refine js_S rfl rfl (.inl rfl) (xv_move rfl ⟨rfl, rfl⟩) ?_
        refine js_P rfl rfl rfl (al_alloc ty25) ?_
        refine js_OL0 rfl rfl (.inl rfl) (xv_calls rfl hb24 (shownB_c hd hgi (by omega) (sg.sub (by intro z hz; ((repeat first|exact z_0|assumption|refine z_1 ?_|(refine z_l ?_;(repeat first|exact z_0|assumption|refine z_1 ?_);done)|refine z_r ?_);done))) (sa.sub (by intro z hz; ((repeat first|exact z_0|assumption|refine z_1 ?_|(refine z_l ?_;(repeat first|exact z_0|assumption|refine z_1 ?_);done)|refine z_r ?_);done))) hup hin2 (by omega) (by omega) (by omega) (hb.sub (by intro z hz; ((repeat first|exact z_0|assumption|refine z_1 ?_|(refine z_l ?_;(repeat first|exact z_0|assumption|refine z_1 ?_);done)|refine z_r ?_);done))) (by omega) hbv (fun cs ca cc qc hsh hfst sc => up_ret ?_)))
        refine ⟨holds1 (by ((repeat first|exact z_0|assumption|refine z_1 ?_|(refine z_l ?_;(repeat first|exact z_0|assumption|refine z_1 ?_);done)|refine z_r ?_);done)) rfl, ?_⟩
        refine js_A0 rfl rfl rfl rfl rfl ⟨rfl, trivial⟩ (fun bD hbD => ?_)
        refine js_S rfl rfl (.inl rfl) (xv_build bt25 rfl (by ((try apply evl_some rfl);(repeat (first|exact (rfl : _ = [])|apply evl_cons rfl (by (first|exact v_1|exact v_2|exact v_3|exact v_4|exact v_5|exact v_6|exact v_7|exact v_8|exact v_9|exact rfl))|exact rfl)))) ⟨rfl, rfl⟩) ?_
        refine js_A0 rfl rfl rfl rfl rfl trivial (fun bR hbR => ?_)
        refine js_OL0 rfl rfl (.inl rfl) (xv_s ty25 rfl rfl (by (first|(apply u_3;(repeat first|exact u_0|assumption|apply u_1|apply u_2);done)|((repeat first|exact u_0|assumption|apply u_1|apply u_2);done)|(apply u_3;apply u_3;(repeat first|exact u_0|assumption|apply u_1|apply u_2);done)|((repeat first|exact u_0|assumption|apply u_3|apply u_1);done))) (by ((try apply evl_some rfl);(repeat (first|exact (rfl : _ = [])|apply evl_cons rfl (by (first|exact v_1|exact v_2|exact v_3|exact v_4|exact v_5|exact v_6|exact v_7|exact v_8|exact v_9|exact rfl))|exact rfl)))) (by rfl) (by rfl) (by rfl) (by ((try apply evl_some rfl);(repeat (first|exact (rfl : _ = [])|apply evl_cons rfl (by (first|exact v_1|exact v_2|exact v_3|exact v_4|exact v_5|exact v_6|exact v_7|exact v_8|exact v_9|exact rfl))|exact rfl)))) ?_)
        refine ⟨holds1 (by ((repeat first|exact z_0|assumption|refine z_1 ?_|(refine z_l ?_;(repeat first|exact z_0|assumption|refine z_1 ?_);done)|refine z_r ?_);done)) rfl, ?_⟩
        refine j_end0 ?_
        refine th_n ?_
        refine xc_seq (xc_region ?_)
        have hTR : TR (rOne bD d ca cc cs) 0 d G at_ := one_tr hd hgi (by omega) hup hin2 (by omega) hsh
        have hcl : cs.length = at_.length := hsh.len
        have hq1 : nf % 160 < 160 := Nat.mod_lt _ (by decide)
        have hq2 : nu % 160 < 160 := Nat.mod_lt _ (by decide)
        obtain ⟨out, hout, hol, hfit⟩ := hTR.pairs
        obtain ⟨gs, hga⟩ : ∃ gs, gasAns (rOne bD d ca cc cs) 0 (min ((nf % 160 : Nat) : Int) ((nu % 160 : Nat) : Int)) (max ((nf % 160 : Nat) : Int) ((nu % 160 : Nat) : Int)) = (gs, 0) := ⟨_, hTR.gasB hout (by omega) (by omega) (by omega)⟩
        obtain ⟨dn, de, hde⟩ : ∃ a b, dueAns (rOne bD d ca cc cs) 0 = (a, b) := ⟨_, _, rfl⟩
        refine xr_op rfl rfl (xv_move rfl ?_)
        refine xr_op rfl rfl (xv_convI Tryd.underlying5 Tryd.underlying3 rfl (wrap_i64 (by (first | omega | (dsimp only at *; omega) | (simp at *; omega))) (by (first | omega | (dsimp only at *; omega) | (simp at *; omega)))) ?_)
        refine xr_op rfl rfl (xv_rem (c := ((nf % 160 : Nat) : Int)) rfl rfl (by omega) rfl ?_)
        refine xr_op rfl rfl (xv_move rfl ?_)
        refine xr_op rfl rfl (xv_convI Tryd.underlying5 Tryd.underlying3 rfl (wrap_i64 (by (first | omega | (dsimp only at *; omega) | (simp at *; omega))) (by (first | omega | (dsimp only at *; omega) | (simp at *; omega)))) ?_)
        refine xr_op rfl rfl (xv_rem (c := ((nu % 160 : Nat) : Int)) rfl rfl (by omega) rfl ?_)
        refine xr_op rfl rfl (xv_min rfl rfl rfl ?_)
        refine xr_op rfl rfl (xv_move rfl ?_)
        refine xr_op rfl rfl (xv_convI Tryd.underlying5 Tryd.underlying3 rfl (wrap_i64 (by (first | omega | (dsimp only at *; omega) | (simp at *; omega))) (by (first | omega | (dsimp only at *; omega) | (simp at *; omega)))) ?_)
        refine xr_op rfl rfl (xv_rem (c := ((nf % 160 : Nat) : Int)) rfl rfl (by omega) rfl ?_)
        refine xr_op rfl rfl (xv_move rfl ?_)
        refine xr_op rfl rfl (xv_convI Tryd.underlying5 Tryd.underlying3 rfl (wrap_i64 (by (first | omega | (dsimp only at *; omega) | (simp at *; omega))) (by (first | omega | (dsimp only at *; omega) | (simp at *; omega)))) ?_)
        refine xr_op rfl rfl (xv_rem (c := ((nu % 160 : Nat) : Int)) rfl rfl (by omega) rfl ?_)
        refine xr_op rfl rfl (xv_max rfl rfl rfl ?_)
        refine xr_op rfl rfl (xv_assign rfl ?_)
        refine xr_op rfl rfl (xv_assign rfl ?_)
        refine xr_end rfl ?_
        refine th_n ?_
        refine xc_seq (xc_region ?_)
        refine xr_op rfl rfl (xv_loadA ty25 rfl rfl (by ((repeat first|exact z_0|assumption|refine z_1 ?_|(refine z_l ?_;(repeat first|exact z_0|assumption|refine z_1 ?_);done)|refine z_r ?_);done)) (by ((try apply evl_some rfl);(repeat (first|exact (rfl : _ = [])|apply evl_cons rfl (by (first|exact v_1|exact v_2|exact v_3|exact v_4|exact v_5|exact v_6|exact v_7|exact v_8|exact v_9|exact rfl))|exact rfl)))) (by rfl) ?_)
        refine xr_op rfl rfl (xv_move rfl ?_)
        refine xr_op rfl rfl (xv_move rfl ?_)
        refine xr_op rfl rfl (xv_calls rfl hb17 (GasE_c (r := (rOne bD d ca cc cs)) (one_v (by ((repeat first|exact z_0|assumption|refine z_1 ?_|(refine z_l ?_;(repeat first|exact z_0|assumption|refine z_1 ?_);done)|refine z_r ?_);done)) (sc.sub (by intro z hz; ((repeat first|exact z_0|assumption|refine z_1 ?_|(refine z_l ?_;(repeat first|exact z_0|assumption|refine z_1 ?_);done)|refine z_r ?_);done)))) (one_s (by omega)) (hT.sub (by intro z hz; ((repeat first|exact z_0|assumption|refine z_1 ?_|(refine z_l ?_;(repeat first|exact z_0|assumption|refine z_1 ?_);done)|refine z_r ?_);done))) hga (up_ret ?_)))
        refine xr_op rfl rfl (xv_move rfl ?_)
        refine xr_op rfl rfl (xv_extract rfl rfl ?_)
        refine xr_op rfl rfl (xv_extract rfl rfl ?_)
        refine xr_op rfl rfl (xv_alloc ty38 (fun bg hbg => ?_))
        refine xr_op rfl rfl (xv_s ty38 rfl rfl (by (first|(apply u_3;(repeat first|exact u_0|assumption|apply u_1|apply u_2);done)|((repeat first|exact u_0|assumption|apply u_1|apply u_2);done)|(apply u_3;apply u_3;(repeat first|exact u_0|assumption|apply u_1|apply u_2);done)|((repeat first|exact u_0|assumption|apply u_3|apply u_1);done))) (by ((try apply evl_some rfl);(repeat (first|exact (rfl : _ = [])|apply evl_cons rfl (by (first|exact v_1|exact v_2|exact v_3|exact v_4|exact v_5|exact v_6|exact v_7|exact v_8|exact v_9|exact rfl))|exact rfl)))) (by rfl) (by rfl) (by rfl) (by ((try apply evl_some rfl);(repeat (first|exact (rfl : _ = [])|apply evl_cons rfl (by (first|exact v_1|exact v_2|exact v_3|exact v_4|exact v_5|exact v_6|exact v_7|exact v_8|exact v_9|exact rfl))|exact rfl)))) ?_)
        refine xr_op rfl rfl (xv_assign rfl ?_)
        refine xr_end rfl ?_
        refine th_n ?_
        refine xc_seq (xc_region ?_)
        refine xr_op rfl rfl (xv_loadA ty25 rfl rfl (by ((repeat first|exact z_0|assumption|refine z_1 ?_|(refine z_l ?_;(repeat first|exact z_0|assumption|refine z_1 ?_);done)|refine z_r ?_);done)) (by ((try apply evl_some rfl);(repeat (first|exact (rfl : _ = [])|apply evl_cons rfl (by (first|exact v_1|exact v_2|exact v_3|exact v_4|exact v_5|exact v_6|exact v_7|exact v_8|exact v_9|exact rfl))|exact rfl)))) (by rfl) ?_)
        refine xr_op rfl rfl (xv_calls rfl hb19 (DueE_c (r := (rOne bD d ca cc cs)) (one_v (by ((repeat first|exact z_0|assumption|refine z_1 ?_|(refine z_l ?_;(repeat first|exact z_0|assumption|refine z_1 ?_);done)|refine z_r ?_);done)) (sc.sub (by intro z hz; ((repeat first|exact z_0|assumption|refine z_1 ?_|(refine z_l ?_;(repeat first|exact z_0|assumption|refine z_1 ?_);done)|refine z_r ?_);done)))) (one_s (by omega)) (hT.sub (by intro z hz; ((repeat first|exact z_0|assumption|refine z_1 ?_|(refine z_l ?_;(repeat first|exact z_0|assumption|refine z_1 ?_);done)|refine z_r ?_);done))) hde (up_ret ?_)))
        refine xr_op rfl rfl (xv_move rfl ?_)
        refine xr_op rfl rfl (xv_extract rfl rfl ?_)
        refine xr_op rfl rfl (xv_extract rfl rfl ?_)
        refine xr_op rfl rfl (xv_assign rfl ?_)
        refine xr_op rfl rfl (xv_assign rfl ?_)
        refine xr_end rfl ?_
        refine th_n ?_
        refine xc_seq ?_
        refine xc_seq (xc_region ?_)
        refine xr_op rfl rfl (xv_move rfl ?_)
        refine xr_op rfl rfl (xv_neqF rfl rfl rfl ?_)
        refine xr_end rfl ?_
        refine th_n ?_
        refine xc_false rfl ?_
        refine xc_skip ?_
        refine th_n ?_
        refine xc_seq ?_
        refine xc_seq (xc_region ?_)
        rcases Bool.eq_false_or_eq_true d.sticks with hst | hst
        · refine xr_op rfl rfl (xv_move rfl ?_)
          refine xr_op rfl rfl (xv_len sl32 rfl ?_)
          refine xr_op rfl rfl (xv_eql2 rfl rfl (fun q5 => ?_) (fun q5 => ?_))
          · refine xr_op rfl rfl (xv_move rfl ?_)
            refine xr_no rfl rfl rfl rfl ?_
            refine xr_no rfl rfl rfl rfl ?_
            refine xr_op rfl rfl (xv_pick rfl rfl ?_)
            refine xr_end rfl ?_
            refine th_n ?_
            refine xc_true rfl ?_
            refine xc_seq (xc_region ?_)
            obtain ⟨hz1, hz2⟩ := hTR.due0 hde (by first | exact .inl (by (first | omega | (dsimp only at *; omega) | (simp at *; omega))) | exact .inr hst)
            refine xr_op rfl rfl (xv_move rfl ?_)
            refine xr_op rfl rfl (xv_neqT rfl rfl hz1 ?_)
            refine xr_op rfl rfl (xv_move rfl ?_)
            refine xr_gd rfl rfl rfl (xv_move rfl ?_)
            refine xr_gd rfl rfl rfl (xv_eqlT rfl rfl hz2 ?_)
            refine xr_op rfl rfl (xv_pick rfl rfl ?_)
            refine xr_op rfl rfl (xv_move rfl ?_)
            refine xr_gd rfl rfl rfl (xv_calls rfl hb10 (awake_c (hT.sub (by intro z hz; ((repeat first|exact z_0|assumption|refine z_1 ?_|(refine z_l ?_;(repeat first|exact z_0|assumption|refine z_1 ?_);done)|refine z_r ?_);done))) (up_ret ?_)))
            refine xr_op rfl rfl (xv_pick rfl rfl ?_)
            refine xr_op rfl rfl (xv_assign rfl ?_)
            refine xr_end rfl ?_
            refine th_n ?_
            refine xc_ret ?_
            refine th_r ?_
            refine body_ret (h' := h) rfl (ro_tmp rfl ro_nil) (by (first|((repeat first|exact s_0|exact s_1|exact s_3|refine s_4 ?_|refine s_5 ?_|refine s_6 ?_|refine s_7 ?_);done)|((repeat first|exact s_0|exact s_1|exact s_3|refine s_4 ?_|refine s_5 ?_|refine s_6 ?_|refine s_8 ?_);done))) ?_
            first | exact H | (exfalso; (first | omega | (dsimp only at *; omega) | (simp at *; omega)))
          · refine xr_op rfl rfl (xv_move rfl ?_)
            refine xr_gd rfl rfl rfl (xv_faddr fl45_2 rfl ?_)
            refine xr_gd rfl rfl rfl (xv_load1 (v := .bool true) ty4 rfl rfl (by ((repeat first|exact z_0|assumption|refine z_1 ?_|(refine z_l ?_;(repeat first|exact z_0|assumption|refine z_1 ?_);done)|refine z_r ?_);done)) (by first | exact congrArg (fun x => some (Value.bool x)) hst | rfl) ?_)
            refine xr_op rfl rfl (xv_pick rfl rfl ?_)
            refine xr_end rfl ?_
            refine th_n ?_
            refine xc_true rfl ?_
            refine xc_seq (xc_region ?_)
            obtain ⟨hz1, hz2⟩ := hTR.due0 hde (by first | exact .inl (by (first | omega | (dsimp only at *; omega) | (simp at *; omega))) | exact .inr hst)
            refine xr_op rfl rfl (xv_move rfl ?_)
            refine xr_op rfl rfl (xv_neqT rfl rfl hz1 ?_)
            refine xr_op rfl rfl (xv_move rfl ?_)
            refine xr_gd rfl rfl rfl (xv_move rfl ?_)
            refine xr_gd rfl rfl rfl (xv_eqlT rfl rfl hz2 ?_)
            refine xr_op rfl rfl (xv_pick rfl rfl ?_)
            refine xr_op rfl rfl (xv_move rfl ?_)
            refine xr_gd rfl rfl rfl (xv_calls rfl hb10 (awake_c (hT.sub (by intro z hz; ((repeat first|exact z_0|assumption|refine z_1 ?_|(refine z_l ?_;(repeat first|exact z_0|assumption|refine z_1 ?_);done)|refine z_r ?_);done))) (up_ret ?_)))
            refine xr_op rfl rfl (xv_pick rfl rfl ?_)
            refine xr_op rfl rfl (xv_assign rfl ?_)
            refine xr_end rfl ?_
            refine th_n ?_
            refine xc_ret ?_
            refine th_r ?_
            refine body_ret (h' := h) rfl (ro_tmp rfl ro_nil) (by (first|((repeat first|exact s_0|exact s_1|exact s_3|refine s_4 ?_|refine s_5 ?_|refine s_6 ?_|refine s_7 ?_);done)|((repeat first|exact s_0|exact s_1|exact s_3|refine s_4 ?_|refine s_5 ?_|refine s_6 ?_|refine s_8 ?_);done))) ?_
            first | exact H | (exfalso; (first | omega | (dsimp only at *; omega) | (simp at *; omega)))
        · refine xr_op rfl rfl (xv_move rfl ?_)
          refine xr_op rfl rfl (xv_len sl32 rfl ?_)
          refine xr_op rfl rfl (xv_eql2 rfl rfl (fun q6 => ?_) (fun q6 => ?_))
          · refine xr_op rfl rfl (xv_move rfl ?_)
            refine xr_no rfl rfl rfl rfl ?_
            refine xr_no rfl rfl rfl rfl ?_
            refine xr_op rfl rfl (xv_pick rfl rfl ?_)
            refine xr_end rfl ?_
            refine th_n ?_
            refine xc_true rfl ?_
            refine xc_seq (xc_region ?_)
            obtain ⟨hz1, hz2⟩ := hTR.due0 hde (by first | exact .inl (by (first | omega | (dsimp only at *; omega) | (simp at *; omega))) | exact .inr hst)
            refine xr_op rfl rfl (xv_move rfl ?_)
            refine xr_op rfl rfl (xv_neqT rfl rfl hz1 ?_)
            refine xr_op rfl rfl (xv_move rfl ?_)
            refine xr_gd rfl rfl rfl (xv_move rfl ?_)
            refine xr_gd rfl rfl rfl (xv_eqlT rfl rfl hz2 ?_)
            refine xr_op rfl rfl (xv_pick rfl rfl ?_)
            refine xr_op rfl rfl (xv_move rfl ?_)
            refine xr_gd rfl rfl rfl (xv_calls rfl hb10 (awake_c (hT.sub (by intro z hz; ((repeat first|exact z_0|assumption|refine z_1 ?_|(refine z_l ?_;(repeat first|exact z_0|assumption|refine z_1 ?_);done)|refine z_r ?_);done))) (up_ret ?_)))
            refine xr_op rfl rfl (xv_pick rfl rfl ?_)
            refine xr_op rfl rfl (xv_assign rfl ?_)
            refine xr_end rfl ?_
            refine th_n ?_
            refine xc_ret ?_
            refine th_r ?_
            refine body_ret (h' := h) rfl (ro_tmp rfl ro_nil) (by (first|((repeat first|exact s_0|exact s_1|exact s_3|refine s_4 ?_|refine s_5 ?_|refine s_6 ?_|refine s_7 ?_);done)|((repeat first|exact s_0|exact s_1|exact s_3|refine s_4 ?_|refine s_5 ?_|refine s_6 ?_|refine s_8 ?_);done))) ?_
            first | exact H | (exfalso; (first | omega | (dsimp only at *; omega) | (simp at *; omega)))
          · refine xr_op rfl rfl (xv_move rfl ?_)
            refine xr_gd rfl rfl rfl (xv_faddr fl45_2 rfl ?_)
            refine xr_gd rfl rfl rfl (xv_load1 (v := .bool false) ty4 rfl rfl (by ((repeat first|exact z_0|assumption|refine z_1 ?_|(refine z_l ?_;(repeat first|exact z_0|assumption|refine z_1 ?_);done)|refine z_r ?_);done)) (by first | exact congrArg (fun x => some (Value.bool x)) hst | rfl) ?_)
            refine xr_op rfl rfl (xv_pick rfl rfl ?_)
            refine xr_end rfl ?_
            refine th_n ?_
            refine xc_false rfl ?_
            refine xc_skip ?_
            refine th_n ?_
            refine xc_seq (xc_region ?_)
            refine xr_op rfl rfl (xv_move rfl ?_)
            refine xr_op rfl rfl (xv_move rfl ?_)
            refine xr_op rfl rfl (xv_len sl32 rfl ?_)
            refine xr_op rfl rfl (xv_sub rfl rfl (wrap_i64 (by (first | omega | (dsimp only at *; omega) | (simp at *; omega))) (by (first | omega | (dsimp only at *; omega) | (simp at *; omega)))) ?_)
            have hltw : (at_.length - 1) < at_.length := by (first | omega | (dsimp only at *; omega) | (simp at *; omega))
            obtain ⟨bw, ow, lw, tw, fzw, haw, hmw, hxw⟩ := (sa).at hltw
            obtain ⟨xw, hkw⟩ : ∃ qq_, at_[(at_.length - 1)]? = some qq_ := ⟨_, List.getElem?_eq_getElem hltw⟩
            have hlb := hin xw (List.mem_of_getElem? hkw)
            refine xr_op rfl rfl (xv_ia (sz := 1) (j := at_.length - 1) sl32 ty3 rfl (by rw [haw]; rfl) rfl (by (first | omega | (dsimp only at *; omega) | (simp at *; omega))) (by (first | omega | (dsimp only at *; omega) | (simp at *; omega))) (by (first | omega | (dsimp only at *; omega) | (simp at *; omega))) ?_)
            refine xr_op rfl rfl (xv_load1 ty3 rfl rfl (by ((repeat first|exact z_0|assumption|refine z_1 ?_|(refine z_l ?_;(repeat first|exact z_0|assumption|refine z_1 ?_);done)|refine z_r ?_);done)) (take_get (hxw (at_.length - 1) xw hkw) (j := 0) rfl) ?_)
            refine xr_op rfl rfl (xv_assign rfl ?_)
            refine xr_end rfl ?_
            refine th_n ?_
            refine xc_seq (xc_region ?_)
            refine xr_op rfl rfl (xv_move rfl ?_)
            refine xr_op rfl rfl (xv_convI Tryd.underlying5 Tryd.underlying3 rfl (wrap_i64 (by (first | omega | (dsimp only at *; omega) | (simp at *; omega))) (by (first | omega | (dsimp only at *; omega) | (simp at *; omega)))) ?_)
            refine xr_op rfl rfl (xv_rem (c := ((nm % 159 : Nat) : Int)) rfl rfl (by omega) rfl ?_)
            refine xr_op rfl rfl (xv_add rfl rfl (wrap_i64 (by (first | omega | (dsimp only at *; omega) | (simp at *; omega))) (by (first | omega | (dsimp only at *; omega) | (simp at *; omega)))) ?_)
            have hq3 : nm % 159 < 159 := Nat.mod_lt _ (by decide)
            obtain ⟨zn, hzn⟩ : ∃ z : Int, z = 1 + ((nm % 159 : Nat) : Int) := ⟨_, rfl⟩
            rw [← hzn]
            have hzb : 1 ≤ zn ∧ zn ≤ 159 := by omega
            refine xr_op rfl rfl (xv_assign rfl ?_)
            refine xr_end rfl ?_
            refine th_n ?_
            refine xc_seq (xc_region ?_)
            refine xr_op rfl rfl (xv_assign rfl ?_)
            refine xr_end rfl ?_
            refine th_n ?_
            refine xc_seq (xc_region ?_)
            refine xr_op rfl rfl (xv_assign rfl ?_)
            refine xr_end rfl ?_
            refine th_n ?_
            refine xc_seq ?_
            refine xc_seq (xc_region ?_)
            refine xr_op rfl rfl (xv_assign rfl ?_)
            refine xr_end rfl ?_
            refine th_n ?_
            refine xc_block ?_
            refine xc_loop (σ := Nat × List Int × Bool × Vec) (fun z => z.1 ≤ at_.length ∧ InsW zn (at_.take z.1) z.2.1 z.2.2.1 ∧ z.2.1.length ≤ z.1 + 1 ∧ z.2.2.2.ok 1 z.2.1.length (z.2.1.flatMap eI)) (fun z => ((((((((((((((((emp.put (some 1) (.slice ab bs.length cb)).put (some 2) (.int .u16 nb)).put (some 6) (.pointer (some ⟨b6, 0, none⟩))).put (some 13) (.slice ga G.length gc)).put (some 14) (.slice aa at_.length ac)).put (some 15) (.pointer (some ⟨bR, 0, none⟩))).put (some 16) (I (min ((nf % 160 : Nat) : Int) ((nu % 160 : Nat) : Int)))).put (some 17) (I (max ((nf % 160 : Nat) : Int) ((nu % 160 : Nat) : Int)))).put (some 18) (.pointer (some ⟨bg, 0, none⟩))).put (some 20) (I dn)).put (some 21) (I de)).put (some 22) (I xw)).put (some 23) (I zn)).put (some 24) (z.2.2.2.val z.2.1.length)).put (some 25) (.bool z.2.2.1)).put (some 26) (I z.1))) (fun z => (z.2.2.2.hp 3 (z.2.1.flatMap eI) ++ ((bg, .cells ⟨eSpan gs⟩ 38) :: (bR, .cells ⟨eRnd (rOne bD d ca cc cs)⟩ 25) :: (bD, .cells ⟨[I d.digits, I d.rate.lo, I d.rate.hi, .bool d.sticks]⟩ 45) :: (qc ++ (qa ++ (qg ++ (b6, .cells ⟨eDial d⟩ 45) :: h)))))) (fun z => at_.length - z.1) ((0, [], false, .nil) : Nat × List Int × Bool × Vec) ⟨Nat.zero_le _, insW_nil _, Nat.zero_le _, rfl, rfl⟩ (le_put (le_put (le_put (le_put (le_put (le_put (le_put (le_put (le_put (le_put (le_put (le_put (le_put (le_put (le_put (le_put (le_emp _) rfl) rfl) rfl) rfl) rfl) rfl) rfl) rfl) rfl) rfl) rfl) rfl) rfl) rfl) rfl) rfl) (by (first|((repeat first|exact s_0|exact s_1|exact s_3|refine s_4 ?_|refine s_5 ?_|refine s_6 ?_|refine s_7 ?_);done)|((repeat first|exact s_0|exact s_1|exact s_3|refine s_4 ?_|refine s_5 ?_|refine s_6 ?_|refine s_8 ?_);done))) ?_
            rintro ⟨k, al, pu, V⟩ ⟨hk, hiw, hall, hV⟩
            dsimp only at hk hiw hall hV
            refine xc_seq ?_
            refine xc_seq (xc_region ?_)
            refine xr_op rfl rfl (xv_move rfl ?_)
            refine xr_op rfl rfl (xv_move rfl ?_)
            refine xr_op rfl rfl (xv_len sl32 rfl ?_)
            refine xr_op rfl rfl (xv_lss2 rfl rfl (fun q7 => ?_) (fun q7 => ?_))
            · refine xr_end rfl ?_
              refine th_n ?_
              refine xc_true rfl ?_
              refine xc_skip ?_
              refine th_n ?_
              refine xc_seq ?_
              refine xc_block ?_
              refine xc_seq ?_
              refine xc_seq (xc_region ?_)
              cases pu
              · refine xr_op rfl rfl (xv_move rfl ?_)
                refine xr_op rfl rfl (xv_not rfl ?_)
                refine xr_op rfl rfl (xv_move rfl ?_)
                refine xr_gd rfl rfl rfl (xv_move rfl ?_)
                have hlto : k < at_.length := by (first | omega | (dsimp only at *; omega) | (simp at *; omega))
                obtain ⟨bo, oo, lo, to, fzo, hao, hmo, hxo⟩ := (sa).at hlto
                obtain ⟨xo, hko⟩ : ∃ qq_, at_[k]? = some qq_ := ⟨_, List.getElem?_eq_getElem hlto⟩
                refine xr_gd rfl rfl rfl (xv_move rfl ?_)
                refine xr_gd rfl rfl rfl (xv_move rfl ?_)
                refine xr_gd rfl rfl rfl (xv_ia (sz := 1) (j := k) sl32 ty3 rfl (by rw [hao]; rfl) rfl (by (first | assumption | with_reducible exact Int.toNat_natCast _ | with_reducible rfl | rfl)) (by (first | omega | (dsimp only at *; omega) | (simp at *; omega))) (by (first | omega | (dsimp only at *; omega) | (simp at *; omega))) ?_)
                refine xr_gd rfl rfl rfl (xv_load1 ty3 rfl rfl (by ((repeat first|exact z_0|assumption|refine z_1 ?_|(refine z_l ?_;(repeat first|exact z_0|assumption|refine z_1 ?_);done)|refine z_r ?_);done)) (take_get (hxo (k) xo hko) (j := 0) rfl) ?_)
                refine xr_gd rfl rfl rfl (xv_leq2 rfl rfl (fun q8 => ?_) (fun q8 => ?_))
                · refine xr_op rfl rfl (xv_pick rfl rfl ?_)
                  refine xr_end rfl ?_
                  refine th_n ?_
                  refine xc_true rfl ?_
                  refine xc_seq (xc_region ?_)
                  refine xr_op rfl rfl (xv_assign rfl ?_)
                  refine xr_end rfl ?_
                  refine th_n ?_
                  refine xc_seq (xc_region ?_)
                  refine xr_op rfl rfl (xv_move rfl ?_)
                  refine xr_op rfl rfl (xv_move rfl ?_)
                  refine xr_op rfl rfl (xv_move rfl ?_)
                  refine xr_op rfl rfl (xv_ia (sz := 1) (j := k) sl32 ty3 rfl (by rw [hao]; rfl) rfl (by (first | assumption | with_reducible exact Int.toNat_natCast _ | with_reducible rfl | rfl)) (by (first | omega | (dsimp only at *; omega) | (simp at *; omega))) (by (first | omega | (dsimp only at *; omega) | (simp at *; omega))) ?_)
                  refine xr_op rfl rfl (xv_load1 ty3 rfl rfl (by ((repeat first|exact z_0|assumption|refine z_1 ?_|(refine z_l ?_;(repeat first|exact z_0|assumption|refine z_1 ?_);done)|refine z_r ?_);done)) (take_get (hxo (k) xo hko) (j := 0) rfl) ?_)
                  refine xr_op rfl rfl (xv_lss2 rfl rfl (fun q9 => ?_) (fun q9 => ?_))
                  · refine xr_end rfl ?_
                    refine th_n ?_
                    refine xc_true rfl ?_
                    refine xc_region ?_
                    refine xr_op rfl rfl (xv_move rfl ?_)
                    refine xr_op rfl rfl (xv_move rfl ?_)
                    refine xr_op rfl rfl ((al_buildSlice sl32 ty3 rfl rfl rfl rfl rfl (by ((try apply evl_some rfl);(repeat (first|exact (rfl : _ = [])|apply evl_cons rfl (by (first|exact v_1|exact v_2|exact v_3|exact v_4|exact v_5|exact v_6|exact v_7|exact v_8|exact v_9|exact rfl))|exact rfl))))).xv (fun b143 hb143 => ?_))
                    refine xr_op rfl rfl (xv_append (V := V) (n := al.length) (xs := al.flatMap eI) sl32 ty3 rfl rfl rfl hV (.there .here) (by ((repeat first|exact z_0|assumption|refine z_1 ?_|(refine z_l ?_;(repeat first|exact z_0|assumption|refine z_1 ?_);done)|refine z_r ?_);done)) (by ((try apply evl_some rfl);(repeat (first|exact (rfl : _ = [])|apply evl_cons rfl (by (first|exact v_1|exact v_2|exact v_3|exact v_4|exact v_5|exact v_6|exact v_7|exact v_8|exact v_9|exact rfl))|exact rfl)))) rfl rfl (by (first | omega | (dsimp only at *; omega) | (simp at *; omega))) (by simp only []; (first | omega | (dsimp only at *; omega) | (simp at *; omega))) (by (first | omega | (dsimp only at *; omega) | (simp at *; omega))) (fun V2 hV2 => ?_))
                    refine xr_op rfl rfl (xv_assign rfl ?_)
                    refine xr_end rfl ?_
                    refine th_n ?_
                    refine xc_region ?_
                    refine xr_op rfl rfl (xv_move rfl ?_)
                    refine xr_op rfl rfl (xv_move rfl ?_)
                    refine xr_op rfl rfl (xv_move rfl ?_)
                    refine xr_op rfl rfl (xv_ia (sz := 1) (j := k) sl32 ty3 rfl (by rw [hao]; rfl) rfl (by (first | assumption | with_reducible exact Int.toNat_natCast _ | with_reducible rfl | rfl)) (by (first | omega | (dsimp only at *; omega) | (simp at *; omega))) (by (first | omega | (dsimp only at *; omega) | (simp at *; omega))) ?_)
                    refine xr_op rfl rfl (xv_load1 ty3 rfl rfl (by ((repeat first|exact z_0|assumption|refine z_1 ?_|(refine z_l ?_;(repeat first|exact z_0|assumption|refine z_1 ?_);done)|refine z_r ?_);done)) (take_get (hxo (k) xo hko) (j := 0) rfl) ?_)
                    refine xr_op rfl rfl ((al_buildSlice sl32 ty3 rfl rfl rfl rfl rfl (by ((try apply evl_some rfl);(repeat (first|exact (rfl : _ = [])|apply evl_cons rfl (by (first|exact v_1|exact v_2|exact v_3|exact v_4|exact v_5|exact v_6|exact v_7|exact v_8|exact v_9|exact rfl))|exact rfl))))).xv (fun b150 hb150 => ?_))
                    refine xr_op rfl rfl (xv_append (V := V2) (n := al.length + 1) (xs := al.flatMap eI ++ [I zn]) sl32 ty3 rfl rfl rfl hV2 (.there .here) (by ((repeat first|exact z_0|assumption|refine z_1 ?_|(refine z_l ?_;(repeat first|exact z_0|assumption|refine z_1 ?_);done)|refine z_r ?_);done)) (by ((try apply evl_some rfl);(repeat (first|exact (rfl : _ = [])|apply evl_cons rfl (by (first|exact v_1|exact v_2|exact v_3|exact v_4|exact v_5|exact v_6|exact v_7|exact v_8|exact v_9|exact rfl))|exact rfl)))) rfl rfl (by (first | omega | (dsimp only at *; omega) | (simp at *; omega))) (by simp only []; (first | omega | (dsimp only at *; omega) | (simp at *; omega))) (by (first | omega | (dsimp only at *; omega) | (simp at *; omega))) (fun V3 hV3 => ?_))
                    refine xr_op rfl rfl (xv_assign rfl ?_)
                    refine xr_end rfl ?_
                    refine bk_n ?_
                    refine th_n ?_
                    refine xc_region ?_
                    refine xr_op rfl rfl (xv_move rfl ?_)
                    refine xr_op rfl rfl (xv_add rfl rfl (wrap_i64 (by (first | omega | (dsimp only at *; omega) | (simp at *; omega))) (by (first | omega | (dsimp only at *; omega) | (simp at *; omega)))) ?_)
                    refine xr_op rfl rfl (xv_assign rfl ?_)
                    refine xr_end rfl ?_
                    have hiw2 : InsW zn (at_.take (k + 1)) (al ++ [zn] ++ [xo]) true := by rw [List.take_add_one, hko]; exact hiw.gt (by (first | omega | (dsimp only at *; omega) | (simp at *; omega)))
                    exact rnd ((k + 1, al ++ [zn] ++ [xo], true, V3) : Nat × List Int × Bool × Vec) ⟨by (first | omega | (dsimp only at *; omega) | (simp at *; omega)), hiw2, by dsimp only; simp only [List.length_append, List.length_singleton]; have := insW_len hiw; (first | omega | (dsimp only at *; omega) | (simp at *; omega)), by simpa [eI] using hV3⟩ (by (first | omega | (dsimp only at *; omega) | (simp at *; omega))) (le_put (le_put (le_put (le_put (le_put (le_put (le_put (le_put (le_put (le_put (le_put (le_put (le_put (le_put (le_put (le_put (le_emp _) rfl) rfl) rfl) rfl) rfl) rfl) rfl) rfl) rfl) rfl) rfl) rfl) rfl) (by dsimp only; simp only [List.length_append, List.length_singleton]; rfl)) rfl) rfl) (by dsimp only; simp only [List.flatMap_append, List.flatMap_cons, List.flatMap_nil, List.append_nil]; (first|((repeat first|exact s_0|exact s_1|exact s_3|refine s_4 ?_|refine s_5 ?_|refine s_6 ?_|refine s_7 ?_);done)|((repeat first|exact s_0|exact s_1|exact s_3|refine s_4 ?_|refine s_5 ?_|refine s_6 ?_|refine s_8 ?_);done)))
                  · refine xr_end rfl ?_
                    refine th_n ?_
                    refine xc_false rfl ?_
                    refine xc_skip ?_
                    refine th_n ?_
                    refine xc_region ?_
                    refine xr_op rfl rfl (xv_move rfl ?_)
                    refine xr_op rfl rfl (xv_move rfl ?_)
                    refine xr_op rfl rfl (xv_move rfl ?_)
                    refine xr_op rfl rfl (xv_ia (sz := 1) (j := k) sl32 ty3 rfl (by rw [hao]; rfl) rfl (by (first | assumption | with_reducible exact Int.toNat_natCast _ | with_reducible rfl | rfl)) (by (first | omega | (dsimp only at *; omega) | (simp at *; omega))) (by (first | omega | (dsimp only at *; omega) | (simp at *; omega))) ?_)
                    refine xr_op rfl rfl (xv_load1 ty3 rfl rfl (by ((repeat first|exact z_0|assumption|refine z_1 ?_|(refine z_l ?_;(repeat first|exact z_0|assumption|refine z_1 ?_);done)|refine z_r ?_);done)) (take_get (hxo (k) xo hko) (j := 0) rfl) ?_)
                    refine xr_op rfl rfl ((al_buildSlice sl32 ty3 rfl rfl rfl rfl rfl (by ((try apply evl_some rfl);(repeat (first|exact (rfl : _ = [])|apply evl_cons rfl (by (first|exact v_1|exact v_2|exact v_3|exact v_4|exact v_5|exact v_6|exact v_7|exact v_8|exact v_9|exact rfl))|exact rfl))))).xv (fun b150 hb150 => ?_))
                    refine xr_op rfl rfl (xv_append (V := V) (n := al.length) (xs := al.flatMap eI) sl32 ty3 rfl rfl rfl hV (.there .here) (by ((repeat first|exact z_0|assumption|refine z_1 ?_|(refine z_l ?_;(repeat first|exact z_0|assumption|refine z_1 ?_);done)|refine z_r ?_);done)) (by ((try apply evl_some rfl);(repeat (first|exact (rfl : _ = [])|apply evl_cons rfl (by (first|exact v_1|exact v_2|exact v_3|exact v_4|exact v_5|exact v_6|exact v_7|exact v_8|exact v_9|exact rfl))|exact rfl)))) rfl rfl (by (first | omega | (dsimp only at *; omega) | (simp at *; omega))) (by simp only []; (first | omega | (dsimp only at *; omega) | (simp at *; omega))) (by (first | omega | (dsimp only at *; omega) | (simp at *; omega))) (fun V3 hV3 => ?_))
                    refine xr_op rfl rfl (xv_assign rfl ?_)
                    refine xr_end rfl ?_
                    refine bk_n ?_
                    refine th_n ?_
                    refine xc_region ?_
                    refine xr_op rfl rfl (xv_move rfl ?_)
                    refine xr_op rfl rfl (xv_add rfl rfl (wrap_i64 (by (first | omega | (dsimp only at *; omega) | (simp at *; omega))) (by (first | omega | (dsimp only at *; omega) | (simp at *; omega)))) ?_)
                    refine xr_op rfl rfl (xv_assign rfl ?_)
                    refine xr_end rfl ?_
                    have hiw2 : InsW zn (at_.take (k + 1)) (al ++ [xo]) true := by rw [List.take_add_one, hko]; exact (by have e9 : xo = zn := (by (first | omega | (dsimp only at *; omega) | (simp at *; omega))); rw [e9]; exact hiw.eq)
                    exact rnd ((k + 1, al ++ [xo], true, V3) : Nat × List Int × Bool × Vec) ⟨by (first | omega | (dsimp only at *; omega) | (simp at *; omega)), hiw2, by dsimp only; simp only [List.length_append, List.length_singleton]; (first | omega | (dsimp only at *; omega) | (simp at *; omega)), by simpa [eI] using hV3⟩ (by (first | omega | (dsimp only at *; omega) | (simp at *; omega))) (le_put (le_put (le_put (le_put (le_put (le_put (le_put (le_put (le_put (le_put (le_put (le_put (le_put (le_put (le_put (le_put (le_emp _) rfl) rfl) rfl) rfl) rfl) rfl) rfl) rfl) rfl) rfl) rfl) rfl) rfl) (by dsimp only; simp only [List.length_append, List.length_singleton]; rfl)) rfl) rfl) (by dsimp only; simp only [List.flatMap_append, List.flatMap_cons, List.flatMap_nil, List.append_nil]; (first|((repeat first|exact s_0|exact s_1|exact s_3|refine s_4 ?_|refine s_5 ?_|refine s_6 ?_|refine s_7 ?_);done)|((repeat first|exact s_0|exact s_1|exact s_3|refine s_4 ?_|refine s_5 ?_|refine s_6 ?_|refine s_8 ?_);done)))
                · refine xr_op rfl rfl (xv_pick rfl rfl ?_)
                  refine xr_end rfl ?_
                  refine th_n ?_
                  refine xc_false rfl ?_
                  refine xc_skip ?_
                  refine th_n ?_
                  refine xc_region ?_
                  refine xr_op rfl rfl (xv_move rfl ?_)
                  refine xr_op rfl rfl (xv_move rfl ?_)
                  refine xr_op rfl rfl (xv_move rfl ?_)
                  refine xr_op rfl rfl (xv_ia (sz := 1) (j := k) sl32 ty3 rfl (by rw [hao]; rfl) rfl (by (first | assumption | with_reducible exact Int.toNat_natCast _ | with_reducible rfl | rfl)) (by (first | omega | (dsimp only at *; omega) | (simp at *; omega))) (by (first | omega | (dsimp only at *; omega) | (simp at *; omega))) ?_)
                  refine xr_op rfl rfl (xv_load1 ty3 rfl rfl (by ((repeat first|exact z_0|assumption|refine z_1 ?_|(refine z_l ?_;(repeat first|exact z_0|assumption|refine z_1 ?_);done)|refine z_r ?_);done)) (take_get (hxo (k) xo hko) (j := 0) rfl) ?_)
                  refine xr_op rfl rfl ((al_buildSlice sl32 ty3 rfl rfl rfl rfl rfl (by ((try apply evl_some rfl);(repeat (first|exact (rfl : _ = [])|apply evl_cons rfl (by (first|exact v_1|exact v_2|exact v_3|exact v_4|exact v_5|exact v_6|exact v_7|exact v_8|exact v_9|exact rfl))|exact rfl))))).xv (fun b150 hb150 => ?_))
                  refine xr_op rfl rfl (xv_append (V := V) (n := al.length) (xs := al.flatMap eI) sl32 ty3 rfl rfl rfl hV (.there .here) (by ((repeat first|exact z_0|assumption|refine z_1 ?_|(refine z_l ?_;(repeat first|exact z_0|assumption|refine z_1 ?_);done)|refine z_r ?_);done)) (by ((try apply evl_some rfl);(repeat (first|exact (rfl : _ = [])|apply evl_cons rfl (by (first|exact v_1|exact v_2|exact v_3|exact v_4|exact v_5|exact v_6|exact v_7|exact v_8|exact v_9|exact rfl))|exact rfl)))) rfl rfl (by (first | omega | (dsimp only at *; omega) | (simp at *; omega))) (by simp only []; (first | omega | (dsimp only at *; omega) | (simp at *; omega))) (by (first | omega | (dsimp only at *; omega) | (simp at *; omega))) (fun V3 hV3 => ?_))
                  refine xr_op rfl rfl (xv_assign rfl ?_)
                  refine xr_end rfl ?_
                  refine bk_n ?_
                  refine th_n ?_
                  refine xc_region ?_
                  refine xr_op rfl rfl (xv_move rfl ?_)
                  refine xr_op rfl rfl (xv_add rfl rfl (wrap_i64 (by (first | omega | (dsimp only at *; omega) | (simp at *; omega))) (by (first | omega | (dsimp only at *; omega) | (simp at *; omega)))) ?_)
                  refine xr_op rfl rfl (xv_assign rfl ?_)
                  refine xr_end rfl ?_
                  have hiw2 : InsW zn (at_.take (k + 1)) (al ++ [xo]) false := by rw [List.take_add_one, hko]; exact hiw.lt (by (first | omega | (dsimp only at *; omega) | (simp at *; omega)))
                  exact rnd ((k + 1, al ++ [xo], false, V3) : Nat × List Int × Bool × Vec) ⟨by (first | omega | (dsimp only at *; omega) | (simp at *; omega)), hiw2, by dsimp only; simp only [List.length_append, List.length_singleton]; (first | omega | (dsimp only at *; omega) | (simp at *; omega)), by simpa [eI] using hV3⟩ (by (first | omega | (dsimp only at *; omega) | (simp at *; omega))) (le_put (le_put (le_put (le_put (le_put (le_put (le_put (le_put (le_put (le_put (le_put (le_put (le_put (le_put (le_put (le_put (le_emp _) rfl) rfl) rfl) rfl) rfl) rfl) rfl) rfl) rfl) rfl) rfl) rfl) rfl) (by dsimp only; simp only [List.length_append, List.length_singleton]; rfl)) rfl) rfl) (by dsimp only; simp only [List.flatMap_append, List.flatMap_cons, List.flatMap_nil, List.append_nil]; (first|((repeat first|exact s_0|exact s_1|exact s_3|refine s_4 ?_|refine s_5 ?_|refine s_6 ?_|refine s_7 ?_);done)|((repeat first|exact s_0|exact s_1|exact s_3|refine s_4 ?_|refine s_5 ?_|refine s_6 ?_|refine s_8 ?_);done)))
              · refine xr_op rfl rfl (xv_move rfl ?_)
                refine xr_op rfl rfl (xv_not rfl ?_)
                refine xr_op rfl rfl (xv_move rfl ?_)
                refine xr_no rfl rfl rfl rfl ?_
                refine xr_no rfl rfl rfl rfl ?_
                refine xr_no rfl rfl rfl rfl ?_
                refine xr_no rfl rfl rfl rfl ?_
                refine xr_no rfl rfl rfl rfl ?_
                refine xr_no rfl rfl rfl rfl ?_
                refine xr_op rfl rfl (xv_pick rfl rfl ?_)
                refine xr_end rfl ?_
                refine th_n ?_
                refine xc_false rfl ?_
                refine xc_skip ?_
                refine th_n ?_
                refine xc_region ?_
                refine xr_op rfl rfl (xv_move rfl ?_)
                have hlto : k < at_.length := by (first | omega | (dsimp only at *; omega) | (simp at *; omega))
                obtain ⟨bo, oo, lo, to, fzo, hao, hmo, hxo⟩ := (sa).at hlto
                obtain ⟨xo, hko⟩ : ∃ qq_, at_[k]? = some qq_ := ⟨_, List.getElem?_eq_getElem hlto⟩
                refine xr_op rfl rfl (xv_move rfl ?_)
                refine xr_op rfl rfl (xv_move rfl ?_)
                refine xr_op rfl rfl (xv_ia (sz := 1) (j := k) sl32 ty3 rfl (by rw [hao]; rfl) rfl (by (first | assumption | with_reducible exact Int.toNat_natCast _ | with_reducible rfl | rfl)) (by (first | omega | (dsimp only at *; omega) | (simp at *; omega))) (by (first | omega | (dsimp only at *; omega) | (simp at *; omega))) ?_)
                refine xr_op rfl rfl (xv_load1 ty3 rfl rfl (by ((repeat first|exact z_0|assumption|refine z_1 ?_|(refine z_l ?_;(repeat first|exact z_0|assumption|refine z_1 ?_);done)|refine z_r ?_);done)) (take_get (hxo (k) xo hko) (j := 0) rfl) ?_)
                refine xr_op rfl rfl ((al_buildSlice sl32 ty3 rfl rfl rfl rfl rfl (by ((try apply evl_some rfl);(repeat (first|exact (rfl : _ = [])|apply evl_cons rfl (by (first|exact v_1|exact v_2|exact v_3|exact v_4|exact v_5|exact v_6|exact v_7|exact v_8|exact v_9|exact rfl))|exact rfl))))).xv (fun b150 hb150 => ?_))
                refine xr_op rfl rfl (xv_append (V := V) (n := al.length) (xs := al.flatMap eI) sl32 ty3 rfl rfl rfl hV (.there .here) (by ((repeat first|exact z_0|assumption|refine z_1 ?_|(refine z_l ?_;(repeat first|exact z_0|assumption|refine z_1 ?_);done)|refine z_r ?_);done)) (by ((try apply evl_some rfl);(repeat (first|exact (rfl : _ = [])|apply evl_cons rfl (by (first|exact v_1|exact v_2|exact v_3|exact v_4|exact v_5|exact v_6|exact v_7|exact v_8|exact v_9|exact rfl))|exact rfl)))) rfl rfl (by (first | omega | (dsimp only at *; omega) | (simp at *; omega))) (by simp only []; (first | omega | (dsimp only at *; omega) | (simp at *; omega))) (by (first | omega | (dsimp only at *; omega) | (simp at *; omega))) (fun V3 hV3 => ?_))
                refine xr_op rfl rfl (xv_assign rfl ?_)
                refine xr_end rfl ?_
                refine bk_n ?_
                refine th_n ?_
                refine xc_region ?_
                refine xr_op rfl rfl (xv_move rfl ?_)
                refine xr_op rfl rfl (xv_add rfl rfl (wrap_i64 (by (first | omega | (dsimp only at *; omega) | (simp at *; omega))) (by (first | omega | (dsimp only at *; omega) | (simp at *; omega)))) ?_)
                refine xr_op rfl rfl (xv_assign rfl ?_)
                refine xr_end rfl ?_
                have hiw2 : InsW zn (at_.take (k + 1)) (al ++ [xo]) true := by rw [List.take_add_one, hko]; exact hiw.more
                exact rnd ((k + 1, al ++ [xo], true, V3) : Nat × List Int × Bool × Vec) ⟨by (first | omega | (dsimp only at *; omega) | (simp at *; omega)), hiw2, by dsimp only; simp only [List.length_append, List.length_singleton]; (first | omega | (dsimp only at *; omega) | (simp at *; omega)), by simpa [eI] using hV3⟩ (by (first | omega | (dsimp only at *; omega) | (simp at *; omega))) (le_put (le_put (le_put (le_put (le_put (le_put (le_put (le_put (le_put (le_put (le_put (le_put (le_put (le_put (le_put (le_put (le_emp _) rfl) rfl) rfl) rfl) rfl) rfl) rfl) rfl) rfl) rfl) rfl) rfl) rfl) (by dsimp only; simp only [List.length_append, List.length_singleton]; rfl)) rfl) rfl) (by dsimp only; simp only [List.flatMap_append, List.flatMap_cons, List.flatMap_nil, List.append_nil]; (first|((repeat first|exact s_0|exact s_1|exact s_3|refine s_4 ?_|refine s_5 ?_|refine s_6 ?_|refine s_7 ?_);done)|((repeat first|exact s_0|exact s_1|exact s_3|refine s_4 ?_|refine s_5 ?_|refine s_6 ?_|refine s_8 ?_);done)))
            · refine xr_end rfl ?_
              refine th_n ?_
              refine xc_false rfl ?_
              refine xc_exit ?_
              refine th_x ?_
              refine th_x ?_
              refine bk_same ?_
              refine th_n ?_
              obtain rfl : k = at_.length := by (first | omega | (dsimp only at *; omega) | (simp at *; omega))
              rw [List.take_length] at hiw
              have hfin := hiw.fin hup
              refine xc_join (σ := List Int × Option Addr × Nat × Hp) (fun z => Ins zn at_ z.1 ∧ SlV z.2.2.2 1 eI z.2.1 z.1) (fun z => ((((((((((((((emp.put (some 1) (.slice ab bs.length cb)).put (some 2) (.int .u16 nb)).put (some 6) (.pointer (some ⟨b6, 0, none⟩))).put (some 13) (.slice ga G.length gc)).put (some 14) (.slice aa at_.length ac)).put (some 15) (.pointer (some ⟨bR, 0, none⟩))).put (some 16) (I (min ((nf % 160 : Nat) : Int) ((nu % 160 : Nat) : Int)))).put (some 17) (I (max ((nf % 160 : Nat) : Int) ((nu % 160 : Nat) : Int)))).put (some 18) (.pointer (some ⟨bg, 0, none⟩))).put (some 20) (I dn)).put (some 21) (I de)).put (some 22) (I xw)).put (some 23) (I zn)).put (some 24) (.slice z.2.1 z.1.length z.2.2.1))) (fun z => (z.2.2.2 ++ ((bg, .cells ⟨eSpan gs⟩ 38) :: (bR, .cells ⟨eRnd (rOne bD d ca cc cs)⟩ 25) :: (bD, .cells ⟨[I d.digits, I d.rate.lo, I d.rate.hi, .bool d.sticks]⟩ 45) :: (qc ++ (qa ++ (qg ++ (b6, .cells ⟨eDial d⟩ 45) :: h)))))) ?_ ?_
              · refine xc_seq (xc_region ?_)
                cases pu
                · refine xr_op rfl rfl (xv_move rfl ?_)
                  refine xr_op rfl rfl (xv_not rfl ?_)
                  refine xr_end rfl ?_
                  refine th_n ?_
                  refine xc_true rfl ?_
                  refine xc_region ?_
                  refine xr_op rfl rfl (xv_move rfl ?_)
                  refine xr_op rfl rfl (xv_move rfl ?_)
                  refine xr_op rfl rfl ((al_buildSlice sl32 ty3 rfl rfl rfl rfl rfl (by ((try apply evl_some rfl);(repeat (first|exact (rfl : _ = [])|apply evl_cons rfl (by (first|exact v_1|exact v_2|exact v_3|exact v_4|exact v_5|exact v_6|exact v_7|exact v_8|exact v_9|exact rfl))|exact rfl))))).xv (fun b156 hb156 => ?_))
                  refine xr_op rfl rfl (xv_append (V := V) (n := al.length) (xs := al.flatMap eI) sl32 ty3 rfl rfl rfl hV (.there .here) (by ((repeat first|exact z_0|assumption|refine z_1 ?_|(refine z_l ?_;(repeat first|exact z_0|assumption|refine z_1 ?_);done)|refine z_r ?_);done)) (by ((try apply evl_some rfl);(repeat (first|exact (rfl : _ = [])|apply evl_cons rfl (by (first|exact v_1|exact v_2|exact v_3|exact v_4|exact v_5|exact v_6|exact v_7|exact v_8|exact v_9|exact rfl))|exact rfl)))) rfl rfl (by (first | omega | (dsimp only at *; omega) | (simp at *; omega))) (by simp only []; (first | omega | (dsimp only at *; omega) | (simp at *; omega))) (by (first | omega | (dsimp only at *; omega) | (simp at *; omega))) (fun V3 hV3 => ?_))
                  refine xr_op rfl rfl (xv_assign rfl ?_)
                  refine xr_end rfl ?_
                  obtain ⟨va, vc, hvv, hvs⟩ := Vec.slv (enc := eI) (t := 3) (V := V3) (xs := al ++ [zn]) (h := V3.hp 3 ((al ++ [zn]).flatMap eI)) eI_len (by simpa [eI] using hV3) (fun _ hz => hz)
                  rw [List.length_append] at hvv
                  exact jn_n ((al ++ [zn], va, vc, V3.hp 3 ((al ++ [zn]).flatMap eI)) : List Int × Option Addr × Nat × Hp) ⟨hfin, hvs⟩ (le_put (le_put (le_put (le_put (le_put (le_put (le_put (le_put (le_put (le_put (le_put (le_put (le_put (le_put (le_emp _) rfl) rfl) rfl) rfl) rfl) rfl) rfl) rfl) rfl) rfl) rfl) rfl) rfl) (by dsimp only; rw [List.length_append, ← hvv]; rfl)) (by dsimp only; (try simp only [List.flatMap_append, List.flatMap_cons, List.flatMap_nil, List.append_nil]); (first|((repeat first|exact s_0|exact s_1|exact s_3|refine s_4 ?_|refine s_5 ?_|refine s_6 ?_|refine s_7 ?_);done)|((repeat first|exact s_0|exact s_1|exact s_3|refine s_4 ?_|refine s_5 ?_|refine s_6 ?_|refine s_8 ?_);done)))
                · refine xr_op rfl rfl (xv_move rfl ?_)
                  refine xr_op rfl rfl (xv_not rfl ?_)
                  refine xr_end rfl ?_
                  refine th_n ?_
                  refine xc_false rfl ?_
                  refine xc_skip ?_
                  obtain ⟨va, vc, hvv, hvs⟩ := Vec.slv (enc := eI) (t := 3) (V := V) (xs := al) (h := V.hp 3 (al.flatMap eI)) eI_len hV (fun _ hz => hz)
                  exact jn_n ((al, va, vc, V.hp 3 (al.flatMap eI)) : List Int × Option Addr × Nat × Hp) ⟨hfin, hvs⟩ (le_put (le_put (le_put (le_put (le_put (le_put (le_put (le_put (le_put (le_put (le_put (le_put (le_put (le_put (le_emp _) rfl) rfl) rfl) rfl) rfl) rfl) rfl) rfl) rfl) rfl) rfl) rfl) rfl) (by dsimp only; rw [← hvv]; rfl)) (by dsimp only; (try simp only [List.flatMap_append, List.flatMap_cons, List.flatMap_nil, List.append_nil]); (first|((repeat first|exact s_0|exact s_1|exact s_3|refine s_4 ?_|refine s_5 ?_|refine s_6 ?_|refine s_7 ?_);done)|((repeat first|exact s_0|exact s_1|exact s_3|refine s_4 ?_|refine s_5 ?_|refine s_6 ?_|refine s_8 ?_);done)))
              · rintro ⟨al, ala, alc, qal⟩ ⟨hins, sal⟩
                dsimp only at hins sal
                have hll0 := hins.len
                have hltu : 0 < al.length := by have := hins.len; (first | omega | (dsimp only at *; omega) | (simp at *; omega))
                obtain ⟨bu, ou, lu, tu, fzu, hau, hmu, hxu⟩ := (sal).at hltu
                obtain ⟨xu, hku⟩ : ∃ qq_, al[0]? = some qq_ := ⟨_, List.getElem?_eq_getElem hltu⟩
                have hltv : 0 < at_.length := by (first | omega | (dsimp only at *; omega) | (simp at *; omega))
                obtain ⟨bv, ov, lv, tv, fzv, hav, hmv, hxv⟩ := (sa).at hltv
                obtain ⟨xv, hkv⟩ : ∃ qq_, at_[0]? = some qq_ := ⟨_, List.getElem?_eq_getElem hltv⟩
                refine xc_seq ?_
                refine xc_drawL (L := [(bu, fun o => o = .cells ⟨lu⟩ tu fzu), (bv, fun o => o = .cells ⟨lv⟩ tv fzv)]) [(0, .S), (1, .S), (2, .S), (3, .R), (8, .S), (9, .S), (10, .S), (11, .S), (12, .S), (13, .S), (14, .S), (4, .O), (5, .S), (6, .S), (7, .S), (15, .O), (16, .S), (17, .S)] [] _ mixed (by kernel_rfl) (by rw [List.append_nil]) (holds2b (by ((repeat first|exact z_0|assumption|refine z_1 ?_|(refine z_l ?_;(repeat first|exact z_0|assumption|refine z_1 ?_);done)|refine z_r ?_);done)) rfl (by ((repeat first|exact z_0|assumption|refine z_1 ?_|(refine z_l ?_;(repeat first|exact z_0|assumption|refine z_1 ?_);done)|refine z_r ?_);done)) rfl) ?_
                refine js_S rfl rfl (.inl rfl) (xv_move rfl ⟨rfl, rfl⟩) ?_
                refine js_S rfl rfl (.inl rfl) (xv_convI Tryd.underlying47 Tryd.underlying3 rfl (wrap_i64 (by (first | omega | (dsimp only at *; omega) | (simp at *; omega))) (by (first | omega | (dsimp only at *; omega) | (simp at *; omega)))) ⟨rfl, rfl⟩) ?_
                refine js_S rfl rfl (.inl rfl) (xv_faddr fl45_0 rfl ⟨rfl, rfl⟩) ?_
                refine js_R0 rfl rfl (.inl rfl) (xv_load1 ty3 rfl rfl (by ((repeat first|exact z_0|assumption|refine z_1 ?_|(refine z_l ?_;(repeat first|exact z_0|assumption|refine z_1 ?_);done)|refine z_r ?_);done)) (by rfl) ⟨rfl, rfl⟩) ?_
                refine js_S rfl rfl (.inl rfl) (xv_move rfl ⟨rfl, rfl⟩) ?_
                refine js_S rfl rfl (.inl rfl) (xv_move rfl ⟨rfl, rfl⟩) ?_
                refine js_S rfl rfl (.inl rfl) (xv_ia (sz := 1) (j := 0) sl32 ty3 rfl (by rw [hau]; rfl) rfl rfl (by (first | omega | (dsimp only at *; omega) | (simp at *; omega))) (by (first | omega | (dsimp only at *; omega) | (simp at *; omega))) ⟨rfl, rfl⟩) ?_
                refine js_I rfl rfl (.inl rfl) (fun hh hv => by obtain ⟨o9, hm, rfl⟩ := hv bu _ List.mem_cons_self; exact xv_load1 ty3 rfl rfl (List.mem_append_left _ hm) (take_get (hxu 0 xu hku) (j := 0) rfl) ⟨rfl, rfl⟩) ?_
                refine js_S rfl rfl (.inl rfl) (xv_move rfl ⟨rfl, rfl⟩) ?_
                refine js_S rfl rfl (.inl rfl) (xv_ia (sz := 1) (j := 0) sl32 ty3 rfl (by rw [hav]; rfl) rfl rfl (by (first | omega | (dsimp only at *; omega) | (simp at *; omega))) (by (first | omega | (dsimp only at *; omega) | (simp at *; omega))) ⟨rfl, rfl⟩) ?_
                refine js_I rfl rfl (.inl rfl) (fun hh hv => by obtain ⟨o9, hm, rfl⟩ := hv bv _ (List.mem_cons_of_mem _ List.mem_cons_self); exact xv_load1 ty3 rfl rfl (List.mem_append_left _ hm) (take_get (hxv 0 xv hkv) (j := 0) rfl) ⟨rfl, rfl⟩) ?_
                refine js_OL0 rfl rfl (.inl rfl) (xv_calls rfl hb26 (Turn_c (by omega) (by omega) (up_ret ?_)))
                refine ⟨holds2b (by ((repeat first|exact z_0|assumption|refine z_1 ?_|(refine z_l ?_;(repeat first|exact z_0|assumption|refine z_1 ?_);done)|refine z_r ?_);done)) rfl (by ((repeat first|exact z_0|assumption|refine z_1 ?_|(refine z_l ?_;(repeat first|exact z_0|assumption|refine z_1 ?_);done)|refine z_r ?_);done)) rfl, ?_⟩
                refine js_S rfl rfl (.inl rfl) (xv_mul rfl rfl (wrap_i64 (by (first | omega | (dsimp only at *; omega) | (simp at *; omega))) (by (first | omega | (dsimp only at *; omega) | (simp at *; omega)))) ⟨rfl, rfl⟩) ?_
                refine js_S rfl rfl (.inl rfl) (xv_mul rfl rfl (wrap_i64 (by (first | omega | (dsimp only at *; omega) | (simp at *; omega))) (by (first | omega | (dsimp only at *; omega) | (simp at *; omega)))) ⟨rfl, rfl⟩) ?_
                refine js_S rfl rfl (.inl rfl) (xv_add rfl rfl (wrap_i64 (by (first | omega | (dsimp only at *; omega) | (simp at *; omega))) (by (first | omega | (dsimp only at *; omega) | (simp at *; omega)))) ⟨rfl, rfl⟩) ?_
                have hup2 := hins.up hup
                have huv := hins.first hup hkv hku
                have hin3 : ∀ x ∈ al, 0 ≤ x ∧ x ≤ G.length := fun x hx => by
                  rcases hins.mem hx with rfl | h9
                  · omega
                  · exact hin2 x h9
                have hub := hin3 xu (List.mem_of_getElem? hku)
                have hvb := hin2 xv (List.mem_of_getElem? hkv)
                have hll := hins.len
                refine js_OL0 rfl rfl (.inl rfl) (xv_calls rfl hb25 (sumG_c (f := xu) (t := xv) hd hgi (by omega) (sg.sub (by intro z hz; ((repeat first|exact z_0|assumption|refine z_1 ?_|(refine z_l ?_;(repeat first|exact z_0|assumption|refine z_1 ?_);done)|refine z_r ?_);done))) (by omega) (by omega) (by omega) (up_ret ?_)))
                refine ⟨holds2b (by ((repeat first|exact z_0|assumption|refine z_1 ?_|(refine z_l ?_;(repeat first|exact z_0|assumption|refine z_1 ?_);done)|refine z_r ?_);done)) rfl (by ((repeat first|exact z_0|assumption|refine z_1 ?_|(refine z_l ?_;(repeat first|exact z_0|assumption|refine z_1 ?_);done)|refine z_r ?_);done)) rfl, ?_⟩
                have hsb := SG_bd hgi hub.1 huv hvb.2
                have hmb := mul_bdI (a := d.rate.hi) (A := 10000) (x := xv - xu) (B := 160) (by omega) g5 (by omega) (by omega) (by omega)
                have hmc : 0 ≤ d.rate.lo * (xv - xu) := Int.mul_nonneg g3 (by omega)
                obtain ⟨st9, hst9⟩ : ∃ s : Int, s = (nb : Int) + 100 * turnI d.digits * 10000 - SG G xu xv := ⟨_, rfl⟩
                refine js_S rfl rfl (.inl rfl) (xv_sub rfl rfl (wrap_i64 (by (first | omega | (dsimp only at *; omega) | (simp at *; omega))) (by (first | omega | (dsimp only at *; omega) | (simp at *; omega)))) ⟨rfl, rfl⟩) ?_
                rw [← hst9]
                refine js_S rfl rfl (.inl rfl) (xv_assign rfl ⟨rfl, rfl⟩) ?_
                refine j_end0 ?_
                refine th_n ?_
                refine xc_seq (xc_region ?_)
                refine xr_op rfl rfl (xv_loadA ty25 rfl rfl (by ((repeat first|exact z_0|assumption|refine z_1 ?_|(refine z_l ?_;(repeat first|exact z_0|assumption|refine z_1 ?_);done)|refine z_r ?_);done)) (by ((try apply evl_some rfl);(repeat (first|exact (rfl : _ = [])|apply evl_cons rfl (by (first|exact v_1|exact v_2|exact v_3|exact v_4|exact v_5|exact v_6|exact v_7|exact v_8|exact v_9|exact rfl))|exact rfl)))) (by rfl) ?_)
                refine xr_op rfl rfl (xv_alloc ty25 (fun bX hbX => ?_))
                refine xr_op rfl rfl (xv_s ty25 rfl rfl (by (first|(apply u_3;(repeat first|exact u_0|assumption|apply u_1|apply u_2);done)|((repeat first|exact u_0|assumption|apply u_1|apply u_2);done)|(apply u_3;apply u_3;(repeat first|exact u_0|assumption|apply u_1|apply u_2);done)|((repeat first|exact u_0|assumption|apply u_3|apply u_1);done))) (by ((try apply evl_some rfl);(repeat (first|exact (rfl : _ = [])|apply evl_cons rfl (by (first|exact v_1|exact v_2|exact v_3|exact v_4|exact v_5|exact v_6|exact v_7|exact v_8|exact v_9|exact rfl))|exact rfl)))) (by rfl) (by rfl) (by rfl) (by ((try apply evl_some rfl);(repeat (first|exact (rfl : _ = [])|apply evl_cons rfl (by (first|exact v_1|exact v_2|exact v_3|exact v_4|exact v_5|exact v_6|exact v_7|exact v_8|exact v_9|exact rfl))|exact rfl)))) ?_)
                refine xr_end rfl ?_
                refine th_n ?_
                refine xc_seq (xc_region ?_)
                refine xr_op rfl rfl (xv_loadA ty45 rfl rfl (by ((repeat first|exact z_0|assumption|refine z_1 ?_|(refine z_l ?_;(repeat first|exact z_0|assumption|refine z_1 ?_);done)|refine z_r ?_);done)) (by ((try apply evl_some rfl);(repeat (first|exact (rfl : _ = [])|apply evl_cons rfl (by (first|exact v_1|exact v_2|exact v_3|exact v_4|exact v_5|exact v_6|exact v_7|exact v_8|exact v_9|exact rfl))|exact rfl)))) (by rfl) ?_)
                refine xr_op rfl rfl (xv_move rfl ?_)
                refine xr_op rfl rfl (xv_move rfl ?_)
                refine xr_op rfl rfl (xv_move rfl ?_)
                refine xr_op rfl rfl (xv_move rfl ?_)
                refine xr_op rfl rfl (xv_calls rfl hb24 (shownB_c (at_ := al) hd hgi (by omega) (sg.sub (by intro z hz; ((repeat first|exact z_0|assumption|refine z_1 ?_|(refine z_l ?_;(repeat first|exact z_0|assumption|refine z_1 ?_);done)|refine z_r ?_);done))) (sal.sub (by intro z hz; ((repeat first|exact z_0|assumption|refine z_1 ?_|(refine z_l ?_;(repeat first|exact z_0|assumption|refine z_1 ?_);done)|refine z_r ?_);done))) hup2 hin3 (by omega) (by omega) (by omega) (hb.sub (by intro z hz; ((repeat first|exact z_0|assumption|refine z_1 ?_|(refine z_l ?_;(repeat first|exact z_0|assumption|refine z_1 ?_);done)|refine z_r ?_);done))) (by omega) hbv (fun cs2 cb2 cc2 qc2 hsh2 hfst2 sc2 => up_ret ?_)))
                refine xr_op rfl rfl (xv_faddr fl25_1 rfl ?_)
                refine xr_op rfl rfl (xv_s1 ty23 rfl rfl rfl (by (first|(apply u_3;(repeat first|exact u_0|assumption|apply u_1|apply u_2);done)|((repeat first|exact u_0|assumption|apply u_1|apply u_2);done)|(apply u_3;apply u_3;(repeat first|exact u_0|assumption|apply u_1|apply u_2);done)|((repeat first|exact u_0|assumption|apply u_3|apply u_1);done))) (by (first | rfl | exact Vec.one _ _)) (by (first | decide | exact Nat.le_of_ble_eq_true rfl | (simp only [List.length_cons, List.length_nil]; omega) | (simp; done))) (by ((try apply evl_some rfl);(repeat (first|exact (rfl : _ = [])|apply evl_cons rfl (by (first|exact v_1|exact v_2|exact v_3|exact v_4|exact v_5|exact v_6|exact v_7|exact v_8|exact v_9|exact rfl))|exact rfl)))) ?_)
                refine xr_end rfl ?_
                refine th_n ?_
                refine xc_seq (xc_region ?_)
                have hTX : TR (rOne bD d cb2 cc2 cs2) 0 d G al := one_tr hd hgi (by omega) hup2 hin3 (by omega) hsh2
                have hcl2 : cs2.length = al.length := hsh2.len
                have hmap1 : cs = at_.map (cardT d 0 G nb xv) := hsh.map hst hfst hkv
                have hmap2 : cs2 = al.map (cardT d 0 G nb xv) := by
                  rw [hsh2.map hst hfst2 hku]
                  refine List.map_congr_left fun h9 _ => ?_
                  rw [hst9, show (nb : Int) + 100 * turnI d.digits * 10000 - SG G xu xv = nb + turnI d.digits * 1000000 - SG G xu xv by omega]
                  exact cardT_same
                obtain ⟨gs2, gx, hga2, hgx, hle1, hle2⟩ := hTR.more hTX hst hmap1 hmap2 hins (f := (min ((nf % 160 : Nat) : Int) ((nu % 160 : Nat) : Int))) (t := (max ((nf % 160 : Nat) : Int) ((nu % 160 : Nat) : Int))) (by omega) (by omega) (by omega)
                obtain rfl : gs2 = gs := (Prod.mk.inj (hga2.symm.trans hga)).1
                refine xr_op rfl rfl (xv_loadA ty25 rfl rfl (by ((repeat first|exact z_0|assumption|refine z_1 ?_|(refine z_l ?_;(repeat first|exact z_0|assumption|refine z_1 ?_);done)|refine z_r ?_);done)) (by ((try apply evl_some rfl);(repeat (first|exact (rfl : _ = [])|apply evl_cons rfl (by (first|exact v_1|exact v_2|exact v_3|exact v_4|exact v_5|exact v_6|exact v_7|exact v_8|exact v_9|exact rfl))|exact rfl)))) (by rfl) ?_)
                refine xr_op rfl rfl (xv_move rfl ?_)
                refine xr_op rfl rfl (xv_move rfl ?_)
                refine xr_op rfl rfl (xv_calls rfl hb17 (GasE_c (r := (rOne bD d cb2 cc2 cs2)) (one_v (by ((repeat first|exact z_0|assumption|refine z_1 ?_|(refine z_l ?_;(repeat first|exact z_0|assumption|refine z_1 ?_);done)|refine z_r ?_);done)) (sc2.sub (by intro z hz; ((repeat first|exact z_0|assumption|refine z_1 ?_|(refine z_l ?_;(repeat first|exact z_0|assumption|refine z_1 ?_);done)|refine z_r ?_);done)))) (one_s (by omega)) (hT.sub (by intro z hz; ((repeat first|exact z_0|assumption|refine z_1 ?_|(refine z_l ?_;(repeat first|exact z_0|assumption|refine z_1 ?_);done)|refine z_r ?_);done))) hgx (up_ret ?_)))
                refine xr_op rfl rfl (xv_move rfl ?_)
                refine xr_op rfl rfl (xv_extract rfl rfl ?_)
                refine xr_op rfl rfl (xv_extract rfl rfl ?_)
                refine xr_op rfl rfl (xv_alloc ty38 (fun bs9 hbs9 => ?_))
                refine xr_op rfl rfl (xv_s ty38 rfl rfl (by (first|(apply u_3;(repeat first|exact u_0|assumption|apply u_1|apply u_2);done)|((repeat first|exact u_0|assumption|apply u_1|apply u_2);done)|(apply u_3;apply u_3;(repeat first|exact u_0|assumption|apply u_1|apply u_2);done)|((repeat first|exact u_0|assumption|apply u_3|apply u_1);done))) (by ((try apply evl_some rfl);(repeat (first|exact (rfl : _ = [])|apply evl_cons rfl (by (first|exact v_1|exact v_2|exact v_3|exact v_4|exact v_5|exact v_6|exact v_7|exact v_8|exact v_9|exact rfl))|exact rfl)))) (by rfl) (by rfl) (by rfl) (by ((try apply evl_some rfl);(repeat (first|exact (rfl : _ = [])|apply evl_cons rfl (by (first|exact v_1|exact v_2|exact v_3|exact v_4|exact v_5|exact v_6|exact v_7|exact v_8|exact v_9|exact rfl))|exact rfl)))) ?_)
                refine xr_op rfl rfl (xv_assign rfl ?_)
                refine xr_end rfl ?_
                refine th_n ?_
                refine xc_seq ?_
                refine xc_seq (xc_region ?_)
                refine xr_op rfl rfl (xv_move rfl ?_)
                refine xr_op rfl rfl (xv_neqF rfl rfl rfl ?_)
                refine xr_op rfl rfl (xv_move rfl ?_)
                refine xr_gd rfl rfl rfl (xv_faddr fl38_0 rfl ?_)
                refine xr_gd rfl rfl rfl (xv_load1 ty3 rfl rfl (by ((repeat first|exact z_0|assumption|refine z_1 ?_|(refine z_l ?_;(repeat first|exact z_0|assumption|refine z_1 ?_);done)|refine z_r ?_);done)) (by rfl) ?_)
                refine xr_gd rfl rfl rfl (xv_faddr fl38_0 rfl ?_)
                refine xr_gd rfl rfl rfl (xv_load1 ty3 rfl rfl (by ((repeat first|exact z_0|assumption|refine z_1 ?_|(refine z_l ?_;(repeat first|exact z_0|assumption|refine z_1 ?_);done)|refine z_r ?_);done)) (by rfl) ?_)
                refine xr_gd rfl rfl rfl (xv_cmpK rfl rfl (cmpF rfl (by simp only [cmpP]; (first | omega | (dsimp only at *; omega) | (simp at *; omega)))) ?_)
                refine xr_op rfl rfl (xv_pick rfl rfl ?_)
                refine xr_op rfl rfl (xv_move rfl ?_)
                refine xr_gd rfl rfl rfl (xv_faddr fl38_1 rfl ?_)
                refine xr_gd rfl rfl rfl (xv_load1 ty3 rfl rfl (by ((repeat first|exact z_0|assumption|refine z_1 ?_|(refine z_l ?_;(repeat first|exact z_0|assumption|refine z_1 ?_);done)|refine z_r ?_);done)) (by rfl) ?_)
                refine xr_gd rfl rfl rfl (xv_faddr fl38_1 rfl ?_)
                refine xr_gd rfl rfl rfl (xv_load1 ty3 rfl rfl (by ((repeat first|exact z_0|assumption|refine z_1 ?_|(refine z_l ?_;(repeat first|exact z_0|assumption|refine z_1 ?_);done)|refine z_r ?_);done)) (by rfl) ?_)
                refine xr_gd rfl rfl rfl (xv_cmpK rfl rfl (cmpF rfl (by simp only [cmpP]; (first | omega | (dsimp only at *; omega) | (simp at *; omega)))) ?_)
                refine xr_op rfl rfl (xv_pick rfl rfl ?_)
                refine xr_end rfl ?_
                refine th_n ?_
                refine xc_false rfl ?_
                refine xc_skip ?_
                refine th_n ?_
                refine xc_seq ?_
                refine xc_seq (xc_region ?_)
                obtain ⟨de0, dn0⟩ := hTR.due1 hde hkw hst
                obtain ⟨d1, d2, d3, d4⟩ := due_law hd (by omega) (by omega) dn0
                have hw0 : 0 ≤ (d.rate.hi - d.rate.lo) * (dn - xw) := Int.mul_nonneg (by omega) (by omega)
                have hw1 : (d.rate.hi - d.rate.lo) * (dn + 1 - xw) = (d.rate.hi - d.rate.lo) * (dn - xw) + (d.rate.hi - d.rate.lo) := by rw [show dn + 1 - xw = dn - xw + 1 by omega, Int.mul_add, Int.mul_one]
                refine xr_op rfl rfl (xv_move rfl ?_)
                refine xr_op rfl rfl (xv_neqF rfl rfl de0 ?_)
                refine xr_op rfl rfl (xv_move rfl ?_)
                refine xr_gd rfl rfl rfl (xv_move rfl ?_)
                refine xr_gd rfl rfl rfl (xv_move rfl ?_)
                refine xr_gd rfl rfl rfl (xv_cmpK rfl rfl (cmpF rfl (by simp only [cmpP]; (first | omega | (dsimp only at *; omega) | (simp at *; omega)))) ?_)
                refine xr_op rfl rfl (xv_pick rfl rfl ?_)
                refine xr_end rfl ?_
                refine th_n ?_
                refine xc_false rfl ?_
                refine xc_skip ?_
                refine th_n ?_
                refine xc_join (σ := Unit) (fun _u => True) (fun _u => (((emp.put (some 6) (.pointer (some ⟨b6, 0, none⟩))).put (some 20) (I dn)).put (some 22) (I xw))) (fun _u => ((b6, .cells ⟨eDial d⟩ 45) :: h)) ?_ ?_
                · refine xc_seq (xc_region ?_)
                  refine xr_op rfl rfl (xv_move rfl ?_)
                  refine xr_op rfl rfl (xv_move rfl ?_)
                  refine xr_op rfl rfl (xv_gtr2 rfl rfl (fun q10 => ?_) (fun q10 => ?_))
                  · refine xr_op rfl rfl (xv_move rfl ?_)
                    refine xr_gd rfl rfl rfl (xv_move rfl ?_)
                    refine xr_gd rfl rfl rfl (xv_move rfl ?_)
                    refine xr_gd rfl rfl rfl (xv_leq2 rfl rfl (fun q11 => ?_) (fun q11 => ?_))
                    · refine xr_op rfl rfl (xv_pick rfl rfl ?_)
                      refine xr_end rfl ?_
                      refine th_n ?_
                      refine xc_true rfl ?_
                      refine xc_seq (xc_region ?_)
                      have hgk := hTR.known hTX hst hmap2 hins hkw (by (first | omega | (dsimp only at *; omega) | (simp at *; omega))) (due_in hd d3 (by (first | omega | (dsimp only at *; omega) | (simp at *; omega))))
                      refine xr_op rfl rfl (xv_loadA ty25 rfl rfl (by ((repeat first|exact z_0|assumption|refine z_1 ?_|(refine z_l ?_;(repeat first|exact z_0|assumption|refine z_1 ?_);done)|refine z_r ?_);done)) (by ((try apply evl_some rfl);(repeat (first|exact (rfl : _ = [])|apply evl_cons rfl (by (first|exact v_1|exact v_2|exact v_3|exact v_4|exact v_5|exact v_6|exact v_7|exact v_8|exact v_9|exact rfl))|exact rfl)))) (by rfl) ?_)
                      refine xr_op rfl rfl (xv_move rfl ?_)
                      refine xr_op rfl rfl (xv_move rfl ?_)
                      refine xr_op rfl rfl (xv_calls rfl hb17 (GasE_c (r := (rOne bD d cb2 cc2 cs2)) (one_v (by ((repeat first|exact z_0|assumption|refine z_1 ?_|(refine z_l ?_;(repeat first|exact z_0|assumption|refine z_1 ?_);done)|refine z_r ?_);done)) (sc2.sub (by intro z hz; ((repeat first|exact z_0|assumption|refine z_1 ?_|(refine z_l ?_;(repeat first|exact z_0|assumption|refine z_1 ?_);done)|refine z_r ?_);done)))) (one_s (by omega)) (hT.sub (by intro z hz; ((repeat first|exact z_0|assumption|refine z_1 ?_|(refine z_l ?_;(repeat first|exact z_0|assumption|refine z_1 ?_);done)|refine z_r ?_);done))) hgk (up_ret ?_)))
                      refine xr_op rfl rfl (xv_move rfl ?_)
                      refine xr_op rfl rfl (xv_extract rfl rfl ?_)
                      refine xr_op rfl rfl (xv_extract rfl rfl ?_)
                      refine xr_op rfl rfl (xv_alloc ty38 (fun bn hbn => ?_))
                      refine xr_op rfl rfl (xv_s ty38 rfl rfl (by (first|(apply u_3;(repeat first|exact u_0|assumption|apply u_1|apply u_2);done)|((repeat first|exact u_0|assumption|apply u_1|apply u_2);done)|(apply u_3;apply u_3;(repeat first|exact u_0|assumption|apply u_1|apply u_2);done)|((repeat first|exact u_0|assumption|apply u_3|apply u_1);done))) (by ((try apply evl_some rfl);(repeat (first|exact (rfl : _ = [])|apply evl_cons rfl (by (first|exact v_1|exact v_2|exact v_3|exact v_4|exact v_5|exact v_6|exact v_7|exact v_8|exact v_9|exact rfl))|exact rfl)))) (by rfl) (by rfl) (by rfl) (by ((try apply evl_some rfl);(repeat (first|exact (rfl : _ = [])|apply evl_cons rfl (by (first|exact v_1|exact v_2|exact v_3|exact v_4|exact v_5|exact v_6|exact v_7|exact v_8|exact v_9|exact rfl))|exact rfl)))) ?_)
                      refine xr_op rfl rfl (xv_assign rfl ?_)
                      refine xr_end rfl ?_
                      refine th_n ?_
                      refine xc_seq (xc_region ?_)
                      refine xr_op rfl rfl (xv_move rfl ?_)
                      refine xr_op rfl rfl (xv_move rfl ?_)
                      refine xr_op rfl rfl (xv_move rfl ?_)
                      refine xr_op rfl rfl (xv_calls rfl hb25 (sumG_c (f := xw) (t := zn) hd hgi (by omega) (sg.sub (by intro z hz; ((repeat first|exact z_0|assumption|refine z_1 ?_|(refine z_l ?_;(repeat first|exact z_0|assumption|refine z_1 ?_);done)|refine z_r ?_);done))) (by omega) (by omega) (by omega) (up_ret ?_)))
                      refine xr_op rfl rfl (xv_assign rfl ?_)
                      refine xr_end rfl ?_
                      refine th_n ?_
                      refine xc_seq ?_
                      refine xc_drawL (L := [(bn, fun o => o = .cells ⟨eSpan ⟨SG G xw zn, SG G xw zn⟩⟩ 38 (0, 0))]) [(0, .S), (1, .S), (2, .S), (3, .S), (4, .S), (5, .S), (6, .O), (7, .S), (8, .S)] [] _ mixed (by kernel_rfl) (by rw [List.append_nil]) (holds1 (by ((repeat first|exact z_0|assumption|refine z_1 ?_|(refine z_l ?_;(repeat first|exact z_0|assumption|refine z_1 ?_);done)|refine z_r ?_);done)) rfl) ?_
                      refine js_S rfl rfl (.inl rfl) (xv_move rfl ⟨rfl, rfl⟩) ?_
                      refine js_S rfl rfl (.inl rfl) (xv_neqF rfl rfl rfl ⟨rfl, rfl⟩) ?_
                      refine js_S rfl rfl (.inl rfl) (xv_move rfl ⟨rfl, rfl⟩) ?_
                      refine js_I rfl rfl (.inr ⟨_, _, rfl, rfl⟩) (fun hh hv => by obtain ⟨o9, hm, rfl⟩ := hv bn _ List.mem_cons_self; exact xv_loadA ty38 rfl rfl (List.mem_append_left _ hm) (by ((try apply evl_some rfl);(repeat (first|exact (rfl : _ = [])|apply evl_cons rfl (by (first|exact v_1|exact v_2|exact v_3|exact v_4|exact v_5|exact v_6|exact v_7|exact v_8|exact v_9|exact rfl))|exact rfl)))) (by rfl) ⟨rfl, rfl⟩) ?_
                      refine js_S rfl rfl (.inr ⟨_, _, rfl, rfl⟩) (xv_move rfl ⟨rfl, rfl⟩) ?_
                      refine js_S rfl rfl (.inr ⟨_, _, rfl, rfl⟩) (xv_move rfl ⟨rfl, rfl⟩) ?_
                      refine js_OL0 rfl rfl (.inr ⟨_, _, rfl, rfl⟩) (xv_calls rfl hb30 (span_c _ _ (up_ret ?_)))
                      refine ⟨holds1 (by ((repeat first|exact z_0|assumption|refine z_1 ?_|(refine z_l ?_;(repeat first|exact z_0|assumption|refine z_1 ?_);done)|refine z_r ?_);done)) rfl, ?_⟩
                      refine js_S rfl rfl (.inr ⟨_, _, rfl, rfl⟩) (xv_neA (b := false) fq38 rfl eg38 rfl rfl rfl rfl (by ((repeat' first | assumption | exact numNil | refine numCons ?_ | refine numApp ?_ ?_); done)) (by ((repeat' first | assumption | exact numNil | refine numCons ?_ | refine numApp ?_ ?_); done)) (by rw [eqc_self (by ((repeat' first | assumption | exact numNil | refine numCons ?_ | refine numApp ?_ ?_); done))]; rfl) ⟨rfl, rfl⟩) ?_
                      refine js_S rfl rfl (.inl rfl) (xv_pick rfl rfl ⟨rfl, rfl⟩) ?_
                      refine j_end0 ?_
                      refine th_n ?_
                      refine xc_false rfl ?_
                      refine xc_skip ?_
                      exact jn_n () trivial (le_put (le_put (le_put (le_emp _) rfl) rfl) rfl) (by (first|((repeat first|exact s_0|exact s_1|exact s_3|refine s_4 ?_|refine s_5 ?_|refine s_6 ?_|refine s_7 ?_);done)|((repeat first|exact s_0|exact s_1|exact s_3|refine s_4 ?_|refine s_5 ?_|refine s_6 ?_|refine s_8 ?_);done)))
                    · refine xr_op rfl rfl (xv_pick rfl rfl ?_)
                      refine xr_end rfl ?_
                      refine th_n ?_
                      refine xc_false rfl ?_
                      refine xc_skip ?_
                      exact jn_n () trivial (le_put (le_put (le_put (le_emp _) rfl) rfl) rfl) (by (first|((repeat first|exact s_0|exact s_1|exact s_3|refine s_4 ?_|refine s_5 ?_|refine s_6 ?_|refine s_7 ?_);done)|((repeat first|exact s_0|exact s_1|exact s_3|refine s_4 ?_|refine s_5 ?_|refine s_6 ?_|refine s_8 ?_);done)))
                  · refine xr_op rfl rfl (xv_move rfl ?_)
                    refine xr_no rfl rfl rfl rfl ?_
                    refine xr_no rfl rfl rfl rfl ?_
                    refine xr_no rfl rfl rfl rfl ?_
                    refine xr_op rfl rfl (xv_pick rfl rfl ?_)
                    refine xr_end rfl ?_
                    refine th_n ?_
                    refine xc_false rfl ?_
                    refine xc_skip ?_
                    exact jn_n () trivial (le_put (le_put (le_put (le_emp _) rfl) rfl) rfl) (by (first|((repeat first|exact s_0|exact s_1|exact s_3|refine s_4 ?_|refine s_5 ?_|refine s_6 ?_|refine s_7 ?_);done)|((repeat first|exact s_0|exact s_1|exact s_3|refine s_4 ?_|refine s_5 ?_|refine s_6 ?_|refine s_8 ?_);done)))
                · rintro _u _i
                  refine xc_seq (xc_region ?_)
                  refine xr_op rfl rfl (xv_faddr fl45_0 rfl ?_)
                  refine xr_op rfl rfl (xv_load1 ty3 rfl rfl (by ((repeat first|exact z_0|assumption|refine z_1 ?_|(refine z_l ?_;(repeat first|exact z_0|assumption|refine z_1 ?_);done)|refine z_r ?_);done)) (by rfl) ?_)
                  refine xr_op rfl rfl (xv_calls rfl hb26 (Turn_c (by omega) (by omega) (up_ret ?_)))
                  refine xr_op rfl rfl (xv_assign rfl ?_)
                  refine xr_end rfl ?_
                  refine th_n ?_
                  refine xc_seq (xc_region ?_)
                  refine xr_op rfl rfl (xv_faddr fl45_1 rfl ?_)
                  refine xr_op rfl rfl (xv_faddr fl38_1 rfl ?_)
                  refine xr_op rfl rfl (xv_load1 ty3 rfl rfl (by ((repeat first|exact z_0|assumption|refine z_1 ?_|(refine z_l ?_;(repeat first|exact z_0|assumption|refine z_1 ?_);done)|refine z_r ?_);done)) (by rfl) ?_)
                  refine xr_op rfl rfl (xv_faddr fl45_1 rfl ?_)
                  refine xr_op rfl rfl (xv_faddr fl38_0 rfl ?_)
                  refine xr_op rfl rfl (xv_load1 ty3 rfl rfl (by ((repeat first|exact z_0|assumption|refine z_1 ?_|(refine z_l ?_;(repeat first|exact z_0|assumption|refine z_1 ?_);done)|refine z_r ?_);done)) (by rfl) ?_)
                  refine xr_op rfl rfl (xv_sub rfl rfl (wrap_i64 (by (first | omega | (dsimp only at *; omega) | (simp at *; omega))) (by (first | omega | (dsimp only at *; omega) | (simp at *; omega)))) ?_)
                  refine xr_op rfl rfl (xv_assign rfl ?_)
                  refine xr_end rfl ?_
                  refine th_n ?_
                  refine xc_seq (xc_region ?_)
                  refine xr_op rfl rfl (xv_move rfl ?_)
                  refine xr_op rfl rfl (xv_move rfl ?_)
                  refine xr_op rfl rfl (xv_move rfl ?_)
                  refine xr_op rfl rfl (xv_sub rfl rfl (wrap_i64 (by (first | omega | (dsimp only at *; omega) | (simp at *; omega))) (by (first | omega | (dsimp only at *; omega) | (simp at *; omega)))) ?_)
                  refine xr_op rfl rfl (xv_mul (c := (d.rate.hi - d.rate.lo) * (dn - xw)) rfl rfl (wrap_i64 (by (first | omega | (dsimp only at *; omega) | (simp at *; omega))) (by (first | omega | (dsimp only at *; omega) | (simp at *; omega)))) ?_)
                  refine xr_op rfl rfl (xv_move rfl ?_)
                  refine xr_op rfl rfl (xv_cmpK rfl rfl (cmpT (by simp only [cmpP]; (first | omega | (dsimp only at *; omega) | (simp at *; omega)))) ?_)
                  refine xr_op rfl rfl (xv_move rfl ?_)
                  refine xr_gd rfl rfl rfl (xv_move rfl ?_)
                  refine xr_gd rfl rfl rfl (xv_eql2 rfl rfl (fun q12 => ?_) (fun q12 => ?_))
                  · refine xr_gd rfl rfl rfl (xv_move rfl ?_)
                    refine xr_no rfl rfl rfl rfl ?_
                    refine xr_no rfl rfl rfl rfl ?_
                    refine xr_no rfl rfl rfl rfl ?_
                    refine xr_no rfl rfl rfl rfl ?_
                    refine xr_no rfl rfl rfl rfl ?_
                    refine xr_no rfl rfl rfl rfl ?_
                    refine xr_no rfl rfl rfl rfl ?_
                    refine xr_no rfl rfl rfl rfl ?_
                    refine xr_gd rfl rfl rfl (xv_pick rfl rfl ?_)
                    refine xr_op rfl rfl (xv_pick rfl rfl ?_)
                    refine xr_op rfl rfl (xv_move rfl ?_)
                    refine xr_gd rfl rfl rfl (xv_calls rfl hb10 (awake_c (hT.sub (by intro z hz; ((repeat first|exact z_0|assumption|refine z_1 ?_|(refine z_l ?_;(repeat first|exact z_0|assumption|refine z_1 ?_);done)|refine z_r ?_);done))) (up_ret ?_)))
                    refine xr_op rfl rfl (xv_pick rfl rfl ?_)
                    refine xr_op rfl rfl (xv_assign rfl ?_)
                    refine xr_end rfl ?_
                    refine th_n ?_
                    refine xc_ret ?_
                    refine body_ret (h' := h) rfl (ro_tmp rfl ro_nil) (by (first|((repeat first|exact s_0|exact s_1|exact s_3|refine s_4 ?_|refine s_5 ?_|refine s_6 ?_|refine s_7 ?_);done)|((repeat first|exact s_0|exact s_1|exact s_3|refine s_4 ?_|refine s_5 ?_|refine s_6 ?_|refine s_8 ?_);done))) ?_
                    first | exact H | (exfalso; (first | omega | (dsimp only at *; omega) | (simp at *; omega)))
                  · refine xr_gd rfl rfl rfl (xv_move rfl ?_)
                    refine xr_gd rfl rfl rfl (xv_move rfl ?_)
                    refine xr_gd rfl rfl rfl (xv_move rfl ?_)
                    refine xr_gd rfl rfl rfl (xv_add rfl rfl (wrap_i64 (by (first | omega | (dsimp only at *; omega) | (simp at *; omega))) (by (first | omega | (dsimp only at *; omega) | (simp at *; omega)))) ?_)
                    refine xr_gd rfl rfl rfl (xv_move rfl ?_)
                    refine xr_gd rfl rfl rfl (xv_sub rfl rfl (wrap_i64 (by (first | omega | (dsimp only at *; omega) | (simp at *; omega))) (by (first | omega | (dsimp only at *; omega) | (simp at *; omega)))) ?_)
                    refine xr_gd rfl rfl rfl (xv_mul (c := (d.rate.hi - d.rate.lo) * (dn + 1 - xw)) rfl rfl (wrap_i64 (by (first | omega | (dsimp only at *; omega) | (simp at *; omega))) (by (first | omega | (dsimp only at *; omega) | (simp at *; omega)))) ?_)
                    refine xr_gd rfl rfl rfl (xv_move rfl ?_)
                    refine xr_gd rfl rfl rfl (xv_cmpK rfl rfl (cmpT (by simp only [cmpP]; (first | omega | (dsimp only at *; omega) | (simp at *; omega)))) ?_)
                    refine xr_gd rfl rfl rfl (xv_pick rfl rfl ?_)
                    refine xr_op rfl rfl (xv_pick rfl rfl ?_)
                    refine xr_op rfl rfl (xv_move rfl ?_)
                    refine xr_gd rfl rfl rfl (xv_calls rfl hb10 (awake_c (hT.sub (by intro z hz; ((repeat first|exact z_0|assumption|refine z_1 ?_|(refine z_l ?_;(repeat first|exact z_0|assumption|refine z_1 ?_);done)|refine z_r ?_);done))) (up_ret ?_)))
                    refine xr_op rfl rfl (xv_pick rfl rfl ?_)
                    refine xr_op rfl rfl (xv_assign rfl ?_)
                    refine xr_end rfl ?_
                    refine th_n ?_
                    refine xc_ret ?_
                    refine body_ret (h' := h) rfl (ro_tmp rfl ro_nil) (by (first|((repeat first|exact s_0|exact s_1|exact s_3|refine s_4 ?_|refine s_5 ?_|refine s_6 ?_|refine s_7 ?_);done)|((repeat first|exact s_0|exact s_1|exact s_3|refine s_4 ?_|refine s_5 ?_|refine s_6 ?_|refine s_8 ?_);done))) ?_
                    first | exact H | (exfalso; (first | omega | (dsimp only at *; omega) | (simp at *; omega)))
      · refine xr_gd rfl rfl rfl (xv_not rfl ?_)
        refine xr_op rfl rfl (xv_pick rfl rfl ?_)
        refine xr_end rfl ?_
        refine th_n ?_
        refine xc_true rfl ?_
        refine xc_seq (xc_region ?_)
        refine xr_op rfl rfl (xv_calls rfl hb10 (awake_c (hT.sub (by intro z hz; ((repeat first|exact z_0|assumption|refine z_1 ?_|(refine z_l ?_;(repeat first|exact z_0|assumption|refine z_1 ?_);done)|refine z_r ?_);done))) (up_ret ?_)))
        refine xr_op rfl rfl (xv_assign rfl ?_)
        refine xr_end rfl ?_
        refine th_n ?_
        refine xc_ret ?_
        refine th_r ?_
        refine body_ret (h' := h) rfl (ro_tmp rfl ro_nil) (by (first|((repeat first|exact s_0|exact s_1|exact s_3|refine s_4 ?_|refine s_5 ?_|refine s_6 ?_|refine s_7 ?_);done)|((repeat first|exact s_0|exact s_1|exact s_3|refine s_4 ?_|refine s_5 ?_|refine s_6 ?_|refine s_8 ?_);done))) ?_
        first | exact H | (exfalso; (first | omega | (dsimp only at *; omega) | (simp at *; omega)))

end Go.Proofs.YtckaaaebegemoaaDoor
