/-
  Walks.
-/
import Derived.Test.YtmaldhbjhomdkaaTarW11
import Derived.Test.YtmaldhbjhomdkaaTarW4
namespace Go.Proofs.Ytmaldhbjhomdkaa.Tar
open Go Go.H
set_option maxRecDepth 100000
set_option maxHeartbeats 8000000
set_option linter.all false
theorem sortV_c {V : Vec} {xs : List Int} {f : Value} {cm : Int → Int → Int} {L : Hp} {R : Ending → Hp → Prop} (hc : Cmp cm) (hn : xs.length ≤ 12) (hV : V.ok 1 xs.length (xs.flatMap eI))
    (hf : ∀ i k, i ∈ xs → k ∈ xs → ∀ H R', L ⊆ H → R' (.returned (I (cm i k))) H → AFn Try.prog f [I i, I k] H R')
    (H : ∀ zs : List Int, zs.Perm xs → zs.Pairwise (fun a b => ¬ cm b a < 0) → V.ok 1 zs.length (zs.flatMap eI) → R (.returned (.tuple #[])) (V.hp 3 (zs.flatMap eI) ++ L)) :
    ACalls Try.prog 57 ⟨[V.val xs.length, f]⟩ (V.hp 3 (xs.flatMap eI) ++ L) R := by
  cases V with
  | nil =>
    obtain ⟨h1, h2⟩ := hV
    obtain rfl : xs = [] := List.length_eq_zero_iff.1 h2
    exact sortnil_c (H [] (.refl _) List.Pairwise.nil ⟨rfl, rfl⟩)
  | «at» b cap sp =>
    refine sort_c hc hn hf (fun zs h1 h2 => H zs h1 h2 ?_)
    obtain ⟨q1, q2, q3⟩ := hV
    have hl := h1.length_eq
    have e1 := ints_len zs
    have e2 := ints_len xs
    refine ⟨by omega, by omega, ?_⟩
    rw [List.length_append] at q3 ⊢; omega

end Go.Proofs.Ytmaldhbjhomdkaa.Tar

/-
  Walks.
-/
namespace Go.Proofs.Ytmaldhbjhomdkaa.Tar
open Go Go.H
set_option maxRecDepth 100000
set_option maxHeartbeats 8000000
set_option linter.all false
theorem income_c {y : Yard} {a : Option Addr} {c : Nat} {plan : List Int} {g : Goods} {h : Hp} {R : Ending → Hp → Prop} (hv : YardV h y) (hy : GoodYard y) (hp : SlV h 1 eI a plan) (hpl : plan.length = y.stills.length) (hpo : PlanOk y plan) (hga : afterG y.stills plan (newG y) = some g) (hgb : GB y.stills.length g)
    (H : ∀ b, R (.returned (.tuple ⟨[I (incomeY y plan g), .slice (some ⟨b, 0, none⟩) y.sales.length y.sales.length]⟩)) ((b, .cells ⟨(sellY y g).sold.flatMap eI ++ []⟩ 3) :: h)) :
    ACalls Try.prog 31 ⟨[.agg ⟨eYard y⟩, .slice a plan.length c]⟩ h R := by
  refine calls_of_xc (N := 113) Try.func31 rfl (by rfl) ?_
  have hn6 := hy.n6
  have hs4 := hy.s4
  have hs6 := hy.s6
  have hplen := pays_len hpl
  have hol := ord_len y.sales
  refine xc_seq (xc_region ?_)
  refine xr_op rfl rfl (xv_box rfl (fun b2 hb2 => ?_))
  refine xr_op rfl rfl (xv_assign rfl ?_)
  refine xr_op rfl rfl (xv_assign rfl ?_)
  refine xr_end rfl ?_
  refine th_n ?_
  refine xc_seq (xc_region ?_)
  refine xr_op rfl rfl (xv_loadA ty26 rfl rfl Me_ Ev_ (by rfl) ?_)
  refine xr_op rfl rfl (xv_move rfl ?_)
  refine xr_op rfl rfl (xv_calls rfl hb30 (afterS_c (hv.sub (by intro z hz; ((repeat first|exact z_0|assumption|refine z_1 ?_|(refine z_l ?_;(repeat first|exact z_0|assumption|refine z_1 ?_);done)|refine z_r ?_);done))) hy (hp.sub (by intro z hz; ((repeat first|exact z_0|assumption|refine z_1 ?_|(refine z_l ?_;(repeat first|exact z_0|assumption|refine z_1 ?_);done)|refine z_r ?_);done))) hpl hpo hga (up_ret ?_)))
  refine xr_op rfl rfl (xv_move rfl ?_)
  refine xr_op rfl rfl (xv_extract rfl rfl ?_)
  refine xr_op rfl rfl (xv_extract rfl rfl ?_)
  refine xr_op rfl rfl (xv_alloc ty75 (fun bg hbg => ?_))
  refine xr_op rfl rfl (xv_s ty75 rfl rfl Up_ Ev_ (by rfl) (by rfl) (by rfl) Ev_ ?_)
  refine xr_op rfl rfl (xv_assign rfl ?_)
  refine xr_end rfl ?_
  refine th_n ?_
  refine xc_seq (xc_region ?_)
  refine xr_op rfl rfl (xv_assign rfl ?_)
  refine xr_op rfl rfl (xv_assign rfl ?_)
  refine xr_end rfl ?_
  refine th_n ?_
  refine xc_seq ?_
  refine xc_seq (xc_region ?_)
  refine xr_op rfl rfl (xv_faddr fl26_1 rfl ?_)
  refine xr_op rfl rfl (xv_load1 ty23 rfl rfl Me_ (by first | rfl | exact g_getu (by assumption) rfl | exact g_get (by assumption) rfl) ?_)
  refine xr_op rfl rfl (xv_len sl23 rfl ?_)
  refine xr_op rfl rfl (xv_move rfl ?_)
  refine xr_end rfl ?_
  refine th_n ?_
  refine xc_block ?_
  refine xc_loop (σ := Nat × Vec) (fun z => z.1 ≤ y.stills.length ∧ z.2.ok 1 z.1 (((pays y.stills plan).take z.1).flatMap eI)) (fun z => ((((((((emp.put (some 1) (.slice a plan.length c)).put (some 2) (.pointer (some ⟨b2, 0, none⟩))).put (some 6) (.pointer (some ⟨bg, 0, none⟩))).put (some 8) (z.2.val z.1)).put (some 9) (.slice none 0 0)).put (some 25) (.slice y.ta y.stills.length y.tc)).put (some 26) (I y.stills.length)).put (some 27) (I z.1))) (fun z => (z.2.hp 3 (((pays y.stills plan).take z.1).flatMap eI) ++ (bg, .cells ⟨eGoods g⟩ 117) :: (b2, .cells ⟨eYard y⟩ 30) :: h)) (fun z => y.stills.length - z.1) ((0, .nil) : Nat × Vec) ⟨Nat.zero_le _, rfl, rfl⟩ (le_put (le_put (le_put (le_put (le_put (le_put (le_put (le_put (le_emp _) rfl) rfl) rfl) rfl) rfl) rfl) rfl) rfl) Su_ ?_
  rintro ⟨k, V⟩ ⟨hk, hV⟩
  dsimp only at hk hV
  refine xc_seq (xc_region ?_)
  refine xr_op rfl rfl (xv_lss2 rfl rfl (fun q1 => ?_) (fun q1 => ?_))
  · refine xr_end rfl ?_
    refine th_n ?_
    refine xc_seq ?_
    refine xc_true rfl ?_
    refine xc_skip ?_
    refine th_n ?_
    refine xc_seq ?_
    refine xc_block ?_
    refine xc_seq (xc_region ?_)
    have hlto : k < y.stills.length := by (first|omega|(dsimp only at *;omega)|(simp at *;omega))
    obtain ⟨bo, oo, lo, to, fzo, hao, hmo, hxo⟩ := (hv.stills).at hlto
    obtain ⟨xo, hko⟩ : ∃ qq_, y.stills[k]? = some qq_ := ⟨_, List.getElem?_eq_getElem hlto⟩
    have hltp : k < plan.length := by (first|omega|(dsimp only at *;omega)|(simp at *;omega))
    obtain ⟨bp, op, lp, tp, fzp, hap, hmp, hxp⟩ := (hp).at hltp
    obtain ⟨xp, hkp⟩ : ∃ qq_, plan[k]? = some qq_ := ⟨_, List.getElem?_eq_getElem hltp⟩
    have hso := hy.stills k xo hko
    have hpb := hpo k xo xp hko hkp
    have hpay := hso.2.2.2.1
    have hmo := hso.2.2.2.2.1
    have hmul := mul_bd (a := xp) (b := xo.pay) (A := 8) (B := 1000000) (by omega) (by omega) hpay.1 hpay.2
    have hneg : (0 - xp) * xo.pay = - (xp * xo.pay) := by rw [Int.zero_sub, Int.neg_mul]
    have hpt : (pays y.stills plan).take (k + 1) = (pays y.stills plan).take k ++ [(0 - xp) * xo.pay] := pays_take hko hkp
    refine xr_op rfl rfl (xv_move rfl ?_)
    refine xr_op rfl rfl (xv_ia (sz := 5) sl23 ty48 rfl (by rw [hao]; rfl) rfl Ix_ Om_ Om_ ?_)
    refine xr_op rfl rfl (xv_loadA ty48 rfl rfl Me_ (hxo (k) xo hko) rfl ?_)
    refine xr_op rfl rfl (xv_alloc ty48 (fun b11 hb11 => ?_))
    refine xr_op rfl rfl (xv_assign rfl ?_)
    refine xr_op rfl rfl (xv_s ty48 rfl rfl Up_ Ev_ (by rfl) (by rfl) (by rfl) Ev_ ?_)
    refine xr_end rfl ?_
    refine th_n ?_
    refine xc_draw0 [(0, .S), (1, .S), (2, .S), (3, .S), (4, .R), (5, .S), (6, .S), (7, .R), (8, .S), (9, .P), (9, .A), (10, .O), (11, .S)] mixed (by kernel_rfl) ?_
    refine js_S rfl rfl (.inl rfl) (xv_move rfl ⟨rfl, rfl⟩) ?_
    refine js_S rfl rfl (.inl rfl) (xv_move rfl ⟨rfl, rfl⟩) ?_
    refine js_S rfl rfl (.inl rfl) (xv_move rfl ⟨rfl, rfl⟩) ?_
    refine js_S rfl rfl (.inl rfl) (xv_ia (sz := 1) (j := k) sl22 ty3 rfl (by rw [hap]; rfl) rfl Ix_ Om_ Om_ ⟨rfl, rfl⟩) ?_
    refine js_R0 rfl rfl (.inl rfl) (xv_load1 ty3 rfl rfl Me_ (take_get (hxp (k) xp hkp) (j := 0) rfl) ⟨rfl, rfl⟩) ?_
    refine js_S rfl rfl (.inl rfl) (xv_neg rfl (wrap_i64 Om_ Om_) ⟨rfl, rfl⟩) ?_
    refine js_S rfl rfl (.inl rfl) (xv_faddr fl48_3 rfl ⟨rfl, rfl⟩) ?_
    refine js_R0 rfl rfl (.inl rfl) (xv_load1 ty3 rfl rfl Me_ (by first | rfl | exact g_getu (by assumption) rfl | exact g_get (by assumption) rfl) ⟨rfl, rfl⟩) ?_
    refine js_S rfl rfl (.inl rfl) (xv_mul rfl rfl (wrap_i64 Om_ Om_) ⟨rfl, rfl⟩) ?_
    refine js_P rfl rfl rfl (al_buildSlice sl22 ty3 rfl rfl rfl rfl rfl Ev_) ?_
    refine js_A0 rfl rfl rfl rfl rfl ⟨rfl, trivial⟩ (fun b4 hb4 => ?_)
    refine js_O0 rfl rfl (.inl rfl) (xv_append (V := V) (n := k) (xs := ((pays y.stills plan).take k).flatMap eI) sl22 ty3 rfl rfl rfl hV (.there (.there .here)) Me_ Ev_ rfl rfl (by omega) (by simp only []; omega) (by omega) (fun V2 hV2 => ?_))
    refine js_S rfl rfl (.inl rfl) (xv_assign rfl ⟨rfl, rfl⟩) ?_
    refine j_end0 ?_
    refine bk_n ?_
    refine th_n ?_
    refine xc_region ?_
    refine xr_op rfl rfl (xv_add rfl rfl (wrap_i64 Om_ Om_) ?_)
    refine xr_op rfl rfl (xv_move rfl ?_)
    refine xr_end rfl ?_
    exact rnd ((k + 1, V2) : Nat × Vec) ⟨by (first|omega|(dsimp only at *;omega)|(simp at *;omega)), by dsimp only; rw [hpt, List.flatMap_append]; exact hV2⟩ Om_ (le_put (le_put (le_put (le_put (le_put (le_put (le_put (le_put (le_emp _) rfl) rfl) rfl) rfl) rfl) rfl) rfl) rfl) (by dsimp only; rw [hpt, List.flatMap_append]; (first|((repeat first|exact s_0|exact s_1|exact s_3|refine s_4 ?_|refine s_5 ?_|refine s_6 ?_|refine s_7 ?_);done)|((repeat first|exact s_0|exact s_1|exact s_3|refine s_4 ?_|refine s_5 ?_|refine s_6 ?_|refine s_8 ?_);done)))
  · refine xr_end rfl ?_
    refine th_n ?_
    refine xc_seq ?_
    refine xc_false rfl ?_
    refine xc_exit ?_
    refine th_x ?_
    refine th_x ?_
    refine bk_same ?_
    refine th_n ?_
    refine xc_seq ?_
    refine xc_seq (xc_region ?_)
    obtain rfl : k = y.stills.length := by (first|omega|(dsimp only at *;omega)|(simp at *;omega))
    have hta : (pays y.stills plan).take y.stills.length = (pays y.stills plan) := List.take_of_length_le (by omega)
    rw [hta] at hV ⊢
    rw [← hplen] at hV
    refine xr_op rfl rfl (xv_faddr fl26_2 rfl ?_)
    refine xr_op rfl rfl (xv_load1 ty24 rfl rfl Me_ (by first | rfl | exact g_getu (by assumption) rfl | exact g_get (by assumption) rfl) ?_)
    refine xr_op rfl rfl (xv_len sl24 rfl ?_)
    refine xr_op rfl rfl (xv_move rfl ?_)
    refine xr_end rfl ?_
    refine th_n ?_
    refine xc_block ?_
    refine xc_loop (σ := Nat × Vec) (fun z => z.1 ≤ y.sales.length ∧ z.2.ok 1 z.1 ((nums z.1).flatMap eI)) (fun z => (((((((emp.put (some 2) (.pointer (some ⟨b2, 0, none⟩))).put (some 6) (.pointer (some ⟨bg, 0, none⟩))).put (some 8) (V.val (pays y.stills plan).length)).put (some 9) (z.2.val z.1)).put (some 45) (.slice y.la y.sales.length y.lc)).put (some 46) (I y.sales.length)).put (some 47) (I z.1))) (fun z => (z.2.hp 3 ((nums z.1).flatMap eI) ++ (V.hp 3 ((pays y.stills plan).flatMap eI) ++ (bg, .cells ⟨eGoods g⟩ 117) :: (b2, .cells ⟨eYard y⟩ 30) :: h))) (fun z => y.sales.length - z.1) ((0, .nil) : Nat × Vec) ⟨Nat.zero_le _, rfl, rfl⟩ (le_put (le_put (le_put (le_put (le_put (le_put (le_put (le_emp _) rfl) rfl) (by rw [hplen]; rfl)) rfl) rfl) rfl) rfl) Su_ ?_
    rintro ⟨k, W⟩ ⟨hk, hW⟩
    dsimp only at hk hW
    refine xc_seq (xc_region ?_)
    refine xr_op rfl rfl (xv_lss2 rfl rfl (fun q5 => ?_) (fun q5 => ?_))
    · refine xr_end rfl ?_
      refine th_n ?_
      refine xc_seq ?_
      refine xc_true rfl ?_
      refine xc_skip ?_
      refine th_n ?_
      refine xc_seq ?_
      refine xc_block ?_
      refine xc_seq (xc_region ?_)
      refine xr_op rfl rfl (xv_move rfl ?_)
      refine xr_op rfl rfl (xv_assign rfl ?_)
      refine xr_end rfl ?_
      refine th_n ?_
      refine xc_region ?_
      refine xr_op rfl rfl (xv_move rfl ?_)
      refine xr_op rfl rfl (xv_move rfl ?_)
      refine xr_op rfl rfl ((al_buildSlice sl22 ty3 rfl rfl rfl rfl rfl Ev_).xv (fun b6 hb6 => ?_))
      refine xr_op rfl rfl (xv_append (V := W) (n := k) (xs := (nums k).flatMap eI) sl22 ty3 rfl rfl rfl hW (.there .here) Me_ Ev_ rfl rfl (by omega) (by simp only []; omega) (by omega) (fun W2 hW2 => ?_))
      refine xr_op rfl rfl (xv_assign rfl ?_)
      refine xr_end rfl ?_
      refine bk_n ?_
      refine th_n ?_
      refine xc_region ?_
      refine xr_op rfl rfl (xv_add rfl rfl (wrap_i64 Om_ Om_) ?_)
      refine xr_op rfl rfl (xv_move rfl ?_)
      refine xr_end rfl ?_
      exact rnd ((k + 1, W2) : Nat × Vec) ⟨by (first|omega|(dsimp only at *;omega)|(simp at *;omega)), by dsimp only; rw [nums_succ, List.flatMap_append]; exact hW2⟩ Om_ (le_put (le_put (le_put (le_put (le_put (le_put (le_put (le_emp _) rfl) rfl) rfl) rfl) rfl) rfl) rfl) (by dsimp only; rw [nums_succ, List.flatMap_append]; (first|((repeat first|exact s_0|exact s_1|exact s_3|refine s_4 ?_|refine s_5 ?_|refine s_6 ?_|refine s_7 ?_);done)|((repeat first|exact s_0|exact s_1|exact s_3|refine s_4 ?_|refine s_5 ?_|refine s_6 ?_|refine s_8 ?_);done)))
    · refine xr_end rfl ?_
      refine th_n ?_
      refine xc_seq ?_
      refine xc_false rfl ?_
      refine xc_exit ?_
      refine th_x ?_
      refine th_x ?_
      refine bk_same ?_
      refine th_n ?_
      refine xc_seq (xc_region ?_)
      obtain rfl : k = y.sales.length := by (first|omega|(dsimp only at *;omega)|(simp at *;omega))
      refine xr_op rfl rfl (xv_faddr fl26_2 rfl ?_)
      refine xr_op rfl rfl (xv_load1 ty24 rfl rfl Me_ (by first | rfl | exact g_getu (by assumption) rfl | exact g_get (by assumption) rfl) ?_)
      refine xr_op rfl rfl (xv_func rfl rfl ?_)
      refine xr_op rfl rfl (xv_assign rfl ?_)
      refine xr_end rfl ?_
      refine th_n ?_
      refine xc_seq (xc_region ?_)
      refine xr_op rfl rfl (xv_move rfl ?_)
      refine xr_op rfl rfl (xv_move rfl ?_)
      have hsc := @sortV_c W (nums y.sales.length)
      rw [nums_len] at hsc
      refine xr_op rfl rfl (xv_calls rfl hb53 (hsc (cmpS_ok y.sales) (by omega) hW (fun i q hi hq H2 R2 hsub h2 => afn_func (fi := [.slice y.la y.sales.length y.lc]) (lb := []) hb52 (first_c (hv.sales.sub (fun z hz => hsub Me_)) (fun x hx => (hy.sales x hx).2.2) ⟨(mem_nums hi).1, (mem_nums hi).2.1⟩ ⟨(mem_nums hq).1, (mem_nums hq).2.1⟩ (by omega) h2)) (fun zs hz1 hz2 hW2 => up_ret ?_)))
      refine xr_end rfl ?_
      refine th_n ?_
      refine xc_seq (xc_region ?_)
      obtain rfl := ord_uniq hz1 hz2
      obtain ⟨na, nc, hnv, hns⟩ := Vec.slv (enc := eI) (t := 3) (h := W.hp 3 ((ord y.sales).flatMap eI)) eI_len hW2 (fun _ hz => hz)
      rw [hol] at hnv
      rw [hnv]
      refine xr_op rfl rfl (xv_faddr fl26_2 rfl ?_)
      refine xr_op rfl rfl (xv_load1 ty24 rfl rfl Me_ (by first | rfl | exact g_getu (by assumption) rfl | exact g_get (by assumption) rfl) ?_)
      refine xr_op rfl rfl (xv_len sl24 rfl ?_)
      refine xr_op rfl rfl (xv_make sl22 ty3 rfl rfl (by omega) (by simp only []; omega) (by simp only []; omega) (make_ints _) (fun b14 hb14 => ?_))
      refine xr_op rfl rfl (xv_assign rfl ?_)
      refine xr_end rfl ?_
      refine th_n ?_
      refine xc_seq ?_
      refine xc_seq (xc_region ?_)
      have hol2 : y.sales.length = (ord y.sales).length := hol.symm
      refine xr_op rfl rfl (xv_move rfl ?_)
      refine xr_op rfl rfl (xv_len sl22 rfl ?_)
      refine xr_op rfl rfl (xv_move rfl ?_)
      refine xr_end rfl ?_
      refine th_n ?_
      refine xc_block ?_
      refine XC.perm (h := V.hp 3 ((pays y.stills plan).flatMap eI) ++ (b14, .cells ⟨(List.replicate y.sales.length 0).flatMap eI ++ []⟩ 3) :: (W.hp 3 ((ord y.sales).flatMap eI) ++ (bg, .cells ⟨eGoods g⟩ 117) :: (b2, .cells ⟨eYard y⟩ 30) :: h)) perm_front ?_
      have hs0 : sells y.sales ((ord y.sales).take 0) (st0 y g) = st0 y g := rfl
      refine xc_loop (σ := Nat × Vec) (fun z => z.1 ≤ y.sales.length ∧ z.2.ok 1 ((pays y.stills plan) ++ (sells y.sales ((ord y.sales).take z.1) (st0 y g)).rev).length (((pays y.stills plan) ++ (sells y.sales ((ord y.sales).take z.1) (st0 y g)).rev).flatMap eI)) (fun z => (((((((emp.put (some 2) (.pointer (some ⟨b2, 0, none⟩))).put (some 6) (.pointer (some ⟨bg, 0, none⟩))).put (some 8) (z.2.val ((pays y.stills plan) ++ (sells y.sales ((ord y.sales).take z.1) (st0 y g)).rev).length)).put (some 14) (.slice (some ⟨b14, 0, none⟩) y.sales.length y.sales.length)).put (some 65) (.slice na y.sales.length nc)).put (some 66) (I y.sales.length)).put (some 67) (I z.1))) (fun z => (z.2.hp 3 (((pays y.stills plan) ++ (sells y.sales ((ord y.sales).take z.1) (st0 y g)).rev).flatMap eI) ++ (b14, .cells ⟨(sells y.sales ((ord y.sales).take z.1) (st0 y g)).sold.flatMap eI ++ []⟩ 3) :: (W.hp 3 ((ord y.sales).flatMap eI) ++ (bg, .cells ⟨eGoods (sells y.sales ((ord y.sales).take z.1) (st0 y g)).g⟩ 117) :: (b2, .cells ⟨eYard y⟩ 30) :: h))) (fun z => y.sales.length - z.1) ((0, V) : Nat × Vec) ⟨Nat.zero_le _, by simpa [sells, st0] using hV⟩ (le_put (le_put (le_put (le_put (le_put (le_put (le_put (le_emp _) rfl) rfl) (by rw [hs0]; simp only [st0, List.append_nil]; rfl)) rfl) rfl) rfl) rfl) (by dsimp only; rw [hs0]; dsimp only [st0]; rw [show (pays y.stills plan) ++ ([] : List Int) = (pays y.stills plan) from List.append_nil _]; (first|((repeat first|exact s_0|exact s_1|exact s_3|refine s_4 ?_|refine s_5 ?_|refine s_6 ?_|refine s_7 ?_);done)|((repeat first|exact s_0|exact s_1|exact s_3|refine s_4 ?_|refine s_5 ?_|refine s_6 ?_|refine s_8 ?_);done))) ?_
      rintro ⟨k, V⟩ ⟨hk, hV⟩
      dsimp only at hk hV
      refine xc_seq (xc_region ?_)
      refine xr_op rfl rfl (xv_lss2 rfl rfl (fun q7 => ?_) (fun q7 => ?_))
      · refine xr_end rfl ?_
        refine th_n ?_
        refine xc_seq ?_
        refine xc_true rfl ?_
        refine xc_skip ?_
        refine th_n ?_
        refine xc_seq ?_
        refine xc_block ?_
        refine xc_seq (xc_region ?_)
        have hltn : k < (ord y.sales).length := by (first|omega|(dsimp only at *;omega)|(simp at *;omega))
        obtain ⟨bn, on, ln, tn, fzn, han, hmn, hxn⟩ := (hns).at hltn
        obtain ⟨xn, hkn⟩ : ∃ qq_, (ord y.sales)[k]? = some qq_ := ⟨_, List.getElem?_eq_getElem hltn⟩
        have hmn := mem_ord (List.mem_of_getElem? hkn)
        have hI : SellI y.sales k (sells y.sales ((ord y.sales).take k) (st0 y g)) := sells_inv hy hgb hs4 k hk
        have hlts : xn.toNat < y.sales.length := by omega
        obtain ⟨bs, os, ls, ts, fzs, has, hms, hxs⟩ := (hv.sales).at hlts
        obtain ⟨xs, hks⟩ : ∃ qq_, y.sales[xn.toNat]? = some qq_ := ⟨_, List.getElem?_eq_getElem hlts⟩
        have hsl := sale_at hks
        have hsb := sellN_bd hI hy.sales hmn.2.2
        rw [hsl] at hsb
        obtain ⟨hsb1, hsb2, hsb3, ⟨hsg1, hsg2⟩, ⟨hsm1, hsm2⟩, hsp1, hsp2⟩ := hsb
        have hg6 : xs.good.toNat < 6 := by omega
        have hgl := hI.g xs.good.toNat
        have hsN : sellN y.sales (sells y.sales ((ord y.sales).take k) (st0 y g)) xn = min xs.most ((sells y.sales ((ord y.sales).take k) (st0 y g)).g xs.good.toNat).lo := by unfold sellN; rw [hsl]
        have hmu := mul_bd hsb1 hsb2 hsp1 hsp2
        have hlk : ((pays y.stills plan) ++ (sells y.sales ((ord y.sales).take k) (st0 y g)).rev).length = y.stills.length + k := by rw [List.length_append, hI.len, hplen]
        have hsol := hI.sold
        have hjs : xn.toNat < (sells y.sales ((ord y.sales).take k) (st0 y g)).sold.length := by omega
        rw [hsN] at hsb1 hsb2 hsb3 hmu
        refine xr_op rfl rfl (xv_ia (sz := 1) sl22 ty3 rfl (by rw [han]; rfl) rfl Ix_ Om_ Om_ ?_)
        refine xr_op rfl rfl (xv_load1 ty3 rfl rfl Me_ (take_get (hxn (k) xn hkn) (j := 0) rfl) ?_)
        refine xr_op rfl rfl (xv_assign rfl ?_)
        refine xr_end rfl ?_
        refine th_n ?_
        refine xc_seq (xc_region ?_)
        refine xr_op rfl rfl (xv_faddr fl26_2 rfl ?_)
        refine xr_op rfl rfl (xv_load1 ty24 rfl rfl Me_ (by first | rfl | exact g_getu (by assumption) rfl | exact g_get (by assumption) rfl) ?_)
        refine xr_op rfl rfl (xv_move rfl ?_)
        refine xr_op rfl rfl (xv_ia (sz := 3) (j := xn.toNat) sl24 ty51 rfl (by rw [has]; rfl) rfl rfl (by omega) (by omega) ?_)
        refine xr_op rfl rfl (xv_loadA ty51 rfl rfl Me_ (hxs (xn.toNat) xs hks) rfl ?_)
        refine xr_op rfl rfl (xv_alloc ty51 (fun b17 hb17 => ?_))
        refine xr_op rfl rfl (xv_s ty51 rfl rfl Up_ Ev_ (by rfl) (by rfl) (by rfl) Ev_ ?_)
        refine xr_end rfl ?_
        refine th_n ?_
        refine xc_seq ?_
        refine xc_draw0 [(0, .S), (1, .S), (2, .S), (3, .R), (4, .S), (5, .R), (6, .S), (7, .S), (8, .R), (9, .S), (10, .S), (11, .O)] mixed (by kernel_rfl) ?_
        refine js_S rfl rfl (.inl rfl) (xv_move rfl ⟨rfl, rfl⟩) ?_
        refine js_S rfl rfl (.inl rfl) (xv_move rfl ⟨rfl, rfl⟩) ?_
        refine js_S rfl rfl (.inl rfl) (xv_faddr fl51_1 rfl ⟨rfl, rfl⟩) ?_
        refine js_R0 rfl rfl (.inl rfl) (xv_load1 ty3 rfl rfl Me_ (by first | rfl | exact g_getu (by assumption) rfl | exact g_get (by assumption) rfl) ⟨rfl, rfl⟩) ?_
        refine js_S rfl rfl (.inl rfl) (xv_faddr fl51_0 rfl ⟨rfl, rfl⟩) ?_
        refine js_R0 rfl rfl (.inl rfl) (xv_load1 ty3 rfl rfl Me_ (by first | rfl | exact g_getu (by assumption) rfl | exact g_get (by assumption) rfl) ⟨rfl, rfl⟩) ?_
        refine js_S rfl rfl (.inl rfl) (xv_iaA (sz := 2) Try.underlying117 ty41 rfl rfl rfl Ix_ Om_ Om_ ⟨rfl, rfl⟩) ?_
        refine js_S rfl rfl (.inl rfl) (xv_faddr fl41_0 rfl ⟨rfl, rfl⟩) ?_
        refine js_R0 rfl rfl (.inl rfl) (xv_load1 ty3 rfl rfl Me_ (by first | rfl | exact g_getu (by assumption) rfl | exact g_get (by assumption) rfl) ⟨rfl, rfl⟩) ?_
        refine js_S rfl rfl (.inl rfl) (xv_min rfl rfl rfl ⟨rfl, rfl⟩) ?_
        refine js_S rfl rfl (.inl rfl) (xv_ia (sz := 1) (j := xn.toNat) sl22 ty3 rfl rfl rfl rfl (by omega) (by omega) ⟨rfl, rfl⟩) ?_
        refine js_O0 rfl rfl (.inl rfl) (xv_s1 ty3 rfl rfl rfl Up_ rfl (len_ints hjs) (ints_set hjs) ?_)
        refine j_end0 ?_
        refine th_n ?_
        refine xc_seq ?_
        refine xc_draw0 [(0, .S), (1, .R), (2, .S), (3, .S), (4, .R), (5, .S), (6, .S), (7, .S), (8, .R), (9, .S), (10, .S), (11, .S), (12, .O)] mixed (by kernel_rfl) ?_
        refine js_S rfl rfl (.inl rfl) (xv_faddr fl51_0 rfl ⟨rfl, rfl⟩) ?_
        refine js_R0 rfl rfl (.inl rfl) (xv_load1 ty3 rfl rfl Me_ (by first | rfl | exact g_getu (by assumption) rfl | exact g_get (by assumption) rfl) ⟨rfl, rfl⟩) ?_
        refine js_S rfl rfl (.inl rfl) (xv_iaA (sz := 2) Try.underlying117 ty41 rfl rfl rfl Ix_ Om_ Om_ ⟨rfl, rfl⟩) ?_
        refine js_S rfl rfl (.inl rfl) (xv_faddr fl41_0 rfl ⟨rfl, rfl⟩) ?_
        refine js_R0 rfl rfl (.inl rfl) (xv_load1 ty3 rfl rfl Me_ (by first | rfl | exact g_getu (by assumption) rfl | exact g_get (by assumption) rfl) ⟨rfl, rfl⟩) ?_
        refine js_S rfl rfl (.inl rfl) (xv_move rfl ⟨rfl, rfl⟩) ?_
        refine js_S rfl rfl (.inl rfl) (xv_move rfl ⟨rfl, rfl⟩) ?_
        refine js_S rfl rfl (.inl rfl) (xv_ia (sz := 1) (j := xn.toNat) sl22 ty3 rfl rfl rfl rfl (by omega) (by omega) ⟨rfl, rfl⟩) ?_
        refine js_R0 rfl rfl (.inl rfl) (xv_load1 ty3 rfl rfl Me_ (ints_at (zs := []) (gset hjs)) ⟨rfl, rfl⟩) ?_
        refine js_S rfl rfl (.inl rfl) (xv_sub rfl rfl (wrap_i64 Om_ Om_) ⟨rfl, rfl⟩) ?_
        refine js_S rfl rfl (.inl rfl) (xv_iaA (sz := 2) Try.underlying117 ty41 rfl rfl rfl Ix_ Om_ Om_ ⟨rfl, rfl⟩) ?_
        refine js_S rfl rfl (.inl rfl) (xv_faddr fl41_0 rfl ⟨rfl, rfl⟩) ?_
        refine js_O0 rfl rfl (.inl rfl) (xv_s1 ty3 rfl rfl rfl Up_ One_ (by first | decide | exact len12 (by assumption) (by decide)) (by first | exact g_set0u (by assumption) | exact g_set1u (by assumption) | exact g_set0 (by assumption) | exact g_set1 (by assumption) | ((try apply evl_some rfl);(repeat (first|exact (rfl : _ = [])|apply evl_cons rfl (by (first|exact v_1|exact v_2|exact v_3|exact v_4|exact v_5|exact v_6|exact v_7|exact v_8|exact v_9|exact rfl))|exact rfl)))) ?_)
        refine j_end0 ?_
        refine th_n ?_
        refine xc_draw0 [(0, .S), (1, .S), (2, .S), (3, .S), (4, .R), (5, .S), (6, .R), (7, .S), (8, .P), (8, .A), (9, .O), (10, .S)] mixed (by kernel_rfl) ?_
        refine js_S rfl rfl (.inl rfl) (xv_move rfl ⟨rfl, rfl⟩) ?_
        refine js_S rfl rfl (.inl rfl) (xv_move rfl ⟨rfl, rfl⟩) ?_
        refine js_S rfl rfl (.inl rfl) (xv_move rfl ⟨rfl, rfl⟩) ?_
        refine js_S rfl rfl (.inl rfl) (xv_ia (sz := 1) (j := xn.toNat) sl22 ty3 rfl rfl rfl rfl (by omega) (by omega) ⟨rfl, rfl⟩) ?_
        refine js_R0 rfl rfl (.inl rfl) (xv_load1 ty3 rfl rfl Me_ (ints_at (zs := []) (gset hjs)) ⟨rfl, rfl⟩) ?_
        refine js_S rfl rfl (.inl rfl) (xv_faddr fl51_2 rfl ⟨rfl, rfl⟩) ?_
        refine js_R0 rfl rfl (.inl rfl) (xv_load1 ty3 rfl rfl Me_ (by first | rfl | exact g_getu (by assumption) rfl | exact g_get (by assumption) rfl) ⟨rfl, rfl⟩) ?_
        refine js_S rfl rfl (.inl rfl) (xv_mul rfl rfl (wrap_i64 Om_ Om_) ⟨rfl, rfl⟩) ?_
        refine js_P rfl rfl rfl (al_buildSlice sl22 ty3 rfl rfl rfl rfl rfl Ev_) ?_
        refine js_A0 rfl rfl rfl rfl rfl ⟨rfl, trivial⟩ (fun b53 hb53 => ?_)
        refine js_O0 rfl rfl (.inl rfl) (xv_append (V := V) (n := ((pays y.stills plan) ++ (sells y.sales ((ord y.sales).take k) (st0 y g)).rev).length) (xs := ((pays y.stills plan) ++ (sells y.sales ((ord y.sales).take k) (st0 y g)).rev).flatMap eI) sl22 ty3 rfl rfl rfl hV (.there (.there .here)) Me_ Ev_ rfl rfl (by omega) (by simp only []; omega) (by omega) (fun V2 hV2 => ?_))
        refine js_S rfl rfl (.inl rfl) (xv_assign rfl ⟨rfl, rfl⟩) ?_
        refine j_end0 ?_
        refine bk_n ?_
        refine th_n ?_
        refine xc_region ?_
        refine xr_op rfl rfl (xv_add rfl rfl (wrap_i64 Om_ Om_) ?_)
        refine xr_op rfl rfl (xv_move rfl ?_)
        refine xr_end rfl ?_
        have hst := sells_take (ss := y.sales) (st := st0 y g) hkn
        have hll : ((pays y.stills plan) ++ ((sells y.sales ((ord y.sales).take (k + 1)) (st0 y g))).rev).length = ((pays y.stills plan) ++ (sells y.sales ((ord y.sales).take k) (st0 y g)).rev).length + 1 := by rw [hst]; simp [sell1]; omega
        have hfl : ((pays y.stills plan) ++ ((sells y.sales ((ord y.sales).take (k + 1)) (st0 y g))).rev).flatMap eI = ((pays y.stills plan) ++ (sells y.sales ((ord y.sales).take k) (st0 y g)).rev).flatMap eI ++ [I (sellN y.sales (sells y.sales ((ord y.sales).take k) (st0 y g)) xn * xs.price)] := by rw [hst]; simp [sell1, eI, hsl]
        exact rnd ((k + 1, V2) : Nat × Vec) ⟨by (first|omega|(dsimp only at *;omega)|(simp at *;omega)), by dsimp only; rw [hll, hfl, hsN]; exact hV2⟩ Om_ (le_put (le_put (le_put (le_put (le_put (le_put (le_put (le_emp _) rfl) rfl) (by rw [hll]; rfl)) rfl) rfl) rfl) rfl) (by dsimp only; rw [hfl, hst]; simp only [sell1, hsl, hsN]; (first|((repeat first|exact s_0|exact s_1|exact s_3|refine s_4 ?_|refine s_5 ?_|refine s_6 ?_|refine s_7 ?_);done)|((repeat first|exact s_0|exact s_1|exact s_3|refine s_4 ?_|refine s_5 ?_|refine s_6 ?_|refine s_8 ?_);done)))
      · refine xr_end rfl ?_
        refine th_n ?_
        refine xc_seq ?_
        refine xc_false rfl ?_
        refine xc_exit ?_
        refine th_x ?_
        refine th_x ?_
        refine bk_same ?_
        refine th_n ?_
        refine xc_seq (xc_region ?_)
        obtain rfl : k = y.sales.length := by (first|omega|(dsimp only at *;omega)|(simp at *;omega))
        have hfin : (sells y.sales ((ord y.sales).take y.sales.length) (st0 y g)) = sellY y g := by unfold sellY; rw [List.take_of_length_le (by omega)]
        have hI : SellI y.sales y.sales.length (sellY y g) := hfin ▸ sells_inv hy hgb hs4 _ (Nat.le_refl _)
        rw [hfin] at hV ⊢
        obtain ⟨la, lc, hlv, hls⟩ := Vec.slv (enc := eI) (t := 3) (h := V.hp 3 (((pays y.stills plan) ++ (sellY y g).rev).flatMap eI)) eI_len hV (fun _ hz => hz)
        rw [hlv]
        have hTl : ((pays y.stills plan) ++ (sellY y g).rev).length = y.stills.length + y.sales.length := by rw [List.length_append, hI.len, hplen]
        have hTb : ∀ x ∈ (pays y.stills plan) ++ (sellY y g).rev, -10000000000000 ≤ x ∧ x ≤ 10000000000000 := by
          intro x hx
          rcases List.mem_append.1 hx with hx | hx
          · exact pays_bd hy hpo hx
          · exact hI.rev x hx
        refine xr_op rfl rfl (xv_move rfl ?_)
        refine xr_op rfl rfl (xv_calls rfl hb38 (sum_c (B := 10000000000000) (hls.sub (by intro z hz; ((repeat first|exact z_0|assumption|refine z_1 ?_|(refine z_l ?_;(repeat first|exact z_0|assumption|refine z_1 ?_);done)|refine z_r ?_);done))) (by omega) (by rw [hTl]; omega) (by rw [hTl]; omega) hTb (up_ret ?_)))
        refine xr_op rfl rfl (xv_move rfl ?_)
        refine xr_op rfl rfl (xv_assign rfl ?_)
        refine xr_op rfl rfl (xv_assign rfl ?_)
        refine xr_end rfl ?_
        refine th_n ?_
        refine xc_ret ?_
        refine body_ret (h' := ((b14, .cells ⟨(sellY y g).sold.flatMap eI ++ []⟩ 3) :: h)) rfl (ro_tmp rfl (ro_tmp rfl ro_nil)) Su_ ?_
        exact H b14

end Go.Proofs.Ytmaldhbjhomdkaa.Tar

/-
  The best plan, in plain lists.
-/
set_option linter.all false
namespace Go.Proofs.Ytmaldhbjhomdkaa.Tar
open Go Go.H
theorem after_GB {n : Nat} : ∀ {xs : List Still} {ts : List Int} {g g' : Goods} {k : Nat}, (∀ x ∈ xs, ∃ l, stillOk n l x) → (∀ (j : Nat) (x : Still) (t : Int), xs[j]? = some x → ts[j]? = some t → 0 ≤ t ∧ t ≤ x.most) → ts.length = xs.length → GB k g → afterG xs ts g = some g' → GB (k + xs.length) g'
  | [], ts, g, g', k, _, _, _, hg, h => by cases ts <;> (cases h; exact hg)
  | x :: xs, [], g, g', k, _, _, hl, _, _ => by simp at hl
  | x :: xs, t :: ts, g, g', k, hx, hp, hl, hg, h => by
    unfold afterG at h
    split at h
    · rename_i hc
      obtain ⟨l, hs⟩ := hx x List.mem_cons_self
      have ht := hp 0 x t rfl rfl
      have hm := hs.2.2.2.2.1
      have := after_GB (fun z hz => hx z (List.mem_cons_of_mem _ hz)) (fun j z u hz hu => hp (j + 1) z u hz hu) (by simpa using hl) (hg.work hs hc ht.1 (by omega)) h
      rwa [Nat.add_assoc, Nat.add_comm 1] at this
    · cases h
theorem GoodYard.gb {y : Yard} (hy : GoodYard y) {plan : List Int} {g : Goods} (hl : plan.length = y.stills.length) (hp : PlanOk y plan) (h : afterG y.stills plan (newG y) = some g) : GB y.stills.length g := by
  have := after_GB (k := 0) (n := y.stock.length) (fun x hx => by obtain ⟨j, hj⟩ := List.getElem?_of_mem hx; exact ⟨_, hy.stills j x hj⟩) hp hl (GB.new hy) h
  rwa [Nat.zero_add] at this
theorem plansG_mem : ∀ {xs : List Still} {pre : List Int} {g : Goods} {p : List Int}, p ∈ plansG xs pre g → ∃ ts, p = pre ++ ts ∧ ts.length = xs.length ∧ (∀ (j : Nat) (x : Still) (t : Int), xs[j]? = some x → ts[j]? = some t → 0 ≤ t ∧ t ≤ x.most) ∧ ∃ g', afterG xs ts g = some g'
  | [], pre, g, p, h => by
    simp only [plansG, List.mem_singleton] at h
    exact ⟨[], by simp [h], rfl, fun j x t hx => by simp at hx, g, rfl⟩
  | x :: xs, pre, g, p, h => by
    simp only [plansG, List.mem_flatMap] at h
    obtain ⟨n, hn, hp⟩ := h
    obtain ⟨ts, h1, h2, h3, g', h4⟩ := plansG_mem hp
    have hw : canWork x n g = true := by
      unfold ways at hn
      have : ∀ (l : List Int), n ∈ l.takeWhile (fun n => canWork x n g) → canWork x n g = true := by
        intro l
        induction l with
        | nil => intro h; simp at h
        | cons a l ih =>
          intro h
          rw [List.takeWhile_cons] at h
          split at h
          · rename_i ha
            rcases List.mem_cons.1 h with rfl | h
            · exact ha
            · exact ih h
          · simp at h
      exact this _ hn
    have hm := mem_nums ((List.takeWhile_sublist _).subset hn)
    refine ⟨n :: ts, by rw [h1]; simp, by simp [h2], fun j z t hz ht => ?_, g', by unfold afterG; rw [if_pos hw]; exact h4⟩
    cases j with
    | zero => simp at hz ht; subst hz; subst ht; omega
    | succ j => exact h3 j z t (by simpa using hz) (by simpa using ht)
theorem plansY_ok {y : Yard} (hy : GoodYard y) {p : List Int} (h : p ∈ plansY y) : p.length = y.stills.length ∧ PlanOk y p ∧ ∃ g, afterG y.stills p (newG y) = some g ∧ GB y.stills.length g := by
  obtain ⟨ts, h1, h2, h3, g', h4⟩ := plansG_mem h
  simp only [List.nil_append] at h1
  subst h1
  exact ⟨h2, h3, g', h4, hy.gb h2 h3 h4⟩
def incomeP (y : Yard) (p : List Int) : Int := match afterG y.stills p (newG y) with
  | some g => incomeY y p g
  | none => 0
theorem incomeP_eq {y : Yard} {p : List Int} {g : Goods} (h : afterG y.stills p (newG y) = some g) : incomeP y p = incomeY y p g := by unfold incomeP; rw [h]
abbrev Acc := Option (List Int × Int)
def stepB (y : Yard) (acc : Acc) (p : List Int) : Acc := match acc with
  | none => some (p, incomeP y p)
  | some (q, m) => if incomeP y p > m then some (p, incomeP y p) else some (q, m)
def bestF (y : Yard) (l : List (List Int)) : Acc := l.foldl (stepB y) none
def accP : Acc → List Int
  | some (p, _) => p
  | none => []
def accN : Acc → Int
  | some (_, n) => n
  | none => 0
def bestY (y : Yard) : Acc := bestF y (plansY y)
theorem bestF_succ {y : Yard} {l : List (List Int)} {k : Nat} {p : List Int} (h : l[k]? = some p) : bestF y (l.take (k + 1)) = stepB y (bestF y (l.take k)) p := by
  unfold bestF; rw [List.take_add_one, h]; simp
end Go.Proofs.Ytmaldhbjhomdkaa.Tar

/-
  Walks.
-/
namespace Go.Proofs.Ytmaldhbjhomdkaa.Tar
open Go Go.H
set_option maxRecDepth 100000
set_option maxHeartbeats 8000000
set_option linter.all false
theorem AFn_perm_c {f : FuncId} {args : Array Value} {x y : Nat × Obj} {h : Hp} {R : Ending → Hp → Prop} (H : ACalls Try.prog f args (x :: y :: h) R) : ACalls Try.prog f args (y :: x :: h) R := ACalls.perm (List.Perm.swap _ _ _) H

theorem from_all {core : Hp} {y : Yard} {bx b2 b3 : Nat} {yv : Value} {all : List (List Int)} {J Jx : Nat → Hp → Prop} (hbx : (bx, .cells ⟨eYard y⟩ 30 (0, 0)) ∈ core) (hv : YardV core y) (hy : GoodYard y)
    (hRd : ∀ k h', J k h' → core ⊆ h') (hyv : ∀ k x, all[k]? = some x → ∀ vs p, EncP x vs p → ∀ h', J k h' → AFn Try.prog yv vs (p ++ h') (fun e h2 => (e = .returned (.bool true) ∧ J (k + 1) h2) ∨ (e = .returned (.bool false) ∧ Jx (k + 1) h2)))
    (m : Nat) : FromOk core y bx b2 b3 yv all J Jx m := by
  induction m using Nat.strongRecOn with
  | ind m ih => exact @from_step core y bx b2 b3 yv all J Jx m hbx hv hy hRd hyv ih

theorem plansIt {core : Hp} {y : Yard} {bx : Nat} (hbx : (bx, .cells ⟨eYard y⟩ 30 (0, 0)) ∈ core) (hv : YardV core y) (hy : GoodYard y) : IterP Try.prog 51 [] [.pointer (some ⟨bx, 0, none⟩)] EncP (plansY y) (fun h' => core ⊆ h') := by
  intro yv J Jx h hy1 hRd hyv hJ
  show ACalls Try.prog 51 ⟨[yv, .pointer (some ⟨bx, 0, none⟩)]⟩ h _
  refine calls_of_xc (N := 9) Try.func51 rfl (by rfl) ?_
  have hc0 := hRd _ _ hJ
  have m1 := hc0 hbx
  have hv2 := hv.sub hc0
  refine xc_seq (xc_region ?_)
  refine xr_op rfl rfl (xv_box rfl (fun b2 hb2 => ?_))
  refine xr_end rfl ?_
  refine th_n ?_
  refine xc_seq (xc_region ?_)
  rw [hy1]
  refine xr_op rfl rfl (xv_alloc ty94 (fun b3 hb3 => ?_))
  refine xr_end rfl ?_
  refine th_n ?_
  refine xc_seq (xc_region ?_)
  refine xr_op rfl rfl (xv_func rfl rfl ?_)
  refine xr_op rfl rfl (xv_s1 ty94 rfl rfl rfl Up_ One_ Len_ Ev_ ?_)
  refine xr_end rfl ?_
  refine th_n ?_
  refine xc_draw0 [(0, .R), (1, .R), (2, .R), (3, .O)] mixed (by kernel_rfl) ?_
  refine js_R0 rfl rfl (.inl rfl) (xv_load1 ty94 rfl rfl Me_ (by rfl) ⟨rfl, rfl⟩) ?_
  refine js_R0 rfl rfl (.inl rfl) (xv_loadA ty26 rfl rfl Me_ Ev_ (by rfl) ⟨rfl, rfl⟩) ?_
  refine js_R0 rfl rfl (.inl rfl) (xv_calls rfl hb51 (newGoods_c (hv2.sub (by intro z hz; ((repeat first|exact z_0|assumption|refine z_1 ?_|(refine z_l ?_;(repeat first|exact z_0|assumption|refine z_1 ?_);done)|refine z_r ?_);done))) hy (up_ret ⟨rfl, rfl⟩))) ?_
  refine js_O0 rfl rfl (.inl rfl) (xv_fn rfl rfl (afn_func (fi := []) (lb := [.pointer (some ⟨bx, 0, none⟩), .pointer (some ⟨b2, 0, none⟩), .pointer (some ⟨b3, 0, none⟩)]) hb49 (AFn_perm_c (from_all hbx hv hy hRd hyv y.stills.length (plan := []) (g := newG y) (p := []) (idx := 0) (by simp) (.inl rfl) (Nat.zero_le _) (GB.new hy) (fun j z hz => by rw [Nat.zero_add]; exact hz) hJ (fun h2 hJ2 => up_ret ?_) (fun kx h2 hkx hJ2 => up_ret ?_)))))
  · refine j_end0 ?_
    refine body_end (h' := h2) rfl ro_nil Su_ ?_
    first | exact ⟨⟨_, rfl⟩, .inl (by rw [Nat.zero_add] at hJ2; exact hJ2)⟩ | exact ⟨⟨_, rfl⟩, .inr ⟨kx, hkx, hJ2⟩⟩
  · refine j_end0 ?_
    refine body_end (h' := h2) rfl ro_nil Su_ ?_
    first | exact ⟨⟨_, rfl⟩, .inl (by rw [Nat.zero_add] at hJ2; exact hJ2)⟩ | exact ⟨⟨_, rfl⟩, .inr ⟨kx, hkx, hJ2⟩⟩

end Go.Proofs.Ytmaldhbjhomdkaa.Tar

/-
  Walks.
-/
namespace Go.Proofs.Ytmaldhbjhomdkaa.Tar
open Go Go.H
set_option maxRecDepth 100000
set_option maxHeartbeats 8000000
set_option linter.all false
theorem Plan_c {y : Yard} {h : Hp} {R : Ending → Hp → Prop} (hv : YardV h y) (hs : Small y) (H1 : ¬ GoodYard y → R (.returned (.tuple ⟨[.slice none 0 0, I 0, I 1]⟩)) h)
    (H2 : GoodYard y → ∀ a c hp, SlV hp 1 eI a (accP (bestY y)) → R (.returned (.tuple ⟨[.slice a (accP (bestY y)).length c, I (accN (bestY y)), I 0]⟩)) (hp ++ h)) :
    ACalls Try.prog 9 ⟨[.agg ⟨eYard y⟩]⟩ h R := by
  refine calls_of_xc (N := 32) Try.func9 rfl (by rfl) ?_
  refine xc_seq (xc_region ?_)
  refine xr_op rfl rfl (xv_box rfl (fun b1 hb1 => ?_))
  refine xr_op rfl rfl (xv_alloc ty22 (fun b2 hb2 => ?_))
  refine xr_op rfl rfl (xv_alloc ty3 (fun b3 hb3 => ?_))
  refine xr_op rfl rfl (xv_assign rfl ?_)
  refine xr_end rfl ?_
  refine th_n ?_
  refine xc_seq ?_
  refine xc_seq (xc_region ?_)
  refine xr_op rfl rfl (xv_loadA ty26 rfl rfl Me_ Ev_ (by rfl) ?_)
  refine xr_op rfl rfl (xv_calls rfl hb25 (isYard_c (hv.sub (by intro z hz; ((repeat first|exact z_0|assumption|refine z_1 ?_|(refine z_l ?_;(repeat first|exact z_0|assumption|refine z_1 ?_);done)|refine z_r ?_);done))) hs (fun hy => up_ret ?_) (fun hy => up_ret ?_)))
  · refine xr_op rfl rfl (xv_not rfl ?_)
    refine xr_end rfl ?_
    refine th_n ?_
    refine xc_false rfl ?_
    refine xc_skip ?_
    refine th_n ?_
    refine xc_seq (xc_region ?_)
    refine xr_op rfl rfl (xv_alloc ty4 (fun b5 hb5 => ?_))
    refine xr_op rfl rfl (xv_s1 ty4 rfl rfl rfl Up_ One_ Len_ Ev_ ?_)
    refine xr_end rfl ?_
    refine th_n ?_
    refine xc_seq ?_
    refine xc_seq (xc_region ?_)
    refine xr_op rfl rfl (xv_loadA ty26 rfl rfl Me_ Ev_ (by rfl) ?_)
    refine xr_op rfl rfl (xv_calls rfl hb26 (plans_c (fun bx hbx => up_ret ?_)))
    refine xr_end rfl ?_
    refine th_n ?_
    refine xc_block ?_
    refine xc_range2P (γ := Acc × Option Addr × Nat × Hp) EncP (plansY y) ((bx, .cells ⟨eYard y⟩ 30 (0, 0)) :: h) rfl hb48 (plansIt (core := ((bx, .cells ⟨eYard y⟩ 30 (0, 0)) :: h)) List.mem_cons_self (hv.sub (List.subset_cons_self _ _)) hy) (fun x vs p henc => by obtain ⟨a, c, rfl, _⟩ := henc; rfl) (by decide) ((((emp.put (some 1) (.pointer (some ⟨b1, 0, none⟩))).put (some 2) (.pointer (some ⟨b2, 0, none⟩))).put (some 3) (.pointer (some ⟨b3, 0, none⟩))).put (some 5) (.pointer (some ⟨b5, 0, none⟩))) (fun k g => g.1 = bestF y ((plansY y).take k) ∧ SlV g.2.2.2 1 eI g.2.1 (accP g.1)) (fun k g => (g.2.2.2 ++ (bx, .cells ⟨eYard y⟩ 30) :: (b5, .cells ⟨[.bool g.1.isSome]⟩ 4) :: (b3, .cells ⟨[I (accN g.1)]⟩ 3) :: (b2, .cells ⟨[.slice g.2.1 (accP g.1).length g.2.2.1]⟩ 26) :: (b1, .cells ⟨eYard y⟩ 30) :: h)) (fun _ _ _ => False) ((none, none, 0, []) : Acc × Option Addr × Nat × Hp) (mon_bk (mon_th)) (le_put (le_put (le_put (le_put (le_emp _) rfl) rfl) rfl) rfl) ⟨rfl, .inl rfl⟩ Su_ (fun k g z hz => by rcases List.mem_cons.1 hz with rfl | hz <;> ((repeat first|exact z_0|assumption|refine z_1 ?_|(refine z_l ?_;(repeat first|exact z_0|assumption|refine z_1 ?_);done)|refine z_r ?_);done)) ?_ (fun _ _ _ _ _ hf _ => hf.elim) ?_
    · intro ll k x g2 vs p hkx henc hinv
      obtain ⟨acc, a, c, hp⟩ := g2
      obtain ⟨a2, c2, rfl, hsl2⟩ := henc
      obtain ⟨hacc, hsl⟩ := hinv
      dsimp only at hacc hsl
      obtain ⟨hxl, hxo, gx, hgx, hgbx⟩ := plansY_ok hy (List.mem_of_getElem? hkx)
      have hix := incomeP_eq hgx
      refine xc_region ?_
      refine xr_op rfl rfl (xv_assign rfl ?_)
      refine xr_end rfl ?_
      refine rndA_n ?_
      refine xc_block ?_
      refine xc_seq (xc_region ?_)
      refine xr_op rfl rfl (xv_loadA ty26 rfl rfl Me_ Ev_ (by rfl) ?_)
      refine xr_op rfl rfl (xv_move rfl ?_)
      refine xr_op rfl rfl (xv_calls rfl hb27 (income_c (hv.sub (by intro z hz; ((repeat first|exact z_0|assumption|refine z_1 ?_|(refine z_l ?_;(repeat first|exact z_0|assumption|refine z_1 ?_);done)|refine z_r ?_);done))) hy (hsl2.sub (by intro z hz; ((repeat first|exact z_0|assumption|refine z_1 ?_|(refine z_l ?_;(repeat first|exact z_0|assumption|refine z_1 ?_);done)|refine z_r ?_);done))) hxl hxo hgx hgbx (fun bs => up_ret ?_)))
      refine xr_op rfl rfl (xv_move rfl ?_)
      refine xr_op rfl rfl (xv_extract rfl rfl ?_)
      refine xr_op rfl rfl (xv_extract rfl rfl ?_)
      refine xr_op rfl rfl (xv_assign rfl ?_)
      refine xr_op rfl rfl (xv_assign rfl ?_)
      refine xr_end rfl ?_
      refine th_n ?_
      refine xc_seq (xc_region ?_)
      rcases acc with _ | ⟨q, m⟩
      · refine xr_op rfl rfl (xv_load1 ty4 rfl rfl Me_ (by rfl) ?_)
        refine xr_op rfl rfl (xv_not rfl ?_)
        refine xr_op rfl rfl (xv_move rfl ?_)
        refine xr_no rfl rfl rfl rfl ?_
        refine xr_no rfl rfl rfl rfl ?_
        refine xr_no rfl rfl rfl rfl ?_
        refine xr_op rfl rfl (xv_pick rfl rfl ?_)
        refine xr_end rfl ?_
        refine th_n ?_
        refine xc_true rfl ?_
        refine xc_region ?_
        refine xr_op rfl rfl (xv_move rfl ?_)
        refine xr_op rfl rfl (xv_move rfl ?_)
        refine xr_op rfl rfl (xv_s1 ty22 rfl rfl rfl Up_ One_ Len_ Ev_ ?_)
        refine xr_op rfl rfl (xv_s1 ty3 rfl rfl rfl Up_ One_ Len_ Ev_ ?_)
        refine xr_op rfl rfl (xv_s1 ty4 rfl rfl rfl Up_ One_ Len_ Ev_ ?_)
        refine xr_end rfl ?_
        refine bk_n ?_
        exact rndQ_n ((some (x, incomeY y x gx), a2, c2, p) : Acc × Option Addr × Nat × Hp) ⟨by dsimp only; rw [bestF_succ hkx, ← hacc]; first | (simp only [stepB, hix]; done) | (simp only [stepB, hix]; rw [if_pos Om_]), hsl2⟩ Su_
      · refine xr_op rfl rfl (xv_load1 ty4 rfl rfl Me_ (by rfl) ?_)
        refine xr_op rfl rfl (xv_not rfl ?_)
        refine xr_op rfl rfl (xv_move rfl ?_)
        refine xr_gd rfl rfl rfl (xv_move rfl ?_)
        refine xr_gd rfl rfl rfl (xv_load1 ty3 rfl rfl Me_ (by rfl) ?_)
        have hqm : accN (some (q, m)) = m := rfl
        refine xr_gd rfl rfl rfl (xv_gtr2 rfl rfl (fun q1 => ?_) (fun q1 => ?_))
        · refine xr_op rfl rfl (xv_pick rfl rfl ?_)
          refine xr_end rfl ?_
          refine th_n ?_
          refine xc_true rfl ?_
          refine xc_region ?_
          refine xr_op rfl rfl (xv_move rfl ?_)
          refine xr_op rfl rfl (xv_move rfl ?_)
          refine xr_op rfl rfl (xv_s1 ty22 rfl rfl rfl Up_ One_ Len_ Ev_ ?_)
          refine xr_op rfl rfl (xv_s1 ty3 rfl rfl rfl Up_ One_ Len_ Ev_ ?_)
          refine xr_op rfl rfl (xv_s1 ty4 rfl rfl rfl Up_ One_ Len_ Ev_ ?_)
          refine xr_end rfl ?_
          refine bk_n ?_
          exact rndQ_n ((some (x, incomeY y x gx), a2, c2, p) : Acc × Option Addr × Nat × Hp) ⟨by dsimp only; rw [bestF_succ hkx, ← hacc]; first | (simp only [stepB, hix]; done) | (simp only [stepB, hix]; rw [if_pos Om_]), hsl2⟩ Su_
        · refine xr_op rfl rfl (xv_pick rfl rfl ?_)
          refine xr_end rfl ?_
          refine th_n ?_
          refine xc_false rfl ?_
          refine xc_skip ?_
          refine bk_n ?_
          exact rndQ_n ((some (q, m), a, c, hp) : Acc × Option Addr × Nat × Hp) ⟨by dsimp only; rw [bestF_succ hkx, ← hacc]; simp only [stepB, hix]; rw [if_neg Om_], hsl⟩ Su_
    · intro kd g hi hkd
      obtain ⟨acc, a, c, hp⟩ := g
      obtain ⟨hacc, hsl⟩ := hi
      dsimp only at hacc hsl hkd ⊢
      rw [List.take_length] at hacc
      obtain rfl : acc = bestY y := hacc
      refine bk_n ?_
      refine th_n ?_
      refine xc_seq ?_
      refine xc_drawL (L := [(b3, fun o => o = .cells ⟨[I (accN (bestY y))]⟩ 3 (0, 0))]) [(0, .R), (1, .S), (2, .O), (3, .O), (4, .S)] [] _ mixed (by kernel_rfl) (by rw [List.append_nil]) ((holds1 Me_ rfl)) ?_
      refine js_R0 rfl rfl (.inl rfl) (xv_load1 ty22 rfl rfl Me_ (by rfl) ⟨rfl, rfl⟩) ?_
      refine js_I rfl rfl (.inl rfl) (fun hh hv => by obtain ⟨o, hm, rfl⟩ := hv b3 _ List.mem_cons_self; exact xv_load1 ty3 rfl rfl (List.mem_append_left _ hm) rfl ⟨rfl, rfl⟩) ?_
      refine js_OL0 rfl rfl (.inl rfl) (xv_s1 ty22 rfl rfl rfl Up_ One_ Len_ Ev_ ?_)
      refine ⟨(holds1 Me_ rfl), ?_⟩
      refine js_OL0 rfl rfl (.inl rfl) (xv_s1 ty3 rfl rfl rfl Up_ One_ Len_ Ev_ ?_)
      refine ⟨(holds1 Me_ rfl), ?_⟩
      refine js_S rfl rfl (.inl rfl) (xv_assign rfl ⟨rfl, rfl⟩) ?_
      refine j_end0 ?_
      refine th_n ?_
      refine xc_ret ?_
      refine body_retM (h' := (hp ++ h)) rfl (ro_cell ty22 rfl rfl Me_ (by rfl) (ro_cell ty3 rfl rfl Me_ (by rfl) (ro_tmp rfl ro_nil))) Su_ Me_ (nkeys (List.Sublist.subset Su_) hkd) ?_
      first | exact H1 hy | exact H2 hy a c hp hsl
  · refine xr_op rfl rfl (xv_not rfl ?_)
    refine xr_end rfl ?_
    refine th_n ?_
    refine xc_true rfl ?_
    refine xc_seq (xc_region ?_)
    refine xr_op rfl rfl (xv_s1 ty22 rfl rfl rfl Up_ One_ Len_ Ev_ ?_)
    refine xr_op rfl rfl (xv_s1 ty3 rfl rfl rfl Up_ One_ Len_ Ev_ ?_)
    refine xr_op rfl rfl (xv_assign rfl ?_)
    refine xr_end rfl ?_
    refine th_n ?_
    refine xc_ret ?_
    refine th_r ?_
    refine body_ret (h' := h) rfl (ro_cell ty22 rfl rfl Me_ (by rfl) (ro_cell ty3 rfl rfl Me_ (by rfl) (ro_tmp rfl ro_nil))) Su_ ?_
    first | exact H1 hy | exact H2 hy a c hp hsl

end Go.Proofs.Ytmaldhbjhomdkaa.Tar

/-
  Walks.
-/
namespace Go.Proofs.Ytmaldhbjhomdkaa.Tar
open Go Go.H
set_option maxRecDepth 100000
set_option maxHeartbeats 8000000
set_option linter.all false
theorem check_c {y : Yard} {a : Option Addr} {c : Nat} {plan : List Int} {h : Hp} {R : Ending → Hp → Prop} (hv : YardV h y) (hs : Small y) (hp : SlV h 1 eI a plan)
    (H1 : ¬ GoodYard y → R (.returned (I 1)) h) (H2 : GoodYard y → ¬ (plan.length = y.stills.length ∧ PlanOk y plan) → R (.returned (I 2)) h)
    (H3 : GoodYard y → plan.length = y.stills.length → PlanOk y plan → afterG y.stills plan (newG y) = none → R (.returned (I 10)) h)
    (H4 : GoodYard y → plan.length = y.stills.length → PlanOk y plan → ∀ g, afterG y.stills plan (newG y) = some g → GB y.stills.length g → R (.returned (I 0)) h) :
    ACalls Try.prog 32 ⟨[.agg ⟨eYard y⟩, .slice a plan.length c]⟩ h R := by
  refine calls_of_xc (N := 43) Try.func32 rfl (by rfl) ?_
  have hs4 := hs.stills
  refine xc_seq (xc_region ?_)
  refine xr_op rfl rfl (xv_box rfl (fun b2 hb2 => ?_))
  refine xr_op rfl rfl (xv_assign rfl ?_)
  refine xr_end rfl ?_
  refine th_n ?_
  refine xc_seq ?_
  refine xc_seq (xc_region ?_)
  refine xr_op rfl rfl (xv_loadA ty26 rfl rfl Me_ Ev_ (by rfl) ?_)
  refine xr_op rfl rfl (xv_calls rfl hb25 (isYard_c (hv.sub (by intro z hz; ((repeat first|exact z_0|assumption|refine z_1 ?_|(refine z_l ?_;(repeat first|exact z_0|assumption|refine z_1 ?_);done)|refine z_r ?_);done))) hs (fun hy => up_ret ?_) (fun hy => up_ret ?_)))
  · refine xr_op rfl rfl (xv_not rfl ?_)
    refine xr_end rfl ?_
    refine th_n ?_
    refine xc_false rfl ?_
    refine xc_skip ?_
    refine th_n ?_
    refine xc_seq ?_
    refine xc_seq (xc_region ?_)
    refine xr_op rfl rfl (xv_move rfl ?_)
    refine xr_op rfl rfl (xv_len sl22 rfl ?_)
    refine xr_op rfl rfl (xv_faddr fl26_1 rfl ?_)
    refine xr_op rfl rfl (xv_load1 ty23 rfl rfl Me_ (by rfl) ?_)
    refine xr_op rfl rfl (xv_len sl23 rfl ?_)
    refine xr_op rfl rfl (xv_neq2 rfl rfl (fun q1 => ?_) (fun q1 => ?_))
    · refine xr_end rfl ?_
      refine th_n ?_
      refine xc_true rfl ?_
      refine xc_seq (xc_region ?_)
      refine xr_op rfl rfl (xv_assign rfl ?_)
      refine xr_end rfl ?_
      refine th_n ?_
      refine xc_ret ?_
      refine th_r ?_
      refine body_ret (h' := h) rfl (ro_tmp rfl ro_nil) Su_ ?_
      first | exact H1 hy | exact H2 hy (fun hq => by have := hq.1; (first|omega|(dsimp only at *;omega)|(simp at *;omega))) | exact H2 hy (fun hq => by have := hq.2 k _ _ hko hkp; omega) | exact H3 hy hpl hpo hga | exact H4 hy hpl hpo ga hga hgb
    · refine xr_end rfl ?_
      refine th_n ?_
      refine xc_false rfl ?_
      refine xc_skip ?_
      refine th_n ?_
      refine xc_seq ?_
      refine xc_seq (xc_region ?_)
      refine xr_op rfl rfl (xv_move rfl ?_)
      refine xr_op rfl rfl (xv_len sl22 rfl ?_)
      refine xr_op rfl rfl (xv_move rfl ?_)
      refine xr_end rfl ?_
      refine th_n ?_
      refine xc_block ?_
      have hpl : plan.length = y.stills.length := by (first|omega|(dsimp only at *;omega)|(simp at *;omega))
      refine xc_loop (σ := Nat) (fun k => k ≤ plan.length ∧ ∀ (j : Nat) (x : Still) (t : Int), j < k → y.stills[j]? = some x → plan[j]? = some t → 0 ≤ t ∧ t ≤ x.most) (fun k => (((((emp.put (some 1) (.slice a plan.length c)).put (some 2) (.pointer (some ⟨b2, 0, none⟩))).put (some 18) (.slice a plan.length c)).put (some 19) (I plan.length)).put (some 20) (I k))) (fun k => ((b2, .cells ⟨eYard y⟩ 30) :: h)) (fun k => plan.length - k) 0 ⟨Nat.zero_le _, fun _ _ _ hq => absurd hq (Nat.not_lt_zero _)⟩ (le_put (le_put (le_put (le_put (le_put (le_emp _) rfl) rfl) rfl) rfl) rfl) Su_ ?_
      rintro k ⟨hk, hall⟩
      refine xc_seq (xc_region ?_)
      refine xr_op rfl rfl (xv_lss2 rfl rfl (fun q2 => ?_) (fun q2 => ?_))
      · refine xr_end rfl ?_
        refine th_n ?_
        refine xc_seq ?_
        refine xc_true rfl ?_
        refine xc_skip ?_
        refine th_n ?_
        refine xc_seq ?_
        refine xc_block ?_
        refine xc_seq (xc_region ?_)
        have hltp : k < plan.length := by (first|omega|(dsimp only at *;omega)|(simp at *;omega))
        obtain ⟨bp, op, lp, tp, fzp, hap, hmp, hxp⟩ := (hp).at hltp
        obtain ⟨xp, hkp⟩ : ∃ qq_, plan[k]? = some qq_ := ⟨_, List.getElem?_eq_getElem hltp⟩
        have hlto : k < y.stills.length := by (first|omega|(dsimp only at *;omega)|(simp at *;omega))
        obtain ⟨bo, oo, lo, to, fzo, hao, hmo, hxo⟩ := (hv.stills).at hlto
        obtain ⟨xo, hko⟩ : ∃ qq_, y.stills[k]? = some qq_ := ⟨_, List.getElem?_eq_getElem hlto⟩
        refine xr_op rfl rfl (xv_move rfl ?_)
        refine xr_op rfl rfl (xv_ia (sz := 1) sl22 ty3 rfl (by rw [hap]; rfl) rfl Ix_ Om_ Om_ ?_)
        refine xr_op rfl rfl (xv_load1 ty3 rfl rfl Me_ (take_get (hxp (k) xp hkp) (j := 0) rfl) ?_)
        refine xr_op rfl rfl (xv_assign rfl ?_)
        refine xr_op rfl rfl (xv_assign rfl ?_)
        refine xr_end rfl ?_
        refine th_n ?_
        refine xc_seq (xc_region ?_)
        refine xr_op rfl rfl (xv_move rfl ?_)
        refine xr_op rfl rfl (xv_faddr fl26_1 rfl ?_)
        refine xr_op rfl rfl (xv_load1 ty23 rfl rfl Me_ (by rfl) ?_)
        refine xr_op rfl rfl (xv_move rfl ?_)
        refine xr_op rfl rfl (xv_ia (sz := 5) (j := k) sl23 ty48 rfl (by rw [hao]; rfl) rfl Ix_ Om_ Om_ ?_)
        refine xr_op rfl rfl (xv_faddr fl48_4 rfl ?_)
        refine xr_op rfl rfl (xv_load1 ty3 rfl rfl Me_ (take_get (hxo (k) xo hko) (j := 4) rfl) ?_)
        refine xr_op rfl rfl (xv_calls rfl hb41 (within_c _ _ _ (fun hl3 hu4 => up_ret ?_) (fun hn5 => up_ret ?_)))
        · refine xr_op rfl rfl (xv_not rfl ?_)
          refine xr_end rfl ?_
          refine th_n ?_
          refine xc_false rfl ?_
          refine xc_skip ?_
          refine bk_n ?_
          refine th_n ?_
          refine xc_region ?_
          refine xr_op rfl rfl (xv_add rfl rfl (wrap_i64 Om_ Om_) ?_)
          refine xr_op rfl rfl (xv_move rfl ?_)
          refine xr_end rfl ?_
          exact rnd (k + 1) ⟨by (first|omega|(dsimp only at *;omega)|(simp at *;omega)), fun j q t hj hq ht => by
            rcases Nat.lt_succ_iff_lt_or_eq.1 hj with hj | rfl
            · exact hall j q t hj hq ht
            · rw [hko] at hq; rw [hkp] at ht; cases hq; cases ht; omega⟩ Om_ (le_put (le_put (le_put (le_put (le_put (le_emp _) rfl) rfl) rfl) rfl) rfl) Su_
        · refine xr_op rfl rfl (xv_not rfl ?_)
          refine xr_end rfl ?_
          refine th_n ?_
          refine xc_true rfl ?_
          refine xc_seq (xc_region ?_)
          refine xr_op rfl rfl (xv_assign rfl ?_)
          refine xr_end rfl ?_
          refine th_n ?_
          refine xc_ret ?_
          refine bk_r ?_
          refine th_r ?_
          refine th_r ?_
          refine bk_r ?_
          refine th_r ?_
          refine body_ret (h' := h) rfl (ro_tmp rfl ro_nil) Su_ ?_
          first | exact H1 hy | exact H2 hy (fun hq => by have := hq.1; (first|omega|(dsimp only at *;omega)|(simp at *;omega))) | exact H2 hy (fun hq => by have := hq.2 k _ _ hko hkp; omega) | exact H3 hy hpl hpo hga | exact H4 hy hpl hpo ga hga hgb
      · refine xr_end rfl ?_
        refine th_n ?_
        refine xc_seq ?_
        refine xc_false rfl ?_
        refine xc_exit ?_
        refine th_x ?_
        refine th_x ?_
        refine bk_same ?_
        refine th_n ?_
        refine xc_seq ?_
        refine xc_seq (xc_region ?_)
        have hpo : PlanOk y plan := fun j q t hq ht => hall j q t (by have := (List.getElem?_eq_some_iff.1 ht).1; (first|omega|(dsimp only at *;omega)|(simp at *;omega))) hq ht
        refine xr_op rfl rfl (xv_loadA ty26 rfl rfl Me_ Ev_ (by rfl) ?_)
        refine xr_op rfl rfl (xv_move rfl ?_)
        refine xr_op rfl rfl (xv_calls rfl hb30 (after_c (hv.sub (by intro z hz; ((repeat first|exact z_0|assumption|refine z_1 ?_|(refine z_l ?_;(repeat first|exact z_0|assumption|refine z_1 ?_);done)|refine z_r ?_);done))) hy (hp.sub (by intro z hz; ((repeat first|exact z_0|assumption|refine z_1 ?_|(refine z_l ?_;(repeat first|exact z_0|assumption|refine z_1 ?_);done)|refine z_r ?_);done))) hpl hpo (fun ga hga hgb => up_ret ?_) (fun ga hga => up_ret ?_)))
        · refine xr_op rfl rfl (xv_move rfl ?_)
          refine xr_op rfl rfl (xv_extract rfl rfl ?_)
          refine xr_op rfl rfl (xv_extract rfl rfl ?_)
          refine xr_op rfl rfl (xv_alloc ty75 (fun b7 hb7 => ?_))
          refine xr_op rfl rfl (xv_s ty75 rfl rfl Up_ Ev_ (by rfl) (by rfl) (by rfl) Ev_ ?_)
          refine xr_op rfl rfl (xv_assign rfl ?_)
          refine xr_end rfl ?_
          refine th_n ?_
          refine xc_seq (xc_region ?_)
          refine xr_op rfl rfl (xv_move rfl ?_)
          refine xr_op rfl rfl (xv_not rfl ?_)
          refine xr_end rfl ?_
          refine th_n ?_
          refine xc_false rfl ?_
          refine xc_skip ?_
          refine th_n ?_
          refine xc_seq (xc_region ?_)
          refine xr_op rfl rfl (xv_assign rfl ?_)
          refine xr_end rfl ?_
          refine th_n ?_
          refine xc_ret ?_
          refine body_ret (h' := h) rfl (ro_tmp rfl ro_nil) Su_ ?_
          first | exact H1 hy | exact H2 hy (fun hq => by have := hq.1; (first|omega|(dsimp only at *;omega)|(simp at *;omega))) | exact H2 hy (fun hq => by have := hq.2 k _ _ hko hkp; omega) | exact H3 hy hpl hpo hga | exact H4 hy hpl hpo ga hga hgb
        · refine xr_op rfl rfl (xv_move rfl ?_)
          refine xr_op rfl rfl (xv_extract rfl rfl ?_)
          refine xr_op rfl rfl (xv_extract rfl rfl ?_)
          refine xr_op rfl rfl (xv_alloc ty75 (fun b7 hb7 => ?_))
          refine xr_op rfl rfl (xv_s ty75 rfl rfl Up_ Ev_ (by rfl) (by rfl) (by rfl) Ev_ ?_)
          refine xr_op rfl rfl (xv_assign rfl ?_)
          refine xr_end rfl ?_
          refine th_n ?_
          refine xc_seq (xc_region ?_)
          refine xr_op rfl rfl (xv_move rfl ?_)
          refine xr_op rfl rfl (xv_not rfl ?_)
          refine xr_end rfl ?_
          refine th_n ?_
          refine xc_true rfl ?_
          refine xc_seq (xc_region ?_)
          refine xr_op rfl rfl (xv_assign rfl ?_)
          refine xr_end rfl ?_
          refine th_n ?_
          refine xc_ret ?_
          refine th_r ?_
          refine body_ret (h' := h) rfl (ro_tmp rfl ro_nil) Su_ ?_
          first | exact H1 hy | exact H2 hy (fun hq => by have := hq.1; (first|omega|(dsimp only at *;omega)|(simp at *;omega))) | exact H2 hy (fun hq => by have := hq.2 k _ _ hko hkp; omega) | exact H3 hy hpl hpo hga | exact H4 hy hpl hpo ga hga hgb
  · refine xr_op rfl rfl (xv_not rfl ?_)
    refine xr_end rfl ?_
    refine th_n ?_
    refine xc_true rfl ?_
    refine xc_seq (xc_region ?_)
    refine xr_op rfl rfl (xv_assign rfl ?_)
    refine xr_end rfl ?_
    refine th_n ?_
    refine xc_ret ?_
    refine th_r ?_
    refine body_ret (h' := h) rfl (ro_tmp rfl ro_nil) Su_ ?_
    first | exact H1 hy | exact H2 hy (fun hq => by have := hq.1; (first|omega|(dsimp only at *;omega)|(simp at *;omega))) | exact H2 hy (fun hq => by have := hq.2 k _ _ hko hkp; omega) | exact H3 hy hpl hpo hga | exact H4 hy hpl hpo ga hga hgb

end Go.Proofs.Ytmaldhbjhomdkaa.Tar

/-
  Walks.
-/
namespace Go.Proofs.Ytmaldhbjhomdkaa.Tar
open Go Go.H
set_option maxRecDepth 100000
set_option maxHeartbeats 8000000
set_option linter.all false
theorem Income_c {y : Yard} {a : Option Addr} {c : Nat} {plan : List Int} {h : Hp} {R : Ending → Hp → Prop} (hv : YardV h y) (hs : Small y) (hp : SlV h 1 eI a plan)
    (H1 : ¬ GoodYard y → R (.returned (.tuple ⟨[I 0, .slice none 0 0, I 1]⟩)) h) (H2 : GoodYard y → ¬ (plan.length = y.stills.length ∧ PlanOk y plan) → R (.returned (.tuple ⟨[I 0, .slice none 0 0, I 2]⟩)) h)
    (H3 : GoodYard y → plan.length = y.stills.length → PlanOk y plan → afterG y.stills plan (newG y) = none → R (.returned (.tuple ⟨[I 0, .slice none 0 0, I 10]⟩)) h)
    (H4 : GoodYard y → plan.length = y.stills.length → PlanOk y plan → ∀ g b, afterG y.stills plan (newG y) = some g → GB y.stills.length g → R (.returned (.tuple ⟨[I (incomeY y plan g), .slice (some ⟨b, 0, none⟩) y.sales.length y.sales.length, I 0]⟩)) ((b, .cells ⟨(sellY y g).sold.flatMap eI ++ []⟩ 3) :: h)) :
    ACalls Try.prog 10 ⟨[.agg ⟨eYard y⟩, .slice a plan.length c]⟩ h R := by
  refine calls_of_xc (N := 24) Try.func10 rfl (by rfl) ?_
  refine xc_seq (xc_region ?_)
  refine xr_op rfl rfl (xv_box rfl (fun b2 hb2 => ?_))
  refine xr_op rfl rfl (xv_assign rfl ?_)
  refine xr_op rfl rfl (xv_assign rfl ?_)
  refine xr_op rfl rfl (xv_assign rfl ?_)
  refine xr_end rfl ?_
  refine th_n ?_
  refine xc_seq ?_
  refine xc_seq (xc_region ?_)
  refine xr_op rfl rfl (xv_loadA ty26 rfl rfl Me_ Ev_ (by rfl) ?_)
  refine xr_op rfl rfl (xv_move rfl ?_)
  refine xr_op rfl rfl (xv_calls rfl hb29 (check_c (hv.sub (by intro z hz; ((repeat first|exact z_0|assumption|refine z_1 ?_|(refine z_l ?_;(repeat first|exact z_0|assumption|refine z_1 ?_);done)|refine z_r ?_);done))) hs (hp.sub (by intro z hz; ((repeat first|exact z_0|assumption|refine z_1 ?_|(refine z_l ?_;(repeat first|exact z_0|assumption|refine z_1 ?_);done)|refine z_r ?_);done))) (fun hy => up_ret ?_) (fun hy hbad => up_ret ?_) (fun hy hpl hpo hga => up_ret ?_) (fun hy hpl hpo ga hga hgb => up_ret ?_)))
  · refine xr_op rfl rfl (xv_assign rfl ?_)
    refine xr_end rfl ?_
    refine th_n ?_
    refine xc_seq (xc_region ?_)
    refine xr_op rfl rfl (xv_move rfl ?_)
    refine xr_op rfl rfl (xv_neqT rfl rfl (by decide) ?_)
    refine xr_end rfl ?_
    refine th_n ?_
    refine xc_true rfl ?_
    refine xc_seq (xc_region ?_)
    refine xr_op rfl rfl (xv_move rfl ?_)
    refine xr_op rfl rfl (xv_assign rfl ?_)
    refine xr_op rfl rfl (xv_assign rfl ?_)
    refine xr_op rfl rfl (xv_assign rfl ?_)
    refine xr_end rfl ?_
    refine th_n ?_
    refine xc_ret ?_
    refine th_r ?_
    refine body_ret (h' := h) rfl (ro_tmp rfl (ro_tmp rfl (ro_tmp rfl ro_nil))) Su_ ?_
    first | exact H1 hy | exact H2 hy hbad | exact H3 hy hpl hpo hga | exact H4 hy hpl hpo ga bs hga hgb
  · refine xr_op rfl rfl (xv_assign rfl ?_)
    refine xr_end rfl ?_
    refine th_n ?_
    refine xc_seq (xc_region ?_)
    refine xr_op rfl rfl (xv_move rfl ?_)
    refine xr_op rfl rfl (xv_neqT rfl rfl (by decide) ?_)
    refine xr_end rfl ?_
    refine th_n ?_
    refine xc_true rfl ?_
    refine xc_seq (xc_region ?_)
    refine xr_op rfl rfl (xv_move rfl ?_)
    refine xr_op rfl rfl (xv_assign rfl ?_)
    refine xr_op rfl rfl (xv_assign rfl ?_)
    refine xr_op rfl rfl (xv_assign rfl ?_)
    refine xr_end rfl ?_
    refine th_n ?_
    refine xc_ret ?_
    refine th_r ?_
    refine body_ret (h' := h) rfl (ro_tmp rfl (ro_tmp rfl (ro_tmp rfl ro_nil))) Su_ ?_
    first | exact H1 hy | exact H2 hy hbad | exact H3 hy hpl hpo hga | exact H4 hy hpl hpo ga bs hga hgb
  · refine xr_op rfl rfl (xv_assign rfl ?_)
    refine xr_end rfl ?_
    refine th_n ?_
    refine xc_seq (xc_region ?_)
    refine xr_op rfl rfl (xv_move rfl ?_)
    refine xr_op rfl rfl (xv_neqT rfl rfl (by decide) ?_)
    refine xr_end rfl ?_
    refine th_n ?_
    refine xc_true rfl ?_
    refine xc_seq (xc_region ?_)
    refine xr_op rfl rfl (xv_move rfl ?_)
    refine xr_op rfl rfl (xv_assign rfl ?_)
    refine xr_op rfl rfl (xv_assign rfl ?_)
    refine xr_op rfl rfl (xv_assign rfl ?_)
    refine xr_end rfl ?_
    refine th_n ?_
    refine xc_ret ?_
    refine th_r ?_
    refine body_ret (h' := h) rfl (ro_tmp rfl (ro_tmp rfl (ro_tmp rfl ro_nil))) Su_ ?_
    first | exact H1 hy | exact H2 hy hbad | exact H3 hy hpl hpo hga | exact H4 hy hpl hpo ga bs hga hgb
  · refine xr_op rfl rfl (xv_assign rfl ?_)
    refine xr_end rfl ?_
    refine th_n ?_
    refine xc_seq (xc_region ?_)
    refine xr_op rfl rfl (xv_move rfl ?_)
    refine xr_op rfl rfl (xv_neqF rfl rfl rfl ?_)
    refine xr_end rfl ?_
    refine th_n ?_
    refine xc_false rfl ?_
    refine xc_skip ?_
    refine th_n ?_
    refine xc_seq (xc_region ?_)
    refine xr_op rfl rfl (xv_loadA ty26 rfl rfl Me_ Ev_ (by rfl) ?_)
    refine xr_op rfl rfl (xv_move rfl ?_)
    refine xr_op rfl rfl (xv_calls rfl hb27 (income_c (hv.sub (by intro z hz; ((repeat first|exact z_0|assumption|refine z_1 ?_|(refine z_l ?_;(repeat first|exact z_0|assumption|refine z_1 ?_);done)|refine z_r ?_);done))) hy (hp.sub (by intro z hz; ((repeat first|exact z_0|assumption|refine z_1 ?_|(refine z_l ?_;(repeat first|exact z_0|assumption|refine z_1 ?_);done)|refine z_r ?_);done))) hpl hpo hga hgb (fun bs => up_ret ?_)))
    refine xr_op rfl rfl (xv_move rfl ?_)
    refine xr_op rfl rfl (xv_extract rfl rfl ?_)
    refine xr_op rfl rfl (xv_extract rfl rfl ?_)
    refine xr_op rfl rfl (xv_assign rfl ?_)
    refine xr_op rfl rfl (xv_assign rfl ?_)
    refine xr_end rfl ?_
    refine th_n ?_
    refine xc_seq (xc_region ?_)
    refine xr_op rfl rfl (xv_move rfl ?_)
    refine xr_op rfl rfl (xv_move rfl ?_)
    refine xr_op rfl rfl (xv_assign rfl ?_)
    refine xr_op rfl rfl (xv_assign rfl ?_)
    refine xr_op rfl rfl (xv_assign rfl ?_)
    refine xr_end rfl ?_
    refine th_n ?_
    refine xc_ret ?_
    refine body_ret (h' := ((bs, .cells ⟨(sellY y ga).sold.flatMap eI ++ []⟩ 3) :: h)) rfl (ro_tmp rfl (ro_tmp rfl (ro_tmp rfl ro_nil))) Su_ ?_
    first | exact H1 hy | exact H2 hy hbad | exact H3 hy hpl hpo hga | exact H4 hy hpl hpo ga bs hga hgb

end Go.Proofs.Ytmaldhbjhomdkaa.Tar

/-
  Walks.
-/
namespace Go.Proofs.Ytmaldhbjhomdkaa.Tar
open Go Go.H
set_option maxRecDepth 100000
set_option maxHeartbeats 8000000
set_option linter.all false
end Go.Proofs.Ytmaldhbjhomdkaa.Tar
