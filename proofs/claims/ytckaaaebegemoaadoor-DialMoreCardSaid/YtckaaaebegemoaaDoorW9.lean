/-
  Walks.
-/
import Derived.Test.YtckaaaebegemoaaDoorW8
import Derived.Test.YtckaaaebegemoaaDoorP2
namespace Go.Proofs.YtckaaaebegemoaaDoor
open Go Go.H
set_option maxRecDepth 100000
set_option maxHeartbeats 2000000
set_option linter.all false
theorem cmH_neg {x y : Card} : cmH x y < 0 ↔ x.hour < y.hour := by
  unfold cmH; split
  · simp [*]
  · split <;> simp [*]
theorem cmH_zero {x y : Card} : cmH x y = 0 ↔ x.hour = y.hour := by
  unfold cmH; split
  · simp; omega
  · split
    · simp; omega
    · simp; omega
theorem cmH_swo : Go.Sort.SWO (ltc cmH) := by
  have e : ∀ x y, ltc cmH x y = decide (x.hour < y.hour) := fun x y => by unfold ltc; exact decide_eq_decide.2 cmH_neg
  refine ⟨fun x => ?_, fun x y z => ?_, fun x y z => ?_⟩ <;> simp only [e, decide_eq_true_eq, decide_eq_false_iff_not] <;> omega
theorem rise_step {ys : List Card} {i : Nat} {a b : Card} (hp : ys.Pairwise fun a b => ¬ cmH b a < 0) (hi : 0 < i) (ha : ys[i - 1]? = some a) (hb : ys[i]? = some b) (hab : ¬ cmH a b = 0) (H : Rise (ys.take i)) : Rise (ys.take (i + 1)) := by
  rw [List.take_add_one, hb]
  unfold Rise at *
  rw [List.pairwise_append]
  refine ⟨H, by simp, fun x hx y hy => ?_⟩
  have hy2 : y = b := by simpa using hy
  rw [hy2]
  have hlt : a.hour < b.hour := by
    obtain ⟨h1, e1⟩ := List.getElem?_eq_some_iff.1 ha
    obtain ⟨h2, e2⟩ := List.getElem?_eq_some_iff.1 hb
    have := List.pairwise_iff_getElem.1 hp (i - 1) i h1 h2 (by omega)
    rw [e1, e2, cmH_neg] at this
    rw [cmH_zero] at hab
    omega
  obtain ⟨j, hj⟩ := List.getElem?_of_mem hx
  have hj2 := (List.getElem?_eq_some_iff.1 hj).1
  rw [List.length_take] at hj2
  rw [List.getElem?_take_of_lt (by omega)] at hj
  by_cases hji : j = i - 1
  · rw [hji, ha] at hj
    cases hj; exact hlt
  · have ha2 : (ys.take i)[i - 1]? = some a := by rw [List.getElem?_take_of_lt (by omega)]; exact ha
    obtain ⟨h1, e1⟩ := List.getElem?_eq_some_iff.1 ha2
    have hj3 : (ys.take i)[j]? = some x := by rw [List.getElem?_take_of_lt (by omega)]; exact hj
    obtain ⟨h3, e3⟩ := List.getElem?_eq_some_iff.1 hj3
    have := List.pairwise_iff_getElem.1 H j (i - 1) h3 h1 (by omega)
    rw [e1, e3] at this
    omega
theorem perm_clash {ys : List Card} {cs : List Card} {house : Int} {i : Nat} {a b : Card} (hp : ys.Perm (onceL cs house)) (hi : 0 < i) (ha : ys[i - 1]? = some a) (hb : ys[i]? = some b) (hab : cmH a b = 0) : readL cs house = none := by
  have hn : ys.Nodup := hp.nodup_iff.2 (once_nodup cs house)
  have ma := (once_mem cs house a).1 (hp.mem_iff.1 (List.mem_of_getElem? ha))
  have mb := (once_mem cs house b).1 (hp.mem_iff.1 (List.mem_of_getElem? hb))
  refine read_clash ma.1 mb.1 ma.2 mb.2 ?_ (cmH_zero.1 hab)
  obtain ⟨h1, e1⟩ := List.getElem?_eq_some_iff.1 ha
  obtain ⟨h2, e2⟩ := List.getElem?_eq_some_iff.1 hb
  have := List.pairwise_iff_getElem.1 hn (i - 1) i h1 h2 (by omega)
  rw [e1, e2] at this
  exact this
theorem perm_read {ys : List Card} {cs : List Card} {house : Int} {i : Nat} (hp : ys.Perm (onceL cs house)) (hi : ys.length ≤ i) (H : Rise (ys.take i)) : readL cs house = some ys := by
  rw [List.take_of_length_le hi] at H
  exact read_eq H fun x => hp.mem_iff.trans (once_mem cs house x)
theorem hp_keys (V : Vec) (t t2 : TypeId) (xs ys : List Value) : keys (V.hp t xs) = keys (V.hp t2 ys) := by cases V <;> rfl

theorem open_c {r : Rnd} {house : Int} {hrs : List Int} {ah : Option Addr} {ch : Nat} {h : Hp} {R : Ending → Hp → Prop} (hv : RndV h r) (hs : Small r) (hT : TurnsV h) (hh : SlV h 1 eI ah hrs) (hhl : hrs.length ≤ 2)
    (H1 : ¬ GoodRnd r → R (.returned (.tuple ⟨[.pointer none, I 1]⟩)) h) (H2 : GoodRnd r → ¬ (houseOk r house ∧ HoursOk hrs) → R (.returned (.tuple ⟨[.pointer none, I 2]⟩)) h) (H3 : GoodRnd r → houseOk r house → HoursOk hrs → readL r.cards house = none → R (.returned (.tuple ⟨[.pointer none, I 5]⟩)) h)
    (H4 : ∀ bw sa sc G l, GoodRnd r → houseOk r house → HoursOk hrs → readL r.cards house = some l → SlV G 3 eCard sa l → l.length ≤ sc → R (.returned (.tuple ⟨[.pointer (some ⟨bw, 0, none⟩), I 0]⟩)) (G ++ (bw, .cells ⟨eDial (dialAt r.dials house) ++ [.slice sa l.length sc]⟩ 74) :: h)) :
    ACalls Tryd.prog 32 ⟨[.agg ⟨eRnd r⟩, I house, .slice ah hrs.length ch]⟩ h R := by
  refine calls_of_xc (N := 80) Tryd.func32 rfl (by rfl) ?_
  have hs1 := hs.dials
  have hs2 := hs.cards
  refine xc_seq (xc_region ?_)
  refine xr_op rfl rfl (xv_box rfl (fun b3 hb3 => ?_))
  refine xr_op rfl rfl (xv_alloc ty67 (fun b6 hb6 => ?_))
  refine xr_op rfl rfl (xv_assign rfl ?_)
  refine xr_end rfl ?_
  refine th_n ?_
  refine xc_seq ?_
  refine xc_block ?_
  refine xc_seq (xc_region ?_)
  refine xr_op rfl rfl (xv_loadA ty25 rfl rfl (by ((repeat first|exact z_0|assumption|refine z_1 ?_|(refine z_l ?_;(repeat first|exact z_0|assumption|refine z_1 ?_);done)|refine z_r ?_);done)) (by ((try apply evl_some rfl);(repeat (first|exact (rfl : _ = [])|apply evl_cons rfl (by (first|exact v_1|exact v_2|exact v_3|exact v_4|exact v_5|exact v_6|exact v_7|exact v_8|exact v_9|exact rfl))|exact rfl)))) (by rfl) ?_)
  refine xr_op rfl rfl (xv_calls rfl hb40 (isRound_c (hv.sub (by intro z hz; ((repeat first|exact z_0|assumption|refine z_1 ?_|(refine z_l ?_;(repeat first|exact z_0|assumption|refine z_1 ?_);done)|refine z_r ?_);done))) hs (hT.sub (by intro z hz; ((repeat first|exact z_0|assumption|refine z_1 ?_|(refine z_l ?_;(repeat first|exact z_0|assumption|refine z_1 ?_);done)|refine z_r ?_);done))) (fun hgood => up_ret ?_) (fun hgood => up_ret ?_)))
  · refine xr_op rfl rfl (xv_not rfl ?_)
    refine xr_op rfl rfl (xv_assign rfl ?_)
    refine xr_end rfl ?_
    refine th_n ?_
    refine xc_false rfl ?_
    refine xc_seq (xc_region ?_)
    refine xr_op rfl rfl (xv_move rfl ?_)
    refine xr_op rfl rfl (xv_faddr fl25_0 rfl ?_)
    refine xr_op rfl rfl (xv_load1 ty22 rfl rfl (by ((repeat first|exact z_0|assumption|refine z_1 ?_|(refine z_l ?_;(repeat first|exact z_0|assumption|refine z_1 ?_);done)|refine z_r ?_);done)) (by rfl) ?_)
    refine xr_op rfl rfl (xv_len sl22 rfl ?_)
    refine xr_op rfl rfl (xv_sub rfl rfl (wrap_i64 (by (first | omega | (dsimp only at *; omega) | (simp at *; omega))) (by (first | omega | (dsimp only at *; omega) | (simp at *; omega)))) ?_)
    refine xr_op rfl rfl (xv_calls rfl hb41 (within_c _ _ _ (fun hl1 hu2 => up_ret ?_) (fun hn3 => up_ret ?_)))
    · refine xr_op rfl rfl (xv_not rfl ?_)
      refine xr_op rfl rfl (xv_move rfl ?_)
      refine xr_gd rfl rfl rfl (xv_move rfl ?_)
      refine xr_gd rfl rfl rfl (xv_calls rfl hb42 (containsInt_c (p := fun x => nay (hourOk x)) (hh.sub (by intro z hz; ((repeat first|exact z_0|assumption|refine z_1 ?_|(refine z_l ?_;(repeat first|exact z_0|assumption|refine z_1 ?_);done)|refine z_r ?_);done))) (by omega) (fun x _ R2 h2 => afn_func (fi := []) (lb := []) hb43 (noHour_c x h2)) (fun hx hhx hhb => up_ret ?_) (fun hha => up_ret ?_)))
      · refine xr_op rfl rfl (xv_pick rfl rfl ?_)
        refine xr_op rfl rfl (xv_assign rfl ?_)
        refine xr_end rfl ?_
        refine th_n ?_
        refine xc_true rfl ?_
        refine xc_seq (xc_region ?_)
        refine xr_op rfl rfl (xv_s1 ty67 rfl rfl rfl (by (first|(apply u_3;(repeat first|exact u_0|assumption|apply u_1|apply u_2);done)|((repeat first|exact u_0|assumption|apply u_1|apply u_2);done)|(apply u_3;apply u_3;(repeat first|exact u_0|assumption|apply u_1|apply u_2);done)|((repeat first|exact u_0|assumption|apply u_3|apply u_1);done))) (by (first | rfl | exact Vec.one _ _)) (by (first | decide | exact Nat.le_of_ble_eq_true rfl | (simp only [List.length_cons, List.length_nil]; omega) | (simp; done))) (by ((try apply evl_some rfl);(repeat (first|exact (rfl : _ = [])|apply evl_cons rfl (by (first|exact v_1|exact v_2|exact v_3|exact v_4|exact v_5|exact v_6|exact v_7|exact v_8|exact v_9|exact rfl))|exact rfl)))) ?_)
        refine xr_op rfl rfl (xv_assign rfl ?_)
        refine xr_end rfl ?_
        refine th_n ?_
        refine xc_ret ?_
        refine bk_r ?_
        refine th_r ?_
        refine body_ret (h' := h) rfl (ro_cell ty67 rfl rfl (by ((repeat first|exact z_0|assumption|refine z_1 ?_|(refine z_l ?_;(repeat first|exact z_0|assumption|refine z_1 ?_);done)|refine z_r ?_);done)) (by rfl) (ro_tmp rfl ro_nil)) (by (first|((repeat first|exact s_0|exact s_1|exact s_3|refine s_4 ?_|refine s_5 ?_|refine s_6 ?_|refine s_7 ?_);done)|((repeat first|exact s_0|exact s_1|exact s_3|refine s_4 ?_|refine s_5 ?_|refine s_6 ?_|refine s_8 ?_);done))) ?_
        first | exact H1 hgood | exact H2 hgood (fun hq9 => by have := hq9.1.1; have := hq9.1.2; omega) | exact H2 hgood (fun hq9 => of_nay_T hhb (hq9.2 _ hhx)) | exact H3 hgood ⟨by omega, by omega⟩ (fun x hx => of_nay_F (hha x hx)) (perm_clash hpm (by omega) hkp hkq (by (first | omega | (dsimp only at *; omega) | (simp at *; omega)))) | exact H4 bw sa sc _ ys hgood ⟨by omega, by omega⟩ (fun x hx => of_nay_F (hha x hx)) (perm_read hpm (by (first | omega | (dsimp only at *; omega) | (simp at *; omega))) hri) hsl hsc
      · refine xr_op rfl rfl (xv_pick rfl rfl ?_)
        refine xr_op rfl rfl (xv_assign rfl ?_)
        refine xr_end rfl ?_
        refine th_n ?_
        refine xc_false rfl ?_
        refine xc_skip ?_
        refine bk_n ?_
        refine th_n ?_
        refine xc_seq (xc_region ?_)
        refine xr_op rfl rfl (xv_faddr fl25_0 rfl ?_)
        refine xr_op rfl rfl (xv_load1 ty22 rfl rfl (by ((repeat first|exact z_0|assumption|refine z_1 ?_|(refine z_l ?_;(repeat first|exact z_0|assumption|refine z_1 ?_);done)|refine z_r ?_);done)) (by rfl) ?_)
        have hltd : house.toNat < r.dials.length := by (first | omega | (dsimp only at *; omega) | (simp at *; omega))
        obtain ⟨bd, od, ld, td, fzd, had, hmd, hxd⟩ := (hv.dials).at hltd
        obtain ⟨xd, hkd⟩ : ∃ qq_, r.dials[house.toNat]? = some qq_ := ⟨_, List.getElem?_eq_getElem hltd⟩
        have hda : dialAt r.dials house = xd := by unfold dialAt; rw [hkd]; rfl
        refine xr_op rfl rfl (xv_move rfl ?_)
        refine xr_op rfl rfl (xv_ia (sz := 4) (j := house.toNat) sl22 ty45 rfl (by rw [had]; rfl) rfl rfl (by (first | omega | (dsimp only at *; omega) | (simp at *; omega))) (by (first | omega | (dsimp only at *; omega) | (simp at *; omega))) ?_)
        refine xr_op rfl rfl (xv_loadA ty45 rfl rfl (by ((repeat first|exact z_0|assumption|refine z_1 ?_|(refine z_l ?_;(repeat first|exact z_0|assumption|refine z_1 ?_);done)|refine z_r ?_);done)) (hxd (house.toNat) xd hkd) rfl ?_)
        subst hda
        refine xr_op rfl rfl (xv_build bt74 rfl (by ((try apply evl_some rfl);(repeat (first|exact (rfl : _ = [])|apply evl_cons rfl (by (first|exact v_1|exact v_2|exact v_3|exact v_4|exact v_5|exact v_6|exact v_7|exact v_8|exact v_9|exact rfl))|exact rfl)))) ?_)
        refine xr_op rfl rfl (xv_box rfl (fun bw hbw => ?_))
        refine xr_op rfl rfl (xv_s1 ty67 rfl rfl rfl (by (first|(apply u_3;(repeat first|exact u_0|assumption|apply u_1|apply u_2);done)|((repeat first|exact u_0|assumption|apply u_1|apply u_2);done)|(apply u_3;apply u_3;(repeat first|exact u_0|assumption|apply u_1|apply u_2);done)|((repeat first|exact u_0|assumption|apply u_3|apply u_1);done))) (by (first | rfl | exact Vec.one _ _)) (by (first | decide | exact Nat.le_of_ble_eq_true rfl | (simp only [List.length_cons, List.length_nil]; omega) | (simp; done))) (by ((try apply evl_some rfl);(repeat (first|exact (rfl : _ = [])|apply evl_cons rfl (by (first|exact v_1|exact v_2|exact v_3|exact v_4|exact v_5|exact v_6|exact v_7|exact v_8|exact v_9|exact rfl))|exact rfl)))) ?_)
        refine xr_end rfl ?_
        refine th_n ?_
        refine xc_seq ?_
        refine xc_seq (xc_region ?_)
        refine xr_op rfl rfl (xv_faddr fl25_1 rfl ?_)
        refine xr_op rfl rfl (xv_load1 ty23 rfl rfl (by ((repeat first|exact z_0|assumption|refine z_1 ?_|(refine z_l ?_;(repeat first|exact z_0|assumption|refine z_1 ?_);done)|refine z_r ?_);done)) (by rfl) ?_)
        refine xr_op rfl rfl (xv_move rfl ?_)
        refine xr_op rfl rfl (xv_calls rfl hb45 (of_c (fun bl bh => up_ret ?_)))
        refine xr_end rfl ?_
        refine th_n ?_
        refine xc_block ?_
        have hol := once_len r.cards house
        refine xc_range2 (γ := Vec) (fun x => [.agg ⟨eCard x⟩]) (onceL r.cards house) ((bh, .cells ⟨[I house]⟩ 3) :: (bl, .cells ⟨[.slice r.ca r.cards.length r.cc]⟩ 23) :: h) rfl hb55 (ofIt (core := ((bh, .cells ⟨[I house]⟩ 3) :: (bl, .cells ⟨[.slice r.ca r.cards.length r.cc]⟩ 23) :: h)) (by ((repeat first|exact z_0|assumption|refine z_1 ?_|(refine z_l ?_;(repeat first|exact z_0|assumption|refine z_1 ?_);done)|refine z_r ?_);done)) (by ((repeat first|exact z_0|assumption|refine z_1 ?_|(refine z_l ?_;(repeat first|exact z_0|assumption|refine z_1 ?_);done)|refine z_r ?_);done)) (hv.cards.sub (by intro z hz; ((repeat first|exact z_0|assumption|refine z_1 ?_|(refine z_l ?_;(repeat first|exact z_0|assumption|refine z_1 ?_);done)|refine z_r ?_);done))) (by omega)) (fun x => rfl) (by decide) (emp.put (some 6) (.pointer (some ⟨b6, 0, none⟩))) (fun k g => g.ok 3 ((onceL r.cards house).take k).length (((onceL r.cards house).take k).flatMap eCard)) (fun k g => (g.hp 78 (((onceL r.cards house).take k).flatMap eCard) ++ (bh, .cells ⟨[I house]⟩ 3) :: (bl, .cells ⟨[.slice r.ca r.cards.length r.cc]⟩ 23) :: (bw, .cells ⟨eDial (dialAt r.dials house) ++ [g.val ((onceL r.cards house).take k).length]⟩ 74) :: (b6, .cells ⟨[.pointer (some ⟨bw, 0, none⟩)]⟩ 67) :: (b3, .cells ⟨eRnd r⟩ 25) :: h)) (fun _ _ _ => False) .nil (mon_bk (mon_th)) (le_put (le_emp _) rfl) ⟨rfl, rfl⟩ (by (first|((repeat first|exact s_0|exact s_1|exact s_3|refine s_4 ?_|refine s_5 ?_|refine s_6 ?_|refine s_7 ?_);done)|((repeat first|exact s_0|exact s_1|exact s_3|refine s_4 ?_|refine s_5 ?_|refine s_6 ?_|refine s_8 ?_);done))) (fun k g z hz => by simp only [List.mem_cons, List.mem_append] at hz ⊢; rcases hz with hz | hz | hz <;> simp [hz]) ?_ (fun _ _ _ _ _ hf _ => hf.elim) ?_
        · intro ll k x V2 hkx hV2
          have hkl := (List.getElem?_eq_some_iff.1 hkx).1
          have hxl : ((onceL r.cards house).take k).length = k := by rw [List.length_take]; omega
          refine xc_region ?_
          refine xr_op rfl rfl (xv_alloc ty78 (fun b8 hb8 => ?_))
          refine xr_op rfl rfl (xv_s ty78 rfl rfl (by (first|(apply u_3;(repeat first|exact u_0|assumption|apply u_1|apply u_2);done)|((repeat first|exact u_0|assumption|apply u_1|apply u_2);done)|(apply u_3;apply u_3;(repeat first|exact u_0|assumption|apply u_1|apply u_2);done)|((repeat first|exact u_0|assumption|apply u_3|apply u_1);done))) (by ((try apply evl_some rfl);(repeat (first|exact (rfl : _ = [])|apply evl_cons rfl (by (first|exact v_1|exact v_2|exact v_3|exact v_4|exact v_5|exact v_6|exact v_7|exact v_8|exact v_9|exact rfl))|exact rfl)))) (by rfl) (by rfl) (by rfl) (by ((try apply evl_some rfl);(repeat (first|exact (rfl : _ = [])|apply evl_cons rfl (by (first|exact v_1|exact v_2|exact v_3|exact v_4|exact v_5|exact v_6|exact v_7|exact v_8|exact v_9|exact rfl))|exact rfl)))) ?_)
          refine xr_end rfl ?_
          refine rndA_n ?_
          refine xc_block ?_
          refine xc_drawL (L := [(b6, fun o => o = .cells ⟨[.pointer (some ⟨bw, 0, none⟩)]⟩ 67 (0, 0))]) [(0, .S), (1, .R), (2, .S), (3, .S), (4, .R), (5, .R), (6, .P), (6, .A), (7, .O), (8, .S), (9, .S), (10, .O)] [] _ mixed (by kernel_rfl) (by rw [List.append_nil]) (holds1 (by ((repeat first|exact z_0|assumption|refine z_1 ?_|(refine z_l ?_;(repeat first|exact z_0|assumption|refine z_1 ?_);done)|refine z_r ?_);done)) rfl) ?_
          refine js_I rfl rfl (.inl rfl) (fun hh hv => by obtain ⟨o, hm, rfl⟩ := hv b6 _ List.mem_cons_self; exact xv_load1 ty67 rfl rfl (List.mem_append_left _ hm) rfl ⟨rfl, rfl⟩) ?_
          refine js_R0 rfl rfl (.inl rfl) (xv_load1 ty67 rfl rfl (by ((repeat first|exact z_0|assumption|refine z_1 ?_|(refine z_l ?_;(repeat first|exact z_0|assumption|refine z_1 ?_);done)|refine z_r ?_);done)) (by rfl) ⟨rfl, rfl⟩) ?_
          refine js_S rfl rfl (.inl rfl) (xv_nilp rfl ⟨rfl, rfl⟩) ?_
          refine js_S rfl rfl (.inl rfl) (xv_faddr fl74_1 rfl ⟨rfl, rfl⟩) ?_
          refine js_R0 rfl rfl (.inl rfl) (xv_load1 ty72 rfl rfl (by ((repeat first|exact z_0|assumption|refine z_1 ?_|(refine z_l ?_;(repeat first|exact z_0|assumption|refine z_1 ?_);done)|refine z_r ?_);done)) (by rfl) ⟨rfl, rfl⟩) ?_
          refine js_R0 rfl rfl (.inl rfl) (xv_loadA ty78 rfl rfl (by ((repeat first|exact z_0|assumption|refine z_1 ?_|(refine z_l ?_;(repeat first|exact z_0|assumption|refine z_1 ?_);done)|refine z_r ?_);done)) (by ((try apply evl_some rfl);(repeat (first|exact (rfl : _ = [])|apply evl_cons rfl (by (first|exact v_1|exact v_2|exact v_3|exact v_4|exact v_5|exact v_6|exact v_7|exact v_8|exact v_9|exact rfl))|exact rfl)))) (by rfl) ⟨rfl, rfl⟩) ?_
          refine js_P rfl rfl rfl (al_buildSlice sl72 ty78 rfl rfl rfl rfl rfl (by ((try apply evl_some rfl);(repeat (first|exact (rfl : _ = [])|apply evl_cons rfl (by (first|exact v_1|exact v_2|exact v_3|exact v_4|exact v_5|exact v_6|exact v_7|exact v_8|exact v_9|exact rfl))|exact rfl))))) ?_
          refine js_A0 rfl rfl rfl rfl rfl ⟨rfl, trivial⟩ (fun b44 hb44 => ?_)
          refine js_OL0 rfl rfl (.inl rfl) (xv_append (V := V2) (n := ((onceL r.cards house).take k).length) (xs := ((onceL r.cards house).take k).flatMap eCard) sl72 ty78 rfl rfl rfl hV2 (.there (.there .here)) (by ((repeat first|exact z_0|assumption|refine z_1 ?_|(refine z_l ?_;(repeat first|exact z_0|assumption|refine z_1 ?_);done)|refine z_r ?_);done)) (by ((try apply evl_some rfl);(repeat (first|exact (rfl : _ = [])|apply evl_cons rfl (by (first|exact v_1|exact v_2|exact v_3|exact v_4|exact v_5|exact v_6|exact v_7|exact v_8|exact v_9|exact rfl))|exact rfl)))) rfl rfl (by omega) (by simp only []; omega) (by omega) (fun V3 hV3 => ?_))
          refine ⟨holds1 (by ((repeat first|exact z_0|assumption|refine z_1 ?_|(refine z_l ?_;(repeat first|exact z_0|assumption|refine z_1 ?_);done)|refine z_r ?_);done)) rfl, ?_⟩
          refine js_S rfl rfl (.inl rfl) (xv_nilp rfl ⟨rfl, rfl⟩) ?_
          refine js_S rfl rfl (.inl rfl) (xv_faddr fl74_1 rfl ⟨rfl, rfl⟩) ?_
          refine js_OL0 rfl rfl (.inl rfl) (xv_s1 ty72 rfl rfl rfl (by (first|(apply u_3;(repeat first|exact u_0|assumption|apply u_1|apply u_2);done)|((repeat first|exact u_0|assumption|apply u_1|apply u_2);done)|(apply u_3;apply u_3;(repeat first|exact u_0|assumption|apply u_1|apply u_2);done)|((repeat first|exact u_0|assumption|apply u_3|apply u_1);done))) (by (first | rfl | exact Vec.one _ _)) (by (first | decide | exact Nat.le_of_ble_eq_true rfl | (simp only [List.length_cons, List.length_nil]; omega) | (simp; done))) (by ((try apply evl_some rfl);(repeat (first|exact (rfl : _ = [])|apply evl_cons rfl (by (first|exact v_1|exact v_2|exact v_3|exact v_4|exact v_5|exact v_6|exact v_7|exact v_8|exact v_9|exact rfl))|exact rfl)))) ?_)
          refine ⟨holds1 (by ((repeat first|exact z_0|assumption|refine z_1 ?_|(refine z_l ?_;(repeat first|exact z_0|assumption|refine z_1 ?_);done)|refine z_r ?_);done)) rfl, ?_⟩
          refine j_end0 ?_
          refine bk_n ?_
          have ext : (onceL r.cards house).take (k + 1) = (onceL r.cards house).take k ++ [x] := by rw [List.take_add_one, hkx]; rfl
          exact rndQ_n V3 (by rw [ext]; simpa [eCard] using hV3) (by rw [ext]; simp only [List.flatMap_append, List.flatMap_cons, List.flatMap_nil, List.append_nil, List.length_append, List.length_singleton]; (first|((repeat first|exact s_0|exact s_1|exact s_3|refine s_4 ?_|refine s_5 ?_|refine s_6 ?_|refine s_7 ?_);done)|((repeat first|exact s_0|exact s_1|exact s_3|refine s_4 ?_|refine s_5 ?_|refine s_6 ?_|refine s_8 ?_);done)))
        · intro kd g hi hkd
          rw [List.take_length]
          rw [List.take_length] at hi hkd
          have hc48 := hgood.c48
          refine bk_n ?_
          refine th_n ?_
          refine xc_seq (xc_region ?_)
          refine xr_op rfl rfl (xv_load1 ty67 rfl rfl (by ((repeat first|exact z_0|assumption|refine z_1 ?_|(refine z_l ?_;(repeat first|exact z_0|assumption|refine z_1 ?_);done)|refine z_r ?_);done)) (by rfl) ?_)
          refine xr_op rfl rfl (xv_nilp rfl ?_)
          refine xr_op rfl rfl (xv_faddr fl74_1 rfl ?_)
          refine xr_op rfl rfl (xv_load1 ty72 rfl rfl (by ((repeat first|exact z_0|assumption|refine z_1 ?_|(refine z_l ?_;(repeat first|exact z_0|assumption|refine z_1 ?_);done)|refine z_r ?_);done)) (by rfl) ?_)
          refine xr_op rfl rfl (xv_calls rfl hb46 (ACalls.framed [_] (sortV_c (V := g) (xs := onceL r.cards house) (cm := cmH) hi (by omega) (fun x y _ _ H R2 _ h2 => afn_func (fi := []) (lb := []) hb47 (cmH_c x y h2)) cmH_swo (fun ys hpm hso hV2 => up_ret ?_))))
          refine xr_end rfl ?_
          refine th_n ?_
          refine xc_seq ?_
          refine xc_seq (xc_region ?_)
          refine xr_op rfl rfl (xv_assign rfl ?_)
          refine xr_end rfl ?_
          refine th_n ?_
          refine xc_block ?_
          have hyl : ys.length = (onceL r.cards house).length := hpm.length_eq
          rw [← hyl]
          obtain ⟨sa, sc, hsv, hsl⟩ := Vec.slv (enc := eCard) (t := 78) (h := g.hp 78 (ys.flatMap eCard)) eCard_len hV2 (fun _ hz => hz)
          have hsc : ys.length ≤ sc := by
            cases g with
            | nil => rw [hV2.2]; exact Nat.zero_le _
            | «at» b cap sp => injection hsv with q1 q2 q3; rw [← q3]; exact hV2.2.1
          rw [hsv]
          have hkd : kd ∉ keys (g.hp 78 (ys.flatMap eCard) ++ (bw, .cells ⟨eDial (dialAt r.dials house) ++ [.slice sa ys.length sc]⟩ 74) :: h) := by
            intro hq9
            apply hkd
            rw [keys_append, hp_keys g 78 78 _ (ys.flatMap eCard)]
            simp only [keys, List.map_cons, List.map_append, List.mem_cons, List.mem_append] at hq9 ⊢
            rcases hq9 with h9 | h9 | h9 <;> simp [h9]
          refine xc_loop (σ := Nat) (fun i => 1 ≤ i ∧ Rise (ys.take i)) (fun i => ((emp.put (some 6) (.pointer (some ⟨b6, 0, none⟩))).put (some 9) (I i))) (fun i => ((kd, .deferred (some [])) :: (g.hp 78 (ys.flatMap eCard) ++ (bh, .cells ⟨[I house]⟩ 3) :: (bl, .cells ⟨[.slice r.ca r.cards.length r.cc]⟩ 23) :: (bw, .cells ⟨eDial (dialAt r.dials house) ++ [.slice sa ys.length sc]⟩ 74) :: (b6, .cells ⟨[.pointer (some ⟨bw, 0, none⟩)]⟩ 67) :: (b3, .cells ⟨eRnd r⟩ 25) :: h))) (fun i => ys.length - i) 1 ⟨Nat.le_refl _, by unfold Rise; rw [List.pairwise_iff_getElem]; intro i j hi9 hj9 hij; rw [List.length_take] at hi9 hj9; omega⟩ (le_put (le_put (le_emp _) rfl) rfl) (by (first|((repeat first|exact s_0|exact s_1|exact s_3|refine s_4 ?_|refine s_5 ?_|refine s_6 ?_|refine s_7 ?_);done)|((repeat first|exact s_0|exact s_1|exact s_3|refine s_4 ?_|refine s_5 ?_|refine s_6 ?_|refine s_8 ?_);done))) ?_
          rintro i ⟨hi1, hri⟩
          refine xc_seq ?_
          refine xc_seq (xc_region ?_)
          refine xr_op rfl rfl (xv_move rfl ?_)
          refine xr_op rfl rfl (xv_load1 ty67 rfl rfl (by ((repeat first|exact z_0|assumption|refine z_1 ?_|(refine z_l ?_;(repeat first|exact z_0|assumption|refine z_1 ?_);done)|refine z_r ?_);done)) (by rfl) ?_)
          refine xr_op rfl rfl (xv_nilp rfl ?_)
          refine xr_op rfl rfl (xv_faddr fl74_1 rfl ?_)
          refine xr_op rfl rfl (xv_load1 ty72 rfl rfl (by ((repeat first|exact z_0|assumption|refine z_1 ?_|(refine z_l ?_;(repeat first|exact z_0|assumption|refine z_1 ?_);done)|refine z_r ?_);done)) (by rfl) ?_)
          refine xr_op rfl rfl (xv_len sl72 rfl ?_)
          refine xr_op rfl rfl (xv_lss2 rfl rfl (fun q5 => ?_) (fun q5 => ?_))
          · refine xr_end rfl ?_
            refine th_n ?_
            refine xc_true rfl ?_
            refine xc_skip ?_
            refine th_n ?_
            refine xc_seq ?_
            refine xc_block ?_
            refine xc_seq ?_
            refine xc_draw0 [(0, .R), (1, .S), (2, .S), (3, .R), (4, .S), (5, .S), (6, .S), (7, .R), (8, .R), (9, .S), (10, .S), (11, .R), (12, .S), (13, .S), (14, .R), (15, .O), (16, .S)] mixed (by kernel_rfl) ?_
            refine js_R0 rfl rfl (.inl rfl) (xv_load1 ty67 rfl rfl (by ((repeat first|exact z_0|assumption|refine z_1 ?_|(refine z_l ?_;(repeat first|exact z_0|assumption|refine z_1 ?_);done)|refine z_r ?_);done)) (by rfl) ⟨rfl, rfl⟩) ?_
            refine js_S rfl rfl (.inl rfl) (xv_nilp rfl ⟨rfl, rfl⟩) ?_
            refine js_S rfl rfl (.inl rfl) (xv_faddr fl74_1 rfl ⟨rfl, rfl⟩) ?_
            refine js_R0 rfl rfl (.inl rfl) (xv_load1 ty72 rfl rfl (by ((repeat first|exact z_0|assumption|refine z_1 ?_|(refine z_l ?_;(repeat first|exact z_0|assumption|refine z_1 ?_);done)|refine z_r ?_);done)) (by rfl) ⟨rfl, rfl⟩) ?_
            refine js_S rfl rfl (.inl rfl) (xv_move rfl ⟨rfl, rfl⟩) ?_
            refine js_S rfl rfl (.inl rfl) (xv_sub rfl rfl (wrap_i64 (by (first | omega | (dsimp only at *; omega) | (simp at *; omega))) (by (first | omega | (dsimp only at *; omega) | (simp at *; omega)))) ⟨rfl, rfl⟩) ?_
            have hltp : (i - 1) < ys.length := by (first | omega | (dsimp only at *; omega) | (simp at *; omega))
            obtain ⟨bp, op, lp, tp, fzp, hap, hmp, hxp⟩ := (hsl).at hltp
            obtain ⟨xp, hkp⟩ : ∃ qq_, ys[(i - 1)]? = some qq_ := ⟨_, List.getElem?_eq_getElem hltp⟩
            have hltq : i < ys.length := by (first | omega | (dsimp only at *; omega) | (simp at *; omega))
            obtain ⟨bq, oq, lq, tq, fzq, haq, hmq, hxq⟩ := (hsl).at hltq
            obtain ⟨xq, hkq⟩ : ∃ qq_, ys[i]? = some qq_ := ⟨_, List.getElem?_eq_getElem hltq⟩
            refine js_S rfl rfl (.inl rfl) (xv_ia (sz := 3) (j := i - 1) sl72 ty78 rfl (by rw [hap]; rfl) rfl (by (first | omega | (dsimp only at *; omega) | (simp at *; omega))) (by (first | omega | (dsimp only at *; omega) | (simp at *; omega))) (by (first | omega | (dsimp only at *; omega) | (simp at *; omega))) ⟨rfl, rfl⟩) ?_
            refine js_R0 rfl rfl (.inl rfl) (xv_loadA ty78 rfl rfl (by ((repeat first|exact z_0|assumption|refine z_1 ?_|(refine z_l ?_;(repeat first|exact z_0|assumption|refine z_1 ?_);done)|refine z_r ?_);done)) (hxp (i - 1) xp hkp) rfl ⟨rfl, rfl⟩) ?_
            refine js_R0 rfl rfl (.inl rfl) (xv_load1 ty67 rfl rfl (by ((repeat first|exact z_0|assumption|refine z_1 ?_|(refine z_l ?_;(repeat first|exact z_0|assumption|refine z_1 ?_);done)|refine z_r ?_);done)) (by rfl) ⟨rfl, rfl⟩) ?_
            refine js_S rfl rfl (.inl rfl) (xv_nilp rfl ⟨rfl, rfl⟩) ?_
            refine js_S rfl rfl (.inl rfl) (xv_faddr fl74_1 rfl ⟨rfl, rfl⟩) ?_
            refine js_R0 rfl rfl (.inl rfl) (xv_load1 ty72 rfl rfl (by ((repeat first|exact z_0|assumption|refine z_1 ?_|(refine z_l ?_;(repeat first|exact z_0|assumption|refine z_1 ?_);done)|refine z_r ?_);done)) (by rfl) ⟨rfl, rfl⟩) ?_
            refine js_S rfl rfl (.inl rfl) (xv_move rfl ⟨rfl, rfl⟩) ?_
            refine js_S rfl rfl (.inl rfl) (xv_ia (sz := 3) sl72 ty78 rfl (by rw [haq]; rfl) rfl (by (first | assumption | with_reducible exact Int.toNat_natCast _ | with_reducible rfl | rfl)) (by (first | omega | (dsimp only at *; omega) | (simp at *; omega))) (by (first | omega | (dsimp only at *; omega) | (simp at *; omega))) ⟨rfl, rfl⟩) ?_
            refine js_R0 rfl rfl (.inl rfl) (xv_loadA ty78 rfl rfl (by ((repeat first|exact z_0|assumption|refine z_1 ?_|(refine z_l ?_;(repeat first|exact z_0|assumption|refine z_1 ?_);done)|refine z_r ?_);done)) (hxq (i) xq hkq) rfl ⟨rfl, rfl⟩) ?_
            refine js_O0 rfl rfl (.inl rfl) (xv_calls rfl hb47 (cmH_c _ _ (up_ret ?_)))
            refine js_S rfl rfl (.inl rfl) (xv_cmp rfl rfl rfl ⟨rfl, rfl⟩) ?_
            refine j_end0 ?_
            refine th_n ?_
            refine xc_bool rfl (fun q6 => ?_) (fun q6 => ?_)
            · refine xc_seq (xc_region ?_)
              refine xr_op rfl rfl (xv_s1 ty67 rfl rfl rfl (by (first|(apply u_3;(repeat first|exact u_0|assumption|apply u_1|apply u_2);done)|((repeat first|exact u_0|assumption|apply u_1|apply u_2);done)|(apply u_3;apply u_3;(repeat first|exact u_0|assumption|apply u_1|apply u_2);done)|((repeat first|exact u_0|assumption|apply u_3|apply u_1);done))) (by (first | rfl | exact Vec.one _ _)) (by (first | decide | exact Nat.le_of_ble_eq_true rfl | (simp only [List.length_cons, List.length_nil]; omega) | (simp; done))) (by ((try apply evl_some rfl);(repeat (first|exact (rfl : _ = [])|apply evl_cons rfl (by (first|exact v_1|exact v_2|exact v_3|exact v_4|exact v_5|exact v_6|exact v_7|exact v_8|exact v_9|exact rfl))|exact rfl)))) ?_)
              refine xr_op rfl rfl (xv_assign rfl ?_)
              refine xr_end rfl ?_
              refine th_n ?_
              refine xc_ret ?_
              refine bk_r ?_
              refine th_r ?_
              refine th_r ?_
              refine bk_r ?_
              refine th_r ?_
              refine body_retM (h' := h) rfl (ro_cell ty67 rfl rfl (by ((repeat first|exact z_0|assumption|refine z_1 ?_|(refine z_l ?_;(repeat first|exact z_0|assumption|refine z_1 ?_);done)|refine z_r ?_);done)) (by rfl) (ro_tmp rfl ro_nil)) (by (first|((repeat first|exact s_0|exact s_1|exact s_3|refine s_4 ?_|refine s_5 ?_|refine s_6 ?_|refine s_7 ?_);done)|((repeat first|exact s_0|exact s_1|exact s_3|refine s_4 ?_|refine s_5 ?_|refine s_6 ?_|refine s_8 ?_);done))) (by ((repeat first|exact z_0|assumption|refine z_1 ?_|(refine z_l ?_;(repeat first|exact z_0|assumption|refine z_1 ?_);done)|refine z_r ?_);done)) (nkeys (by intro z hz; ((repeat first|exact z_0|assumption|refine z_1 ?_|(refine z_l ?_;(repeat first|exact z_0|assumption|refine z_1 ?_);done)|refine z_r ?_);done)) hkd) ?_
              first | exact H1 hgood | exact H2 hgood (fun hq9 => by have := hq9.1.1; have := hq9.1.2; omega) | exact H2 hgood (fun hq9 => of_nay_T hhb (hq9.2 _ hhx)) | exact H3 hgood ⟨by omega, by omega⟩ (fun x hx => of_nay_F (hha x hx)) (perm_clash hpm (by omega) hkp hkq (by (first | omega | (dsimp only at *; omega) | (simp at *; omega)))) | exact H4 bw sa sc _ ys hgood ⟨by omega, by omega⟩ (fun x hx => of_nay_F (hha x hx)) (perm_read hpm (by (first | omega | (dsimp only at *; omega) | (simp at *; omega))) hri) hsl hsc
            · refine xc_skip ?_
              refine bk_n ?_
              refine th_n ?_
              refine xc_region ?_
              refine xr_op rfl rfl (xv_move rfl ?_)
              refine xr_op rfl rfl (xv_add rfl rfl (wrap_i64 (by (first | omega | (dsimp only at *; omega) | (simp at *; omega))) (by (first | omega | (dsimp only at *; omega) | (simp at *; omega)))) ?_)
              refine xr_op rfl rfl (xv_assign rfl ?_)
              refine xr_end rfl ?_
              exact rnd (i + 1) ⟨by omega, rise_step hso (by omega) hkp hkq (by (first | omega | (dsimp only at *; omega) | (simp at *; omega))) hri⟩ (by (first | omega | (dsimp only at *; omega) | (simp at *; omega))) (le_put (le_put (le_emp _) rfl) rfl) (by (first|((repeat first|exact s_0|exact s_1|exact s_3|refine s_4 ?_|refine s_5 ?_|refine s_6 ?_|refine s_7 ?_);done)|((repeat first|exact s_0|exact s_1|exact s_3|refine s_4 ?_|refine s_5 ?_|refine s_6 ?_|refine s_8 ?_);done)))
          · refine xr_end rfl ?_
            refine th_n ?_
            refine xc_false rfl ?_
            refine xc_exit ?_
            refine th_x ?_
            refine th_x ?_
            refine bk_same ?_
            refine th_n ?_
            refine xc_seq (xc_region ?_)
            refine xr_op rfl rfl (xv_load1 ty67 rfl rfl (by ((repeat first|exact z_0|assumption|refine z_1 ?_|(refine z_l ?_;(repeat first|exact z_0|assumption|refine z_1 ?_);done)|refine z_r ?_);done)) (by rfl) ?_)
            refine xr_op rfl rfl (xv_s1 ty67 rfl rfl rfl (by (first|(apply u_3;(repeat first|exact u_0|assumption|apply u_1|apply u_2);done)|((repeat first|exact u_0|assumption|apply u_1|apply u_2);done)|(apply u_3;apply u_3;(repeat first|exact u_0|assumption|apply u_1|apply u_2);done)|((repeat first|exact u_0|assumption|apply u_3|apply u_1);done))) (by (first | rfl | exact Vec.one _ _)) (by (first | decide | exact Nat.le_of_ble_eq_true rfl | (simp only [List.length_cons, List.length_nil]; omega) | (simp; done))) (by ((try apply evl_some rfl);(repeat (first|exact (rfl : _ = [])|apply evl_cons rfl (by (first|exact v_1|exact v_2|exact v_3|exact v_4|exact v_5|exact v_6|exact v_7|exact v_8|exact v_9|exact rfl))|exact rfl)))) ?_)
            refine xr_op rfl rfl (xv_assign rfl ?_)
            refine xr_end rfl ?_
            refine th_n ?_
            refine xc_ret ?_
            refine body_retM (h' := (g.hp 78 (ys.flatMap eCard) ++ (bw, .cells ⟨eDial (dialAt r.dials house) ++ [.slice sa ys.length sc]⟩ 74) :: h)) rfl (ro_cell ty67 rfl rfl (by ((repeat first|exact z_0|assumption|refine z_1 ?_|(refine z_l ?_;(repeat first|exact z_0|assumption|refine z_1 ?_);done)|refine z_r ?_);done)) (by rfl) (ro_tmp rfl ro_nil)) (by (first|((repeat first|exact s_0|exact s_1|exact s_3|refine s_4 ?_|refine s_5 ?_|refine s_6 ?_|refine s_7 ?_);done)|((repeat first|exact s_0|exact s_1|exact s_3|refine s_4 ?_|refine s_5 ?_|refine s_6 ?_|refine s_8 ?_);done))) (by ((repeat first|exact z_0|assumption|refine z_1 ?_|(refine z_l ?_;(repeat first|exact z_0|assumption|refine z_1 ?_);done)|refine z_r ?_);done)) (nkeys (by intro z hz; ((repeat first|exact z_0|assumption|refine z_1 ?_|(refine z_l ?_;(repeat first|exact z_0|assumption|refine z_1 ?_);done)|refine z_r ?_);done)) hkd) ?_
            first | exact H1 hgood | exact H2 hgood (fun hq9 => by have := hq9.1.1; have := hq9.1.2; omega) | exact H2 hgood (fun hq9 => of_nay_T hhb (hq9.2 _ hhx)) | exact H3 hgood ⟨by omega, by omega⟩ (fun x hx => of_nay_F (hha x hx)) (perm_clash hpm (by omega) hkp hkq (by (first | omega | (dsimp only at *; omega) | (simp at *; omega)))) | exact H4 bw sa sc _ ys hgood ⟨by omega, by omega⟩ (fun x hx => of_nay_F (hha x hx)) (perm_read hpm (by (first | omega | (dsimp only at *; omega) | (simp at *; omega))) hri) hsl hsc
    · refine xr_op rfl rfl (xv_not rfl ?_)
      refine xr_op rfl rfl (xv_move rfl ?_)
      refine xr_no rfl rfl rfl rfl ?_
      refine xr_no rfl rfl rfl rfl ?_
      refine xr_op rfl rfl (xv_pick rfl rfl ?_)
      refine xr_op rfl rfl (xv_assign rfl ?_)
      refine xr_end rfl ?_
      refine th_n ?_
      refine xc_true rfl ?_
      refine xc_seq (xc_region ?_)
      refine xr_op rfl rfl (xv_s1 ty67 rfl rfl rfl (by (first|(apply u_3;(repeat first|exact u_0|assumption|apply u_1|apply u_2);done)|((repeat first|exact u_0|assumption|apply u_1|apply u_2);done)|(apply u_3;apply u_3;(repeat first|exact u_0|assumption|apply u_1|apply u_2);done)|((repeat first|exact u_0|assumption|apply u_3|apply u_1);done))) (by (first | rfl | exact Vec.one _ _)) (by (first | decide | exact Nat.le_of_ble_eq_true rfl | (simp only [List.length_cons, List.length_nil]; omega) | (simp; done))) (by ((try apply evl_some rfl);(repeat (first|exact (rfl : _ = [])|apply evl_cons rfl (by (first|exact v_1|exact v_2|exact v_3|exact v_4|exact v_5|exact v_6|exact v_7|exact v_8|exact v_9|exact rfl))|exact rfl)))) ?_)
      refine xr_op rfl rfl (xv_assign rfl ?_)
      refine xr_end rfl ?_
      refine th_n ?_
      refine xc_ret ?_
      refine bk_r ?_
      refine th_r ?_
      refine body_ret (h' := h) rfl (ro_cell ty67 rfl rfl (by ((repeat first|exact z_0|assumption|refine z_1 ?_|(refine z_l ?_;(repeat first|exact z_0|assumption|refine z_1 ?_);done)|refine z_r ?_);done)) (by rfl) (ro_tmp rfl ro_nil)) (by (first|((repeat first|exact s_0|exact s_1|exact s_3|refine s_4 ?_|refine s_5 ?_|refine s_6 ?_|refine s_7 ?_);done)|((repeat first|exact s_0|exact s_1|exact s_3|refine s_4 ?_|refine s_5 ?_|refine s_6 ?_|refine s_8 ?_);done))) ?_
      first | exact H1 hgood | exact H2 hgood (fun hq9 => by have := hq9.1.1; have := hq9.1.2; omega) | exact H2 hgood (fun hq9 => of_nay_T hhb (hq9.2 _ hhx)) | exact H3 hgood ⟨by omega, by omega⟩ (fun x hx => of_nay_F (hha x hx)) (perm_clash hpm (by omega) hkp hkq (by (first | omega | (dsimp only at *; omega) | (simp at *; omega)))) | exact H4 bw sa sc _ ys hgood ⟨by omega, by omega⟩ (fun x hx => of_nay_F (hha x hx)) (perm_read hpm (by (first | omega | (dsimp only at *; omega) | (simp at *; omega))) hri) hsl hsc
  · refine xr_op rfl rfl (xv_not rfl ?_)
    refine xr_op rfl rfl (xv_assign rfl ?_)
    refine xr_end rfl ?_
    refine th_n ?_
    refine xc_true rfl ?_
    refine xc_seq (xc_region ?_)
    refine xr_op rfl rfl (xv_s1 ty67 rfl rfl rfl (by (first|(apply u_3;(repeat first|exact u_0|assumption|apply u_1|apply u_2);done)|((repeat first|exact u_0|assumption|apply u_1|apply u_2);done)|(apply u_3;apply u_3;(repeat first|exact u_0|assumption|apply u_1|apply u_2);done)|((repeat first|exact u_0|assumption|apply u_3|apply u_1);done))) (by (first | rfl | exact Vec.one _ _)) (by (first | decide | exact Nat.le_of_ble_eq_true rfl | (simp only [List.length_cons, List.length_nil]; omega) | (simp; done))) (by ((try apply evl_some rfl);(repeat (first|exact (rfl : _ = [])|apply evl_cons rfl (by (first|exact v_1|exact v_2|exact v_3|exact v_4|exact v_5|exact v_6|exact v_7|exact v_8|exact v_9|exact rfl))|exact rfl)))) ?_)
    refine xr_op rfl rfl (xv_assign rfl ?_)
    refine xr_end rfl ?_
    refine th_n ?_
    refine xc_ret ?_
    refine bk_r ?_
    refine th_r ?_
    refine body_ret (h' := h) rfl (ro_cell ty67 rfl rfl (by ((repeat first|exact z_0|assumption|refine z_1 ?_|(refine z_l ?_;(repeat first|exact z_0|assumption|refine z_1 ?_);done)|refine z_r ?_);done)) (by rfl) (ro_tmp rfl ro_nil)) (by (first|((repeat first|exact s_0|exact s_1|exact s_3|refine s_4 ?_|refine s_5 ?_|refine s_6 ?_|refine s_7 ?_);done)|((repeat first|exact s_0|exact s_1|exact s_3|refine s_4 ?_|refine s_5 ?_|refine s_6 ?_|refine s_8 ?_);done))) ?_
    first | exact H1 hgood | exact H2 hgood (fun hq9 => by have := hq9.1.1; have := hq9.1.2; omega) | exact H2 hgood (fun hq9 => of_nay_T hhb (hq9.2 _ hhx)) | exact H3 hgood ⟨by omega, by omega⟩ (fun x hx => of_nay_F (hha x hx)) (perm_clash hpm (by omega) hkp hkq (by (first | omega | (dsimp only at *; omega) | (simp at *; omega)))) | exact H4 bw sa sc _ ys hgood ⟨by omega, by omega⟩ (fun x hx => of_nay_F (hha x hx)) (perm_read hpm (by (first | omega | (dsimp only at *; omega) | (simp at *; omega))) hri) hsl hsc

end Go.Proofs.YtckaaaebegemoaaDoor
