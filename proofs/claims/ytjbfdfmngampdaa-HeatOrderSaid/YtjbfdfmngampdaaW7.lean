/-
  Walks.
-/
import Derived.Test.YtjbfdfmngampdaaW5
import Derived.Test.YtjbfdfmngampdaaW18
namespace Go.Proofs.Ytjbfdfmngampdaa
open Go Go.H
set_option maxRecDepth 100000
set_option maxHeartbeats 8000000
set_option linter.all false
theorem indexNil_c {f : Value} {h : Hp} {R : Ending → Hp → Prop} (H : R (.returned (I (-1))) h) : ACalls Try.prog 65 ⟨[.slice none 0 0, f]⟩ h R :=
  indexTestF_c (xs := []) (p := fun _ => false) (a := none) (c := 0) (.inl rfl) (by decide) (fun x hx => by cases hx) (fun k x hk => by simp at hk) (fun _ => H)

theorem del0_c {f : Value} {L : Hp} {R : Ending → Hp → Prop} (H : R (.returned (.slice none 0 0)) L) : ACalls Try.prog 52 ⟨[.slice none 0 0, f]⟩ L R := by
  refine calls_of_xc (N := 42) Try.func52 rfl (by rfl) ?_
  refine xc_seq (xc_region ?_)
  refine xr_op rfl rfl (xv_assign rfl ?_)
  refine xr_end rfl ?_
  refine th_n ?_
  refine xc_seq (xc_region ?_)
  refine xr_op rfl rfl (xv_move rfl ?_)
  refine xr_op rfl rfl (xv_move rfl ?_)
  refine xr_op rfl rfl (xv_calls rfl hb65 (indexNil_c (up_ret ?_)))
  refine xr_op rfl rfl (xv_assign rfl ?_)
  refine xr_end rfl ?_
  refine th_n ?_
  refine xc_seq ?_
  refine xc_seq (xc_region ?_)
  refine xr_op rfl rfl (xv_move rfl ?_)
  refine xr_op rfl rfl (xv_eqlT rfl rfl rfl ?_)
  refine xr_end rfl ?_
  refine th_n ?_
  refine xc_true rfl ?_
  refine xc_seq (xc_region ?_)
  refine xr_op rfl rfl (xv_move rfl ?_)
  refine xr_op rfl rfl (xv_assign rfl ?_)
  refine xr_end rfl ?_
  refine th_n ?_
  refine xc_ret ?_
  refine th_r ?_
  refine body_ret (h' := L) rfl (ro_tmp rfl ro_nil) (by (first|((repeat first|exact s_0|exact s_1|exact s_3|refine s_4 ?_|refine s_5 ?_|refine s_6 ?_|refine s_7 ?_);done)|((repeat first|exact s_0|exact s_1|exact s_3|refine s_4 ?_|refine s_5 ?_|refine s_6 ?_|refine s_8 ?_);done))) ?_
  exact H

theorem delV_c {V : Vec} {xs : List Test} {p : Test → Bool} {f : Value} {L : Hp} {R : Ending → Hp → Prop} (hV : V.ok 4 xs.length (xs.flatMap eTest)) (hlen : xs.length ≤ 1000)
    (hf : ∀ x ∈ xs, ∀ H R', L ⊆ H → R' (.returned (.bool (p x))) H → AFn Try.prog f [.agg ⟨eTest x⟩] H R')
    (H : ∀ W : Vec, W.ok 4 (keepL p xs).length ((keepL p xs).flatMap eTest) → R (.returned (W.val (keepL p xs).length)) (W.hp 55 ((keepL p xs).flatMap eTest) ++ L)) :
    ACalls Try.prog 52 ⟨[V.val xs.length, f]⟩ (V.hp 55 (xs.flatMap eTest) ++ L) R := by
  cases V with
  | nil =>
    have hx : xs = [] := List.length_eq_zero_iff.1 hV.2
    subst hx
    exact del0_c (H .nil ⟨rfl, rfl⟩)
  | «at» b cap sp =>
    obtain ⟨h1, h2, h3⟩ := hV
    have hk := keep_len p xs
    rw [List.length_append, flat_lenM eTest_len] at h3
    exact delT_c hlen h2 hf fun sp2 hs => H (.at b cap sp2) ⟨flat_lenM eTest_len _, by omega, by rw [List.length_append, flat_lenM eTest_len]; omega⟩

theorem Missed_c {l : List Test} {a : Option Addr} {c : Nat} {st p : Int} {own : Span} {h : Hp} {R : Ending → Hp → Prop} (hl : SlV h 4 eTest a l) (hlen : l.length ≤ 1000) (H : ∀ x, MissR l st p own x → R (.returned (.tuple ⟨[I x.1, I x.2.1, I x.2.2]⟩)) h) :
    ACalls Try.prog 20 ⟨[.slice a l.length c, I st, I p, .agg ⟨eSpan own⟩]⟩ h R := by
  refine calls_of_xc (N := 92) Try.func20 rfl (by rfl) ?_
  refine xc_seq (xc_region ?_)
  refine xr_op rfl rfl (xv_box rfl (fun b7 hb7 => ?_))
  refine xr_op rfl rfl (xv_assign rfl ?_)
  refine xr_op rfl rfl (xv_assign rfl ?_)
  refine xr_op rfl rfl (xv_assign rfl ?_)
  refine xr_end rfl ?_
  refine th_n ?_
  refine xc_seq (xc_region ?_)
  refine xr_op rfl rfl (xv_move rfl ?_)
  refine xr_op rfl rfl (xv_calls rfl hb51 (errT_c (hl.sub (by intro z hz; ((repeat first|exact z_0|assumption|refine z_1 ?_|(refine z_l ?_;(repeat first|exact z_0|assumption|refine z_1 ?_);done)|refine z_r ?_);done))) hlen (up_ret ?_)))
  refine xr_op rfl rfl (xv_assign rfl ?_)
  refine xr_end rfl ?_
  refine th_n ?_
  refine xc_seq ?_
  refine xc_block ?_
  refine xc_seq (xc_region ?_)
  refine xr_op rfl rfl (xv_move rfl ?_)
  refine xr_op rfl rfl (xv_neq2 rfl rfl (fun q1 => ?_) (fun q1 => ?_))
  · refine xr_op rfl rfl (xv_assign rfl ?_)
    refine xr_end rfl ?_
    refine th_n ?_
    refine xc_true rfl ?_
    refine xc_seq (xc_region ?_)
    refine xr_op rfl rfl (xv_move rfl ?_)
    refine xr_op rfl rfl (xv_assign rfl ?_)
    refine xr_op rfl rfl (xv_assign rfl ?_)
    refine xr_op rfl rfl (xv_assign rfl ?_)
    refine xr_end rfl ?_
    refine th_n ?_
    refine xc_ret ?_
    refine bk_r ?_
    refine th_r ?_
    refine body_ret (h' := h) rfl (ro_tmp rfl (ro_tmp rfl (ro_tmp rfl ro_nil))) (by (first|((repeat first|exact s_0|exact s_1|exact s_3|refine s_4 ?_|refine s_5 ?_|refine s_6 ?_|refine s_7 ?_);done)|((repeat first|exact s_0|exact s_1|exact s_3|refine s_4 ?_|refine s_5 ?_|refine s_6 ?_|refine s_8 ?_);done))) ?_
    first | (exact H (0, 0, errT l) (.inl ⟨by omega, rfl⟩)) | (exact H (0, 0, 2) (.inr (.inl ⟨by omega, fun hb9 => by obtain ⟨a1, a2, a3, a4, a5, a6, a7⟩ := hb9; first | omega | exact ho ⟨by omega, by omega⟩, rfl⟩))) | (have e9 : (s : Int) = st := (by (first | omega | (dsimp only at *; omega) | (simp at *; omega))); rw [e9] at hM; exact H (0, 0, 4) (hM.none he0 hB (by (first | omega | (dsimp only at *; omega) | (simp at *; omega))))) | (have e9 : (s : Int) = st := (by (first | omega | (dsimp only at *; omega) | (simp at *; omega))); rw [e9] at hM; exact H (hour, sta, 0) (hM.some he0 hB (by (first | omega | (dsimp only at *; omega) | (simp at *; omega)))))
  · refine xr_op rfl rfl (xv_assign rfl ?_)
    refine xr_end rfl ?_
    refine th_n ?_
    refine xc_false rfl ?_
    refine xc_seq (xc_region ?_)
    refine xr_op rfl rfl (xv_move rfl ?_)
    refine xr_op rfl rfl (xv_calls rfl hb35 (within_c _ _ _ (fun hl2 hu3 => up_ret ?_) (fun hn4 => up_ret ?_)))
    · refine xr_op rfl rfl (xv_not rfl ?_)
      refine xr_op rfl rfl (xv_move rfl ?_)
      refine xr_gd rfl rfl rfl (xv_move rfl ?_)
      refine xr_gd rfl rfl rfl (xv_calls rfl hb35 (within_c _ _ _ (fun hl5 hu6 => up_ret ?_) (fun hn7 => up_ret ?_)))
      · refine xr_gd rfl rfl rfl (xv_not rfl ?_)
        refine xr_op rfl rfl (xv_pick rfl rfl ?_)
        refine xr_op rfl rfl (xv_move rfl ?_)
        refine xr_gd rfl rfl rfl (xv_faddr fl26_1 rfl ?_)
        refine xr_gd rfl rfl rfl (xv_load1 ty3 rfl rfl (by ((repeat first|exact z_0|assumption|refine z_1 ?_|(refine z_l ?_;(repeat first|exact z_0|assumption|refine z_1 ?_);done)|refine z_r ?_);done)) (by rfl) ?_)
        refine xr_gd rfl rfl rfl (xv_calls rfl hb41 (isHour_c (fun ho => up_ret ?_) (fun ho => up_ret ?_)))
        · refine xr_gd rfl rfl rfl (xv_not rfl ?_)
          refine xr_op rfl rfl (xv_pick rfl rfl ?_)
          refine xr_op rfl rfl (xv_move rfl ?_)
          refine xr_gd rfl rfl rfl (xv_faddr fl26_0 rfl ?_)
          refine xr_gd rfl rfl rfl (xv_load1 ty3 rfl rfl (by ((repeat first|exact z_0|assumption|refine z_1 ?_|(refine z_l ?_;(repeat first|exact z_0|assumption|refine z_1 ?_);done)|refine z_r ?_);done)) (by rfl) ?_)
          refine xr_gd rfl rfl rfl (xv_faddr fl26_1 rfl ?_)
          refine xr_gd rfl rfl rfl (xv_load1 ty3 rfl rfl (by ((repeat first|exact z_0|assumption|refine z_1 ?_|(refine z_l ?_;(repeat first|exact z_0|assumption|refine z_1 ?_);done)|refine z_r ?_);done)) (by rfl) ?_)
          refine xr_gd rfl rfl rfl (xv_calls rfl hb35 (within_c _ _ _ (fun hl8 hu9 => up_ret ?_) (fun hn10 => up_ret ?_)))
          · refine xr_gd rfl rfl rfl (xv_not rfl ?_)
            refine xr_op rfl rfl (xv_pick rfl rfl ?_)
            refine xr_op rfl rfl (xv_assign rfl ?_)
            refine xr_end rfl ?_
            refine th_n ?_
            refine xc_false rfl ?_
            refine xc_skip ?_
            refine bk_n ?_
            refine th_n ?_
            refine xc_seq (xc_region ?_)
            obtain ⟨hl32, hall⟩ := err_ok (l := l) (by omega)
            have hB : MissB st p own := ⟨by omega, by omega, by omega, by omega, by omega, by omega, ho.2⟩
            obtain ⟨m1, m2, m3, m4, m5, m6, m7⟩ := id hB
            have he0 : errT l = 0 := by omega
            refine xr_op rfl rfl (xv_faddr fl26_1 rfl ?_)
            refine xr_op rfl rfl (xv_load1 ty3 rfl rfl (by ((repeat first|exact z_0|assumption|refine z_1 ?_|(refine z_l ?_;(repeat first|exact z_0|assumption|refine z_1 ?_);done)|refine z_r ?_);done)) (by rfl) ?_)
            refine xr_op rfl rfl (xv_add rfl rfl (wrap_i64 (by (first | omega | (dsimp only at *; omega) | (simp at *; omega))) (by (first | omega | (dsimp only at *; omega) | (simp at *; omega)))) ?_)
            refine xr_op rfl rfl (xv_assign rfl ?_)
            refine xr_end rfl ?_
            refine th_n ?_
            refine xc_seq ?_
            refine xc_seq (xc_region ?_)
            refine xr_op rfl rfl (xv_move rfl ?_)
            refine xr_op rfl rfl (xv_move rfl ?_)
            refine xr_end rfl ?_
            refine th_n ?_
            refine xc_block ?_
            refine xc_loop (σ := Nat × Int × Int) (fun z => (z.1 : Int) ≤ st ∧ MInv l p own z.1 z.2.1 z.2.2) (fun z => ((((((((emp.put (some 0) (.slice a l.length c)).put (some 1) (I st)).put (some 2) (I p)).put (some 7) (.pointer (some ⟨b7, 0, none⟩))).put (some 8) (I z.2.1)).put (some 9) (I z.2.2)).put (some 48) (I st)).put (some 49) (I z.1))) (fun z => ((b7, .cells ⟨eSpan own⟩ 26) :: h)) (fun z => (st - z.1).toNat) ((0, own.hi + 1, 0) : Nat × Int × Int) ⟨by dsimp only; omega, minv_0⟩ (le_put (le_put (le_put (le_put (le_put (le_put (le_put (le_put (le_emp _) rfl) rfl) rfl) rfl) rfl) rfl) rfl) rfl) (by (first|((repeat first|exact s_0|exact s_1|exact s_3|refine s_4 ?_|refine s_5 ?_|refine s_6 ?_|refine s_7 ?_);done)|((repeat first|exact s_0|exact s_1|exact s_3|refine s_4 ?_|refine s_5 ?_|refine s_6 ?_|refine s_8 ?_);done))) ?_
            rintro ⟨s, hour, sta⟩ ⟨hs, hM⟩
            dsimp only at hs hM
            refine xc_seq (xc_region ?_)
            refine xr_op rfl rfl (xv_lss2 rfl rfl (fun q11 => ?_) (fun q11 => ?_))
            · refine xr_end rfl ?_
              refine th_n ?_
              refine xc_seq ?_
              refine xc_true rfl ?_
              refine xc_skip ?_
              refine th_n ?_
              refine xc_seq ?_
              refine xc_block ?_
              refine xc_seq (xc_region ?_)
              refine xr_op rfl rfl (xv_move rfl ?_)
              refine xr_op rfl rfl (xv_alloc ty3 (fun b11 hb11 => ?_))
              refine xr_op rfl rfl (xv_s1 ty3 rfl rfl rfl (by (first|(apply u_3;(repeat first|exact u_0|assumption|apply u_1|apply u_2);done)|((repeat first|exact u_0|assumption|apply u_1|apply u_2);done)|(apply u_3;apply u_3;(repeat first|exact u_0|assumption|apply u_1|apply u_2);done)|((repeat first|exact u_0|assumption|apply u_3|apply u_1);done))) (by (first | rfl | exact Vec.one _ _)) (by (first | decide | exact Nat.le_of_ble_eq_true rfl | (simp only [List.length_cons, List.length_nil]; omega) | (simp; done))) (by ((try apply evl_some rfl);(repeat (first|exact (rfl : _ = [])|apply evl_cons rfl (by (first|exact v_1|exact v_2|exact v_3|exact v_4|exact v_5|exact v_6|exact v_7|exact v_8|exact v_9|exact rfl))|exact rfl)))) ?_)
              refine xr_end rfl ?_
              refine th_n ?_
              refine xc_seq (xc_region ?_)
              refine xr_op rfl rfl (xv_faddr fl26_0 rfl ?_)
              refine xr_op rfl rfl (xv_load1 ty3 rfl rfl (by ((repeat first|exact z_0|assumption|refine z_1 ?_|(refine z_l ?_;(repeat first|exact z_0|assumption|refine z_1 ?_);done)|refine z_r ?_);done)) (by rfl) ?_)
              refine xr_op rfl rfl (xv_move rfl ?_)
              refine xr_op rfl rfl (xv_add rfl rfl (wrap_i64 (by (first | omega | (dsimp only at *; omega) | (simp at *; omega))) (by (first | omega | (dsimp only at *; omega) | (simp at *; omega)))) ?_)
              refine xr_op rfl rfl (xv_sub rfl rfl (wrap_i64 (by (first | omega | (dsimp only at *; omega) | (simp at *; omega))) (by (first | omega | (dsimp only at *; omega) | (simp at *; omega)))) ?_)
              refine xr_op rfl rfl (xv_assign rfl ?_)
              refine xr_end rfl ?_
              refine th_n ?_
              refine xc_seq (xc_region ?_)
              refine xr_op rfl rfl (xv_move rfl ?_)
              refine xr_op rfl rfl (xv_calls rfl hb53 (cloneT_c (hl.sub (by intro z hz; ((repeat first|exact z_0|assumption|refine z_1 ?_|(refine z_l ?_;(repeat first|exact z_0|assumption|refine z_1 ?_);done)|refine z_r ?_);done))) hlen (fun V hV => up_ret ?_)))
              refine xr_op rfl rfl (xv_func rfl rfl ?_)
              refine xr_op rfl rfl (xv_calls rfl hb52 (delV_c (V := V) (p := fun t => decide (t.station ≠ (s : Int))) hV (by omega) (fun x hx H9 R2 hs9 h2 => afn_func (fi := []) (lb := [.pointer (some ⟨b11, 0, none⟩)]) hb54 (noSt_c (hs9 List.mem_cons_self) h2)) (fun Z hZ => up_ret ?_)))
              refine xr_op rfl rfl (xv_assign rfl ?_)
              refine xr_end rfl ?_
              refine th_n ?_
              refine xc_seq (xc_region ?_)
              refine xr_op rfl rfl (xv_move rfl ?_)
              refine xr_op rfl rfl (xv_calls rfl hb55 (sortV_c (V := Z) (xs := (keepL (fun t => decide (t.station ≠ (s : Int))) l)) (cm := cmT) hZ (by have h9 := keep_len (fun t => decide (t.station ≠ (s : Int))) l; omega) (fun x y hx hy H9 R2 _ h2 => afn_func (fi := []) (lb := []) hb56 (cmT_c (hall x (keep_mem.1 hx).1) (hall y (keep_mem.1 hy).1) h2)) cmT_swo (fun ys hpm hso hZ2 => up_ret ?_)))
              refine xr_end rfl ?_
              refine th_n ?_
              refine xc_seq ?_
              refine xc_seq (xc_region ?_)
              have hyl : ys.length = (keepL (fun t => decide (t.station ≠ (s : Int))) l).length := hpm.length_eq
              rw [← hyl]
              obtain ⟨ya, yc, hyv, hys⟩ := Vec.slv (enc := eTest) (t := 55) (V := Z) (xs := ys) (h := Z.hp 55 (ys.flatMap eTest)) eTest_len hZ2 (fun _ hz => hz)
              rw [hyv]
              have hkl9 := keep_len (fun t => decide (t.station ≠ (s : Int))) l
              refine xr_op rfl rfl (xv_move rfl ?_)
              refine xr_op rfl rfl (xv_len sl37 rfl ?_)
              refine xr_op rfl rfl (xv_move rfl ?_)
              refine xr_end rfl ?_
              refine th_n ?_
              refine xc_block ?_
              refine xc_loop (σ := Nat × Int) (fun z => z.1 ≤ ys.length ∧ UInv p (own.lo + p - 1) z.2 (ys.take z.1) ∧ 0 ≤ z.2 ∧ z.2 ≤ 1058576) (fun z => (((((((((((((emp.put (some 0) (.slice a l.length c)).put (some 1) (I st)).put (some 2) (I p)).put (some 7) (.pointer (some ⟨b7, 0, none⟩))).put (some 8) (I hour)).put (some 9) (I sta)).put (some 48) (I st)).put (some 49) (I s)).put (some 11) (.pointer (some ⟨b11, 0, none⟩))).put (some 12) (I z.2)).put (some 63) (.slice ya ys.length yc)).put (some 64) (I ys.length)).put (some 65) (I z.1))) (fun z => (Z.hp 55 (ys.flatMap eTest) ++ (b11, .cells ⟨[I s]⟩ 3) :: (b7, .cells ⟨eSpan own⟩ 26) :: h)) (fun z => ys.length - z.1) ((0, own.lo + p - 1) : Nat × Int) ⟨Nat.zero_le _, uinv_nil, by dsimp only; omega, by dsimp only; omega⟩ (le_put (le_put (le_put (le_put (le_put (le_put (le_put (le_put (le_put (le_put (le_put (le_put (le_put (le_emp _) rfl) rfl) rfl) rfl) rfl) rfl) rfl) rfl) rfl) rfl) rfl) rfl) rfl) (by (first|((repeat first|exact s_0|exact s_1|exact s_3|refine s_4 ?_|refine s_5 ?_|refine s_6 ?_|refine s_7 ?_);done)|((repeat first|exact s_0|exact s_1|exact s_3|refine s_4 ?_|refine s_5 ?_|refine s_6 ?_|refine s_8 ?_);done))) ?_
              rintro ⟨k, u⟩ ⟨hk, hU, hu0, hu1⟩
              dsimp only at hk hU hu0 hu1
              refine xc_seq (xc_region ?_)
              refine xr_op rfl rfl (xv_lss2 rfl rfl (fun q12 => ?_) (fun q12 => ?_))
              · refine xr_end rfl ?_
                refine th_n ?_
                refine xc_seq ?_
                refine xc_true rfl ?_
                refine xc_skip ?_
                refine th_n ?_
                refine xc_seq ?_
                refine xc_block ?_
                refine xc_seq (xc_region ?_)
                have hlto : k < ys.length := by (first | omega | (dsimp only at *; omega) | (simp at *; omega))
                obtain ⟨bo, oo, lo, to, fzo, hao, hmo, hxo⟩ := (hys).at hlto
                obtain ⟨xo, hko⟩ : ∃ qq_, ys[k]? = some qq_ := ⟨_, List.getElem?_eq_getElem hlto⟩
                have hxh := (hall xo (keep_mem.1 (hpm.mem_iff.1 (List.mem_of_getElem? hko))).1).1
                unfold hourOk at hxh
                refine xr_op rfl rfl (xv_ia (sz := 4) sl37 ty55 rfl (by rw [hao]; rfl) rfl (by (first | assumption | with_reducible exact Int.toNat_natCast _ | with_reducible rfl | rfl)) (by (first | omega | (dsimp only at *; omega) | (simp at *; omega))) (by (first | omega | (dsimp only at *; omega) | (simp at *; omega))) ?_)
                refine xr_op rfl rfl (xv_loadA ty55 rfl rfl (by ((repeat first|exact z_0|assumption|refine z_1 ?_|(refine z_l ?_;(repeat first|exact z_0|assumption|refine z_1 ?_);done)|refine z_r ?_);done)) (hxo (k) xo hko) rfl ?_)
                refine xr_op rfl rfl (xv_alloc ty55 (fun b15 hb15 => ?_))
                refine xr_op rfl rfl (xv_s ty55 rfl rfl (by (first|(apply u_3;(repeat first|exact u_0|assumption|apply u_1|apply u_2);done)|((repeat first|exact u_0|assumption|apply u_1|apply u_2);done)|(apply u_3;apply u_3;(repeat first|exact u_0|assumption|apply u_1|apply u_2);done)|((repeat first|exact u_0|assumption|apply u_3|apply u_1);done))) (by ((try apply evl_some rfl);(repeat (first|exact (rfl : _ = [])|apply evl_cons rfl (by (first|exact v_1|exact v_2|exact v_3|exact v_4|exact v_5|exact v_6|exact v_7|exact v_8|exact v_9|exact rfl))|exact rfl)))) (by rfl) (by rfl) (by rfl) (by ((try apply evl_some rfl);(repeat (first|exact (rfl : _ = [])|apply evl_cons rfl (by (first|exact v_1|exact v_2|exact v_3|exact v_4|exact v_5|exact v_6|exact v_7|exact v_8|exact v_9|exact rfl))|exact rfl)))) ?_)
                refine xr_end rfl ?_
                refine th_n ?_
                refine xc_seq (xc_region ?_)
                refine xr_op rfl rfl (xv_faddr fl55_0 rfl ?_)
                refine xr_op rfl rfl (xv_load1 ty3 rfl rfl (by ((repeat first|exact z_0|assumption|refine z_1 ?_|(refine z_l ?_;(repeat first|exact z_0|assumption|refine z_1 ?_);done)|refine z_r ?_);done)) (by rfl) ?_)
                refine xr_op rfl rfl (xv_move rfl ?_)
                refine xr_op rfl rfl (xv_leq2 rfl rfl (fun q13 => ?_) (fun q13 => ?_))
                · refine xr_end rfl ?_
                  refine th_n ?_
                  refine xc_true rfl ?_
                  refine xc_region ?_
                  refine xr_op rfl rfl (xv_move rfl ?_)
                  refine xr_op rfl rfl (xv_faddr fl55_0 rfl ?_)
                  refine xr_op rfl rfl (xv_load1 ty3 rfl rfl (by ((repeat first|exact z_0|assumption|refine z_1 ?_|(refine z_l ?_;(repeat first|exact z_0|assumption|refine z_1 ?_);done)|refine z_r ?_);done)) (by rfl) ?_)
                  refine xr_op rfl rfl (xv_move rfl ?_)
                  refine xr_op rfl rfl (xv_add rfl rfl (wrap_i64 (by (first | omega | (dsimp only at *; omega) | (simp at *; omega))) (by (first | omega | (dsimp only at *; omega) | (simp at *; omega)))) ?_)
                  refine xr_op rfl rfl (xv_max rfl rfl rfl ?_)
                  refine xr_op rfl rfl (xv_assign rfl ?_)
                  refine xr_end rfl ?_
                  refine bk_n ?_
                  refine th_n ?_
                  refine xc_region ?_
                  refine xr_op rfl rfl (xv_add rfl rfl (wrap_i64 (by (first | omega | (dsimp only at *; omega) | (simp at *; omega))) (by (first | omega | (dsimp only at *; omega) | (simp at *; omega)))) ?_)
                  refine xr_op rfl rfl (xv_move rfl ?_)
                  refine xr_end rfl ?_
                  have ht1 : ys.take (k + 1) = ys.take k ++ [xo] := by rw [List.take_add_one, hko]; rfl
                  exact rnd ((k + 1, max u (xo.hour + p)) : Nat × Int) ⟨by (first | omega | (dsimp only at *; omega) | (simp at *; omega)), by dsimp only; rw [ht1]; exact hU.yes m3 (sorted_le hso hko) (by (first | omega | (dsimp only at *; omega) | (simp at *; omega))), by (first | omega | (dsimp only at *; omega) | (simp at *; omega)), by (first | omega | (dsimp only at *; omega) | (simp at *; omega))⟩ (by (first | omega | (dsimp only at *; omega) | (simp at *; omega))) (le_put (le_put (le_put (le_put (le_put (le_put (le_put (le_put (le_put (le_put (le_put (le_put (le_put (le_emp _) rfl) rfl) rfl) rfl) rfl) rfl) rfl) rfl) rfl) rfl) rfl) rfl) rfl) (by (first|((repeat first|exact s_0|exact s_1|exact s_3|refine s_4 ?_|refine s_5 ?_|refine s_6 ?_|refine s_7 ?_);done)|((repeat first|exact s_0|exact s_1|exact s_3|refine s_4 ?_|refine s_5 ?_|refine s_6 ?_|refine s_8 ?_);done)))
                · refine xr_end rfl ?_
                  refine th_n ?_
                  refine xc_false rfl ?_
                  refine xc_skip ?_
                  refine bk_n ?_
                  refine th_n ?_
                  refine xc_region ?_
                  refine xr_op rfl rfl (xv_add rfl rfl (wrap_i64 (by (first | omega | (dsimp only at *; omega) | (simp at *; omega))) (by (first | omega | (dsimp only at *; omega) | (simp at *; omega)))) ?_)
                  refine xr_op rfl rfl (xv_move rfl ?_)
                  refine xr_end rfl ?_
                  have ht1 : ys.take (k + 1) = ys.take k ++ [xo] := by rw [List.take_add_one, hko]; rfl
                  exact rnd ((k + 1, u) : Nat × Int) ⟨by (first | omega | (dsimp only at *; omega) | (simp at *; omega)), by dsimp only; rw [ht1]; exact hU.no (by (first | omega | (dsimp only at *; omega) | (simp at *; omega))), by (first | omega | (dsimp only at *; omega) | (simp at *; omega)), by (first | omega | (dsimp only at *; omega) | (simp at *; omega))⟩ (by (first | omega | (dsimp only at *; omega) | (simp at *; omega))) (le_put (le_put (le_put (le_put (le_put (le_put (le_put (le_put (le_put (le_put (le_put (le_put (le_put (le_emp _) rfl) rfl) rfl) rfl) rfl) rfl) rfl) rfl) rfl) rfl) rfl) rfl) rfl) (by (first|((repeat first|exact s_0|exact s_1|exact s_3|refine s_4 ?_|refine s_5 ?_|refine s_6 ?_|refine s_7 ?_);done)|((repeat first|exact s_0|exact s_1|exact s_3|refine s_4 ?_|refine s_5 ?_|refine s_6 ?_|refine s_8 ?_);done)))
              · refine xr_end rfl ?_
                refine th_n ?_
                refine xc_seq ?_
                refine xc_false rfl ?_
                refine xc_exit ?_
                refine th_x ?_
                refine th_x ?_
                refine bk_same ?_
                refine th_n ?_
                refine xc_seq (xc_region ?_)
                refine xr_op rfl rfl (xv_move rfl ?_)
                refine xr_op rfl rfl (xv_move rfl ?_)
                refine xr_op rfl rfl (xv_lss2 rfl rfl (fun q14 => ?_) (fun q14 => ?_))
                · refine xr_end rfl ?_
                  refine th_n ?_
                  refine xc_true rfl ?_
                  refine xc_draw0 [(0, .S), (1, .R), (2, .S), (3, .S)] mixed (by kernel_rfl) ?_
                  refine js_S rfl rfl (.inl rfl) (xv_move rfl ⟨rfl, rfl⟩) ?_
                  refine js_R0 rfl rfl (.inl rfl) (xv_load1 ty3 rfl rfl (by ((repeat first|exact z_0|assumption|refine z_1 ?_|(refine z_l ?_;(repeat first|exact z_0|assumption|refine z_1 ?_);done)|refine z_r ?_);done)) (by rfl) ⟨rfl, rfl⟩) ?_
                  refine js_S rfl rfl (.inl rfl) (xv_assign rfl ⟨rfl, rfl⟩) ?_
                  refine js_S rfl rfl (.inl rfl) (xv_assign rfl ⟨rfl, rfl⟩) ?_
                  refine j_end0 ?_
                  refine bk_n ?_
                  refine th_n ?_
                  refine xc_region ?_
                  refine xr_op rfl rfl (xv_add rfl rfl (wrap_i64 (by (first | omega | (dsimp only at *; omega) | (simp at *; omega))) (by (first | omega | (dsimp only at *; omega) | (simp at *; omega)))) ?_)
                  refine xr_op rfl rfl (xv_move rfl ?_)
                  refine xr_end rfl ?_
                  rw [show k = ys.length by (first | omega | (dsimp only at *; omega) | (simp at *; omega)), List.take_length] at hU
                  have hIU := hU.isU (l := l) (s := s) (fun x => hpm.mem_iff.trans keep_mem)
                  exact rnd ((s + 1, u, s) : Nat × Int × Int) ⟨by (first | omega | (dsimp only at *; omega) | (simp at *; omega)), hM.less (by omega) hIU (by (first | omega | (dsimp only at *; omega) | (simp at *; omega)))⟩ (by (first | omega | (dsimp only at *; omega) | (simp at *; omega))) (le_put (le_put (le_put (le_put (le_put (le_put (le_put (le_put (le_emp _) rfl) rfl) rfl) rfl) rfl) rfl) rfl) rfl) (by (first|((repeat first|exact s_0|exact s_1|exact s_3|refine s_4 ?_|refine s_5 ?_|refine s_6 ?_|refine s_7 ?_);done)|((repeat first|exact s_0|exact s_1|exact s_3|refine s_4 ?_|refine s_5 ?_|refine s_6 ?_|refine s_8 ?_);done)))
                · refine xr_end rfl ?_
                  refine th_n ?_
                  refine xc_false rfl ?_
                  refine xc_skip ?_
                  refine bk_n ?_
                  refine th_n ?_
                  refine xc_region ?_
                  refine xr_op rfl rfl (xv_add rfl rfl (wrap_i64 (by (first | omega | (dsimp only at *; omega) | (simp at *; omega))) (by (first | omega | (dsimp only at *; omega) | (simp at *; omega)))) ?_)
                  refine xr_op rfl rfl (xv_move rfl ?_)
                  refine xr_end rfl ?_
                  rw [show k = ys.length by (first | omega | (dsimp only at *; omega) | (simp at *; omega)), List.take_length] at hU
                  have hIU := hU.isU (l := l) (s := s) (fun x => hpm.mem_iff.trans keep_mem)
                  exact rnd ((s + 1, hour, sta) : Nat × Int × Int) ⟨by (first | omega | (dsimp only at *; omega) | (simp at *; omega)), hM.more hIU (by (first | omega | (dsimp only at *; omega) | (simp at *; omega)))⟩ (by (first | omega | (dsimp only at *; omega) | (simp at *; omega))) (le_put (le_put (le_put (le_put (le_put (le_put (le_put (le_put (le_emp _) rfl) rfl) rfl) rfl) rfl) rfl) rfl) rfl) (by (first|((repeat first|exact s_0|exact s_1|exact s_3|refine s_4 ?_|refine s_5 ?_|refine s_6 ?_|refine s_7 ?_);done)|((repeat first|exact s_0|exact s_1|exact s_3|refine s_4 ?_|refine s_5 ?_|refine s_6 ?_|refine s_8 ?_);done)))
            · refine xr_end rfl ?_
              refine th_n ?_
              refine xc_seq ?_
              refine xc_false rfl ?_
              refine xc_exit ?_
              refine th_x ?_
              refine th_x ?_
              refine bk_same ?_
              refine th_n ?_
              refine xc_seq ?_
              refine xc_seq (xc_region ?_)
              refine xr_op rfl rfl (xv_move rfl ?_)
              refine xr_op rfl rfl (xv_faddr fl26_1 rfl ?_)
              refine xr_op rfl rfl (xv_load1 ty3 rfl rfl (by ((repeat first|exact z_0|assumption|refine z_1 ?_|(refine z_l ?_;(repeat first|exact z_0|assumption|refine z_1 ?_);done)|refine z_r ?_);done)) (by rfl) ?_)
              refine xr_op rfl rfl (xv_gtr2 rfl rfl (fun q15 => ?_) (fun q15 => ?_))
              · refine xr_end rfl ?_
                refine th_n ?_
                refine xc_true rfl ?_
                refine xc_seq (xc_region ?_)
                refine xr_op rfl rfl (xv_assign rfl ?_)
                refine xr_op rfl rfl (xv_assign rfl ?_)
                refine xr_op rfl rfl (xv_assign rfl ?_)
                refine xr_end rfl ?_
                refine th_n ?_
                refine xc_ret ?_
                refine th_r ?_
                refine body_ret (h' := h) rfl (ro_tmp rfl (ro_tmp rfl (ro_tmp rfl ro_nil))) (by (first|((repeat first|exact s_0|exact s_1|exact s_3|refine s_4 ?_|refine s_5 ?_|refine s_6 ?_|refine s_7 ?_);done)|((repeat first|exact s_0|exact s_1|exact s_3|refine s_4 ?_|refine s_5 ?_|refine s_6 ?_|refine s_8 ?_);done))) ?_
                first | (exact H (0, 0, errT l) (.inl ⟨by omega, rfl⟩)) | (exact H (0, 0, 2) (.inr (.inl ⟨by omega, fun hb9 => by obtain ⟨a1, a2, a3, a4, a5, a6, a7⟩ := hb9; first | omega | exact ho ⟨by omega, by omega⟩, rfl⟩))) | (have e9 : (s : Int) = st := (by (first | omega | (dsimp only at *; omega) | (simp at *; omega))); rw [e9] at hM; exact H (0, 0, 4) (hM.none he0 hB (by (first | omega | (dsimp only at *; omega) | (simp at *; omega))))) | (have e9 : (s : Int) = st := (by (first | omega | (dsimp only at *; omega) | (simp at *; omega))); rw [e9] at hM; exact H (hour, sta, 0) (hM.some he0 hB (by (first | omega | (dsimp only at *; omega) | (simp at *; omega)))))
              · refine xr_end rfl ?_
                refine th_n ?_
                refine xc_false rfl ?_
                refine xc_skip ?_
                refine th_n ?_
                refine xc_seq (xc_region ?_)
                refine xr_op rfl rfl (xv_move rfl ?_)
                refine xr_op rfl rfl (xv_move rfl ?_)
                refine xr_op rfl rfl (xv_assign rfl ?_)
                refine xr_op rfl rfl (xv_assign rfl ?_)
                refine xr_op rfl rfl (xv_assign rfl ?_)
                refine xr_end rfl ?_
                refine th_n ?_
                refine xc_ret ?_
                refine body_ret (h' := h) rfl (ro_tmp rfl (ro_tmp rfl (ro_tmp rfl ro_nil))) (by (first|((repeat first|exact s_0|exact s_1|exact s_3|refine s_4 ?_|refine s_5 ?_|refine s_6 ?_|refine s_7 ?_);done)|((repeat first|exact s_0|exact s_1|exact s_3|refine s_4 ?_|refine s_5 ?_|refine s_6 ?_|refine s_8 ?_);done))) ?_
                first | (exact H (0, 0, errT l) (.inl ⟨by omega, rfl⟩)) | (exact H (0, 0, 2) (.inr (.inl ⟨by omega, fun hb9 => by obtain ⟨a1, a2, a3, a4, a5, a6, a7⟩ := hb9; first | omega | exact ho ⟨by omega, by omega⟩, rfl⟩))) | (have e9 : (s : Int) = st := (by (first | omega | (dsimp only at *; omega) | (simp at *; omega))); rw [e9] at hM; exact H (0, 0, 4) (hM.none he0 hB (by (first | omega | (dsimp only at *; omega) | (simp at *; omega))))) | (have e9 : (s : Int) = st := (by (first | omega | (dsimp only at *; omega) | (simp at *; omega))); rw [e9] at hM; exact H (hour, sta, 0) (hM.some he0 hB (by (first | omega | (dsimp only at *; omega) | (simp at *; omega)))))
          · refine xr_gd rfl rfl rfl (xv_not rfl ?_)
            refine xr_op rfl rfl (xv_pick rfl rfl ?_)
            refine xr_op rfl rfl (xv_assign rfl ?_)
            refine xr_end rfl ?_
            refine th_n ?_
            refine xc_true rfl ?_
            refine xc_seq (xc_region ?_)
            refine xr_op rfl rfl (xv_assign rfl ?_)
            refine xr_op rfl rfl (xv_assign rfl ?_)
            refine xr_op rfl rfl (xv_assign rfl ?_)
            refine xr_end rfl ?_
            refine th_n ?_
            refine xc_ret ?_
            refine bk_r ?_
            refine th_r ?_
            refine body_ret (h' := h) rfl (ro_tmp rfl (ro_tmp rfl (ro_tmp rfl ro_nil))) (by (first|((repeat first|exact s_0|exact s_1|exact s_3|refine s_4 ?_|refine s_5 ?_|refine s_6 ?_|refine s_7 ?_);done)|((repeat first|exact s_0|exact s_1|exact s_3|refine s_4 ?_|refine s_5 ?_|refine s_6 ?_|refine s_8 ?_);done))) ?_
            first | (exact H (0, 0, errT l) (.inl ⟨by omega, rfl⟩)) | (exact H (0, 0, 2) (.inr (.inl ⟨by omega, fun hb9 => by obtain ⟨a1, a2, a3, a4, a5, a6, a7⟩ := hb9; first | omega | exact ho ⟨by omega, by omega⟩, rfl⟩))) | (have e9 : (s : Int) = st := (by (first | omega | (dsimp only at *; omega) | (simp at *; omega))); rw [e9] at hM; exact H (0, 0, 4) (hM.none he0 hB (by (first | omega | (dsimp only at *; omega) | (simp at *; omega))))) | (have e9 : (s : Int) = st := (by (first | omega | (dsimp only at *; omega) | (simp at *; omega))); rw [e9] at hM; exact H (hour, sta, 0) (hM.some he0 hB (by (first | omega | (dsimp only at *; omega) | (simp at *; omega)))))
        · refine xr_gd rfl rfl rfl (xv_not rfl ?_)
          refine xr_op rfl rfl (xv_pick rfl rfl ?_)
          refine xr_op rfl rfl (xv_move rfl ?_)
          refine xr_no rfl rfl rfl rfl ?_
          refine xr_no rfl rfl rfl rfl ?_
          refine xr_no rfl rfl rfl rfl ?_
          refine xr_no rfl rfl rfl rfl ?_
          refine xr_no rfl rfl rfl rfl ?_
          refine xr_no rfl rfl rfl rfl ?_
          refine xr_op rfl rfl (xv_pick rfl rfl ?_)
          refine xr_op rfl rfl (xv_assign rfl ?_)
          refine xr_end rfl ?_
          refine th_n ?_
          refine xc_true rfl ?_
          refine xc_seq (xc_region ?_)
          refine xr_op rfl rfl (xv_assign rfl ?_)
          refine xr_op rfl rfl (xv_assign rfl ?_)
          refine xr_op rfl rfl (xv_assign rfl ?_)
          refine xr_end rfl ?_
          refine th_n ?_
          refine xc_ret ?_
          refine bk_r ?_
          refine th_r ?_
          refine body_ret (h' := h) rfl (ro_tmp rfl (ro_tmp rfl (ro_tmp rfl ro_nil))) (by (first|((repeat first|exact s_0|exact s_1|exact s_3|refine s_4 ?_|refine s_5 ?_|refine s_6 ?_|refine s_7 ?_);done)|((repeat first|exact s_0|exact s_1|exact s_3|refine s_4 ?_|refine s_5 ?_|refine s_6 ?_|refine s_8 ?_);done))) ?_
          first | (exact H (0, 0, errT l) (.inl ⟨by omega, rfl⟩)) | (exact H (0, 0, 2) (.inr (.inl ⟨by omega, fun hb9 => by obtain ⟨a1, a2, a3, a4, a5, a6, a7⟩ := hb9; first | omega | exact ho ⟨by omega, by omega⟩, rfl⟩))) | (have e9 : (s : Int) = st := (by (first | omega | (dsimp only at *; omega) | (simp at *; omega))); rw [e9] at hM; exact H (0, 0, 4) (hM.none he0 hB (by (first | omega | (dsimp only at *; omega) | (simp at *; omega))))) | (have e9 : (s : Int) = st := (by (first | omega | (dsimp only at *; omega) | (simp at *; omega))); rw [e9] at hM; exact H (hour, sta, 0) (hM.some he0 hB (by (first | omega | (dsimp only at *; omega) | (simp at *; omega)))))
      · refine xr_gd rfl rfl rfl (xv_not rfl ?_)
        refine xr_op rfl rfl (xv_pick rfl rfl ?_)
        refine xr_op rfl rfl (xv_move rfl ?_)
        refine xr_no rfl rfl rfl rfl ?_
        refine xr_no rfl rfl rfl rfl ?_
        refine xr_no rfl rfl rfl rfl ?_
        refine xr_no rfl rfl rfl rfl ?_
        refine xr_op rfl rfl (xv_pick rfl rfl ?_)
        refine xr_op rfl rfl (xv_move rfl ?_)
        refine xr_no rfl rfl rfl rfl ?_
        refine xr_no rfl rfl rfl rfl ?_
        refine xr_no rfl rfl rfl rfl ?_
        refine xr_no rfl rfl rfl rfl ?_
        refine xr_no rfl rfl rfl rfl ?_
        refine xr_no rfl rfl rfl rfl ?_
        refine xr_op rfl rfl (xv_pick rfl rfl ?_)
        refine xr_op rfl rfl (xv_assign rfl ?_)
        refine xr_end rfl ?_
        refine th_n ?_
        refine xc_true rfl ?_
        refine xc_seq (xc_region ?_)
        refine xr_op rfl rfl (xv_assign rfl ?_)
        refine xr_op rfl rfl (xv_assign rfl ?_)
        refine xr_op rfl rfl (xv_assign rfl ?_)
        refine xr_end rfl ?_
        refine th_n ?_
        refine xc_ret ?_
        refine bk_r ?_
        refine th_r ?_
        refine body_ret (h' := h) rfl (ro_tmp rfl (ro_tmp rfl (ro_tmp rfl ro_nil))) (by (first|((repeat first|exact s_0|exact s_1|exact s_3|refine s_4 ?_|refine s_5 ?_|refine s_6 ?_|refine s_7 ?_);done)|((repeat first|exact s_0|exact s_1|exact s_3|refine s_4 ?_|refine s_5 ?_|refine s_6 ?_|refine s_8 ?_);done))) ?_
        first | (exact H (0, 0, errT l) (.inl ⟨by omega, rfl⟩)) | (exact H (0, 0, 2) (.inr (.inl ⟨by omega, fun hb9 => by obtain ⟨a1, a2, a3, a4, a5, a6, a7⟩ := hb9; first | omega | exact ho ⟨by omega, by omega⟩, rfl⟩))) | (have e9 : (s : Int) = st := (by (first | omega | (dsimp only at *; omega) | (simp at *; omega))); rw [e9] at hM; exact H (0, 0, 4) (hM.none he0 hB (by (first | omega | (dsimp only at *; omega) | (simp at *; omega))))) | (have e9 : (s : Int) = st := (by (first | omega | (dsimp only at *; omega) | (simp at *; omega))); rw [e9] at hM; exact H (hour, sta, 0) (hM.some he0 hB (by (first | omega | (dsimp only at *; omega) | (simp at *; omega)))))
    · refine xr_op rfl rfl (xv_not rfl ?_)
      refine xr_op rfl rfl (xv_move rfl ?_)
      refine xr_no rfl rfl rfl rfl ?_
      refine xr_no rfl rfl rfl rfl ?_
      refine xr_no rfl rfl rfl rfl ?_
      refine xr_op rfl rfl (xv_pick rfl rfl ?_)
      refine xr_op rfl rfl (xv_move rfl ?_)
      refine xr_no rfl rfl rfl rfl ?_
      refine xr_no rfl rfl rfl rfl ?_
      refine xr_no rfl rfl rfl rfl ?_
      refine xr_no rfl rfl rfl rfl ?_
      refine xr_op rfl rfl (xv_pick rfl rfl ?_)
      refine xr_op rfl rfl (xv_move rfl ?_)
      refine xr_no rfl rfl rfl rfl ?_
      refine xr_no rfl rfl rfl rfl ?_
      refine xr_no rfl rfl rfl rfl ?_
      refine xr_no rfl rfl rfl rfl ?_
      refine xr_no rfl rfl rfl rfl ?_
      refine xr_no rfl rfl rfl rfl ?_
      refine xr_op rfl rfl (xv_pick rfl rfl ?_)
      refine xr_op rfl rfl (xv_assign rfl ?_)
      refine xr_end rfl ?_
      refine th_n ?_
      refine xc_true rfl ?_
      refine xc_seq (xc_region ?_)
      refine xr_op rfl rfl (xv_assign rfl ?_)
      refine xr_op rfl rfl (xv_assign rfl ?_)
      refine xr_op rfl rfl (xv_assign rfl ?_)
      refine xr_end rfl ?_
      refine th_n ?_
      refine xc_ret ?_
      refine bk_r ?_
      refine th_r ?_
      refine body_ret (h' := h) rfl (ro_tmp rfl (ro_tmp rfl (ro_tmp rfl ro_nil))) (by (first|((repeat first|exact s_0|exact s_1|exact s_3|refine s_4 ?_|refine s_5 ?_|refine s_6 ?_|refine s_7 ?_);done)|((repeat first|exact s_0|exact s_1|exact s_3|refine s_4 ?_|refine s_5 ?_|refine s_6 ?_|refine s_8 ?_);done))) ?_
      first | (exact H (0, 0, errT l) (.inl ⟨by omega, rfl⟩)) | (exact H (0, 0, 2) (.inr (.inl ⟨by omega, fun hb9 => by obtain ⟨a1, a2, a3, a4, a5, a6, a7⟩ := hb9; first | omega | exact ho ⟨by omega, by omega⟩, rfl⟩))) | (have e9 : (s : Int) = st := (by (first | omega | (dsimp only at *; omega) | (simp at *; omega))); rw [e9] at hM; exact H (0, 0, 4) (hM.none he0 hB (by (first | omega | (dsimp only at *; omega) | (simp at *; omega))))) | (have e9 : (s : Int) = st := (by (first | omega | (dsimp only at *; omega) | (simp at *; omega))); rw [e9] at hM; exact H (hour, sta, 0) (hM.some he0 hB (by (first | omega | (dsimp only at *; omega) | (simp at *; omega)))))

end Go.Proofs.Ytjbfdfmngampdaa
