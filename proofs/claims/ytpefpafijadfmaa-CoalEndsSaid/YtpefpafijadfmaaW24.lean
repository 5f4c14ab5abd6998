/-
  Walks.
-/
import Derived.Test.YtpefpafijadfmaaW21
import Derived.Test.YtpefpafijadfmaaP2
import Derived.Test.YtpefpafijadfmaaW13
import Derived.Test.YtpefpafijadfmaaW10
import Derived.Test.YtpefpafijadfmaaP12
namespace Go.Proofs.Ytpefpafijadfmaa
open Go Go.H
set_option maxRecDepth 100000
set_option maxHeartbeats 8000000
set_option linter.all false
theorem parts_c {b n c : Nat} {a : Option Addr} {h : Hp} {R : Ending → Hp → Prop} (H : ∀ p1 p2, R (.returned (.func (.func 53) ⟨[]⟩ ⟨[.pointer (some ⟨p1, 0, none⟩), .pointer (some ⟨p2, 0, none⟩)]⟩)) ((p2, .cells ⟨[.slice a n c]⟩ 71) :: (p1, .cells ⟨[.pointer (some ⟨b, 0, none⟩)]⟩ 66) :: h)) : ACalls Try.prog 32 ⟨[.pointer (some ⟨b, 0, none⟩), .slice a n c]⟩ h R := by
  refine calls_of_xc (N := 6) Try.func32 rfl (by rfl) ?_
  refine xc_seq (xc_region ?_)
  refine xr_op rfl rfl (xv_box rfl (fun p1 hp1 => ?_))
  refine xr_op rfl rfl (xv_box rfl (fun p2 hp2 => ?_))
  refine xr_op rfl rfl (xv_assign rfl ?_)
  refine xr_end rfl ?_
  refine th_n ?_
  refine xc_seq (xc_region ?_)
  refine xr_op rfl rfl (xv_func rfl rfl ?_)
  refine xr_op rfl rfl (xv_assign rfl ?_)
  refine xr_end rfl ?_
  refine th_n ?_
  refine xc_ret ?_
  refine body_ret (h' := ((p2, .cells ⟨[.slice a n c]⟩ 71) :: (p1, .cells ⟨[.pointer (some ⟨b, 0, none⟩)]⟩ 66) :: h)) rfl (ro_tmp rfl ro_nil) (by (first|((repeat first|exact s_0|exact s_1|exact s_3|refine s_4 ?_|refine s_5 ?_|refine s_6 ?_|refine s_7 ?_);done)|((repeat first|exact s_0|exact s_1|exact s_3|refine s_4 ?_|refine s_5 ?_|refine s_6 ?_|refine s_8 ?_);done))) ?_
  exact H p1 p2

theorem partsIt {core : Hp} {y : Yard} {vs us : List (List Int)} {b lc dc p1 p2 c : Nat} {la da a : Option Addr} {bs : List Nat} {ds es : List PH} (hp1 : (p1, .cells ⟨[.pointer (some ⟨b, 0, none⟩)]⟩ 66 (0, 0)) ∈ core) (hp2 : (p2, .cells ⟨[.slice a es.length c]⟩ 71 (0, 0)) ∈ core)
    (hsh : ShedV core y vs b la lc bs da dc ds) (hu : SubV core y us a es) : Iter Try.prog 53 [] [.pointer (some ⟨p1, 0, none⟩), .pointer (some ⟨p2, 0, none⟩)] ePc (partsL y us) (fun h' => core ⊆ h') := by
  intro yv J Jx h hRd hyv hJ
  show ACalls Try.prog 53 ⟨[yv, .pointer (some ⟨p1, 0, none⟩), .pointer (some ⟨p2, 0, none⟩)]⟩ h _
  refine calls_of_xc (N := 66) Try.func53 rfl (by rfl) ?_
  have hc0 := hRd _ _ hJ
  have m1 := hc0 hp1
  have m2 := hc0 hp2
  have m3 := hc0 hsh.top
  have hbn := hsh.len
  have hL := hu.lay
  have hen := hu.cnt
  have hfw := hu.few
  refine xc_seq (xc_region ?_)
  refine xr_op rfl rfl (xv_load1 ty66 rfl rfl (by ((repeat first|exact z_0|assumption|refine z_1 ?_|(refine z_l ?_;(repeat first|exact z_0|assumption|refine z_1 ?_);done)|refine z_r ?_);done)) (by rfl) ?_)
  refine xr_op rfl rfl (xv_nilp rfl ?_)
  refine xr_op rfl rfl (xv_faddr fl73_1 rfl ?_)
  refine xr_op rfl rfl (xv_load1 ty70 rfl rfl (by ((repeat first|exact z_0|assumption|refine z_1 ?_|(refine z_l ?_;(repeat first|exact z_0|assumption|refine z_1 ?_);done)|refine z_r ?_);done)) (by rfl) ?_)
  refine xr_op rfl rfl (xv_len sl70 rfl ?_)
  refine xr_op rfl rfl (xv_make (n := bs.length) (l := (tkV (opn y.moves).1 [] []).flatMap eI) sl38 ty3 rfl rfl (by (first | omega | (dsimp only at *; omega) | (simp at *; omega))) (by simp only []; (first | omega | (dsimp only at *; omega) | (simp at *; omega))) (by simp only []; (first | omega | (dsimp only at *; omega) | (simp at *; omega))) (by rw [tkV_0, hbn]; exact make_ints _) (fun b16 hb16 => ?_))
  refine xr_op rfl rfl (xv_assign rfl ?_)
  refine xr_end rfl ?_
  refine th_n ?_
  refine xc_seq ?_
  refine xc_seq (xc_region ?_)
  refine xr_op rfl rfl (xv_load1 ty71 rfl rfl (by ((repeat first|exact z_0|assumption|refine z_1 ?_|(refine z_l ?_;(repeat first|exact z_0|assumption|refine z_1 ?_);done)|refine z_r ?_);done)) (by rfl) ?_)
  refine xr_op rfl rfl (xv_len sl71 rfl ?_)
  refine xr_op rfl rfl (xv_move rfl ?_)
  refine xr_end rfl ?_
  refine th_n ?_
  refine xc_block ?_
  refine xc_loop (σ := Nat) (fun k => k ≤ es.length) (fun k => (((((((emp.put (some 0) (yv)).put (some 1) (.pointer (some ⟨p1, 0, none⟩))).put (some 2) (.pointer (some ⟨p2, 0, none⟩))).put (some 4) (.slice (some ⟨b16, 0, none⟩) (opn y.moves).1 (opn y.moves).1)).put (some 17) (.slice a es.length c)).put (some 18) (I es.length)).put (some 19) (I k))) (fun k => ((b16, .cells ⟨(tkV (opn y.moves).1 (us.take k) []).flatMap eI⟩ 3) :: h)) (fun k => es.length - k) 0 (Nat.zero_le _) (le_put (le_put (le_put (le_put (le_put (le_put (le_put (le_emp _) rfl) rfl) rfl) (by rw [← hbn]; rfl)) rfl) rfl) rfl) (by (first|((repeat first|exact s_0|exact s_1|exact s_3|refine s_4 ?_|refine s_5 ?_|refine s_6 ?_|refine s_7 ?_);done)|((repeat first|exact s_0|exact s_1|exact s_3|refine s_4 ?_|refine s_5 ?_|refine s_6 ?_|refine s_8 ?_);done))) ?_
  rintro k hk
  refine xc_seq (xc_region ?_)
  have hkl : k ≤ us.length := by omega
  refine xr_op rfl rfl (xv_lss2 rfl rfl (fun q1 => ?_) (fun q1 => ?_))
  · refine xr_end rfl ?_
    refine th_n ?_
    refine xc_seq ?_
    refine xc_true rfl ?_
    refine xc_skip ?_
    refine th_n ?_
    refine xc_seq ?_
    refine xc_block ?_
    refine xc_seq (xc_region ?_)
    have hltw : k < es.length := by (first | omega | (dsimp only at *; omega) | (simp at *; omega))
    obtain ⟨bw, ow, lw, tw, fzw, haw, hmw, hxw⟩ := ((hu.sl.sub hc0)).at hltw
    obtain ⟨xw, hkw⟩ : ∃ qq_, es[k]? = some qq_ := ⟨_, List.getElem?_eq_getElem hltw⟩
    obtain ⟨v, hv, hvm⟩ := hu.part hkw
    have hv9 := List.mem_of_getElem? hv
    have hvl := hu.len v hv9
    have hvb := hu.bd v hv9
    have hwl : xw.m.length ≤ (opn y.moves).1 := by rw [hvm]; exact nzF_len _ _
    have hnx : tkV (opn y.moves).1 (us.take (k + 1)) [] = tkV (opn y.moves).1 (us.take k) xw.m := by rw [hvm, tkV_next hv hvl (fun x hx => (hvb x hx).1)]
    have hwp := (hu.parts xw (List.mem_of_getElem? hkw)).sub hc0
    refine xr_op rfl rfl (xv_ia (sz := 1) (j := k) sl71 ty39 rfl (by rw [haw]; rfl) rfl (by (first | assumption | with_reducible exact Int.toNat_natCast _ | with_reducible rfl | rfl)) (by (first | omega | (dsimp only at *; omega) | (simp at *; omega))) (by (first | omega | (dsimp only at *; omega) | (simp at *; omega))) ?_)
    refine xr_op rfl rfl (xv_load1 ty39 rfl rfl (by ((repeat first|exact z_0|assumption|refine z_1 ?_|(refine z_l ?_;(repeat first|exact z_0|assumption|refine z_1 ?_);done)|refine z_r ?_);done)) (take_get (hxw (k) xw hkw) (j := 0) rfl) ?_)
    refine xr_op rfl rfl (xv_assign rfl ?_)
    refine xr_end rfl ?_
    refine th_n ?_
    refine xc_seq (xc_region ?_)
    refine xr_op rfl rfl (xv_move rfl ?_)
    refine xr_op rfl rfl (xv_len sl39 rfl ?_)
    refine xr_op rfl rfl (xv_move rfl ?_)
    refine xr_end rfl ?_
    refine th_n ?_
    refine xc_block ?_
    refine xc_loop (σ := Nat) (fun j => j ≤ xw.m.length) (fun j => ((((((((((emp.put (some 0) (yv)).put (some 1) (.pointer (some ⟨p1, 0, none⟩))).put (some 2) (.pointer (some ⟨p2, 0, none⟩))).put (some 4) (.slice (some ⟨b16, 0, none⟩) (opn y.moves).1 (opn y.moves).1)).put (some 17) (.slice a es.length c)).put (some 18) (I es.length)).put (some 19) (I k)).put (some 23) (.slice xw.a xw.m.length xw.c)).put (some 24) (I xw.m.length)).put (some 25) (I j))) (fun j => ((b16, .cells ⟨(tkV (opn y.moves).1 (us.take k) (xw.m.take j)).flatMap eI⟩ 3) :: h)) (fun j => xw.m.length - j) 0 (Nat.zero_le _) (le_put (le_put (le_put (le_put (le_put (le_put (le_put (le_put (le_put (le_put (le_emp _) rfl) rfl) rfl) rfl) rfl) rfl) rfl) rfl) rfl) rfl) (by (first|((repeat first|exact s_0|exact s_1|exact s_3|refine s_4 ?_|refine s_5 ?_|refine s_6 ?_|refine s_7 ?_);done)|((repeat first|exact s_0|exact s_1|exact s_3|refine s_4 ?_|refine s_5 ?_|refine s_6 ?_|refine s_8 ?_);done))) ?_
    rintro j hj
    refine xc_seq (xc_region ?_)
    refine xr_op rfl rfl (xv_lss2 rfl rfl (fun q2 => ?_) (fun q2 => ?_))
    · refine xr_end rfl ?_
      refine th_n ?_
      refine xc_seq ?_
      refine xc_true rfl ?_
      refine xc_skip ?_
      refine th_n ?_
      refine xc_seq ?_
      refine xc_block ?_
      refine xc_seq (xc_region ?_)
      have hltp : j < xw.m.length := by (first | omega | (dsimp only at *; omega) | (simp at *; omega))
      obtain ⟨bp, op, lp, tp, fzp, hap, hmp, hxp⟩ := (hwp).at hltp
      obtain ⟨xp, hkp⟩ : ∃ qq_, xw.m[j]? = some qq_ := ⟨_, List.getElem?_eq_getElem hltp⟩
      obtain ⟨pt0, pl0, pl1, _⟩ := nzF_mem (hvm ▸ List.mem_of_getElem? hkp)
      have hpos : ∀ q ∈ xw.m, 0 ≤ q.tons := fun q hq => Int.le_of_lt (nzF_mem (hvm ▸ hq)).1
      have hpi : xp.layer = ((xp.layer.toNat : Nat) : Int) := by omega
      have hpn : xp.layer.toNat < (opn y.moves).1 := by omega
      have hg := tkV_get (us := us.take k) (l := xw.m.take j) hpn
      have hb1 := taken_bd (prev := us.take k) (fun v hv => hu.bd v (List.mem_of_mem_take hv)) xp.layer.toNat
      rw [List.length_take] at hb1
      have hb2 := addP_bd hpos xp.layer.toNat (j + 1)
      have hb4 := addP_bd hpos xp.layer.toNat j
      rw [addP_take hkp, if_pos hpi] at hb2
      have hb3 : addP xw.m xp.layer.toNat ≤ 1048576 := by rw [hvm, addP_nz (fun j => (getD_bd (B := 1048576) (by decide) hvb j).1), if_pos hpn]; exact (getD_bd (by decide) hvb _).2
      refine xr_op rfl rfl (xv_ia (sz := 2) (j := j) sl39 ty43 rfl (by rw [hap]; rfl) rfl (by (first | assumption | with_reducible exact Int.toNat_natCast _ | with_reducible rfl | rfl)) (by (first | omega | (dsimp only at *; omega) | (simp at *; omega))) (by (first | omega | (dsimp only at *; omega) | (simp at *; omega))) ?_)
      refine xr_op rfl rfl (xv_loadA ty43 rfl rfl (by ((repeat first|exact z_0|assumption|refine z_1 ?_|(refine z_l ?_;(repeat first|exact z_0|assumption|refine z_1 ?_);done)|refine z_r ?_);done)) (hxp (j) xp hkp) rfl ?_)
      refine xr_op rfl rfl (xv_alloc ty43 (fun b8 hb8 => ?_))
      refine xr_op rfl rfl (xv_s ty43 rfl rfl (by (first|(apply u_3;(repeat first|exact u_0|assumption|apply u_1|apply u_2);done)|((repeat first|exact u_0|assumption|apply u_1|apply u_2);done)|(apply u_3;apply u_3;(repeat first|exact u_0|assumption|apply u_1|apply u_2);done)|((repeat first|exact u_0|assumption|apply u_3|apply u_1);done))) (by ((try apply evl_some rfl);(repeat (first|exact (rfl : _ = [])|apply evl_cons rfl (by (first|exact v_1|exact v_2|exact v_3|exact v_4|exact v_5|exact v_6|exact v_7|exact v_8|exact v_9|exact rfl))|exact rfl)))) (by rfl) (by rfl) (by rfl) (by ((try apply evl_some rfl);(repeat (first|exact (rfl : _ = [])|apply evl_cons rfl (by (first|exact v_1|exact v_2|exact v_3|exact v_4|exact v_5|exact v_6|exact v_7|exact v_8|exact v_9|exact rfl))|exact rfl)))) ?_)
      refine xr_end rfl ?_
      refine th_n ?_
      refine xc_draw0 [(0, .S), (1, .S), (2, .R), (3, .S), (4, .R), (5, .S), (6, .R), (7, .S), (8, .S), (9, .O)] mixed (by kernel_rfl) ?_
      refine js_S rfl rfl (.inl rfl) (xv_move rfl ⟨rfl, rfl⟩) ?_
      refine js_S rfl rfl (.inl rfl) (xv_faddr fl43_0 rfl ⟨rfl, rfl⟩) ?_
      refine js_R0 rfl rfl (.inl rfl) (xv_load1 ty3 rfl rfl (by ((repeat first|exact z_0|assumption|refine z_1 ?_|(refine z_l ?_;(repeat first|exact z_0|assumption|refine z_1 ?_);done)|refine z_r ?_);done)) (by rfl) ⟨rfl, rfl⟩) ?_
      refine js_S rfl rfl (.inl rfl) (xv_ia (sz := 1) (j := xp.layer.toNat) sl38 ty3 rfl rfl rfl (by omega) (by (first | omega | (dsimp only at *; omega) | (simp at *; omega))) (by (first | omega | (dsimp only at *; omega) | (simp at *; omega))) ⟨rfl, rfl⟩) ?_
      refine js_R0 rfl rfl (.inl rfl) (xv_load1 ty3 rfl rfl (by ((repeat first|exact z_0|assumption|refine z_1 ?_|(refine z_l ?_;(repeat first|exact z_0|assumption|refine z_1 ?_);done)|refine z_r ?_);done)) (ints_get hg) ⟨rfl, rfl⟩) ?_
      refine js_S rfl rfl (.inl rfl) (xv_faddr fl43_1 rfl ⟨rfl, rfl⟩) ?_
      refine js_R0 rfl rfl (.inl rfl) (xv_load1 ty3 rfl rfl (by ((repeat first|exact z_0|assumption|refine z_1 ?_|(refine z_l ?_;(repeat first|exact z_0|assumption|refine z_1 ?_);done)|refine z_r ?_);done)) (by rfl) ⟨rfl, rfl⟩) ?_
      refine js_S rfl rfl (.inl rfl) (xv_add rfl rfl (wrap_i64 (by (first | omega | (dsimp only at *; omega) | (simp at *; omega))) (by (first | omega | (dsimp only at *; omega) | (simp at *; omega)))) ⟨rfl, rfl⟩) ?_
      refine js_S rfl rfl (.inl rfl) (xv_ia (sz := 1) (j := xp.layer.toNat) sl38 ty3 rfl rfl rfl (by omega) (by (first | omega | (dsimp only at *; omega) | (simp at *; omega))) (by (first | omega | (dsimp only at *; omega) | (simp at *; omega))) ⟨rfl, rfl⟩) ?_
      refine js_O0 rfl rfl (.inl rfl) (xv_s1 (l := (tkV (opn y.moves).1 (us.take k) (xw.m.take j)).flatMap eI) (l' := (tkV (opn y.moves).1 (us.take k) (xw.m.take (j + 1))).flatMap eI) ty3 rfl rfl rfl (by (first|(apply u_3;(repeat first|exact u_0|assumption|apply u_1|apply u_2);done)|((repeat first|exact u_0|assumption|apply u_1|apply u_2);done)|(apply u_3;apply u_3;(repeat first|exact u_0|assumption|apply u_1|apply u_2);done)|((repeat first|exact u_0|assumption|apply u_3|apply u_1);done))) rfl (by rw [ints_len, tkV_len]; (first | omega | (dsimp only at *; omega) | (simp at *; omega))) ((ints_setN (by rw [tkV_len]; omega)).trans (by rw [tkV_set hkp hpi hpn])) ?_)
      refine j_end0 ?_
      refine bk_n ?_
      refine th_n ?_
      refine xc_region ?_
      refine xr_op rfl rfl (xv_add rfl rfl (wrap_i64 (by (first | omega | (dsimp only at *; omega) | (simp at *; omega))) (by (first | omega | (dsimp only at *; omega) | (simp at *; omega)))) ?_)
      refine xr_op rfl rfl (xv_move rfl ?_)
      refine xr_end rfl ?_
      exact rnd (j + 1) (by (first | omega | (dsimp only at *; omega) | (simp at *; omega))) (by (first | omega | (dsimp only at *; omega) | (simp at *; omega))) (le_put (le_put (le_put (le_put (le_put (le_put (le_put (le_put (le_put (le_put (le_emp _) rfl) rfl) rfl) rfl) rfl) rfl) rfl) rfl) rfl) rfl) (by (first|((repeat first|exact s_0|exact s_1|exact s_3|refine s_4 ?_|refine s_5 ?_|refine s_6 ?_|refine s_7 ?_);done)|((repeat first|exact s_0|exact s_1|exact s_3|refine s_4 ?_|refine s_5 ?_|refine s_6 ?_|refine s_8 ?_);done)))
    · refine xr_end rfl ?_
      refine th_n ?_
      refine xc_seq ?_
      refine xc_false rfl ?_
      refine xc_exit ?_
      refine th_x ?_
      refine th_x ?_
      refine bk_same ?_
      refine bk_n ?_
      refine th_n ?_
      refine xc_region ?_
      obtain rfl : xw.m.length = j := by (first | omega | (dsimp only at *; omega) | (simp at *; omega))
      rw [List.take_length]
      refine xr_op rfl rfl (xv_add rfl rfl (wrap_i64 (by (first | omega | (dsimp only at *; omega) | (simp at *; omega))) (by (first | omega | (dsimp only at *; omega) | (simp at *; omega)))) ?_)
      refine xr_op rfl rfl (xv_move rfl ?_)
      refine xr_end rfl ?_
      exact rnd (k + 1) (by (first | omega | (dsimp only at *; omega) | (simp at *; omega))) (by (first | omega | (dsimp only at *; omega) | (simp at *; omega))) (le_put (le_put (le_put (le_put (le_put (le_put (le_put (le_emp _) rfl) rfl) rfl) rfl) rfl) rfl) rfl) (by rw [hnx]; (first|((repeat first|exact s_0|exact s_1|exact s_3|refine s_4 ?_|refine s_5 ?_|refine s_6 ?_|refine s_7 ?_);done)|((repeat first|exact s_0|exact s_1|exact s_3|refine s_4 ?_|refine s_5 ?_|refine s_6 ?_|refine s_8 ?_);done)))
  · refine xr_end rfl ?_
    refine th_n ?_
    refine xc_seq ?_
    refine xc_false rfl ?_
    refine xc_exit ?_
    refine th_x ?_
    refine th_x ?_
    refine bk_same ?_
    refine th_n ?_
    refine xc_seq (xc_region ?_)
    obtain rfl : es.length = k := by (first | omega | (dsimp only at *; omega) | (simp at *; omega))
    rw [show us.take es.length = us from by rw [hen, List.take_length]]
    refine xr_op rfl rfl (xv_move rfl ?_)
    refine xr_op rfl rfl (xv_len sl38 rfl ?_)
    refine xr_op rfl rfl (xv_move rfl ?_)
    refine xr_end rfl ?_
    refine th_n ?_
    refine xc_block ?_
    refine xc_loop (σ := Nat × Hp) (fun z => z.1 ≤ (opn y.moves).1 ∧ J (partsN y us z.1).length z.2) (fun z => (((((((emp.put (some 0) (yv)).put (some 1) (.pointer (some ⟨p1, 0, none⟩))).put (some 2) (.pointer (some ⟨p2, 0, none⟩))).put (some 4) (.slice (some ⟨b16, 0, none⟩) (opn y.moves).1 (opn y.moves).1)).put (some 40) (.slice (some ⟨b16, 0, none⟩) (opn y.moves).1 (opn y.moves).1)).put (some 41) (I (opn y.moves).1)).put (some 42) (I z.1))) (fun z => ((b16, .cells ⟨(tkV (opn y.moves).1 us []).flatMap eI⟩ 3) :: z.2)) (fun z => (opn y.moves).1 - z.1) ((0, h) : Nat × Hp) ⟨Nat.zero_le _, hJ⟩ (le_put (le_put (le_put (le_put (le_put (le_put (le_put (le_emp _) rfl) rfl) rfl) rfl) rfl) rfl) rfl) (by (first|((repeat first|exact s_0|exact s_1|exact s_3|refine s_4 ?_|refine s_5 ?_|refine s_6 ?_|refine s_7 ?_);done)|((repeat first|exact s_0|exact s_1|exact s_3|refine s_4 ?_|refine s_5 ?_|refine s_6 ?_|refine s_8 ?_);done))) ?_
    rintro ⟨j, h1⟩ ⟨hj, hJ1⟩
    dsimp only at hj hJ1
    have hc1 := hRd _ _ hJ1
    refine xc_seq (xc_region ?_)
    refine xr_op rfl rfl (xv_lss2 rfl rfl (fun q3 => ?_) (fun q3 => ?_))
    · refine xr_end rfl ?_
      refine th_n ?_
      refine xc_seq ?_
      refine xc_true rfl ?_
      refine xc_skip ?_
      refine th_n ?_
      refine xc_seq ?_
      refine xc_block ?_
      refine xc_seq (xc_region ?_)
      have hjl : j < (opn y.moves).1 := by (first | omega | (dsimp only at *; omega) | (simp at *; omega))
      have hg := tkV_get (us := us) (l := []) hjl
      rw [addP_nil, Int.add_zero] at hg
      have hb1 := taken_bd hu.bd j
      refine xr_op rfl rfl (xv_move rfl ?_)
      refine xr_op rfl rfl (xv_ia (sz := 1) (j := j) sl38 ty3 rfl rfl rfl (by (first | assumption | with_reducible exact Int.toNat_natCast _ | with_reducible rfl | rfl)) (by (first | omega | (dsimp only at *; omega) | (simp at *; omega))) (by (first | omega | (dsimp only at *; omega) | (simp at *; omega))) ?_)
      refine xr_op rfl rfl (xv_load1 ty3 rfl rfl (by ((repeat first|exact z_0|assumption|refine z_1 ?_|(refine z_l ?_;(repeat first|exact z_0|assumption|refine z_1 ?_);done)|refine z_r ?_);done)) (ints_get hg) ?_)
      refine xr_op rfl rfl (xv_assign rfl ?_)
      refine xr_op rfl rfl (xv_assign rfl ?_)
      refine xr_end rfl ?_
      refine th_n ?_
      refine xc_seq (xc_region ?_)
      refine xr_op rfl rfl (xv_move rfl ?_)
      refine xr_op rfl rfl (xv_gtr2 rfl rfl (fun q4 => ?_) (fun q4 => ?_))
      · refine xr_op rfl rfl (xv_move rfl ?_)
        have hpt : takenR us j > 0 := by (first | omega | (dsimp only at *; omega) | (simp at *; omega))
        have hz := partsN_at hpt hjl
        have hS1 := hsh.sub hc1
        have m6 := hc1 hp1
        have m7 := hS1.top
        have hltl : j < bs.length := by omega
        obtain ⟨bl, ol, ll, tl, fzl, hal, hml, hxl⟩ := (hS1.lays).at hltl
        obtain ⟨xl, hkl⟩ : ∃ qq_, bs[j]? = some qq_ := ⟨_, List.getElem?_eq_getElem hltl⟩
        have hlay := hS1.lay j xl hkl
        have hll : ((layF y.moves y.moves.length (roomR y.coals.length y.moves y.moves.length vs) j).drop 0).take 6 = (contF 6 (y.moves.take y.moves.length) (j : Int)).flatMap eI := by unfold layF; rw [List.drop_zero, List.take_append_of_le_length (by rw [ints_len, contF_len]; exact Nat.le_refl _), List.take_of_length_le (by rw [ints_len, contF_len]; exact Nat.le_refl _)]
        refine xr_gd rfl rfl rfl (xv_move rfl ?_)
        refine xr_gd rfl rfl rfl (xv_load1 ty66 rfl rfl (by ((repeat first|exact z_0|assumption|refine z_1 ?_|(refine z_l ?_;(repeat first|exact z_0|assumption|refine z_1 ?_);done)|refine z_r ?_);done)) (by rfl) ?_)
        refine xr_gd rfl rfl rfl (xv_nilp rfl ?_)
        refine xr_gd rfl rfl rfl (xv_faddr fl73_1 rfl ?_)
        refine xr_gd rfl rfl rfl (xv_load1 ty70 rfl rfl (by ((repeat first|exact z_0|assumption|refine z_1 ?_|(refine z_l ?_;(repeat first|exact z_0|assumption|refine z_1 ?_);done)|refine z_r ?_);done)) (by rfl) ?_)
        refine xr_gd rfl rfl rfl (xv_move rfl ?_)
        refine xr_gd rfl rfl rfl (xv_ia (sz := 1) (j := j) sl70 ty105 rfl (by rw [hal]; rfl) rfl (by (first | assumption | with_reducible exact Int.toNat_natCast _ | with_reducible rfl | rfl)) (by (first | omega | (dsimp only at *; omega) | (simp at *; omega))) (by (first | omega | (dsimp only at *; omega) | (simp at *; omega))) ?_)
        refine xr_gd rfl rfl rfl (xv_load1 ty105 rfl rfl (by ((repeat first|exact z_0|assumption|refine z_1 ?_|(refine z_l ?_;(repeat first|exact z_0|assumption|refine z_1 ?_);done)|refine z_r ?_);done)) (take_get (hxl (j) xl hkl) (j := 0) rfl) ?_)
        refine xr_gd rfl rfl rfl (xv_nilp rfl ?_)
        refine xr_gd rfl rfl rfl (xv_faddr fl107_0 rfl ?_)
        refine xr_gd rfl rfl rfl (xv_loadA ty80 rfl rfl (by ((repeat first|exact z_0|assumption|refine z_1 ?_|(refine z_l ?_;(repeat first|exact z_0|assumption|refine z_1 ?_);done)|refine z_r ?_);done)) hll (by rw [ints_len]; exact contF_len _ _ _) ?_)
        refine xr_gd rfl rfl rfl (xv_move rfl ?_)
        refine xr_gd rfl rfl rfl (xv_fn rfl rfl (yieldTo (g := [(b16, .cells ⟨(tkV (opn y.moves).1 us []).flatMap eI⟩ 3)]) (hyv _ _ hz _ hJ1) (fun h3 hJ3 => up_ret ?_) (fun h3 hJ3 => up_ret ?_)))
        · refine xr_gd rfl rfl rfl (xv_not rfl ?_)
          refine xr_op rfl rfl (xv_pick rfl rfl ?_)
          refine xr_end rfl ?_
          refine th_n ?_
          refine xc_false rfl ?_
          refine xc_skip ?_
          refine bk_n ?_
          refine th_n ?_
          refine xc_region ?_
          refine xr_op rfl rfl (xv_add rfl rfl (wrap_i64 (by (first | omega | (dsimp only at *; omega) | (simp at *; omega))) (by (first | omega | (dsimp only at *; omega) | (simp at *; omega)))) ?_)
          refine xr_op rfl rfl (xv_move rfl ?_)
          refine xr_end rfl ?_
          exact rnd ((j + 1, h3) : Nat × Hp) ⟨by (first | omega | (dsimp only at *; omega) | (simp at *; omega)), by dsimp only; rw [partsN_lenS hpt]; exact hJ3⟩ (by (first | omega | (dsimp only at *; omega) | (simp at *; omega))) (le_put (le_put (le_put (le_put (le_put (le_put (le_put (le_emp _) rfl) rfl) rfl) rfl) rfl) rfl) rfl) (by (first|((repeat first|exact s_0|exact s_1|exact s_3|refine s_4 ?_|refine s_5 ?_|refine s_6 ?_|refine s_7 ?_);done)|((repeat first|exact s_0|exact s_1|exact s_3|refine s_4 ?_|refine s_5 ?_|refine s_6 ?_|refine s_8 ?_);done)))
        · refine xr_gd rfl rfl rfl (xv_not rfl ?_)
          refine xr_op rfl rfl (xv_pick rfl rfl ?_)
          refine xr_end rfl ?_
          refine th_n ?_
          refine xc_true rfl ?_
          refine xc_ret ?_
          refine bk_r ?_
          refine th_r ?_
          refine th_r ?_
          refine bk_r ?_
          refine body_ret (h' := h3) rfl ro_nil (by (first|((repeat first|exact s_0|exact s_1|exact s_3|refine s_4 ?_|refine s_5 ?_|refine s_6 ?_|refine s_7 ?_);done)|((repeat first|exact s_0|exact s_1|exact s_3|refine s_4 ?_|refine s_5 ?_|refine s_6 ?_|refine s_8 ?_);done))) ?_
          exact ⟨⟨_, rfl⟩, .inr ⟨_, (List.getElem?_eq_some_iff.1 hz).1, hJ3⟩⟩
      · refine xr_op rfl rfl (xv_move rfl ?_)
        refine xr_no rfl rfl rfl rfl ?_
        refine xr_no rfl rfl rfl rfl ?_
        refine xr_no rfl rfl rfl rfl ?_
        refine xr_no rfl rfl rfl rfl ?_
        refine xr_no rfl rfl rfl rfl ?_
        refine xr_no rfl rfl rfl rfl ?_
        refine xr_no rfl rfl rfl rfl ?_
        refine xr_no rfl rfl rfl rfl ?_
        refine xr_no rfl rfl rfl rfl ?_
        refine xr_no rfl rfl rfl rfl ?_
        refine xr_no rfl rfl rfl rfl ?_
        refine xr_no rfl rfl rfl rfl ?_
        refine xr_no rfl rfl rfl rfl ?_
        refine xr_no rfl rfl rfl rfl ?_
        refine xr_op rfl rfl (xv_pick rfl rfl ?_)
        refine xr_end rfl ?_
        refine th_n ?_
        refine xc_false rfl ?_
        refine xc_skip ?_
        refine bk_n ?_
        refine th_n ?_
        refine xc_region ?_
        have hpt : ¬ takenR us j > 0 := by (first | omega | (dsimp only at *; omega) | (simp at *; omega))
        refine xr_op rfl rfl (xv_add rfl rfl (wrap_i64 (by (first | omega | (dsimp only at *; omega) | (simp at *; omega))) (by (first | omega | (dsimp only at *; omega) | (simp at *; omega)))) ?_)
        refine xr_op rfl rfl (xv_move rfl ?_)
        refine xr_end rfl ?_
        exact rnd ((j + 1, h1) : Nat × Hp) ⟨by (first | omega | (dsimp only at *; omega) | (simp at *; omega)), by dsimp only; rw [partsN_eq hpt]; exact hJ1⟩ (by (first | omega | (dsimp only at *; omega) | (simp at *; omega))) (le_put (le_put (le_put (le_put (le_put (le_put (le_put (le_emp _) rfl) rfl) rfl) rfl) rfl) rfl) rfl) (by (first|((repeat first|exact s_0|exact s_1|exact s_3|refine s_4 ?_|refine s_5 ?_|refine s_6 ?_|refine s_7 ?_);done)|((repeat first|exact s_0|exact s_1|exact s_3|refine s_4 ?_|refine s_5 ?_|refine s_6 ?_|refine s_8 ?_);done)))
    · refine xr_end rfl ?_
      refine th_n ?_
      refine xc_seq ?_
      refine xc_false rfl ?_
      refine xc_exit ?_
      refine th_x ?_
      refine th_x ?_
      refine bk_same ?_
      refine body_end (h' := h1) rfl ro_nil (by (first|((repeat first|exact s_0|exact s_1|exact s_3|refine s_4 ?_|refine s_5 ?_|refine s_6 ?_|refine s_7 ?_);done)|((repeat first|exact s_0|exact s_1|exact s_3|refine s_4 ?_|refine s_5 ?_|refine s_6 ?_|refine s_8 ?_);done))) ?_
      exact ⟨⟨_, rfl⟩, .inl (by have hk9 : j = (opn y.moves).1 := (by (first | omega | (dsimp only at *; omega) | (simp at *; omega))); rw [hk9] at hJ1; exact hJ1)⟩

end Go.Proofs.Ytpefpafijadfmaa

/-
  Loops that leave marks (ranges over functions within a loop); a slice of a slice; a store of a whole block.
-/
set_option linter.all false
namespace Go.H
open Go
variable {P : Program} {r : Option Nat} {N : Nat} {Q : Post} {E : Env} {D : List Deferred} {h h' : Hp}
theorem xc_loopD {σ : Type} {c : Code} (I : σ → Prop) (EI : σ → Env) (HI : σ → Hp) (DI : σ → List Deferred) (μ : σ → Nat) (x₀ : σ) (h₀ : I x₀) (hl : EnvLe (EI x₀) E) (hs : List.Sublist (HI x₀) h) (hD : DI x₀ = D)
    (round : ∀ x, I x → XC P r N c (Th (fun E' D' h' => ∃ x', I x' ∧ μ x' < μ x ∧ EnvLe (EI x') E' ∧ D' = DI x' ∧ List.Sublist (HI x') h') Q) (EI x) (DI x) (HI x)) :
    XC P r N (.loop c) Q E D h := by
  refine XC.weaken hl hs ?_
  intro w a ho ha hd
  refine wpIn_loop_ghost (fun x a' w' => I x ∧ Agree N (EI x) a' ∧ a'.defers = DI x ∧ Fol (HI x₀) w (HI x) w') μ ?_ x₀ a w ⟨h₀, ha, hd.trans hD.symm, .refl ho⟩
  rintro x a' w' ⟨hi, ha', hd', hf⟩
  refine wpIn_mono (round x hi w' a' hf.own ha' hd') ?_
  rintro e a2 w2 ⟨E2, h2, q, ha2, hf2⟩
  cases e with
  | normal =>
    obtain ⟨x', hi', hlt, hle, hd2, hsub⟩ := q
    exact ⟨x', ⟨hi', ha2.le hle, hd2, hf.trans (hf2.sub hsub)⟩, hlt⟩
  | _ => exact ⟨E2, h2, q, ha2, hf.trans hf2⟩
theorem rndD {σ : Type} {I : σ → Prop} {EI : σ → Env} {HI : σ → Hp} {DI : σ → List Deferred} {μ : σ → Nat} {x : σ} (x' : σ) (h1 : I x') (h2 : μ x' < μ x) (h3 : EnvLe (EI x') E) (h5 : List.Sublist (HI x') h) (h4 : D = DI x') :
    Th (fun E' D' h' => ∃ x', I x' ∧ μ x' < μ x ∧ EnvLe (EI x') E' ∧ D' = DI x' ∧ List.Sublist (HI x') h') Q .normal E D h := ⟨x', h1, h2, h3, h4, h5⟩
/-- The blocks of the marks. -/
def mkHp (ks : List Nat) : Hp := ks.map fun k => (k, Obj.deferred (some []))
theorem marks_mk : ∀ {ks : List Nat} {h : Hp}, (∀ k ∈ ks, (k, Obj.deferred (some [])) ∈ h) → ks.Nodup → Marks h (ks.map markOf)
  | [], _, _, _ => trivial
  | k :: ks, h, hm, hn => by
    refine ⟨⟨k, rfl, hm k List.mem_cons_self, fun d hd => ?_⟩, marks_mk (fun j hj => hm j (List.mem_cons_of_mem _ hj)) (List.nodup_cons.1 hn).2⟩
    obtain ⟨j, hj, rfl⟩ := List.mem_map.1 hd
    intro hq
    have : j = k := by simpa [markOf] using hq
    exact (List.nodup_cons.1 hn).1 (this ▸ hj)
theorem marked_mk : ∀ (ks : List Nat), marked (ks.map markOf) = ks
  | [] => rfl
  | k :: ks => by
    have e : marked ((k :: ks).map markOf) = [k] ++ marked (ks.map markOf) := rfl
    rw [e, marked_mk ks]; rfl
theorem keys_mk (ks : List Nat) : keys (mkHp ks) = ks := by
  unfold keys mkHp; rw [List.map_map]; exact List.map_id _
theorem body_retMs {fn : Func} {R : Ending → Hp → Prop} {rl : List ResultVar} {vs : List Value} {ks : List Nat} {g : Hp} (hrl : fn.results.toList = rl) (hr : ResOk P E (mkHp ks ++ g) rl vs) (hs : List.Sublist h' g) (hn : (keys (mkHp ks ++ g)).Nodup) (H : R (.returned (tupV vs)) h') : BodyQ P fn R .ret E (ks.map markOf) (mkHp ks ++ g) := by
  rw [keys_append, keys_mk, List.nodup_append] at hn
  refine ⟨marks_mk (fun k hk => List.mem_append_left _ (List.mem_map.2 ⟨k, hk, rfl⟩)) hn.1, vs, h', by rw [hrl]; exact hr, List.Sublist.trans hs (List.sublist_append_right _ _), fun k hk hq => ?_, H⟩
  rw [marked_mk] at hk
  exact hn.2.2 k hk k ((hs.map Prod.fst).subset hq) rfl
theorem splice_all {l vs : List Value} (h : vs.length = l.length) : splice l 0 vs = vs := by
  unfold splice; rw [Nat.zero_add, List.drop_of_length_le (by omega)]; simp
section
variable {K : Value → Hp → Prop} {T : List PanicEntry → Hp → Prop} {dst : Option Nat} {ty : TypeId} {pos : String} {af : Array Edge} {gd : Option (Nat × Bool)}
/-- A store of all of a block. -/
theorem xv_sAll {t : TypeId} {x y : Operand} {b : Nat} {l vs : List Value} {t' : TypeId} {d : TD} (ht : TyOk P t d) (hx : ev E x = some (.pointer (some ⟨b, 0, none⟩))) (hy : ev E y = some (.agg ⟨vs⟩))
    (hm : Upd h b (.cells ⟨l⟩ t' (0, 0)) (.cells ⟨vs⟩ t' (0, 0)) h') (hn : vs.length = d.size) (hl : l.length = d.size) (h1 : vs.all Value.oneCell' = true) (H : K undef h') : XV P r ⟨dst, .store t x y, ty, pos, af, gd⟩ K T E h :=
  xv_s ht hx hy hm rfl hn h1 (by rw [Nat.zero_add, hl]; exact Nat.ble_eq_true_of_le (Nat.le_refl _)) (splice_all (hn.trans hl.symm)) H
theorem xv_cut {x lo hi : Operand} {t e : TypeId} {d : TD} {b o n c m : Nat} {k1 k2 : IntKind} {f u : Int} (ht : SlT P t e) (hd : TyOk P e d) (hx : ev E x = some (.slice (some ⟨b, o, none⟩) n c)) (hlo : ev E lo = some (.int k1 f)) (hhi : ev E hi = some (.int k2 u))
    (h0 : 0 ≤ f) (h1 : f < u) (h2 : u ≤ n) (h3 : n ≤ c) (hm : u.toNat - f.toNat = m)
    (H : K (.slice (some ⟨b, o + f.toNat * d.size, none⟩) m (c - f.toNat)) h) : XV P r ⟨dst, .slice t x (some lo) (some hi) none, ty, pos, af, gd⟩ K T E h := by
  subst hm
  exact xv_slice2 (l := some f) (u := some u) ht hd hx (by simp [optInt, hlo]) (by simp [optInt, hhi]) h0 (by dsimp only [Option.getD_some]; omega) (by dsimp only [Option.getD_some]; omega) (by dsimp only [Option.getD_some]; omega) H
end
end Go.H

/-
  The blend and the yield as the program sums them, over the layers that are drawn from.
-/
set_option linter.all false
namespace Go.Proofs.Ytpefpafijadfmaa
open Go Go.H
def pV {α : Type} (n : Nat) (f : Nat → α) (d : α) (i : Nat) : List α := (List.range n).map fun c => if c < i then f c else d
theorem pV_len {α : Type} {n : Nat} {f : Nat → α} {d : α} {i : Nat} : (pV n f d i).length = n := by simp [pV]
theorem pV_0 {α : Type} {n : Nat} {f : Nat → α} {d : α} : pV n f d 0 = List.replicate n d := by
  refine List.eq_replicate_iff.2 ⟨pV_len, fun x hx => ?_⟩
  simp only [pV, List.mem_map] at hx
  obtain ⟨i, _, rfl⟩ := hx
  exact if_neg (Nat.not_lt_zero _)
theorem pV_end {α : Type} {n : Nat} {f : Nat → α} {d : α} : pV n f d n = (List.range n).map f := List.map_congr_left fun i hi => if_pos (List.mem_range.1 hi)
theorem pV_set {α : Type} {n i : Nat} {f : Nat → α} {d : α} (h : i < n) : (pV n f d i).set i (f i) = pV n f d (i + 1) := by
  refine List.ext_getElem? fun j => ?_
  rw [List.getElem?_set]
  by_cases hj : j < n
  · by_cases hi : i = j
    · subst hi; rw [if_pos rfl, if_pos (by rw [pV_len]; omega)]; simp [pV, hj]
    · rw [if_neg hi]
      simp only [pV, List.getElem?_map, List.getElem?_range hj, Option.map_some]
      congr 1
      by_cases hq : j < i
      · rw [if_pos hq, if_pos (by omega)]
      · rw [if_neg hq, if_neg (by omega)]
  · have : ¬ i = j := by omega
    rw [if_neg this, List.getElem?_eq_none (by rw [pV_len]; omega), List.getElem?_eq_none (by rw [pV_len]; omega)]
/-! ### A part of the draws -/
theorem flat1 {α : Type} {h : Hp} {enc : α → List Value} {b o f : Nat} {xs : List α} (H : SlV h 1 enc (some ⟨b, o, none⟩) xs) (n : Nat) : SlV h 1 enc (some ⟨b, o + f * 1, none⟩) ((xs.drop f).take n) := (H.drop f).take n
theorem ShedV.cut {h : Hp} {y : Yard} {vs : List (List Int)} {b : Nat} {la : Option Addr} {lc : Nat} {bs : List Nat} {bo oo : Nat} {dc : Nat} {ds : List PH} (H : ShedV h y vs b la lc bs (some ⟨bo, oo, none⟩) dc ds) (hg : GoodYard y) (f n : Nat) :
    SubV h y ((vs.drop f).take n) (some ⟨bo, oo + f * 1, none⟩) ((ds.drop f).take n) := by
  have h1 := H.inv.few
  have h2 := opn_le y.moves
  have h3 := hg.2.2.2
  refine ⟨flat1 H.draws n, fun z hz => H.parts z (List.mem_of_mem_drop (List.mem_of_mem_take hz)), by rw [List.map_take, List.map_drop, H.are, List.map_take, List.map_drop], fun v hv => H.inv.len v (List.mem_of_mem_drop (List.mem_of_mem_take hv)), fun v hv => H.inv.bd v (List.mem_of_mem_drop (List.mem_of_mem_take hv)), ?_, by omega⟩
  rw [List.length_take, List.length_drop]; omega
theorem partsN_len (y : Yard) (us : List (List Int)) (i : Nat) : (partsN y us i).length ≤ i := by
  have := List.length_filterMap_le (fun j : Nat => if takenR us j > 0 then some (contF 6 (y.moves.take y.moves.length) (j : Int), takenR us j) else none) (List.range i)
  rwa [List.length_range] at this
theorem partsL_mem {y : Yard} {us : List (List Int)} {x : List Int × Int} (h : x ∈ partsL y us) : ∃ j : Nat, j < (opn y.moves).1 ∧ x = (contF 6 (y.moves.take y.moves.length) (j : Int), takenR us j) ∧ takenR us j > 0 := by
  unfold partsL partsN at h
  rw [List.mem_filterMap] at h
  obtain ⟨j, hj, he⟩ := h
  rw [List.mem_range] at hj
  split at he
  · cases he; exact ⟨j, hj, rfl, by assumption⟩
  · cases he
theorem partsL_ok {y : Yard} {us : List (List Int)} {x : List Int × Int} (hg : GoodYard y) (hb : ∀ v ∈ us, ∀ z ∈ v, 0 ≤ z ∧ z ≤ 1048576) (hf : us.length ≤ 32) (h : x ∈ partsL y us) : x.1.length = 6 ∧ (∀ z ∈ x.1, 0 ≤ z ∧ z ≤ 33554432) ∧ 0 < x.2 ∧ x.2 ≤ 1048576 * (us.length : Int) := by
  obtain ⟨j, hj, rfl, h0⟩ := partsL_mem h
  have ht := taken_bd hb j
  have hc := contF_bd (j := (j : Int)) (movesOk_le hg.2.2.1.2 (movesOk_mono y.moves.length hg.2.1))
  refine ⟨contF_len _ _ _, fun z hz => ?_, h0, ht.2⟩
  have := hc z hz
  have h3 := hg.2.2.2
  rw [List.length_take, Nat.min_self] at this
  omega
theorem c6_pad {y : Yard} (hg : GoodYard y) (j : Nat) : contF 6 (y.moves.take y.moves.length) (j : Int) = contE y j ++ List.replicate (6 - y.coals.length) 0 := by
  have := contF_pad (q := 6 - y.coals.length) (j := (j : Int)) (movesOk_mono y.moves.length hg.2.1)
  rwa [show y.coals.length + (6 - y.coals.length) = 6 by have := hg.2.2.1.2; omega] at this
theorem c6_sum {y : Yard} (hg : GoodYard y) (j : Nat) : sumI (contF 6 (y.moves.take y.moves.length) (j : Int)) = sumI (contE y j) := by rw [c6_pad hg, sumI_app, sumI_rep]; omega
theorem c6_get {y : Yard} (hg : GoodYard y) (j : Nat) {i : Nat} (hi : i < y.coals.length) : (contF 6 (y.moves.take y.moves.length) (j : Int)).getD i 0 = (contE y j).getD i 0 := by
  rw [c6_pad hg, List.getD_eq_getElem?_getD, List.getElem?_append_left (by rw [contE_len]; exact hi), ← List.getD_eq_getElem?_getD]
theorem contE_nn {y : Yard} (hg : GoodYard y) (j : Nat) : ∀ x ∈ contE y j, 0 ≤ x := fun x hx => (contF_bd (j := (j : Int)) (movesOk_mono y.moves.length hg.2.1) x hx).1
/-! ### The blend -/
def blS (i : Nat) (l : List (List Int × Int)) : Span := l.foldl (fun a x => ⟨a.lo + max 0 (x.2 - (sumI x.1 - x.1.getD i 0)), a.hi + min x.2 (x.1.getD i 0)⟩) ⟨0, 0⟩
theorem blS_snoc (i : Nat) (l : List (List Int × Int)) (x : List Int × Int) : blS i (l ++ [x]) = ⟨(blS i l).lo + max 0 (x.2 - (sumI x.1 - x.1.getD i 0)), (blS i l).hi + min x.2 (x.1.getD i 0)⟩ := by unfold blS; rw [List.foldl_append]; rfl
theorem blS_take {i k : Nat} {l : List (List Int × Int)} {x : List Int × Int} (h : l[k]? = some x) : blS i (l.take (k + 1)) = ⟨(blS i (l.take k)).lo + max 0 (x.2 - (sumI x.1 - x.1.getD i 0)), (blS i (l.take k)).hi + min x.2 (x.1.getD i 0)⟩ := by
  rw [List.take_add_one, h]; exact blS_snoc _ _ _
theorem blS_bd {i : Nat} {B : Int} {l : List (List Int × Int)} (hB : 0 ≤ B) (h : ∀ x ∈ l, (∀ z ∈ x.1, 0 ≤ z) ∧ 0 ≤ x.2 ∧ x.2 ≤ B) : (0 ≤ (blS i l).lo ∧ (blS i l).lo ≤ (l.length : Int) * B) ∧ 0 ≤ (blS i l).hi ∧ (blS i l).hi ≤ (l.length : Int) * B := by
  induction l using snoc_ind with
  | h0 => simp [blS]
  | h1 l x ih =>
    have ih := ih fun z hz => h z (List.mem_append_left _ hz)
    obtain ⟨h1, h2, h3⟩ := h x (List.mem_append_right _ List.mem_cons_self)
    have h4 := getD_sum h1 i
    have h5 : 0 ≤ x.1.getD i 0 := by
      rw [List.getD_eq_getElem?_getD]
      cases hg : x.1[i]? with
      | none => simp
      | some y => simpa using h1 y (List.mem_of_getElem? hg)
    rw [blS_snoc, List.length_append, List.length_singleton]
    have e : ((l.length + 1 : Nat) : Int) * B = (l.length : Int) * B + B := by rw [Int.natCast_add, Int.add_mul]; simp
    rw [e]
    dsimp only
    omega
theorem blS_parts {y : Yard} {us : List (List Int)} (hg : GoodYard y) (hb : ∀ v ∈ us, ∀ z ∈ v, 0 ≤ z ∧ z ≤ 1048576) {i : Nat} (hi : i < y.coals.length) : ∀ j, blS i (partsN y us j) = bSp (takenR us) (contE y) j i
  | 0 => rfl
  | j + 1 => by
    have ih := blS_parts hg hb hi j
    have ht := taken_bd hb j
    have hs := getD_sum (contE_nn hg j) i
    have h5 : 0 ≤ (contE y j).getD i 0 := by
      rw [List.getD_eq_getElem?_getD]
      cases hq : (contE y j)[i]? with
      | none => simp
      | some z => simpa using contE_nn hg j z (List.mem_of_getElem? hq)
    rw [partsN_succ]
    split
    · rw [blS_snoc, ih, c6_sum hg, c6_get hg j hi]; rfl
    · have h0 : takenR us j = 0 := by omega
      rw [ih]
      unfold bSp
      rw [bLo, bHi, h0]
      congr 1 <;> omega
theorem taken_one (v : List Int) : takenR [v] = fun j => v.getD j 0 := funext fun j => by unfold takenR; simp
theorem drop_one {α : Type} {l : List α} {k : Nat} {x : α} (h : l[k]? = some x) : (l.drop k).take 1 = [x] := by
  have hlt := (List.getElem?_eq_some_iff.1 h).1
  rw [List.drop_eq_getElem_cons hlt, (List.getElem?_eq_some_iff.1 h).2]; rfl
end Go.Proofs.Ytpefpafijadfmaa
namespace Go.Proofs.Ytpefpafijadfmaa
open Go Go.H
theorem SubV.sub {h g : Hp} {y : Yard} {us : List (List Int)} {a : Option Addr} {es : List PH} (H : SubV h y us a es) (hs : h ⊆ g) : SubV g y us a es :=
  ⟨H.sl.sub hs, fun z hz => (H.parts z hz).sub hs, H.are, H.len, H.bd, H.few, H.lay⟩
theorem ints_all {l : List Int} {n : Nat} (h : l.length = n) : ((l.flatMap eI).drop 0).take n = l.flatMap eI := by
  rw [List.drop_zero, List.take_of_length_le (by rw [ints_len]; omega)]
theorem span_splice {l : List Span} {k : Nat} {x : Span} (h : k < l.length) : splice (l.flatMap eSpan) (0 + k * 2) (eSpan x) = (l.set k x).flatMap eSpan := by
  have := splice_flat (enc := eSpan) (sz := 2) eSpan_len (y := x) [] l k h
  rwa [List.append_nil, List.append_nil] at this
theorem blendA_0b {y : Yard} {draw : Int} {vs : List (List Int)} {v : List Int} (h : GoodYard y) (h2 : vecsR y = some vs) (h3 : 0 ≤ draw ∧ draw ≤ (vs.length : Int) - 1) (hv : vs[draw.toNat]? = some v) : blendA y draw = ((List.range y.coals.length).map (bSp (takenR [v]) (contE y) (opn y.moves).1), 0) := by
  unfold blendA; rw [if_pos h, h2]
  refine (if_pos h3).trans ?_
  rw [taken_one, List.getD_eq_getElem?_getD, hv]; rfl
end Go.Proofs.Ytpefpafijadfmaa

/-
  Walks.
-/
namespace Go.Proofs.Ytpefpafijadfmaa
open Go Go.H
set_option maxRecDepth 100000
set_option maxHeartbeats 8000000
set_option linter.all false
theorem Blend_c {y : Yard} {h : Hp} {R : Ending → Hp → Prop} (hy : YardV h y) (hs : Small y) {draw : Int} (H : ∀ a c G, SlV G 2 eSpan a (blendA y draw).1 → R (.returned (.tuple ⟨[.slice a (blendA y draw).1.length c, I (blendA y draw).2]⟩)) (G ++ h)) : ACalls Try.prog 11 ⟨[.agg ⟨eYard y⟩, I draw]⟩ h R := by
  refine calls_of_xc (N := 79) Try.func11 rfl (by rfl) ?_
  obtain ⟨hs1, hs2⟩ := id hs
  refine xc_seq (xc_region ?_)
  refine xr_op rfl rfl (xv_box rfl (fun b2 hb2 => ?_))
  refine xr_op rfl rfl (xv_assign rfl ?_)
  refine xr_op rfl rfl (xv_assign rfl ?_)
  refine xr_end rfl ?_
  refine th_n ?_
  refine xc_seq (xc_region ?_)
  refine xr_op rfl rfl (xv_loadA ty25 rfl rfl (by ((repeat first|exact z_0|assumption|refine z_1 ?_|(refine z_l ?_;(repeat first|exact z_0|assumption|refine z_1 ?_);done)|refine z_r ?_);done)) (by ((try apply evl_some rfl);(repeat (first|exact (rfl : _ = [])|apply evl_cons rfl (by (first|exact v_1|exact v_2|exact v_3|exact v_4|exact v_5|exact v_6|exact v_7|exact v_8|exact v_9|exact rfl))|exact rfl)))) (by rfl) ?_)
  refine xr_op rfl rfl (xv_calls rfl hb30 (newShed_c (hy.sub (by intro z hz; ((repeat first|exact z_0|assumption|refine z_1 ?_|(refine z_l ?_;(repeat first|exact z_0|assumption|refine z_1 ?_);done)|refine z_r ?_);done))) hs (fun hng => up_ret ?_) (fun hgy hpn => up_ret ?_) (fun vs b la lc bs da dc ds G hgy hvs hsh => up_ret ?_)))
  · refine xr_op rfl rfl (xv_move rfl ?_)
    refine xr_op rfl rfl (xv_extract rfl rfl ?_)
    refine xr_op rfl rfl (xv_extract rfl rfl ?_)
    refine xr_op rfl rfl (xv_assign rfl ?_)
    refine xr_op rfl rfl (xv_assign rfl ?_)
    refine xr_end rfl ?_
    refine th_n ?_
    refine xc_seq ?_
    refine xc_block ?_
    refine xc_seq (xc_region ?_)
    refine xr_op rfl rfl (xv_move rfl ?_)
    refine xr_op rfl rfl (xv_neqT rfl rfl (by decide) ?_)
    refine xr_op rfl rfl (xv_assign rfl ?_)
    refine xr_end rfl ?_
    refine th_n ?_
    refine xc_true rfl ?_
    refine xc_seq (xc_region ?_)
    refine xr_op rfl rfl (xv_move rfl ?_)
    refine xr_op rfl rfl (xv_assign rfl ?_)
    refine xr_op rfl rfl (xv_assign rfl ?_)
    refine xr_end rfl ?_
    refine th_n ?_
    refine xc_ret ?_
    refine bk_r ?_
    refine th_r ?_
    refine body_ret (h' := ([] ++ h)) rfl (ro_tmp rfl (ro_tmp rfl ro_nil)) (by (first|((repeat first|exact s_0|exact s_1|exact s_3|refine s_4 ?_|refine s_5 ?_|refine s_6 ?_|refine s_7 ?_);done)|((repeat first|exact s_0|exact s_1|exact s_3|refine s_4 ?_|refine s_5 ?_|refine s_6 ?_|refine s_8 ?_);done))) ?_
    first | (rw [blendA_1 hng] at H; exact H none 0 [] (.inl rfl)) | (rw [blendA_10 hgy hpn] at H; exact H none 0 [] (.inl rfl)) | (rw [blendA_2 hgy hvs (by omega)] at H; exact H none 0 [] (.inl rfl))
  · refine xr_op rfl rfl (xv_move rfl ?_)
    refine xr_op rfl rfl (xv_extract rfl rfl ?_)
    refine xr_op rfl rfl (xv_extract rfl rfl ?_)
    refine xr_op rfl rfl (xv_assign rfl ?_)
    refine xr_op rfl rfl (xv_assign rfl ?_)
    refine xr_end rfl ?_
    refine th_n ?_
    refine xc_seq ?_
    refine xc_block ?_
    refine xc_seq (xc_region ?_)
    refine xr_op rfl rfl (xv_move rfl ?_)
    refine xr_op rfl rfl (xv_neqT rfl rfl (by decide) ?_)
    refine xr_op rfl rfl (xv_assign rfl ?_)
    refine xr_end rfl ?_
    refine th_n ?_
    refine xc_true rfl ?_
    refine xc_seq (xc_region ?_)
    refine xr_op rfl rfl (xv_move rfl ?_)
    refine xr_op rfl rfl (xv_assign rfl ?_)
    refine xr_op rfl rfl (xv_assign rfl ?_)
    refine xr_end rfl ?_
    refine th_n ?_
    refine xc_ret ?_
    refine bk_r ?_
    refine th_r ?_
    refine body_ret (h' := ([] ++ h)) rfl (ro_tmp rfl (ro_tmp rfl ro_nil)) (by (first|((repeat first|exact s_0|exact s_1|exact s_3|refine s_4 ?_|refine s_5 ?_|refine s_6 ?_|refine s_7 ?_);done)|((repeat first|exact s_0|exact s_1|exact s_3|refine s_4 ?_|refine s_5 ?_|refine s_6 ?_|refine s_8 ?_);done))) ?_
    first | (rw [blendA_1 hng] at H; exact H none 0 [] (.inl rfl)) | (rw [blendA_10 hgy hpn] at H; exact H none 0 [] (.inl rfl)) | (rw [blendA_2 hgy hvs (by omega)] at H; exact H none 0 [] (.inl rfl))
  · refine xr_op rfl rfl (xv_move rfl ?_)
    refine xr_op rfl rfl (xv_extract rfl rfl ?_)
    refine xr_op rfl rfl (xv_extract rfl rfl ?_)
    refine xr_op rfl rfl (xv_assign rfl ?_)
    refine xr_op rfl rfl (xv_assign rfl ?_)
    refine xr_end rfl ?_
    refine th_n ?_
    refine xc_seq ?_
    refine xc_block ?_
    refine xc_seq (xc_region ?_)
    refine xr_op rfl rfl (xv_move rfl ?_)
    refine xr_op rfl rfl (xv_neqF rfl rfl rfl ?_)
    refine xr_op rfl rfl (xv_assign rfl ?_)
    refine xr_end rfl ?_
    refine th_n ?_
    refine xc_false rfl ?_
    refine xc_seq (xc_region ?_)
    have hcn := hsh.cnt
    have mtop := hsh.top
    have hm32 := hgy.2.2.2
    have hfw := hsh.inv.few
    refine xr_op rfl rfl (xv_move rfl ?_)
    refine xr_op rfl rfl (xv_move rfl ?_)
    refine xr_op rfl rfl (xv_nilp rfl ?_)
    refine xr_op rfl rfl (xv_faddr fl73_2 rfl ?_)
    refine xr_op rfl rfl (xv_load1 ty71 rfl rfl (by ((repeat first|exact z_0|assumption|refine z_1 ?_|(refine z_l ?_;(repeat first|exact z_0|assumption|refine z_1 ?_);done)|refine z_r ?_);done)) (by rfl) ?_)
    refine xr_op rfl rfl (xv_len sl71 rfl ?_)
    refine xr_op rfl rfl (xv_sub rfl rfl (wrap_i64 (by (first | omega | (dsimp only at *; omega) | (simp at *; omega))) (by (first | omega | (dsimp only at *; omega) | (simp at *; omega)))) ?_)
    refine xr_op rfl rfl (xv_calls rfl hb31 (within_c _ _ _ (fun hl1 hu2 => up_ret ?_) (fun hn3 => up_ret ?_)))
    · refine xr_op rfl rfl (xv_not rfl ?_)
      refine xr_op rfl rfl (xv_assign rfl ?_)
      refine xr_end rfl ?_
      refine th_n ?_
      refine xc_false rfl ?_
      refine xc_skip ?_
      refine bk_n ?_
      refine th_n ?_
      refine xc_seq (xc_region ?_)
      have hdn : draw.toNat < ds.length := by (first | omega | (dsimp only at *; omega) | (simp at *; omega))
      have hltw : draw.toNat < ds.length := hdn
      obtain ⟨bw, ow, lw, tw, fzw, haw, hmw, hxw⟩ := (hsh.draws).at hltw
      obtain ⟨xw, hkw⟩ : ∃ qq_, ds[draw.toNat]? = some qq_ := ⟨_, List.getElem?_eq_getElem hltw⟩
      subst haw
      obtain ⟨v, hv, hvm⟩ := hsh.part hkw
      have eans := blendA_0b hgy hvs (by omega) hv
      have hcut := hsh.cut hgy draw.toNat 1
      rw [drop_one hv, drop_one hkw] at hcut
      have hcap := hsh.cap
      have hn6 := hgy.2.2.1.2
      have hpl := partsN_len y [v] (opn y.moves).1
      have hop := opn_le y.moves
      have hple : (partsL y [v]).length ≤ 32 := Nat.le_trans hpl (by omega)
      refine xr_op rfl rfl (xv_move rfl ?_)
      refine xr_op rfl rfl (xv_nilp rfl ?_)
      refine xr_op rfl rfl (xv_faddr fl73_0 rfl ?_)
      refine xr_op rfl rfl (xv_load1 ty22 rfl rfl (by ((repeat first|exact z_0|assumption|refine z_1 ?_|(refine z_l ?_;(repeat first|exact z_0|assumption|refine z_1 ?_);done)|refine z_r ?_);done)) (by rfl) ?_)
      refine xr_op rfl rfl (xv_len sl22 rfl ?_)
      refine xr_op rfl rfl (xv_make (n := y.coals.length) (l := (pV y.coals.length (bSp (takenR [v]) (contE y) (opn y.moves).1) ⟨0, 0⟩ 0).flatMap eSpan) sl28 ty33 rfl rfl (by (first | omega | (dsimp only at *; omega) | (simp at *; omega))) (by simp only []; (first | omega | (dsimp only at *; omega) | (simp at *; omega))) (by simp only []; (first | omega | (dsimp only at *; omega) | (simp at *; omega))) (by rw [pV_0]; exact make_spans _) (fun b37 hb37 => ?_))
      refine xr_op rfl rfl (xv_assign rfl ?_)
      refine xr_end rfl ?_
      refine th_n ?_
      refine xc_seq ?_
      refine xc_seq (xc_region ?_)
      refine xr_op rfl rfl (xv_move rfl ?_)
      refine xr_op rfl rfl (xv_len sl28 rfl ?_)
      refine xr_op rfl rfl (xv_move rfl ?_)
      refine xr_end rfl ?_
      refine th_n ?_
      refine xc_block ?_
      refine xc_loopD (σ := Nat × List Nat) (fun z => z.1 ≤ y.coals.length) (fun z => ((((((emp.put (some 1) (I draw)).put (some 2) (.pointer (some ⟨b2, 0, none⟩))).put (some 6) (.pointer (some ⟨b, 0, none⟩))).put (some 8) (.slice (some ⟨b37, 0, none⟩) y.coals.length y.coals.length)).put (some 39) (I y.coals.length)).put (some 40) (I z.1))) (fun z => (mkHp z.2 ++ ((b37, .cells ⟨(pV y.coals.length (bSp (takenR [v]) (contE y) (opn y.moves).1) ⟨0, 0⟩ z.1).flatMap eSpan⟩ 33) :: (G ++ (b2, .cells ⟨eYard y⟩ 25) :: h)))) (fun z => z.2.map markOf) (fun z => y.coals.length - z.1) ((0, []) : Nat × List Nat) (Nat.zero_le _) (le_put (le_put (le_put (le_put (le_put (le_put (le_emp _) rfl) rfl) rfl) rfl) rfl) rfl) (by (first|((repeat first|exact s_0|exact s_1|exact s_3|refine s_4 ?_|refine s_5 ?_|refine s_6 ?_|refine s_7 ?_);done)|((repeat first|exact s_0|exact s_1|exact s_3|refine s_4 ?_|refine s_5 ?_|refine s_6 ?_|refine s_8 ?_);done))) rfl ?_
      rintro ⟨i, ks⟩ hi
      dsimp only at hi
      refine xc_seq (xc_region ?_)
      refine xr_op rfl rfl (xv_lss2 rfl rfl (fun q4 => ?_) (fun q4 => ?_))
      · refine xr_end rfl ?_
        refine th_n ?_
        refine xc_seq ?_
        refine xc_true rfl ?_
        refine xc_skip ?_
        refine th_n ?_
        refine xc_seq ?_
        refine xc_block ?_
        refine xc_seq (xc_region ?_)
        have hilt : i < y.coals.length := by (first | omega | (dsimp only at *; omega) | (simp at *; omega))
        refine xr_op rfl rfl (xv_move rfl ?_)
        refine xr_op rfl rfl (xv_alloc ty3 (fun b9 hb9 => ?_))
        refine xr_op rfl rfl (xv_s1 ty3 rfl rfl rfl (by (first|(apply u_3;(repeat first|exact u_0|assumption|apply u_1|apply u_2);done)|((repeat first|exact u_0|assumption|apply u_1|apply u_2);done)|(apply u_3;apply u_3;(repeat first|exact u_0|assumption|apply u_1|apply u_2);done)|((repeat first|exact u_0|assumption|apply u_3|apply u_1);done))) (by (first | rfl | exact Vec.one _ _)) (by (first | decide | exact Nat.le_of_ble_eq_true rfl | (simp only [List.length_cons, List.length_nil]; omega) | (simp; done))) (by ((try apply evl_some rfl);(repeat (first|exact (rfl : _ = [])|apply evl_cons rfl (by (first|exact v_1|exact v_2|exact v_3|exact v_4|exact v_5|exact v_6|exact v_7|exact v_8|exact v_9|exact rfl))|exact rfl)))) ?_)
        refine xr_end rfl ?_
        refine th_n ?_
        refine xc_seq (xc_region ?_)
        refine xr_op rfl rfl (xv_alloc ty75 (fun b10 hb10 => ?_))
        refine xr_end rfl ?_
        refine th_n ?_
        refine xc_seq ?_
        refine xc_seq (xc_region ?_)
        refine xr_op rfl rfl (xv_move rfl ?_)
        refine xr_op rfl rfl (xv_move rfl ?_)
        refine xr_op rfl rfl (xv_nilp rfl ?_)
        refine xr_op rfl rfl (xv_faddr fl73_2 rfl ?_)
        refine xr_op rfl rfl (xv_load1 ty71 rfl rfl (by ((repeat first|exact z_0|assumption|refine z_1 ?_|(refine z_l ?_;(repeat first|exact z_0|assumption|refine z_1 ?_);done)|refine z_r ?_);done)) (by rfl) ?_)
        refine xr_op rfl rfl (xv_move rfl ?_)
        refine xr_op rfl rfl (xv_move rfl ?_)
        refine xr_op rfl rfl (xv_add rfl rfl (wrap_i64 (by (first | omega | (dsimp only at *; omega) | (simp at *; omega))) (by (first | omega | (dsimp only at *; omega) | (simp at *; omega)))) ?_)
        refine xr_op rfl rfl (xv_cut (m := 1) sl71 ty39 rfl rfl rfl (by (first | omega | (dsimp only at *; omega) | (simp at *; omega))) (by (first | omega | (dsimp only at *; omega) | (simp at *; omega))) (by (first | omega | (dsimp only at *; omega) | (simp at *; omega))) (by (first | omega | (dsimp only at *; omega) | (simp at *; omega))) (by (first | omega | (dsimp only at *; omega) | (simp at *; omega))) ?_)
        refine xr_op rfl rfl (xv_calls rfl hb32 (parts_c (fun p1 p2 => up_ret ?_)))
        refine xr_end rfl ?_
        refine th_n ?_
        refine xc_block ?_
        refine xc_range2 (γ := Unit) ePc (partsL y [v]) ((p2, .cells ⟨[.slice (some ⟨bw, ow + draw.toNat * 1, none⟩) 1 (dc - draw.toNat)]⟩ 71) :: (p1, .cells ⟨[.pointer (some ⟨b, 0, none⟩)]⟩ 66) :: G) rfl hb53 (partsIt (core := ((p2, .cells ⟨[.slice (some ⟨bw, ow + draw.toNat * 1, none⟩) 1 (dc - draw.toNat)]⟩ 71) :: (p1, .cells ⟨[.pointer (some ⟨b, 0, none⟩)]⟩ 66) :: G)) (by ((repeat first|exact z_0|assumption|refine z_1 ?_|(refine z_l ?_;(repeat first|exact z_0|assumption|refine z_1 ?_);done)|refine z_r ?_);done)) (by ((repeat first|exact z_0|assumption|refine z_1 ?_|(refine z_l ?_;(repeat first|exact z_0|assumption|refine z_1 ?_);done)|refine z_r ?_);done)) (hsh.sub (by intro z hz; ((repeat first|exact z_0|assumption|refine z_1 ?_|(refine z_l ?_;(repeat first|exact z_0|assumption|refine z_1 ?_);done)|refine z_r ?_);done))) (hcut.sub (by intro z hz; ((repeat first|exact z_0|assumption|refine z_1 ?_|(refine z_l ?_;(repeat first|exact z_0|assumption|refine z_1 ?_);done)|refine z_r ?_);done)))) (fun x => rfl) (by decide) ((emp.put (some 9) (.pointer (some ⟨b9, 0, none⟩))).put (some 10) (.pointer (some ⟨b10, 0, none⟩))) (fun k g => True) (fun k g => ((p2, .cells ⟨[.slice (some ⟨bw, ow + draw.toNat * 1, none⟩) 1 (dc - draw.toNat)]⟩ 71) :: (p1, .cells ⟨[.pointer (some ⟨b, 0, none⟩)]⟩ 66) :: (b10, .cells ⟨[I (blS i ((partsL y [v]).take k)).lo, I (blS i ((partsL y [v]).take k)).hi]⟩ 75) :: (b9, .cells ⟨[I (i : Int)]⟩ 3) :: (mkHp ks ++ ((b37, .cells ⟨(pV y.coals.length (bSp (takenR [v]) (contE y) (opn y.moves).1) ⟨0, 0⟩ i).flatMap eSpan⟩ 33) :: (G ++ (b2, .cells ⟨eYard y⟩ 25) :: h))))) (fun _ _ _ => False) () (mon_bk (mon_th)) (le_put (le_put (le_emp _) rfl) rfl) trivial (by (first|((repeat first|exact s_0|exact s_1|exact s_3|refine s_4 ?_|refine s_5 ?_|refine s_6 ?_|refine s_7 ?_);done)|((repeat first|exact s_0|exact s_1|exact s_3|refine s_4 ?_|refine s_5 ?_|refine s_6 ?_|refine s_8 ?_);done))) (fun k g z hz => by
          simp only [List.mem_cons] at hz
          rcases hz with rfl | rfl | hz
          · exact z_0
          · exact z_1 z_0
          · exact z_1 (z_1 (z_1 (z_1 (z_r (z_1 (z_l hz))))))) ?_ (fun _ _ _ _ _ hf _ => hf.elim) ?_
        · intro ll k x gu hkx _i
          have hkl := (List.getElem?_eq_some_iff.1 hkx).1
          obtain ⟨hx6, hxb, hx0, hx1⟩ := partsL_ok hgy hcut.bd hcut.few (List.mem_of_getElem? hkx)
          rw [List.length_singleton] at hx1
          obtain ⟨ci, hci⟩ : ∃ c, x.1[i]? = some c := ⟨_, List.getElem?_eq_getElem (by (first | omega | (dsimp only at *; omega) | (simp at *; omega)))⟩
          have hgd : x.1.getD i 0 = ci := by rw [List.getD_eq_getElem?_getD, hci]; rfl
          have hcb := hxb ci (List.mem_of_getElem? hci)
          have hcs := getD_sum (fun z hz => (hxb z hz).1) i
          rw [hgd] at hcs
          have hsx := sumI_bd hxb
          rw [hx6] at hsx
          have hbb := blS_bd (i := i) (l := (partsL y [v]).take k) (B := 1048576) (by decide) (fun z hz => by obtain ⟨_, a, b, c⟩ := partsL_ok hgy hcut.bd hcut.few (List.mem_of_mem_take hz); rw [List.length_singleton] at c; exact ⟨fun w hw => (a w hw).1, by omega, by omega⟩)
          rw [List.length_take] at hbb
          refine xc_seq (xc_region ?_)
          refine xr_op rfl rfl (xv_alloc ty80 (fun b11 hb11 => ?_))
          refine xr_op rfl rfl (xv_sAll ty80 rfl rfl (by (first|(apply u_3;(repeat first|exact u_0|assumption|apply u_1|apply u_2);done)|((repeat first|exact u_0|assumption|apply u_1|apply u_2);done)|(apply u_3;apply u_3;(repeat first|exact u_0|assumption|apply u_1|apply u_2);done)|((repeat first|exact u_0|assumption|apply u_3|apply u_1);done))) (by rw [ints_len]; exact hx6) rfl (flat_all eI_1 _) ?_)
          refine xr_end rfl ?_
          refine th_n ?_
          refine xc_region ?_
          refine xr_op rfl rfl (xv_assign rfl ?_)
          refine xr_end rfl ?_
          refine rndA_n ?_
          refine xc_block ?_
          refine xc_draw0 [(0, .R), (1, .S), (2, .R), (3, .R), (4, .R), (5, .S), (6, .R), (7, .S), (8, .S), (9, .S), (10, .S), (11, .R), (12, .S), (13, .R), (14, .S), (15, .S), (16, .R), (17, .O)] mixed (by kernel_rfl) ?_
          refine js_R0 rfl rfl (.inl rfl) (xv_loadA ty75 rfl rfl (by ((repeat first|exact z_0|assumption|refine z_1 ?_|(refine z_l ?_;(repeat first|exact z_0|assumption|refine z_1 ?_);done)|refine z_r ?_);done)) (by ((try apply evl_some rfl);(repeat (first|exact (rfl : _ = [])|apply evl_cons rfl (by (first|exact v_1|exact v_2|exact v_3|exact v_4|exact v_5|exact v_6|exact v_7|exact v_8|exact v_9|exact rfl))|exact rfl)))) (by rfl) ⟨rfl, rfl⟩) ?_
          refine js_S rfl rfl (.inl rfl) (xv_move rfl ⟨rfl, rfl⟩) ?_
          refine js_R0 rfl rfl (.inl rfl) (xv_loadA ty80 rfl rfl (by ((repeat first|exact z_0|assumption|refine z_1 ?_|(refine z_l ?_;(repeat first|exact z_0|assumption|refine z_1 ?_);done)|refine z_r ?_);done)) (ints_all hx6) (by rw [ints_len]; exact hx6) ⟨rfl, rfl⟩) ?_
          refine js_R0 rfl rfl (.inl rfl) (xv_calls rfl hb34 (csum_c hx6 (fun z hz => by have := hxb z hz; omega) (up_ret ⟨rfl, rfl⟩))) ?_
          refine js_R0 rfl rfl (.inl rfl) (xv_load1 ty3 rfl rfl (by ((repeat first|exact z_0|assumption|refine z_1 ?_|(refine z_l ?_;(repeat first|exact z_0|assumption|refine z_1 ?_);done)|refine z_r ?_);done)) (by rfl) ⟨rfl, rfl⟩) ?_
          refine js_S rfl rfl (.inl rfl) (xv_iaA (sz := 1) (j := i) Try.underlying80 ty3 rfl rfl rfl (by (first | assumption | with_reducible exact Int.toNat_natCast _ | with_reducible rfl | rfl)) (by (first | omega | (dsimp only at *; omega) | (simp at *; omega))) (by (first | omega | (dsimp only at *; omega) | (simp at *; omega))) ⟨rfl, rfl⟩) ?_
          refine js_R0 rfl rfl (.inl rfl) (xv_load1 ty3 rfl rfl (by ((repeat first|exact z_0|assumption|refine z_1 ?_|(refine z_l ?_;(repeat first|exact z_0|assumption|refine z_1 ?_);done)|refine z_r ?_);done)) (ints_get hci) ⟨rfl, rfl⟩) ?_
          refine js_S rfl rfl (.inl rfl) (xv_sub rfl rfl (wrap_i64 (by (first | omega | (dsimp only at *; omega) | (simp at *; omega))) (by (first | omega | (dsimp only at *; omega) | (simp at *; omega)))) ⟨rfl, rfl⟩) ?_
          refine js_S rfl rfl (.inl rfl) (xv_sub rfl rfl (wrap_i64 (by (first | omega | (dsimp only at *; omega) | (simp at *; omega))) (by (first | omega | (dsimp only at *; omega) | (simp at *; omega)))) ⟨rfl, rfl⟩) ?_
          refine js_S rfl rfl (.inl rfl) (xv_max rfl rfl rfl ⟨rfl, rfl⟩) ?_
          refine js_S rfl rfl (.inl rfl) (xv_move rfl ⟨rfl, rfl⟩) ?_
          refine js_R0 rfl rfl (.inl rfl) (xv_load1 ty3 rfl rfl (by ((repeat first|exact z_0|assumption|refine z_1 ?_|(refine z_l ?_;(repeat first|exact z_0|assumption|refine z_1 ?_);done)|refine z_r ?_);done)) (by rfl) ⟨rfl, rfl⟩) ?_
          refine js_S rfl rfl (.inl rfl) (xv_iaA (sz := 1) (j := i) Try.underlying80 ty3 rfl rfl rfl (by (first | assumption | with_reducible exact Int.toNat_natCast _ | with_reducible rfl | rfl)) (by (first | omega | (dsimp only at *; omega) | (simp at *; omega))) (by (first | omega | (dsimp only at *; omega) | (simp at *; omega))) ⟨rfl, rfl⟩) ?_
          refine js_R0 rfl rfl (.inl rfl) (xv_load1 ty3 rfl rfl (by ((repeat first|exact z_0|assumption|refine z_1 ?_|(refine z_l ?_;(repeat first|exact z_0|assumption|refine z_1 ?_);done)|refine z_r ?_);done)) (ints_get hci) ⟨rfl, rfl⟩) ?_
          refine js_S rfl rfl (.inl rfl) (xv_min rfl rfl rfl ⟨rfl, rfl⟩) ?_
          refine js_S rfl rfl (.inl rfl) (xv_build bt75 rfl (by ((try apply evl_some rfl);(repeat (first|exact (rfl : _ = [])|apply evl_cons rfl (by (first|exact v_1|exact v_2|exact v_3|exact v_4|exact v_5|exact v_6|exact v_7|exact v_8|exact v_9|exact rfl))|exact rfl)))) ⟨rfl, rfl⟩) ?_
          refine js_R0 rfl rfl (.inl rfl) (xv_calls rfl hb33 (add_c (a := (blS i ((partsL y [v]).take k))) (b := ⟨max 0 (x.2 - (sumI x.1 - ci)), min x.2 ci⟩) ⟨⟨by omega, by omega⟩, by omega, by omega⟩ ⟨⟨by dsimp only; omega, by dsimp only; omega⟩, by dsimp only; omega, by dsimp only; omega⟩ (up_ret ⟨rfl, rfl⟩))) ?_
          refine js_O0 rfl rfl (.inl rfl) (xv_s ty75 rfl rfl (by (first|(apply u_3;(repeat first|exact u_0|assumption|apply u_1|apply u_2);done)|((repeat first|exact u_0|assumption|apply u_1|apply u_2);done)|(apply u_3;apply u_3;(repeat first|exact u_0|assumption|apply u_1|apply u_2);done)|((repeat first|exact u_0|assumption|apply u_3|apply u_1);done))) (by ((try apply evl_some rfl);(repeat (first|exact (rfl : _ = [])|apply evl_cons rfl (by (first|exact v_1|exact v_2|exact v_3|exact v_4|exact v_5|exact v_6|exact v_7|exact v_8|exact v_9|exact rfl))|exact rfl)))) (by rfl) (by rfl) (by rfl) (by ((try apply evl_some rfl);(repeat (first|exact (rfl : _ = [])|apply evl_cons rfl (by (first|exact v_1|exact v_2|exact v_3|exact v_4|exact v_5|exact v_6|exact v_7|exact v_8|exact v_9|exact rfl))|exact rfl)))) ?_)
          refine j_end0 ?_
          refine bk_n ?_
          exact rndQ_n () trivial (by rw [blS_take hkx, hgd]; (first|((repeat first|exact s_0|exact s_1|exact s_3|refine s_4 ?_|refine s_5 ?_|refine s_6 ?_|refine s_7 ?_);done)|((repeat first|exact s_0|exact s_1|exact s_3|refine s_4 ?_|refine s_5 ?_|refine s_6 ?_|refine s_8 ?_);done)))
        · intro kd g hi hkd
          rw [List.take_length]
          have hbl : blS i (partsL y [v]) = bSp (takenR [v]) (contE y) (opn y.moves).1 i := blS_parts hgy hcut.bd hilt _
          refine bk_n ?_
          refine th_n ?_
          refine xc_draw0 [(0, .S), (1, .R), (2, .R), (3, .R), (4, .S), (5, .O)] mixed (by kernel_rfl) ?_
          refine js_S rfl rfl (.inl rfl) (xv_move rfl ⟨rfl, rfl⟩) ?_
          refine js_R0 rfl rfl (.inl rfl) (xv_load1 ty3 rfl rfl (by ((repeat first|exact z_0|assumption|refine z_1 ?_|(refine z_l ?_;(repeat first|exact z_0|assumption|refine z_1 ?_);done)|refine z_r ?_);done)) (by rfl) ⟨rfl, rfl⟩) ?_
          refine js_R0 rfl rfl (.inl rfl) (xv_loadA ty75 rfl rfl (by ((repeat first|exact z_0|assumption|refine z_1 ?_|(refine z_l ?_;(repeat first|exact z_0|assumption|refine z_1 ?_);done)|refine z_r ?_);done)) (by ((try apply evl_some rfl);(repeat (first|exact (rfl : _ = [])|apply evl_cons rfl (by (first|exact v_1|exact v_2|exact v_3|exact v_4|exact v_5|exact v_6|exact v_7|exact v_8|exact v_9|exact rfl))|exact rfl)))) (by rfl) ⟨rfl, rfl⟩) ?_
          refine js_R0 rfl rfl (.inl rfl) (xv_calls rfl hb35 (spanOf_c (a := blS i (partsL y [v])) (up_ret ⟨rfl, rfl⟩))) ?_
          refine js_S rfl rfl (.inl rfl) (xv_ia (sz := 2) (j := i) sl28 ty33 rfl rfl rfl (by (first | assumption | with_reducible exact Int.toNat_natCast _ | with_reducible rfl | rfl)) (by (first | omega | (dsimp only at *; omega) | (simp at *; omega))) (by (first | omega | (dsimp only at *; omega) | (simp at *; omega))) ⟨rfl, rfl⟩) ?_
          refine js_O0 rfl rfl (.inl rfl) (xv_s (l := (pV y.coals.length (bSp (takenR [v]) (contE y) (opn y.moves).1) ⟨0, 0⟩ i).flatMap eSpan) (l' := (pV y.coals.length (bSp (takenR [v]) (contE y) (opn y.moves).1) ⟨0, 0⟩ (i + 1)).flatMap eSpan) (vs := eSpan (blS i (partsL y [v]))) ty33 rfl rfl (by (first|(apply u_3;(repeat first|exact u_0|assumption|apply u_1|apply u_2);done)|((repeat first|exact u_0|assumption|apply u_1|apply u_2);done)|(apply u_3;apply u_3;(repeat first|exact u_0|assumption|apply u_1|apply u_2);done)|((repeat first|exact u_0|assumption|apply u_3|apply u_1);done))) rfl rfl rfl (Nat.ble_eq_true_of_le (by rw [spans_len, pV_len]; dsimp only; (first | omega | (dsimp only at *; omega) | (simp at *; omega)))) (by rw [hbl, span_splice (by rw [pV_len]; (first | omega | (dsimp only at *; omega) | (simp at *; omega))), pV_set (f := (bSp (takenR [v]) (contE y) (opn y.moves).1)) (by (first | omega | (dsimp only at *; omega) | (simp at *; omega)))]) ?_)
          refine j_end0 ?_
          refine bk_n ?_
          refine th_n ?_
          refine xc_region ?_
          refine xr_op rfl rfl (xv_add rfl rfl (wrap_i64 (by (first | omega | (dsimp only at *; omega) | (simp at *; omega))) (by (first | omega | (dsimp only at *; omega) | (simp at *; omega)))) ?_)
          refine xr_op rfl rfl (xv_move rfl ?_)
          refine xr_end rfl ?_
          exact rndD ((i + 1, kd :: ks) : Nat × List Nat) (by (first | omega | (dsimp only at *; omega) | (simp at *; omega))) (by (first | omega | (dsimp only at *; omega) | (simp at *; omega))) (le_put (le_put (le_put (le_put (le_put (le_put (le_emp _) rfl) rfl) rfl) rfl) rfl) rfl) (by (first|((repeat first|exact s_0|exact s_1|exact s_3|refine s_4 ?_|refine s_5 ?_|refine s_6 ?_|refine s_7 ?_);done)|((repeat first|exact s_0|exact s_1|exact s_3|refine s_4 ?_|refine s_5 ?_|refine s_6 ?_|refine s_8 ?_);done))) rfl
      · refine xr_end rfl ?_
        refine th_n ?_
        refine xc_seq ?_
        refine xc_false rfl ?_
        refine xc_exit ?_
        refine th_x ?_
        refine th_x ?_
        refine bk_same ?_
        refine th_n ?_
        refine xc_seq (xc_region ?_)
        obtain rfl : y.coals.length = i := by (first | omega | (dsimp only at *; omega) | (simp at *; omega))
        rw [pV_end]
        refine xr_nd fun hnd => ?_
        refine xr_op rfl rfl (xv_move rfl ?_)
        refine xr_op rfl rfl (xv_assign rfl ?_)
        refine xr_op rfl rfl (xv_assign rfl ?_)
        refine xr_end rfl ?_
        refine th_n ?_
        refine xc_ret ?_
        refine body_retMs (h' := ((b37, .cells ⟨((List.range y.coals.length).map (bSp (takenR [v]) (contE y) (opn y.moves).1)).flatMap eSpan⟩ 33) :: h)) rfl (ro_tmp rfl (ro_tmp rfl ro_nil)) (by (first|((repeat first|exact s_0|exact s_1|exact s_3|refine s_4 ?_|refine s_5 ?_|refine s_6 ?_|refine s_7 ?_);done)|((repeat first|exact s_0|exact s_1|exact s_3|refine s_4 ?_|refine s_5 ?_|refine s_6 ?_|refine s_8 ?_);done))) hnd ?_
        rw [eans] at H
        have hq9 := H (some ⟨b37, 0, none⟩) y.coals.length [(b37, .cells ⟨((List.range y.coals.length).map (bSp (takenR [v]) (contE y) (opn y.moves).1)).flatMap eSpan⟩ 33)] (slvL eSpan_len (by ((repeat first|exact z_0|assumption|refine z_1 ?_|(refine z_l ?_;(repeat first|exact z_0|assumption|refine z_1 ?_);done)|refine z_r ?_);done)))
        rw [List.length_map, List.length_range] at hq9
        exact hq9
    · refine xr_op rfl rfl (xv_not rfl ?_)
      refine xr_op rfl rfl (xv_assign rfl ?_)
      refine xr_end rfl ?_
      refine th_n ?_
      refine xc_true rfl ?_
      refine xc_seq (xc_region ?_)
      refine xr_op rfl rfl (xv_assign rfl ?_)
      refine xr_op rfl rfl (xv_assign rfl ?_)
      refine xr_end rfl ?_
      refine th_n ?_
      refine xc_ret ?_
      refine bk_r ?_
      refine th_r ?_
      refine body_ret (h' := ([] ++ h)) rfl (ro_tmp rfl (ro_tmp rfl ro_nil)) (by (first|((repeat first|exact s_0|exact s_1|exact s_3|refine s_4 ?_|refine s_5 ?_|refine s_6 ?_|refine s_7 ?_);done)|((repeat first|exact s_0|exact s_1|exact s_3|refine s_4 ?_|refine s_5 ?_|refine s_6 ?_|refine s_8 ?_);done))) ?_
      first | (rw [blendA_1 hng] at H; exact H none 0 [] (.inl rfl)) | (rw [blendA_10 hgy hpn] at H; exact H none 0 [] (.inl rfl)) | (rw [blendA_2 hgy hvs (by omega)] at H; exact H none 0 [] (.inl rfl))

end Go.Proofs.Ytpefpafijadfmaa

/-
  The program's yield: shares in order, one after the other, are a greedy choice.
-/
set_option linter.all false
namespace Go.Proofs.Ytpefpafijadfmaa
open Go Go.H
/-! ### A list whose images are in another order -/
theorem perm_lift {α β : Type} {f : α → β} {ys xs : List β} (h : ys.Perm xs) : ∀ T : List α, T.map f = ys → ∃ T' : List α, T'.Perm T ∧ T'.map f = xs := by
  induction h with
  | nil => intro T hT; exact ⟨T, .refl _, hT⟩
  | cons x _ ih =>
    intro T hT
    cases T with
    | nil => cases hT
    | cons t T =>
      rw [List.map_cons] at hT
      injection hT with h1 h2
      obtain ⟨T', hp, he⟩ := ih T h2
      exact ⟨t :: T', hp.cons t, by rw [List.map_cons, he, h1]⟩
  | swap x y l =>
    intro T hT
    match T, hT with
    | s :: t :: T, hT =>
      rw [List.map_cons, List.map_cons] at hT
      injection hT with h1 h2
      injection h2 with h2 h3
      exact ⟨t :: s :: T, .swap _ _ _, by rw [List.map_cons, List.map_cons, h1, h2, h3]⟩
  | trans _ _ ih1 ih2 =>
    intro T hT
    obtain ⟨T1, p1, e1⟩ := ih1 T hT
    obtain ⟨T2, p2, e2⟩ := ih2 T1 e1
    exact ⟨T2, p2.trans p1, e2⟩
theorem perm_sum {a b : List Int} (h : a.Perm b) : a.sum = b.sum := by
  induction h with
  | nil => rfl
  | cons x _ ih => rw [List.sum_cons, List.sum_cons, ih]
  | swap x y l => simp only [List.sum_cons]; omega
  | trans _ _ h1 h2 => exact h1.trans h2
def fstT : List Share → Int → List (Share × Int)
  | [], _ => []
  | s :: l, n => (s, min n s.tons) :: fstT l (n - min n s.tons)
theorem fstT_map : ∀ (l : List Share) (n : Int), (fstT l n).map Prod.fst = l
  | [], _ => rfl
  | s :: l, n => by rw [fstT, List.map_cons, fstT_map l]
def dotT (T : List (Share × Int)) : Int := (T.map fun z => z.2 * z.1.each).sum
def sumT (T : List (Share × Int)) : Int := (T.map Prod.snd).sum
theorem fstP_T : ∀ (l : List Share) (a n : Int), l.foldl (fun z x => (z.1 + min z.2 x.tons * x.each, z.2 - min z.2 x.tons)) (a, n) = (a + dotT (fstT l n), n - sumT (fstT l n))
  | [], a, n => by simp [fstT, dotT, sumT]
  | s :: l, a, n => by
    rw [List.foldl_cons, fstP_T l, fstT]
    have e1 : dotT ((s, min n s.tons) :: fstT l (n - min n s.tons)) = min n s.tons * s.each + dotT (fstT l (n - min n s.tons)) := by simp [dotT]
    have e2 : sumT ((s, min n s.tons) :: fstT l (n - min n s.tons)) = min n s.tons + sumT (fstT l (n - min n s.tons)) := by simp [sumT]
    rw [e1, e2]
    dsimp only
    rw [Int.add_assoc, Int.sub_sub]
theorem fstT_bd : ∀ {l : List Share} {n : Int}, 0 ≤ n → (∀ x ∈ l, 0 ≤ x.tons) → (∀ z ∈ fstT l n, 0 ≤ z.2 ∧ z.2 ≤ z.1.tons ∧ (0 < z.2 → 0 < n)) ∧ 0 ≤ n - sumT (fstT l n)
  | [], n, hn, _ => ⟨fun z hz => by simp [fstT] at hz, by simp [fstT, sumT]; exact hn⟩
  | s :: l, n, hn, h => by
    have hs := h s List.mem_cons_self
    obtain ⟨i1, i2⟩ := fstT_bd (l := l) (n := n - min n s.tons) (by omega) fun x hx => h x (List.mem_cons_of_mem _ hx)
    have e2 : sumT (fstT (s :: l) n) = min n s.tons + sumT (fstT l (n - min n s.tons)) := by simp [fstT, sumT]
    refine ⟨fun z hz => ?_, by omega⟩
    rw [fstT] at hz
    rcases List.mem_cons.1 hz with rfl | hz
    · dsimp only; omega
    · have := i1 z hz; omega
theorem fstT_sum : ∀ {l : List Share} {n : Int}, 0 ≤ n → (∀ x ∈ l, 0 ≤ x.tons) → n ≤ sumI (l.map Share.tons) → sumT (fstT l n) = n
  | [], n, hn, _, h2 => by simp [fstT, sumT, sumI] at h2 ⊢; omega
  | s :: l, n, hn, h, h2 => by
    have hs := h s List.mem_cons_self
    have e2 : sumT (fstT (s :: l) n) = min n s.tons + sumT (fstT l (n - min n s.tons)) := by simp [fstT, sumT]
    have e3 : sumI ((s :: l).map Share.tons) = s.tons + sumI (l.map Share.tons) := by simp [sumI]
    have hl := sumI_nn (l := l.map Share.tons) fun x hx => by
      obtain ⟨z, hz, rfl⟩ := List.mem_map.1 hx
      exact h z (List.mem_cons_of_mem _ hz)
    have ih := fstT_sum (l := l) (n := n - min n s.tons) (by omega) (fun x hx => h x (List.mem_cons_of_mem _ hx)) (by omega)
    rw [e2, ih]; omega
theorem fstT_fst : ∀ {l : List Share} {n : Int}, 0 ≤ n → (∀ x ∈ l, 0 ≤ x.tons) → l.Pairwise (fun a b => a.each ≤ b.each) → ∀ s ∈ fstT l n, ∀ t ∈ fstT l n, s.1.each < t.1.each → 0 < t.2 → s.2 = s.1.tons
  | [], n, _, _, _, s, hs, _, _, _, _ => by simp [fstT] at hs
  | x :: l, n, hn, h, hp, s, hs, t, ht, hlt, h0 => by
    have hx := h x List.mem_cons_self
    have hl := fun z hz => h z (List.mem_cons_of_mem x hz)
    have hp := List.pairwise_cons.1 hp
    rw [fstT] at hs ht
    have hmem : ∀ {z : Share × Int} {m : Int}, z ∈ fstT l m → z.1 ∈ l := fun {z m} hz => by
      have := List.mem_map_of_mem (f := Prod.fst) hz
      rwa [fstT_map] at this
    rcases List.mem_cons.1 hs with e1 | hs <;> rcases List.mem_cons.1 ht with e2 | ht
    · subst e1 e2; omega
    · subst e1
      have := ((fstT_bd (l := l) (n := n - min n x.tons) (by omega) hl).1 t ht).2.2 h0
      dsimp only at this ⊢; omega
    · subst e2
      have := hp.1 s.1 (hmem hs)
      dsimp only at hlt; omega
    · exact fstT_fst (by omega) hl hp.2 s hs t ht hlt h0
theorem greedy_T {T : List (Share × Int)} {n : Int} (h1 : ∀ z ∈ T, 0 ≤ z.2 ∧ z.2 ≤ z.1.tons) (h2 : sumT T = n) (h3 : ∀ s ∈ T, ∀ t ∈ T, s.1.each < t.1.each → 0 < t.2 → s.2 = s.1.tons) :
    Greedy (T.map fun z => z.1.tons) (T.map fun z => z.1.each) n (T.map Prod.snd) := by
  refine ⟨by simp, fun i a r ha hr => ?_, h2, fun i j a r ei b ej ha hr hei hb hej hlt h0 => ?_⟩
  · rw [List.getElem?_map] at ha hr
    cases hz : T[i]? with
    | none => rw [hz] at ha; cases ha
    | some z =>
      rw [hz] at ha hr; cases ha; cases hr
      exact h1 z (List.mem_of_getElem? hz)
  · rw [List.getElem?_map] at ha hr hei hb hej
    cases hz : T[i]? with
    | none => rw [hz] at ha; cases ha
    | some z =>
      cases hw : T[j]? with
      | none => rw [hw] at hb; cases hb
      | some w =>
        rw [hz] at ha hr hei; rw [hw] at hb hej
        cases ha; cases hr; cases hei; cases hb; cases hej
        exact h3 z (List.mem_of_getElem? hz) w (List.mem_of_getElem? hw) hlt h0
theorem dot_T : ∀ (T : List (Share × Int)), dotI (T.map Prod.snd) (T.map fun z => z.1.each) = dotT T
  | [] => rfl
  | z :: T => by
    have e : dotT (z :: T) = z.2 * z.1.each + dotT T := by simp [dotT]
    rw [List.map_cons, List.map_cons, dot_cons, dot_T T, e]
/-- **Shares in order, one after the other, are a greedy choice.** -/
theorem fst_gval {xs ys : List Share} {n : Int} (hp : ys.Perm xs) (hs : ys.Pairwise (fun a b => a.each ≤ b.each)) (h0 : 0 ≤ n) (ht : ∀ x ∈ xs, 0 ≤ x.tons) (hn : n ≤ sumI (xs.map Share.tons)) :
    (fstP ys n).1 = gval (xs.map Share.tons) (xs.map Share.each) n := by
  have hty : ∀ x ∈ ys, 0 ≤ x.tons := fun x hx => ht x (hp.mem_iff.1 hx)
  obtain ⟨T', p', e'⟩ := perm_lift hp (fstT ys n) (fstT_map ys n)
  have hsum : sumI (ys.map Share.tons) = sumI (xs.map Share.tons) := perm_sum (hp.map Share.tons)
  have g := greedy_T (T := T') (n := n) (fun z hz => by
    have := (fstT_bd h0 hty).1 z (p'.mem_iff.1 hz)
    exact ⟨this.1, this.2.1⟩) (by
    unfold sumT
    rw [perm_sum (p'.map Prod.snd)]
    exact fstT_sum h0 hty (by omega)) fun s hs2 t ht2 hlt hp2 => fstT_fst h0 hty hs s (p'.mem_iff.1 hs2) t (p'.mem_iff.1 ht2) hlt hp2
  have r1 : T'.map (fun z => z.1.tons) = xs.map Share.tons := by rw [← e', List.map_map]; rfl
  have r2 : T'.map (fun z => z.1.each) = xs.map Share.each := by rw [← e', List.map_map]; rfl
  rw [r1, r2] at g
  rw [← gval_eq (by simp) g, ← r2, dot_T]
  unfold fstP
  rw [fstP_T]
  dsimp only
  unfold dotT
  rw [perm_sum (p'.map fun z => z.2 * z.1.each)]; omega
def negS (s : Share) : Share := ⟨s.tons, -s.each⟩
theorem fstP_neg (l : List Share) (n : Int) : (fstP (l.map negS) n).1 = -(fstP l n).1 := by
  have key : ∀ (l : List Share) (n : Int), dotT (fstT (l.map negS) n) = -dotT (fstT l n) := by
    intro l
    induction l with
    | nil => intro n; rfl
    | cons s l ih =>
      intro n
      rw [List.map_cons, fstT, fstT]
      have e1 : ∀ (z : Share × Int) T, dotT (z :: T) = z.2 * z.1.each + dotT T := fun z T => by simp [dotT]
      rw [e1, e1]
      have e2 : (negS s).tons = s.tons := rfl
      have e3 : (negS s).each = -s.each := rfl
      dsimp only
      rw [e2, e3, ih, Int.mul_neg, Int.neg_add]
  unfold fstP
  rw [fstP_T, fstP_T, key]; dsimp only; omega
/-- The other way round: the dearest ones first. -/
theorem fst_gvalR {xs ys : List Share} {n : Int} (hp : ys.Perm xs) (hs : ys.Pairwise (fun a b => a.each ≤ b.each)) (h0 : 0 ≤ n) (ht : ∀ x ∈ xs, 0 ≤ x.tons) (hn : n ≤ sumI (xs.map Share.tons)) :
    (fstP ys.reverse n).1 = -gval (xs.map Share.tons) (xs.map fun x => -x.each) n := by
  have h1 := fst_gval (xs := xs.map negS) (ys := ys.reverse.map negS) (n := n) (((List.reverse_perm ys).trans hp).map negS)
    (by
      rw [List.pairwise_map, List.pairwise_reverse]
      exact hs.imp fun h => by show -_ ≤ -_; omega) h0 (fun x hx => by
      obtain ⟨z, hz, rfl⟩ := List.mem_map.1 hx
      exact ht z hz) (by rw [List.map_map]; exact hn)
  rw [fstP_neg, List.map_map, List.map_map] at h1
  have e : (Share.tons ∘ negS) = Share.tons := rfl
  have e2 : (Share.each ∘ negS) = fun x => -x.each := rfl
  rw [e, e2] at h1
  omega
/-! ### The shares of a layer -/
def shL (y : Yard) (g : Span → Int) (w : Int) (c : List Int) (i : Nat) : List Share := (List.range i).map fun j => ⟨c.getD j 0, g (ofF (y.coals.getD j default) w)⟩
theorem shL_len (y : Yard) (g : Span → Int) (w : Int) (c : List Int) (i : Nat) : (shL y g w c i).length = i := by simp [shL]
theorem shL_snoc {y : Yard} {g : Span → Int} {w : Int} {c : List Int} {i : Nat} {a : Int} {o : Coal} (hc : c[i]? = some a) (ho : y.coals[i]? = some o) : shL y g w c (i + 1) = shL y g w c i ++ [⟨a, g (ofF o w)⟩] := by
  unfold shL
  rw [List.range_succ, List.map_append, List.map_singleton]
  congr 3
  · rw [List.getD_eq_getElem?_getD, hc]; rfl
  · rw [List.getD_eq_getElem?_getD, ho]; rfl
theorem shL_flat {y : Yard} {g : Span → Int} {w : Int} {c : List Int} {i : Nat} {a : Int} {o : Coal} (hc : c[i]? = some a) (ho : y.coals[i]? = some o) : (shL y g w c (i + 1)).flatMap eShare = (shL y g w c i).flatMap eShare ++ [I a, I (g (ofF o w))] := by
  rw [shL_snoc hc ho, List.flatMap_append]; rfl
theorem map_getD {α β : Type} {l : List α} {d : α} {n : Nat} (hn : n ≤ l.length) (f : α → β) : (List.range n).map (fun j => f (l.getD j d)) = (l.take n).map f := by
  refine List.ext_getElem? fun i => ?_
  by_cases hi : i < n
  · rw [List.getElem?_map, List.getElem?_range hi, List.getElem?_map, List.getElem?_take_of_lt hi, Option.map_some, List.getD_eq_getElem?_getD, List.getElem?_eq_getElem (by omega)]; rfl
  · rw [List.getElem?_eq_none (by simp; omega), List.getElem?_eq_none (by simp; omega)]
theorem shL_tons {y : Yard} {g : Span → Int} {w : Int} {c : List Int} (h : y.coals.length ≤ c.length) : (shL y g w c y.coals.length).map Share.tons = c.take y.coals.length := by
  unfold shL
  rw [List.map_map]
  have := map_getD (d := (0 : Int)) h (fun x => x)
  rw [List.map_id'' (fun _ => rfl)] at this
  exact this
theorem shL_each {y : Yard} {g : Span → Int} {w : Int} {c : List Int} (f : Int → Int) : (shL y g w c y.coals.length).map (fun s => f s.each) = y.coals.map fun o => f (g (ofF o w)) := by
  unfold shL
  rw [List.map_map]
  have := map_getD (d := (default : Coal)) (Nat.le_refl y.coals.length) (fun o => f (g (ofF o w)))
  rw [List.take_length] at this
  exact this
theorem shL_ok {y : Yard} {g : Span → Int} {w : Int} {c : List Int} {i : Nat} (hg : GoodYard y) (hg2 : ∀ s, spanOk s → 0 ≤ g s ∧ g s ≤ 100000) (h0 : 0 ≤ w) (h1 : w ≤ 3) (hc : ∀ z ∈ c, 0 ≤ z) (hi : i ≤ y.coals.length) : ∀ x ∈ shL y g w c i, ShareOk x := fun x hx => by
  obtain ⟨j, hj, rfl⟩ := List.mem_map.1 hx
  rw [List.mem_range] at hj
  have hjl : j < y.coals.length := by omega
  have e : y.coals.getD j default = y.coals[j] := by rw [List.getD_eq_getElem?_getD, List.getElem?_eq_getElem hjl]; rfl
  have hs := hg2 _ (ofF_ok (hg.1 _ (List.getElem_mem hjl)) h0 h1)
  refine ⟨?_, ?_, ?_⟩
  · dsimp only
    rw [List.getD_eq_getElem?_getD]
    cases hq : c[j]? with
    | none => simp
    | some z => simpa using hc z (List.mem_of_getElem? hq)
  · dsimp only; rw [e]; omega
  · dsimp only; rw [e]; omega
/-! ### The sum over the layers -/
noncomputable def fLo (y : Yard) (w : Int) (x : List Int × Int) : Int := gval (x.1.take y.coals.length) (lows y w) x.2
noncomputable def fHi (y : Yard) (w : Int) (x : List Int × Int) : Int := -gval (x.1.take y.coals.length) (highs y w) x.2
noncomputable def ylS (y : Yard) (w : Int) (l : List (List Int × Int)) : Span := l.foldl (fun a x => ⟨a.lo + fLo y w x, a.hi + fHi y w x⟩) ⟨0, 0⟩
theorem ylS_snoc (y : Yard) (w : Int) (l : List (List Int × Int)) (x : List Int × Int) : ylS y w (l ++ [x]) = ⟨(ylS y w l).lo + fLo y w x, (ylS y w l).hi + fHi y w x⟩ := by unfold ylS; rw [List.foldl_append]; rfl
theorem ylS_take {y : Yard} {w : Int} {k : Nat} {l : List (List Int × Int)} {x : List Int × Int} (h : l[k]? = some x) : ylS y w (l.take (k + 1)) = ⟨(ylS y w (l.take k)).lo + fLo y w x, (ylS y w (l.take k)).hi + fHi y w x⟩ := by
  rw [List.take_add_one, h]; exact ylS_snoc _ _ _ _
theorem gval_0 {room each : List Int} (he : each.length = room.length) (hb : ∀ b ∈ each, -100000 ≤ b ∧ b ≤ 100000) : gval room each 0 = 0 := by
  have := gval_bd he hb (Int.le_refl 0); omega
theorem c6_take {y : Yard} (hg : GoodYard y) (j : Nat) : (contF 6 (y.moves.take y.moves.length) (j : Int)).take y.coals.length = contE y j := by
  rw [c6_pad hg, List.take_append_of_le_length (by rw [contE_len]; exact Nat.le_refl _), List.take_of_length_le (by rw [contE_len]; exact Nat.le_refl _)]
theorem ylS_parts {y : Yard} {us : List (List Int)} {w : Int} (hg : GoodYard y) (hb : ∀ v ∈ us, ∀ z ∈ v, 0 ≤ z ∧ z ≤ 1048576) (h0 : 0 ≤ w) (h1 : w ≤ 3) : ∀ j, ylS y w (partsN y us j) = ⟨yLo y w (takenR us) j, yHi y w (takenR us) j⟩
  | 0 => rfl
  | j + 1 => by
    have ih := ylS_parts hg hb h0 h1 j
    have ht := taken_bd hb j
    rw [partsN_succ]
    split
    · rw [ylS_snoc, ih]
      unfold fLo fHi
      dsimp only
      rw [c6_take hg]; rfl
    · have hz : takenR us j = 0 := by omega
      rw [ih, yLo, yHi, hz, gval_0 (by rw [lows_len, contE_len]) (lows_bd hg.1 h0 h1), gval_0 (by rw [highs_len, contE_len]) (highs_bd hg.1 h0 h1)]
      congr 1 <;> omega
theorem f_bd {y : Yard} {w : Int} {x : List Int × Int} (hg : GoodYard y) (h0 : 0 ≤ w) (h1 : w ≤ 3) (h6 : x.1.length = 6) (hn : 0 ≤ x.2) (hn2 : x.2 ≤ 33554432) : (-3355443200000 ≤ fLo y w x ∧ fLo y w x ≤ 3355443200000) ∧ -3355443200000 ≤ fHi y w x ∧ fHi y w x ≤ 3355443200000 := by
  have hl : (x.1.take y.coals.length).length = y.coals.length := by rw [List.length_take, h6]; have := hg.2.2.1.2; omega
  have a := gval_bd (room := x.1.take y.coals.length) (each := lows y w) (by rw [lows_len, hl]) (lows_bd hg.1 h0 h1) hn
  have b := gval_bd (room := x.1.take y.coals.length) (each := highs y w) (by rw [highs_len, hl]) (highs_bd hg.1 h0 h1) hn
  unfold fLo fHi
  omega
theorem ylS_bd {y : Yard} {w : Int} (hg : GoodYard y) (h0 : 0 ≤ w) (h1 : w ≤ 3) {l : List (List Int × Int)} (h : ∀ x ∈ l, x.1.length = 6 ∧ 0 ≤ x.2 ∧ x.2 ≤ 33554432) : (-3355443200000 * (l.length : Int) ≤ (ylS y w l).lo ∧ (ylS y w l).lo ≤ 3355443200000 * (l.length : Int)) ∧ -3355443200000 * (l.length : Int) ≤ (ylS y w l).hi ∧ (ylS y w l).hi ≤ 3355443200000 * (l.length : Int) := by
  induction l using snoc_ind with
  | h0 => simp [ylS]
  | h1 l x ih =>
    have ih := ih fun z hz => h z (List.mem_append_left _ hz)
    obtain ⟨a, b, c⟩ := h x (List.mem_append_right _ List.mem_cons_self)
    have := f_bd hg h0 h1 a b c
    rw [ylS_snoc, List.length_append, List.length_singleton]
    dsimp only
    omega
/-- What the sorted shares of a layer give. -/
theorem low_val {y : Yard} {w n : Int} {c : List Int} {ys : List Share} (hg : GoodYard y) (h6 : c.length = 6) (hc : ∀ z ∈ c, 0 ≤ z) (h0 : 0 ≤ n) (hn : n ≤ sumI (c.take y.coals.length)) (hp : ys.Perm (shL y Span.lo w c y.coals.length)) (hs : ys.Pairwise (fun a b => ¬ b.each - a.each < 0)) : (fstP ys n).1 = fLo y w (c, n) := by
  have hl := hg.2.2.1.2
  have e1 := shL_tons (y := y) (g := Span.lo) (w := w) (c := c) (by omega)
  have e2 := shL_each (y := y) (g := Span.lo) (w := w) (c := c) id
  rw [fst_gval hp (hs.imp fun h => by omega) h0 (fun x hx => by
    have hm := List.mem_map_of_mem (f := Share.tons) hx
    rw [e1] at hm
    exact hc _ (List.mem_of_mem_take hm)) (by rw [e1]; exact hn), e1]
  unfold fLo lows
  congr 1
theorem high_val {y : Yard} {w n : Int} {c : List Int} {ys : List Share} (hg : GoodYard y) (h6 : c.length = 6) (hc : ∀ z ∈ c, 0 ≤ z) (h0 : 0 ≤ n) (hn : n ≤ sumI (c.take y.coals.length)) (hp : ys.Perm (shL y Span.hi w c y.coals.length)) (hs : ys.Pairwise (fun a b => ¬ b.each - a.each < 0)) : (fstP ys.reverse n).1 = fHi y w (c, n) := by
  have hl := hg.2.2.1.2
  have e1 := shL_tons (y := y) (g := Span.hi) (w := w) (c := c) (by omega)
  have e2 := shL_each (y := y) (g := Span.hi) (w := w) (c := c) (fun x => -x)
  rw [fst_gvalR hp (hs.imp fun h => by omega) h0 (fun x hx => by
    have hm := List.mem_map_of_mem (f := Share.tons) hx
    rw [e1] at hm
    exact hc _ (List.mem_of_mem_take hm)) (by rw [e1]; exact hn), e1, e2]
  unfold fHi highs
  rfl
end Go.Proofs.Ytpefpafijadfmaa
namespace Go.Proofs.Ytpefpafijadfmaa
open Go Go.H
theorem parts_need {y : Yard} {vs : List (List Int)} {f m : Nat} {x : List Int × Int} (hg : GoodYard y) (hP : PInv y.coals.length y.moves (opn y.moves).1 y.moves.length vs) (hx : x ∈ partsL y ((vs.drop f).take m)) : x.2 ≤ sumI (x.1.take y.coals.length) := by
  obtain ⟨j, hj, rfl, _⟩ := partsL_mem hx
  have h1 := (taken_part hP.bd f m j).2
  have h2 := room_nn hP j
  dsimp only
  rw [c6_take hg]
  unfold roomR at h2
  unfold contE
  omega
def cmS (a b : Share) : Int := a.each - b.each
theorem cmS_swo : Go.Sort.SWO (ltc cmS) := by
  have e : ∀ x y, ltc cmS x y = decide (x.each < y.each) := fun x y => by unfold ltc cmS; exact decide_eq_decide.2 (by omega)
  refine ⟨fun x => ?_, fun x y z => ?_, fun x y z => ?_⟩ <;> simp only [e, decide_eq_true_eq, decide_eq_false_iff_not] <;> omega
theorem permF {V W R : Hp} {m p q b c d z : Nat × Obj} : List.Perm ((V ++ (W ++ (p :: q :: b :: c :: R))) ++ [m, d, z]) (m :: (V ++ (W ++ (d :: p :: q :: b :: c :: z :: R)))) := by
  classical
  refine List.perm_iff_count.2 fun a => ?_
  simp only [List.count_append, List.count_cons, List.count_nil]; omega
theorem permG {V W R : Hp} {x y m p q b c d z : Nat × Obj} : List.Perm ((W ++ (x :: (V ++ (y :: p :: q :: b :: c :: R)))) ++ [m, d, z]) (x :: y :: m :: (V ++ (W ++ (d :: p :: q :: b :: c :: z :: R)))) := by
  classical
  refine List.perm_iff_count.2 fun a => ?_
  simp only [List.count_append, List.count_cons, List.count_nil]; omega
end Go.Proofs.Ytpefpafijadfmaa

/-
  Walks.
-/
namespace Go.Proofs.Ytpefpafijadfmaa
open Go Go.H
set_option maxRecDepth 100000
set_option maxHeartbeats 8000000
set_option linter.all false
theorem sortA_c {V : Vec} {xs : List Share} {n : Nat} {f : Value} {cm : Share → Share → Int} {L : Hp} {R : Ending → Hp → Prop} (hn : n = xs.length) (hV : V.ok 2 n (xs.flatMap eShare)) (h49 : n ≤ 49)
    (hf : ∀ x y, x ∈ xs → y ∈ xs → ∀ H R', L ⊆ H → R' (.returned (I (cm x y))) H → AFn Try.prog f [.agg ⟨eShare x⟩, .agg ⟨eShare y⟩] H R') (hs : Go.Sort.SWO (ltc cm))
    (H : ∀ ys : List Share, ys.Perm xs → ys.Pairwise (fun a b => ¬ cm b a < 0) → V.ok 2 n (ys.flatMap eShare) → R (.returned (.tuple #[])) (V.hp 93 (ys.flatMap eShare) ++ L)) :
    ACalls Try.prog 42 ⟨[.slice V.ad n V.cp, f]⟩ (V.hp 93 (xs.flatMap eShare) ++ L) R := by
  rw [← Vec.val_ad hV]
  subst hn
  exact sortV_c hV h49 hf hs fun ys hp ho hk => H ys hp ho (by rw [← hp.length_eq]; exact hk)
theorem reverseA_c {V : Vec} {xs : List Share} {n : Nat} {L : Hp} {R : Ending → Hp → Prop} (hn : n = xs.length) (h0 : 0 < n) (hV : V.ok 2 n (xs.flatMap eShare)) (hlen : n ≤ 1000)
    (H : V.ok 2 n (xs.reverse.flatMap eShare) → R (.returned (.tuple #[])) (V.hp 93 (xs.reverse.flatMap eShare) ++ L)) : ACalls Try.prog 43 ⟨[.slice V.ad n V.cp]⟩ (V.hp 93 (xs.flatMap eShare) ++ L) R := by
  subst hn
  cases V with
  | nil => exact absurd hV.2 (by omega)
  | «at» bb cap sp =>
    refine reverse_c hlen (H ?_)
    obtain ⟨h1, h2, h3⟩ := hV
    rw [List.length_append, flat_lenM eShare_len] at h3
    exact ⟨by rw [flat_lenM eShare_len, List.length_reverse], h2, by rw [List.length_append, flat_lenM eShare_len, List.length_reverse]; exact h3⟩
theorem firstA_c {l : List Share} {a : Option Addr} {c n : Nat} {need : Int} {h : Hp} {R : Ending → Hp → Prop} (hn : n = l.length) (hl : SlV h 2 eShare a l) (hlen : n ≤ 1000) (hok : ∀ x ∈ l, ShareOk x) (hn0 : 0 ≤ need) (hn1 : need ≤ 1048576000) (H : R (.returned (I (fstP l need).1)) h) : ACalls Try.prog 44 ⟨[.slice a n c, I need]⟩ h R := by
  subst hn; exact first_c hl hlen hok hn0 hn1 H
theorem giv_fn {w : Int} (h0 : 0 ≤ w) (h1 : w ≤ 3) : ∃ fv : Value, fv.oneCell' = true ∧ (([.func (.func 54) ⟨[]⟩ ⟨[]⟩, .func (.func 55) ⟨[]⟩ ⟨[]⟩, .func (.func 56) ⟨[]⟩ ⟨[]⟩, .func (.func 57) ⟨[]⟩ ⟨[]⟩] : List Value).drop (w.toNat * 1)).take 1 = [fv] ∧ ∀ (c : Coal) (h : Hp) (R : Ending → Hp → Prop), R (.returned (.agg ⟨eSpan (ofF c w)⟩)) h → AFn Try.prog fv [.agg ⟨eCoal c⟩] h R := by
  obtain rfl | rfl | rfl | rfl : w = 0 ∨ w = 1 ∨ w = 2 ∨ w = 3 := by omega
  · exact ⟨_, rfl, rfl, fun c h R H => afn_func (fi := []) (lb := []) hb54 (give54_c H)⟩
  · exact ⟨_, rfl, rfl, fun c h R H => afn_func (fi := []) (lb := []) hb55 (give55_c H)⟩
  · exact ⟨_, rfl, rfl, fun c h R H => afn_func (fi := []) (lb := []) hb56 (give56_c H)⟩
  · exact ⟨_, rfl, rfl, fun c h R H => afn_func (fi := []) (lb := []) hb57 (give57_c H)⟩

theorem Yield_c {y : Yard} {h : Hp} {R : Ending → Hp → Prop} (hy : YardV h y) (hs : Small y) {f t w : Int} (H : R (.returned (.tuple ⟨[.agg ⟨eSpan (yieldA y f t w).1⟩, I (yieldA y f t w).2]⟩)) h) : ACalls Try.prog 13 ⟨[.agg ⟨eYard y⟩, I f, I t, I w]⟩ h R := by
  refine calls_of_xc (N := 121) Try.func13 rfl (by rfl) ?_
  obtain ⟨hs1, hs2⟩ := id hs
  refine xc_seq (xc_region ?_)
  refine xr_op rfl rfl (xv_box rfl (fun b4 hb4 => ?_))
  refine xr_op rfl rfl (xv_alloc ty33 (fun b8 hb8 => ?_))
  refine xr_op rfl rfl (xv_assign rfl ?_)
  refine xr_end rfl ?_
  refine th_n ?_
  refine xc_seq (xc_region ?_)
  refine xr_op rfl rfl (xv_loadA ty25 rfl rfl (by ((repeat first|exact z_0|assumption|refine z_1 ?_|(refine z_l ?_;(repeat first|exact z_0|assumption|refine z_1 ?_);done)|refine z_r ?_);done)) (by ((try apply evl_some rfl);(repeat (first|exact (rfl : _ = [])|apply evl_cons rfl (by (first|exact v_1|exact v_2|exact v_3|exact v_4|exact v_5|exact v_6|exact v_7|exact v_8|exact v_9|exact rfl))|exact rfl)))) (by rfl) ?_)
  refine xr_op rfl rfl (xv_calls rfl hb30 (newShed_c (hy.sub (by intro z hz; ((repeat first|exact z_0|assumption|refine z_1 ?_|(refine z_l ?_;(repeat first|exact z_0|assumption|refine z_1 ?_);done)|refine z_r ?_);done))) hs (fun hng => up_ret ?_) (fun hgy hpn => up_ret ?_) (fun vs b la lc bs da dc ds G hgy hvs hsh => up_ret ?_)))
  · refine xr_op rfl rfl (xv_move rfl ?_)
    refine xr_op rfl rfl (xv_extract rfl rfl ?_)
    refine xr_op rfl rfl (xv_extract rfl rfl ?_)
    refine xr_op rfl rfl (xv_alloc ty66 (fun b10 hb10 => ?_))
    refine xr_op rfl rfl (xv_s1 ty66 rfl rfl rfl (by (first|(apply u_3;(repeat first|exact u_0|assumption|apply u_1|apply u_2);done)|((repeat first|exact u_0|assumption|apply u_1|apply u_2);done)|(apply u_3;apply u_3;(repeat first|exact u_0|assumption|apply u_1|apply u_2);done)|((repeat first|exact u_0|assumption|apply u_3|apply u_1);done))) (by (first | rfl | exact Vec.one _ _)) (by (first | decide | exact Nat.le_of_ble_eq_true rfl | (simp only [List.length_cons, List.length_nil]; omega) | (simp; done))) (by ((try apply evl_some rfl);(repeat (first|exact (rfl : _ = [])|apply evl_cons rfl (by (first|exact v_1|exact v_2|exact v_3|exact v_4|exact v_5|exact v_6|exact v_7|exact v_8|exact v_9|exact rfl))|exact rfl)))) ?_)
    refine xr_op rfl rfl (xv_assign rfl ?_)
    refine xr_end rfl ?_
    refine th_n ?_
    refine xc_seq ?_
    refine xc_block ?_
    refine xc_seq (xc_region ?_)
    refine xr_op rfl rfl (xv_move rfl ?_)
    refine xr_op rfl rfl (xv_neqT rfl rfl (by decide) ?_)
    refine xr_op rfl rfl (xv_assign rfl ?_)
    refine xr_end rfl ?_
    refine th_n ?_
    refine xc_true rfl ?_
    refine xc_seq (xc_region ?_)
    refine xr_op rfl rfl (xv_build bt33 rfl (by ((try apply evl_some rfl);(repeat (first|exact (rfl : _ = [])|apply evl_cons rfl (by (first|exact v_1|exact v_2|exact v_3|exact v_4|exact v_5|exact v_6|exact v_7|exact v_8|exact v_9|exact rfl))|exact rfl)))) ?_)
    refine xr_op rfl rfl (xv_move rfl ?_)
    refine xr_op rfl rfl (xv_s ty33 rfl rfl (by (first|(apply u_3;(repeat first|exact u_0|assumption|apply u_1|apply u_2);done)|((repeat first|exact u_0|assumption|apply u_1|apply u_2);done)|(apply u_3;apply u_3;(repeat first|exact u_0|assumption|apply u_1|apply u_2);done)|((repeat first|exact u_0|assumption|apply u_3|apply u_1);done))) (by ((try apply evl_some rfl);(repeat (first|exact (rfl : _ = [])|apply evl_cons rfl (by (first|exact v_1|exact v_2|exact v_3|exact v_4|exact v_5|exact v_6|exact v_7|exact v_8|exact v_9|exact rfl))|exact rfl)))) (by rfl) (by rfl) (by rfl) (by ((try apply evl_some rfl);(repeat (first|exact (rfl : _ = [])|apply evl_cons rfl (by (first|exact v_1|exact v_2|exact v_3|exact v_4|exact v_5|exact v_6|exact v_7|exact v_8|exact v_9|exact rfl))|exact rfl)))) ?_)
    refine xr_op rfl rfl (xv_assign rfl ?_)
    refine xr_end rfl ?_
    refine th_n ?_
    refine xc_ret ?_
    refine bk_r ?_
    refine th_r ?_
    refine body_ret (h' := h) rfl (ro_cellA ty33 rfl rfl (by ((repeat first|exact z_0|assumption|refine z_1 ?_|(refine z_l ?_;(repeat first|exact z_0|assumption|refine z_1 ?_);done)|refine z_r ?_);done)) (by rfl) (by rfl) (ro_tmp rfl ro_nil)) (by (first|((repeat first|exact s_0|exact s_1|exact s_3|refine s_4 ?_|refine s_5 ?_|refine s_6 ?_|refine s_7 ?_);done)|((repeat first|exact s_0|exact s_1|exact s_3|refine s_4 ?_|refine s_5 ?_|refine s_6 ?_|refine s_8 ?_);done))) ?_
    first | (rw [eans] at H; exact H) | (rw [yieldA_1 hng] at H; exact H) | (rw [yieldA_10 hgy hpn] at H; exact H) | (rw [yieldA_2 hgy hvs (by omega)] at H; exact H)
  · refine xr_op rfl rfl (xv_move rfl ?_)
    refine xr_op rfl rfl (xv_extract rfl rfl ?_)
    refine xr_op rfl rfl (xv_extract rfl rfl ?_)
    refine xr_op rfl rfl (xv_alloc ty66 (fun b10 hb10 => ?_))
    refine xr_op rfl rfl (xv_s1 ty66 rfl rfl rfl (by (first|(apply u_3;(repeat first|exact u_0|assumption|apply u_1|apply u_2);done)|((repeat first|exact u_0|assumption|apply u_1|apply u_2);done)|(apply u_3;apply u_3;(repeat first|exact u_0|assumption|apply u_1|apply u_2);done)|((repeat first|exact u_0|assumption|apply u_3|apply u_1);done))) (by (first | rfl | exact Vec.one _ _)) (by (first | decide | exact Nat.le_of_ble_eq_true rfl | (simp only [List.length_cons, List.length_nil]; omega) | (simp; done))) (by ((try apply evl_some rfl);(repeat (first|exact (rfl : _ = [])|apply evl_cons rfl (by (first|exact v_1|exact v_2|exact v_3|exact v_4|exact v_5|exact v_6|exact v_7|exact v_8|exact v_9|exact rfl))|exact rfl)))) ?_)
    refine xr_op rfl rfl (xv_assign rfl ?_)
    refine xr_end rfl ?_
    refine th_n ?_
    refine xc_seq ?_
    refine xc_block ?_
    refine xc_seq (xc_region ?_)
    refine xr_op rfl rfl (xv_move rfl ?_)
    refine xr_op rfl rfl (xv_neqT rfl rfl (by decide) ?_)
    refine xr_op rfl rfl (xv_assign rfl ?_)
    refine xr_end rfl ?_
    refine th_n ?_
    refine xc_true rfl ?_
    refine xc_seq (xc_region ?_)
    refine xr_op rfl rfl (xv_build bt33 rfl (by ((try apply evl_some rfl);(repeat (first|exact (rfl : _ = [])|apply evl_cons rfl (by (first|exact v_1|exact v_2|exact v_3|exact v_4|exact v_5|exact v_6|exact v_7|exact v_8|exact v_9|exact rfl))|exact rfl)))) ?_)
    refine xr_op rfl rfl (xv_move rfl ?_)
    refine xr_op rfl rfl (xv_s ty33 rfl rfl (by (first|(apply u_3;(repeat first|exact u_0|assumption|apply u_1|apply u_2);done)|((repeat first|exact u_0|assumption|apply u_1|apply u_2);done)|(apply u_3;apply u_3;(repeat first|exact u_0|assumption|apply u_1|apply u_2);done)|((repeat first|exact u_0|assumption|apply u_3|apply u_1);done))) (by ((try apply evl_some rfl);(repeat (first|exact (rfl : _ = [])|apply evl_cons rfl (by (first|exact v_1|exact v_2|exact v_3|exact v_4|exact v_5|exact v_6|exact v_7|exact v_8|exact v_9|exact rfl))|exact rfl)))) (by rfl) (by rfl) (by rfl) (by ((try apply evl_some rfl);(repeat (first|exact (rfl : _ = [])|apply evl_cons rfl (by (first|exact v_1|exact v_2|exact v_3|exact v_4|exact v_5|exact v_6|exact v_7|exact v_8|exact v_9|exact rfl))|exact rfl)))) ?_)
    refine xr_op rfl rfl (xv_assign rfl ?_)
    refine xr_end rfl ?_
    refine th_n ?_
    refine xc_ret ?_
    refine bk_r ?_
    refine th_r ?_
    refine body_ret (h' := h) rfl (ro_cellA ty33 rfl rfl (by ((repeat first|exact z_0|assumption|refine z_1 ?_|(refine z_l ?_;(repeat first|exact z_0|assumption|refine z_1 ?_);done)|refine z_r ?_);done)) (by rfl) (by rfl) (ro_tmp rfl ro_nil)) (by (first|((repeat first|exact s_0|exact s_1|exact s_3|refine s_4 ?_|refine s_5 ?_|refine s_6 ?_|refine s_7 ?_);done)|((repeat first|exact s_0|exact s_1|exact s_3|refine s_4 ?_|refine s_5 ?_|refine s_6 ?_|refine s_8 ?_);done))) ?_
    first | (rw [eans] at H; exact H) | (rw [yieldA_1 hng] at H; exact H) | (rw [yieldA_10 hgy hpn] at H; exact H) | (rw [yieldA_2 hgy hvs (by omega)] at H; exact H)
  · refine xr_op rfl rfl (xv_move rfl ?_)
    refine xr_op rfl rfl (xv_extract rfl rfl ?_)
    refine xr_op rfl rfl (xv_extract rfl rfl ?_)
    refine xr_op rfl rfl (xv_alloc ty66 (fun b10 hb10 => ?_))
    refine xr_op rfl rfl (xv_s1 ty66 rfl rfl rfl (by (first|(apply u_3;(repeat first|exact u_0|assumption|apply u_1|apply u_2);done)|((repeat first|exact u_0|assumption|apply u_1|apply u_2);done)|(apply u_3;apply u_3;(repeat first|exact u_0|assumption|apply u_1|apply u_2);done)|((repeat first|exact u_0|assumption|apply u_3|apply u_1);done))) (by (first | rfl | exact Vec.one _ _)) (by (first | decide | exact Nat.le_of_ble_eq_true rfl | (simp only [List.length_cons, List.length_nil]; omega) | (simp; done))) (by ((try apply evl_some rfl);(repeat (first|exact (rfl : _ = [])|apply evl_cons rfl (by (first|exact v_1|exact v_2|exact v_3|exact v_4|exact v_5|exact v_6|exact v_7|exact v_8|exact v_9|exact rfl))|exact rfl)))) ?_)
    refine xr_op rfl rfl (xv_assign rfl ?_)
    refine xr_end rfl ?_
    refine th_n ?_
    refine xc_seq ?_
    refine xc_block ?_
    refine xc_seq (xc_region ?_)
    refine xr_op rfl rfl (xv_move rfl ?_)
    refine xr_op rfl rfl (xv_neqF rfl rfl rfl ?_)
    refine xr_op rfl rfl (xv_assign rfl ?_)
    refine xr_end rfl ?_
    refine th_n ?_
    refine xc_false rfl ?_
    refine xc_seq (xc_region ?_)
    have hcn := hsh.cnt
    have mtop := hsh.top
    have hm32 := hgy.2.2.2
    have hfw := hsh.inv.few
    refine xr_op rfl rfl (xv_move rfl ?_)
    refine xr_op rfl rfl (xv_load1 ty66 rfl rfl (by ((repeat first|exact z_0|assumption|refine z_1 ?_|(refine z_l ?_;(repeat first|exact z_0|assumption|refine z_1 ?_);done)|refine z_r ?_);done)) (by rfl) ?_)
    refine xr_op rfl rfl (xv_nilp rfl ?_)
    refine xr_op rfl rfl (xv_faddr fl73_2 rfl ?_)
    refine xr_op rfl rfl (xv_load1 ty71 rfl rfl (by ((repeat first|exact z_0|assumption|refine z_1 ?_|(refine z_l ?_;(repeat first|exact z_0|assumption|refine z_1 ?_);done)|refine z_r ?_);done)) (by rfl) ?_)
    refine xr_op rfl rfl (xv_len sl71 rfl ?_)
    refine xr_op rfl rfl (xv_sub rfl rfl (wrap_i64 (by (first | omega | (dsimp only at *; omega) | (simp at *; omega))) (by (first | omega | (dsimp only at *; omega) | (simp at *; omega)))) ?_)
    refine xr_op rfl rfl (xv_calls rfl hb31 (within_c _ _ _ (fun hl1 hu2 => up_ret ?_) (fun hn3 => up_ret ?_)))
    · refine xr_op rfl rfl (xv_not rfl ?_)
      refine xr_op rfl rfl (xv_move rfl ?_)
      refine xr_gd rfl rfl rfl (xv_move rfl ?_)
      refine xr_gd rfl rfl rfl (xv_move rfl ?_)
      refine xr_gd rfl rfl rfl (xv_calls rfl hb31 (within_c _ _ _ (fun hl4 hu5 => up_ret ?_) (fun hn6 => up_ret ?_)))
      · refine xr_gd rfl rfl rfl (xv_not rfl ?_)
        refine xr_op rfl rfl (xv_pick rfl rfl ?_)
        refine xr_op rfl rfl (xv_move rfl ?_)
        refine xr_gd rfl rfl rfl (xv_move rfl ?_)
        refine xr_gd rfl rfl rfl (xv_calls rfl hb31 (within_c _ _ _ (fun hl7 hu8 => up_ret ?_) (fun hn9 => up_ret ?_)))
        · refine xr_gd rfl rfl rfl (xv_not rfl ?_)
          refine xr_op rfl rfl (xv_pick rfl rfl ?_)
          refine xr_op rfl rfl (xv_assign rfl ?_)
          refine xr_end rfl ?_
          refine th_n ?_
          refine xc_false rfl ?_
          refine xc_skip ?_
          refine bk_n ?_
          refine th_n ?_
          refine xc_seq (xc_region ?_)
          have hw0 : 0 ≤ w := by omega
          have hw1 : w ≤ 3 := by omega
          obtain ⟨fv, hf1, hfv, hfc⟩ := giv_fn hw0 hw1
          have hdn : f.toNat < ds.length := by (first | omega | (dsimp only at *; omega) | (simp at *; omega))
          have hltw : f.toNat < ds.length := hdn
          obtain ⟨bw, ow, lw, tw, fzw, haw, hmw, hxw⟩ := (hsh.draws).at hltw
          obtain ⟨xw, hkw⟩ : ∃ qq_, ds[f.toNat]? = some qq_ := ⟨_, List.getElem?_eq_getElem hltw⟩
          subst haw
          have eans := yieldA_0 (w := w) hgy hvs (f := f) (t := t) ⟨⟨by omega, by omega, by omega⟩, hw0, hw1⟩
          have hcut := hsh.cut hgy f.toNat (t.toNat + 1 - f.toNat)
          have hcap := hsh.cap
          have hn6 := hgy.2.2.1.2
          have hn1 := hgy.2.2.1.1
          have hpl := partsN_len y ((vs.drop f.toNat).take (t.toNat + 1 - f.toNat)) (opn y.moves).1
          have hop := opn_le y.moves
          have hple : (partsL y ((vs.drop f.toNat).take (t.toNat + 1 - f.toNat))).length ≤ 32 := Nat.le_trans hpl (by omega)
          have hyl : ylS y w (partsL y ((vs.drop f.toNat).take (t.toNat + 1 - f.toNat))) = ⟨yLo y w (takenR ((vs.drop f.toNat).take (t.toNat + 1 - f.toNat))) (opn y.moves).1, yHi y w (takenR ((vs.drop f.toNat).take (t.toNat + 1 - f.toNat))) (opn y.moves).1⟩ := ylS_parts hgy hcut.bd hw0 hw1 _
          refine xr_op rfl rfl (xv_calls rfl hb40 (given_c (up_ret ?_)))
          refine xr_op rfl rfl (xv_move rfl ?_)
          refine xr_op rfl rfl (xv_indexA Try.underlying90 ty89 rfl rfl rfl hw0 (by omega) hfv ?_)
          refine xr_op rfl rfl (xv_field1 fl89_0 rfl (by rfl) ?_)
          refine xr_op rfl rfl (xv_alloc ty88 (fun b12 hb12 => ?_))
          refine xr_op rfl rfl (xv_s1 ty88 rfl rfl rfl (by (first|(apply u_3;(repeat first|exact u_0|assumption|apply u_1|apply u_2);done)|((repeat first|exact u_0|assumption|apply u_1|apply u_2);done)|(apply u_3;apply u_3;(repeat first|exact u_0|assumption|apply u_1|apply u_2);done)|((repeat first|exact u_0|assumption|apply u_3|apply u_1);done))) hf1 (by (first | decide | exact Nat.le_of_ble_eq_true rfl | (simp only [List.length_cons, List.length_nil]; omega) | (simp; done))) (by ((try apply evl_some rfl);(repeat (first|exact (rfl : _ = [])|apply evl_cons rfl (by (first|exact v_1|exact v_2|exact v_3|exact v_4|exact v_5|exact v_6|exact v_7|exact v_8|exact v_9|exact rfl))|exact rfl)))) ?_)
          refine xr_end rfl ?_
          refine th_n ?_
          refine xc_seq (xc_region ?_)
          refine xr_op rfl rfl (xv_alloc ty94 (fun b13 hb13 => ?_))
          refine xr_op rfl rfl (xv_s1 ty94 rfl rfl rfl (by (first|(apply u_3;(repeat first|exact u_0|assumption|apply u_1|apply u_2);done)|((repeat first|exact u_0|assumption|apply u_1|apply u_2);done)|(apply u_3;apply u_3;(repeat first|exact u_0|assumption|apply u_1|apply u_2);done)|((repeat first|exact u_0|assumption|apply u_3|apply u_1);done))) (by (first | rfl | exact Vec.one _ _)) (by (first | decide | exact Nat.le_of_ble_eq_true rfl | (simp only [List.length_cons, List.length_nil]; omega) | (simp; done))) (by ((try apply evl_some rfl);(repeat (first|exact (rfl : _ = [])|apply evl_cons rfl (by (first|exact v_1|exact v_2|exact v_3|exact v_4|exact v_5|exact v_6|exact v_7|exact v_8|exact v_9|exact rfl))|exact rfl)))) ?_)
          refine xr_end rfl ?_
          refine th_n ?_
          refine xc_seq (xc_region ?_)
          refine xr_op rfl rfl (xv_alloc ty75 (fun b14 hb14 => ?_))
          refine xr_end rfl ?_
          refine th_n ?_
          refine xc_seq ?_
          refine xc_seq ?_
          refine xc_draw0 [(0, .R), (1, .R), (2, .S), (3, .S), (4, .R), (5, .S), (6, .S), (7, .S), (8, .S), (9, .O)] mixed (by kernel_rfl) ?_
          refine js_R0 rfl rfl (.inl rfl) (xv_load1 ty66 rfl rfl (by ((repeat first|exact z_0|assumption|refine z_1 ?_|(refine z_l ?_;(repeat first|exact z_0|assumption|refine z_1 ?_);done)|refine z_r ?_);done)) (by rfl) ⟨rfl, rfl⟩) ?_
          refine js_R0 rfl rfl (.inl rfl) (xv_load1 ty66 rfl rfl (by ((repeat first|exact z_0|assumption|refine z_1 ?_|(refine z_l ?_;(repeat first|exact z_0|assumption|refine z_1 ?_);done)|refine z_r ?_);done)) (by rfl) ⟨rfl, rfl⟩) ?_
          refine js_S rfl rfl (.inl rfl) (xv_nilp rfl ⟨rfl, rfl⟩) ?_
          refine js_S rfl rfl (.inl rfl) (xv_faddr fl73_2 rfl ⟨rfl, rfl⟩) ?_
          refine js_R0 rfl rfl (.inl rfl) (xv_load1 ty71 rfl rfl (by ((repeat first|exact z_0|assumption|refine z_1 ?_|(refine z_l ?_;(repeat first|exact z_0|assumption|refine z_1 ?_);done)|refine z_r ?_);done)) (by rfl) ⟨rfl, rfl⟩) ?_
          refine js_S rfl rfl (.inl rfl) (xv_move rfl ⟨rfl, rfl⟩) ?_
          refine js_S rfl rfl (.inl rfl) (xv_move rfl ⟨rfl, rfl⟩) ?_
          refine js_S rfl rfl (.inl rfl) (xv_add rfl rfl (wrap_i64 (by (first | omega | (dsimp only at *; omega) | (simp at *; omega))) (by (first | omega | (dsimp only at *; omega) | (simp at *; omega)))) ⟨rfl, rfl⟩) ?_
          refine js_S rfl rfl (.inl rfl) (xv_cut (m := ((ds.drop f.toNat).take (t.toNat + 1 - f.toNat)).length) sl71 ty39 rfl rfl rfl (by (first | omega | (dsimp only at *; omega) | (simp at *; omega))) (by (first | omega | (dsimp only at *; omega) | (simp at *; omega))) (by (first | omega | (dsimp only at *; omega) | (simp at *; omega))) (by (first | omega | (dsimp only at *; omega) | (simp at *; omega))) (by rw [List.length_take, List.length_drop]; (first | omega | (dsimp only at *; omega) | (simp at *; omega))) ⟨rfl, rfl⟩) ?_
          refine js_O0 rfl rfl (.inl rfl) (xv_calls rfl hb32 (parts_c (fun p1 p2 => up_ret ?_)))
          refine j_end0 ?_
          refine th_n ?_
          refine xc_block ?_
          refine xc_range2 (γ := Unit) ePc (partsL y ((vs.drop f.toNat).take (t.toNat + 1 - f.toNat))) ((p2, .cells ⟨[.slice (some ⟨bw, ow + f.toNat * 1, none⟩) ((ds.drop f.toNat).take (t.toNat + 1 - f.toNat)).length (dc - f.toNat)]⟩ 71) :: (p1, .cells ⟨[.pointer (some ⟨b, 0, none⟩)]⟩ 66) :: G) rfl hb53 (partsIt (core := ((p2, .cells ⟨[.slice (some ⟨bw, ow + f.toNat * 1, none⟩) ((ds.drop f.toNat).take (t.toNat + 1 - f.toNat)).length (dc - f.toNat)]⟩ 71) :: (p1, .cells ⟨[.pointer (some ⟨b, 0, none⟩)]⟩ 66) :: G)) (by ((repeat first|exact z_0|assumption|refine z_1 ?_|(refine z_l ?_;(repeat first|exact z_0|assumption|refine z_1 ?_);done)|refine z_r ?_);done)) (by ((repeat first|exact z_0|assumption|refine z_1 ?_|(refine z_l ?_;(repeat first|exact z_0|assumption|refine z_1 ?_);done)|refine z_r ?_);done)) (hsh.sub (by intro z hz; ((repeat first|exact z_0|assumption|refine z_1 ?_|(refine z_l ?_;(repeat first|exact z_0|assumption|refine z_1 ?_);done)|refine z_r ?_);done))) (hcut.sub (by intro z hz; ((repeat first|exact z_0|assumption|refine z_1 ?_|(refine z_l ?_;(repeat first|exact z_0|assumption|refine z_1 ?_);done)|refine z_r ?_);done)))) (fun x => rfl) (by decide) ((((emp.put (some 10) (.pointer (some ⟨b10, 0, none⟩))).put (some 12) (.pointer (some ⟨b12, 0, none⟩))).put (some 13) (.pointer (some ⟨b13, 0, none⟩))).put (some 14) (.pointer (some ⟨b14, 0, none⟩))) (fun k g => True) (fun k g => ((p2, .cells ⟨[.slice (some ⟨bw, ow + f.toNat * 1, none⟩) ((ds.drop f.toNat).take (t.toNat + 1 - f.toNat)).length (dc - f.toNat)]⟩ 71) :: (p1, .cells ⟨[.pointer (some ⟨b, 0, none⟩)]⟩ 66) :: (b14, .cells ⟨[I (ylS y w ((partsL y ((vs.drop f.toNat).take (t.toNat + 1 - f.toNat))).take k)).lo, I (ylS y w ((partsL y ((vs.drop f.toNat).take (t.toNat + 1 - f.toNat))).take k)).hi]⟩ 75) :: (b13, .cells ⟨[.func (.func 41) ⟨[]⟩ ⟨[]⟩]⟩ 94) :: (b12, .cells ⟨[fv]⟩ 88) :: (b10, .cells ⟨[.pointer (some ⟨b, 0, none⟩)]⟩ 66) :: (G ++ (b8, .cells ⟨[I 0, I 0]⟩ 33) :: (b4, .cells ⟨eYard y⟩ 25) :: h))) (fun _ _ _ => False) () (mon_bk (mon_th)) (le_put (le_put (le_put (le_put (le_emp _) rfl) rfl) rfl) rfl) trivial (by (first|((repeat first|exact s_0|exact s_1|exact s_3|refine s_4 ?_|refine s_5 ?_|refine s_6 ?_|refine s_7 ?_);done)|((repeat first|exact s_0|exact s_1|exact s_3|refine s_4 ?_|refine s_5 ?_|refine s_6 ?_|refine s_8 ?_);done))) (fun k g z hz => by
            simp only [List.mem_cons] at hz
            rcases hz with rfl | rfl | hz
            · exact z_0
            · exact z_1 z_0
            · exact z_1 (z_1 (z_1 (z_1 (z_1 (z_1 (z_l hz))))))) ?_ (fun _ _ _ _ _ hf _ => hf.elim) ?_
          · intro ll k x gu hkx _i
            have hkl := (List.getElem?_eq_some_iff.1 hkx).1
            have hxm := List.mem_of_getElem? hkx
            obtain ⟨hx6, hxb, hx0, hx1⟩ := partsL_ok hgy hcut.bd hcut.few hxm
            have hxn := parts_need hgy hsh.inv hxm
            have hxnn : ∀ z ∈ x.1, 0 ≤ z := fun z hz => (hxb z hz).1
            have hx32 : x.2 ≤ 33554432 := by have := hcut.few; omega
            have hso1 := shL_ok (g := Span.lo) (c := x.1) hgy (fun s hs => ⟨hs.1, by have := hs.2; omega⟩) hw0 hw1 hxnn (Nat.le_refl _)
            have hso2 := shL_ok (g := Span.hi) (c := x.1) hgy (fun s hs => ⟨by have := hs.1; have := hs.2.1; omega, hs.2.2⟩) hw0 hw1 hxnn (Nat.le_refl _)
            have hbb := ylS_bd (l := (partsL y ((vs.drop f.toNat).take (t.toNat + 1 - f.toNat))).take k) hgy hw0 hw1 (fun z hz => by obtain ⟨a, _, b, c⟩ := partsL_ok hgy hcut.bd hcut.few (List.mem_of_mem_take hz); have := hcut.few; exact ⟨a, by omega, by omega⟩)
            rw [List.length_take] at hbb
            have hfb := f_bd hgy hw0 hw1 hx6 (by omega) hx32
            refine xc_seq (xc_region ?_)
            refine xr_op rfl rfl (xv_alloc ty80 (fun b15 hb15 => ?_))
            refine xr_op rfl rfl (xv_sAll ty80 rfl rfl (by (first|(apply u_3;(repeat first|exact u_0|assumption|apply u_1|apply u_2);done)|((repeat first|exact u_0|assumption|apply u_1|apply u_2);done)|(apply u_3;apply u_3;(repeat first|exact u_0|assumption|apply u_1|apply u_2);done)|((repeat first|exact u_0|assumption|apply u_3|apply u_1);done))) (by rw [ints_len]; exact hx6) rfl (flat_all eI_1 _) ?_)
            refine xr_end rfl ?_
            refine th_n ?_
            refine xc_region ?_
            refine xr_op rfl rfl (xv_assign rfl ?_)
            refine xr_end rfl ?_
            refine rndA_n ?_
            refine xc_block ?_
            refine xc_seq (xc_region ?_)
            refine xr_op rfl rfl (xv_assign rfl ?_)
            refine xr_op rfl rfl (xv_assign rfl ?_)
            refine xr_end rfl ?_
            refine th_n ?_
            refine xc_seq ?_
            refine xc_seq (xc_region ?_)
            refine xr_op rfl rfl (xv_load1 ty66 rfl rfl (by ((repeat first|exact z_0|assumption|refine z_1 ?_|(refine z_l ?_;(repeat first|exact z_0|assumption|refine z_1 ?_);done)|refine z_r ?_);done)) (by rfl) ?_)
            refine xr_op rfl rfl (xv_nilp rfl ?_)
            refine xr_op rfl rfl (xv_faddr fl73_0 rfl ?_)
            refine xr_op rfl rfl (xv_load1 ty22 rfl rfl (by ((repeat first|exact z_0|assumption|refine z_1 ?_|(refine z_l ?_;(repeat first|exact z_0|assumption|refine z_1 ?_);done)|refine z_r ?_);done)) (by rfl) ?_)
            refine xr_op rfl rfl (xv_len sl22 rfl ?_)
            refine xr_op rfl rfl (xv_move rfl ?_)
            refine xr_end rfl ?_
            refine th_n ?_
            refine xc_block ?_
            refine xc_loop (σ := Nat × Vec × Vec) (fun z => z.1 ≤ y.coals.length ∧ z.2.1.ok 2 z.1 ((shL y Span.lo w x.1 z.1).flatMap eShare) ∧ z.2.2.ok 2 z.1 ((shL y Span.hi w x.1 z.1).flatMap eShare)) (fun z => (((((((((((emp.put (some 10) (.pointer (some ⟨b10, 0, none⟩))).put (some 12) (.pointer (some ⟨b12, 0, none⟩))).put (some 13) (.pointer (some ⟨b13, 0, none⟩))).put (some 14) (.pointer (some ⟨b14, 0, none⟩))).put (some 15) (.pointer (some ⟨b15, 0, none⟩))).put (some 16) (I x.2)).put (some 17) (.slice z.2.1.ad z.1 z.2.1.cp)).put (some 18) (.slice z.2.2.ad z.1 z.2.2.cp)).put (some 72) (.slice y.ca y.coals.length y.cc)).put (some 73) (I y.coals.length)).put (some 74) (I z.1))) (fun z => (z.2.1.hp 93 ((shL y Span.lo w x.1 z.1).flatMap eShare) ++ (z.2.2.hp 93 ((shL y Span.hi w x.1 z.1).flatMap eShare) ++ ((b15, .cells ⟨x.1.flatMap eI⟩ 80) :: (p2, .cells ⟨[.slice (some ⟨bw, ow + f.toNat * 1, none⟩) ((ds.drop f.toNat).take (t.toNat + 1 - f.toNat)).length (dc - f.toNat)]⟩ 71) :: (p1, .cells ⟨[.pointer (some ⟨b, 0, none⟩)]⟩ 66) :: (b14, .cells ⟨[I (ylS y w ((partsL y ((vs.drop f.toNat).take (t.toNat + 1 - f.toNat))).take k)).lo, I (ylS y w ((partsL y ((vs.drop f.toNat).take (t.toNat + 1 - f.toNat))).take k)).hi]⟩ 75) :: (b13, .cells ⟨[.func (.func 41) ⟨[]⟩ ⟨[]⟩]⟩ 94) :: (b12, .cells ⟨[fv]⟩ 88) :: (b10, .cells ⟨[.pointer (some ⟨b, 0, none⟩)]⟩ 66) :: (G ++ (b8, .cells ⟨[I 0, I 0]⟩ 33) :: (b4, .cells ⟨eYard y⟩ 25) :: h))))) (fun z => y.coals.length - z.1) ((0, .nil, .nil) : Nat × Vec × Vec) ⟨Nat.zero_le _, ⟨rfl, rfl⟩, ⟨rfl, rfl⟩⟩ (le_put (le_put (le_put (le_put (le_put (le_put (le_put (le_put (le_put (le_put (le_put (le_emp _) rfl) rfl) rfl) rfl) rfl) rfl) rfl) rfl) rfl) rfl) rfl) (by (first|((repeat first|exact s_0|exact s_1|exact s_3|refine s_4 ?_|refine s_5 ?_|refine s_6 ?_|refine s_7 ?_);done)|((repeat first|exact s_0|exact s_1|exact s_3|refine s_4 ?_|refine s_5 ?_|refine s_6 ?_|refine s_8 ?_);done))) ?_
            rintro ⟨i, V1, V2⟩ ⟨hi, hV1, hV2⟩
            dsimp only at hi hV1 hV2
            refine xc_seq (xc_region ?_)
            refine xr_op rfl rfl (xv_lss2 rfl rfl (fun q10 => ?_) (fun q10 => ?_))
            · refine xr_end rfl ?_
              refine th_n ?_
              refine xc_seq ?_
              refine xc_true rfl ?_
              refine xc_skip ?_
              refine th_n ?_
              refine xc_seq ?_
              refine xc_block ?_
              refine xc_seq (xc_region ?_)
              have hlto : i < y.coals.length := by (first | omega | (dsimp only at *; omega) | (simp at *; omega))
              obtain ⟨bo, oo, lo, to, fzo, hao, hmo, hxo⟩ := (hy.coals).at hlto
              obtain ⟨xo, hko⟩ : ∃ qq_, y.coals[i]? = some qq_ := ⟨_, List.getElem?_eq_getElem hlto⟩
              obtain ⟨ci, hci⟩ : ∃ c, x.1[i]? = some c := ⟨_, List.getElem?_eq_getElem (by (first | omega | (dsimp only at *; omega) | (simp at *; omega)))⟩
              refine xr_op rfl rfl (xv_move rfl ?_)
              refine xr_op rfl rfl (xv_ia (sz := 8) (j := i) sl22 ty59 rfl (by rw [hao]; rfl) rfl (by (first | assumption | with_reducible exact Int.toNat_natCast _ | with_reducible rfl | rfl)) (by (first | omega | (dsimp only at *; omega) | (simp at *; omega))) (by (first | omega | (dsimp only at *; omega) | (simp at *; omega))) ?_)
              refine xr_op rfl rfl (xv_loadA ty59 rfl rfl (by ((repeat first|exact z_0|assumption|refine z_1 ?_|(refine z_l ?_;(repeat first|exact z_0|assumption|refine z_1 ?_);done)|refine z_r ?_);done)) (hxo (i) xo hko) rfl ?_)
              refine xr_op rfl rfl (xv_alloc ty59 (fun b20 hb20 => ?_))
              refine xr_op rfl rfl (xv_assign rfl ?_)
              refine xr_op rfl rfl (xv_s ty59 rfl rfl (by (first|(apply u_3;(repeat first|exact u_0|assumption|apply u_1|apply u_2);done)|((repeat first|exact u_0|assumption|apply u_1|apply u_2);done)|(apply u_3;apply u_3;(repeat first|exact u_0|assumption|apply u_1|apply u_2);done)|((repeat first|exact u_0|assumption|apply u_3|apply u_1);done))) (by ((try apply evl_some rfl);(repeat (first|exact (rfl : _ = [])|apply evl_cons rfl (by (first|exact v_1|exact v_2|exact v_3|exact v_4|exact v_5|exact v_6|exact v_7|exact v_8|exact v_9|exact rfl))|exact rfl)))) (by rfl) (by rfl) (by rfl) (by ((try apply evl_some rfl);(repeat (first|exact (rfl : _ = [])|apply evl_cons rfl (by (first|exact v_1|exact v_2|exact v_3|exact v_4|exact v_5|exact v_6|exact v_7|exact v_8|exact v_9|exact rfl))|exact rfl)))) ?_)
              refine xr_end rfl ?_
              refine th_n ?_
              refine xc_draw [(0, .S), (1, .S), (2, .S), (3, .R), (4, .R), (5, .R), (6, .R), (7, .S), (8, .S), (9, .P), (11, .S), (12, .S), (13, .S), (14, .S), (15, .S), (16, .S), (9, .A), (10, .O), (17, .R), (18, .S), (19, .S), (20, .P), (20, .A), (21, .O), (22, .S), (23, .S)] [(b20, .cells ⟨eCoal xo⟩ 59), (b15, .cells ⟨x.1.flatMap eI⟩ 80), (b12, .cells ⟨[fv]⟩ 88)] (V1.hp 93 ((shL y Span.lo w x.1 i).flatMap eShare) ++ (V2.hp 93 ((shL y Span.hi w x.1 i).flatMap eShare) ++ ((p2, .cells ⟨[.slice (some ⟨bw, ow + f.toNat * 1, none⟩) ((ds.drop f.toNat).take (t.toNat + 1 - f.toNat)).length (dc - f.toNat)]⟩ 71) :: (p1, .cells ⟨[.pointer (some ⟨b, 0, none⟩)]⟩ 66) :: (b14, .cells ⟨[I (ylS y w ((partsL y ((vs.drop f.toNat).take (t.toNat + 1 - f.toNat))).take k)).lo, I (ylS y w ((partsL y ((vs.drop f.toNat).take (t.toNat + 1 - f.toNat))).take k)).hi]⟩ 75) :: (b13, .cells ⟨[.func (.func 41) ⟨[]⟩ ⟨[]⟩]⟩ 94) :: (b10, .cells ⟨[.pointer (some ⟨b, 0, none⟩)]⟩ 66) :: (G ++ (b8, .cells ⟨[I 0, I 0]⟩ 33) :: (b4, .cells ⟨eYard y⟩ 25) :: h)))) mixed (by kernel_rfl) permF ?_
              refine js_S rfl rfl (.inl rfl) (xv_move rfl ⟨rfl, rfl⟩) ?_
              refine js_S rfl rfl (.inl rfl) (xv_move rfl ⟨rfl, rfl⟩) ?_
              refine js_S rfl rfl (.inl rfl) (xv_iaA (sz := 1) (j := i) Try.underlying80 ty3 rfl rfl rfl (by (first | assumption | with_reducible exact Int.toNat_natCast _ | with_reducible rfl | rfl)) (by (first | omega | (dsimp only at *; omega) | (simp at *; omega))) (by (first | omega | (dsimp only at *; omega) | (simp at *; omega))) ⟨rfl, rfl⟩) ?_
              refine js_R rfl rfl (.inl rfl) (xv_load1 ty3 rfl rfl (by ((repeat first|exact z_0|assumption|refine z_1 ?_|(refine z_l ?_;(repeat first|exact z_0|assumption|refine z_1 ?_);done)|refine z_r ?_);done)) (ints_get hci) ⟨rfl, rfl⟩) ?_
              refine js_R rfl rfl (.inl rfl) (xv_load1 ty88 rfl rfl (by ((repeat first|exact z_0|assumption|refine z_1 ?_|(refine z_l ?_;(repeat first|exact z_0|assumption|refine z_1 ?_);done)|refine z_r ?_);done)) (by rfl) ⟨rfl, rfl⟩) ?_
              refine js_R rfl rfl (.inl rfl) (xv_loadA (l := eCoal xo) (l' := eCoal xo) ty59 rfl rfl (by ((repeat first|exact z_0|assumption|refine z_1 ?_|(refine z_l ?_;(repeat first|exact z_0|assumption|refine z_1 ?_);done)|refine z_r ?_);done)) rfl rfl ⟨rfl, rfl⟩) ?_
              refine js_R rfl rfl (.inl rfl) (xv_fn rfl rfl (hfc xo _ _ (up_ret ⟨rfl, rfl⟩))) ?_
              refine js_S rfl rfl (.inl rfl) (xv_field1 fl33_0 rfl (by rfl) ⟨rfl, rfl⟩) ?_
              refine js_S rfl rfl (.inl rfl) (xv_build bt93 rfl (by ((try apply evl_some rfl);(repeat (first|exact (rfl : _ = [])|apply evl_cons rfl (by (first|exact v_1|exact v_2|exact v_3|exact v_4|exact v_5|exact v_6|exact v_7|exact v_8|exact v_9|exact rfl))|exact rfl)))) ⟨rfl, rfl⟩) ?_
              refine js_P rfl rfl rfl (al_buildSlice sl95 ty93 rfl rfl rfl rfl rfl (by ((try apply evl_some rfl);(repeat (first|exact (rfl : _ = [])|apply evl_cons rfl (by (first|exact v_1|exact v_2|exact v_3|exact v_4|exact v_5|exact v_6|exact v_7|exact v_8|exact v_9|exact rfl))|exact rfl))))) ?_
              refine js_S rfl rfl (.inl rfl) (xv_move rfl ⟨rfl, rfl⟩) ?_
              refine js_S rfl rfl (.inl rfl) (xv_move rfl ⟨rfl, rfl⟩) ?_
              refine js_S rfl rfl (.inl rfl) (xv_iaA (sz := 1) (j := i) Try.underlying80 ty3 rfl rfl rfl (by (first | assumption | with_reducible exact Int.toNat_natCast _ | with_reducible rfl | rfl)) (by (first | omega | (dsimp only at *; omega) | (simp at *; omega))) (by (first | omega | (dsimp only at *; omega) | (simp at *; omega))) ⟨rfl, rfl⟩) ?_
              refine js_S rfl rfl (.inl rfl) (xv_load1 ty3 rfl rfl (by ((repeat first|exact z_0|assumption|refine z_1 ?_|(refine z_l ?_;(repeat first|exact z_0|assumption|refine z_1 ?_);done)|refine z_r ?_);done)) (ints_get hci) ⟨rfl, rfl⟩) ?_
              refine js_S rfl rfl (.inl rfl) (xv_load1 ty88 rfl rfl (by ((repeat first|exact z_0|assumption|refine z_1 ?_|(refine z_l ?_;(repeat first|exact z_0|assumption|refine z_1 ?_);done)|refine z_r ?_);done)) (by rfl) ⟨rfl, rfl⟩) ?_
              refine js_S rfl rfl (.inl rfl) (xv_loadA (l := eCoal xo) (l' := eCoal xo) ty59 rfl rfl (by ((repeat first|exact z_0|assumption|refine z_1 ?_|(refine z_l ?_;(repeat first|exact z_0|assumption|refine z_1 ?_);done)|refine z_r ?_);done)) rfl rfl ⟨rfl, rfl⟩) ?_
              refine js_A rfl rfl rfl rfl rfl ⟨rfl, trivial⟩ (fun b88 hb88 => ?_)
              refine js_O rfl rfl (.inl rfl) (xv_append (V := V1) (n := i) (xs := ((shL y Span.lo w x.1 i).flatMap eShare)) sl95 ty93 rfl (by rw [Vec.val_ad hV1]; rfl) rfl hV1 (Tk.app _ (.there .here)) (by ((repeat first|exact z_0|assumption|refine z_1 ?_|(refine z_l ?_;(repeat first|exact z_0|assumption|refine z_1 ?_);done)|refine z_r ?_);done)) (by ((try apply evl_some rfl);(repeat (first|exact (rfl : _ = [])|apply evl_cons rfl (by (first|exact v_1|exact v_2|exact v_3|exact v_4|exact v_5|exact v_6|exact v_7|exact v_8|exact v_9|exact rfl))|exact rfl)))) rfl rfl (by (first | omega | (dsimp only at *; omega) | (simp at *; omega))) (by simp only []; (first | omega | (dsimp only at *; omega) | (simp at *; omega))) (by (first | omega | (dsimp only at *; omega) | (simp at *; omega))) (fun V3 hV3 => ?_))
              refine jo_atL _ permR .nil ?_
              refine js_R rfl rfl (.inl rfl) (xv_fn rfl rfl (hfc xo _ _ (up_ret ⟨rfl, rfl⟩))) ?_
              refine js_S rfl rfl (.inl rfl) (xv_field1 fl33_1 rfl (by rfl) ⟨rfl, rfl⟩) ?_
              refine js_S rfl rfl (.inl rfl) (xv_build bt93 rfl (by ((try apply evl_some rfl);(repeat (first|exact (rfl : _ = [])|apply evl_cons rfl (by (first|exact v_1|exact v_2|exact v_3|exact v_4|exact v_5|exact v_6|exact v_7|exact v_8|exact v_9|exact rfl))|exact rfl)))) ⟨rfl, rfl⟩) ?_
              refine js_P rfl rfl rfl (al_buildSlice sl95 ty93 rfl rfl rfl rfl rfl (by ((try apply evl_some rfl);(repeat (first|exact (rfl : _ = [])|apply evl_cons rfl (by (first|exact v_1|exact v_2|exact v_3|exact v_4|exact v_5|exact v_6|exact v_7|exact v_8|exact v_9|exact rfl))|exact rfl))))) ?_
              refine js_A rfl rfl rfl rfl rfl ⟨rfl, trivial⟩ (fun b99 hb99 => ?_)
              refine js_O rfl rfl (.inl rfl) (xv_append (V := V2) (n := i) (xs := ((shL y Span.hi w x.1 i).flatMap eShare)) sl95 ty93 rfl (by rw [Vec.val_ad hV2]; rfl) rfl hV2 (Tk.app _ (.there (.skip (.there .here)))) (by ((repeat first|exact z_0|assumption|refine z_1 ?_|(refine z_l ?_;(repeat first|exact z_0|assumption|refine z_1 ?_);done)|refine z_r ?_);done)) (by ((try apply evl_some rfl);(repeat (first|exact (rfl : _ = [])|apply evl_cons rfl (by (first|exact v_1|exact v_2|exact v_3|exact v_4|exact v_5|exact v_6|exact v_7|exact v_8|exact v_9|exact rfl))|exact rfl)))) rfl rfl (by (first | omega | (dsimp only at *; omega) | (simp at *; omega))) (by simp only []; (first | omega | (dsimp only at *; omega) | (simp at *; omega))) (by (first | omega | (dsimp only at *; omega) | (simp at *; omega))) (fun V4 hV4 => ?_))
              refine jo_atL _ permR .nil ?_
              refine js_S rfl rfl (.inl rfl) (xv_assign rfl ⟨rfl, rfl⟩) ?_
              refine js_S rfl rfl (.inl rfl) (xv_assign rfl ⟨rfl, rfl⟩) ?_
              refine j_endp permG ?_
              refine bk_n ?_
              refine th_n ?_
              refine xc_region ?_
              refine xr_op rfl rfl (xv_add rfl rfl (wrap_i64 (by (first | omega | (dsimp only at *; omega) | (simp at *; omega))) (by (first | omega | (dsimp only at *; omega) | (simp at *; omega)))) ?_)
              refine xr_op rfl rfl (xv_move rfl ?_)
              refine xr_end rfl ?_
              have e1 := shL_flat (g := Span.lo) (w := w) hci hko
              have e2 := shL_flat (g := Span.hi) (w := w) hci hko
              exact rnd ((i + 1, V3, V4) : Nat × Vec × Vec) ⟨by (first | omega | (dsimp only at *; omega) | (simp at *; omega)), by dsimp only; rw [e1]; exact hV3, by dsimp only; rw [e2]; exact hV4⟩ (by (first | omega | (dsimp only at *; omega) | (simp at *; omega))) (le_put (le_put (le_put (le_put (le_put (le_put (le_put (le_put (le_put (le_put (le_put (le_emp _) rfl) rfl) rfl) rfl) rfl) rfl) (by rw [← Vec.val_ad hV3]; rfl)) (by rw [← Vec.val_ad hV4]; rfl)) rfl) rfl) rfl) (by dsimp only; rw [e1, e2]; (first|((repeat first|exact s_0|exact s_1|exact s_3|refine s_4 ?_|refine s_5 ?_|refine s_6 ?_|refine s_7 ?_);done)|((repeat first|exact s_0|exact s_1|exact s_3|refine s_4 ?_|refine s_5 ?_|refine s_6 ?_|refine s_8 ?_);done)))
            · refine xr_end rfl ?_
              refine th_n ?_
              refine xc_seq ?_
              refine xc_false rfl ?_
              refine xc_exit ?_
              refine th_x ?_
              refine th_x ?_
              refine bk_same ?_
              refine th_n ?_
              refine xc_seq (xc_region ?_)
              obtain rfl : y.coals.length = i := by (first | omega | (dsimp only at *; omega) | (simp at *; omega))
              refine xr_op rfl rfl (xv_move rfl ?_)
              refine xr_op rfl rfl (xv_load1 ty94 rfl rfl (by ((repeat first|exact z_0|assumption|refine z_1 ?_|(refine z_l ?_;(repeat first|exact z_0|assumption|refine z_1 ?_);done)|refine z_r ?_);done)) (by rfl) ?_)
              refine xr_op rfl rfl (xv_calls rfl hb42 (sortA_c (V := V1) (xs := shL y Span.lo w x.1 y.coals.length) (cm := cmS) (shL_len _ _ _ _ _).symm hV1 (by omega) (fun a b ha hb H9 R2 _ h2 => afn_func (fi := []) (lb := []) hb41 (byEach_c (by obtain ⟨_, q1, q2⟩ := hso1 a ha; exact ⟨q1, q2⟩) (by obtain ⟨_, q1, q2⟩ := hso1 b hb; exact ⟨q1, q2⟩) h2)) cmS_swo (fun ys hpm hsd hVa => up_ret ?_)))
              refine xr_end rfl ?_
              refine th_n ?_
              refine xc_seq (xc_region ?_)
              refine xr_op rfl rfl (xv_move rfl ?_)
              refine xr_op rfl rfl (xv_load1 ty94 rfl rfl (by ((repeat first|exact z_0|assumption|refine z_1 ?_|(refine z_l ?_;(repeat first|exact z_0|assumption|refine z_1 ?_);done)|refine z_r ?_);done)) (by rfl) ?_)
              refine xr_op rfl rfl (xv_calls rfl hb42 (ACalls.framed _ (sortA_c (V := V2) (xs := shL y Span.hi w x.1 y.coals.length) (cm := cmS) (shL_len _ _ _ _ _).symm hV2 (by omega) (fun a b ha hb H9 R2 _ h2 => afn_func (fi := []) (lb := []) hb41 (byEach_c (by obtain ⟨_, q1, q2⟩ := hso2 a ha; exact ⟨q1, q2⟩) (by obtain ⟨_, q1, q2⟩ := hso2 b hb; exact ⟨q1, q2⟩) h2)) cmS_swo (fun zs hpn2 hse hVb => up_ret ?_))))
              refine xr_end rfl ?_
              refine th_n ?_
              refine xc_seq (xc_region ?_)
              refine xr_op rfl rfl (xv_move rfl ?_)
              refine xr_op rfl rfl (xv_calls rfl hb43 (ACalls.framed _ (reverseA_c (V := V2) (xs := zs) (by rw [hpn2.length_eq, shL_len]) (by omega) hVb (by omega) (fun hVc => up_ret ?_))))
              refine xr_end rfl ?_
              refine th_n ?_
              refine xc_draw0 [(0, .R), (1, .S), (2, .S), (3, .R), (4, .S), (5, .S), (6, .R), (7, .S), (8, .R), (9, .O)] mixed (by kernel_rfl) ?_
              have hlv : (fstP ys x.2).1 = fLo y w x := low_val hgy hx6 hxnn (by omega) hxn hpm hsd
              have hhv : (fstP zs.reverse x.2).1 = fHi y w x := high_val hgy hx6 hxnn (by omega) hxn hpn2 hse
              refine js_R0 rfl rfl (.inl rfl) (xv_loadA ty75 rfl rfl (by ((repeat first|exact z_0|assumption|refine z_1 ?_|(refine z_l ?_;(repeat first|exact z_0|assumption|refine z_1 ?_);done)|refine z_r ?_);done)) (by ((try apply evl_some rfl);(repeat (first|exact (rfl : _ = [])|apply evl_cons rfl (by (first|exact v_1|exact v_2|exact v_3|exact v_4|exact v_5|exact v_6|exact v_7|exact v_8|exact v_9|exact rfl))|exact rfl)))) (by rfl) ⟨rfl, rfl⟩) ?_
              refine js_S rfl rfl (.inl rfl) (xv_move rfl ⟨rfl, rfl⟩) ?_
              refine js_S rfl rfl (.inl rfl) (xv_move rfl ⟨rfl, rfl⟩) ?_
              refine js_R0 rfl rfl (.inl rfl) (xv_calls rfl hb44 (firstA_c (l := ys) (by rw [hpm.length_eq, shL_len]) ((Vec.slvA (t := 93) eShare_len (by rw [hpm.length_eq, shL_len]) hVa).sub (by intro z hz; ((repeat first|exact z_0|assumption|refine z_1 ?_|(refine z_l ?_;(repeat first|exact z_0|assumption|refine z_1 ?_);done)|refine z_r ?_);done))) (by omega) (fun z hz => hso1 z (hpm.mem_iff.1 hz)) (by omega) (by omega) (up_ret ⟨rfl, rfl⟩))) ?_
              refine js_S rfl rfl (.inl rfl) (xv_move rfl ⟨rfl, rfl⟩) ?_
              refine js_S rfl rfl (.inl rfl) (xv_move rfl ⟨rfl, rfl⟩) ?_
              refine js_R0 rfl rfl (.inl rfl) (xv_calls rfl hb44 (firstA_c (l := zs.reverse) (by rw [List.length_reverse, hpn2.length_eq, shL_len]) ((Vec.slvA (t := 93) eShare_len (by rw [List.length_reverse, hpn2.length_eq, shL_len]) hVc).sub (by intro z hz; ((repeat first|exact z_0|assumption|refine z_1 ?_|(refine z_l ?_;(repeat first|exact z_0|assumption|refine z_1 ?_);done)|refine z_r ?_);done))) (by omega) (fun z hz => hso2 z (hpn2.mem_iff.1 (List.mem_reverse.1 hz))) (by omega) (by omega) (up_ret ⟨rfl, rfl⟩))) ?_
              refine js_S rfl rfl (.inl rfl) (xv_build bt75 rfl (by ((try apply evl_some rfl);(repeat (first|exact (rfl : _ = [])|apply evl_cons rfl (by (first|exact v_1|exact v_2|exact v_3|exact v_4|exact v_5|exact v_6|exact v_7|exact v_8|exact v_9|exact rfl))|exact rfl)))) ⟨rfl, rfl⟩) ?_
              refine js_R0 rfl rfl (.inl rfl) (xv_calls rfl hb33 (add_c (a := (ylS y w ((partsL y ((vs.drop f.toNat).take (t.toNat + 1 - f.toNat))).take k))) (b := ⟨(fstP ys x.2).1, (fstP zs.reverse x.2).1⟩) ⟨⟨by omega, by omega⟩, by omega, by omega⟩ ⟨⟨by dsimp only; omega, by dsimp only; omega⟩, by dsimp only; omega, by dsimp only; omega⟩ (up_ret ⟨rfl, rfl⟩))) ?_
              refine js_O0 rfl rfl (.inl rfl) (xv_s ty75 rfl rfl (by (first|(apply u_3;(repeat first|exact u_0|assumption|apply u_1|apply u_2);done)|((repeat first|exact u_0|assumption|apply u_1|apply u_2);done)|(apply u_3;apply u_3;(repeat first|exact u_0|assumption|apply u_1|apply u_2);done)|((repeat first|exact u_0|assumption|apply u_3|apply u_1);done))) (by ((try apply evl_some rfl);(repeat (first|exact (rfl : _ = [])|apply evl_cons rfl (by (first|exact v_1|exact v_2|exact v_3|exact v_4|exact v_5|exact v_6|exact v_7|exact v_8|exact v_9|exact rfl))|exact rfl)))) (by rfl) (by rfl) (by rfl) (by ((try apply evl_some rfl);(repeat (first|exact (rfl : _ = [])|apply evl_cons rfl (by (first|exact v_1|exact v_2|exact v_3|exact v_4|exact v_5|exact v_6|exact v_7|exact v_8|exact v_9|exact rfl))|exact rfl)))) ?_)
              refine j_end0 ?_
              refine bk_n ?_
              exact rndQ_n () trivial (by rw [ylS_take hkx, ← hlv, ← hhv]; (first|((repeat first|exact s_0|exact s_1|exact s_3|refine s_4 ?_|refine s_5 ?_|refine s_6 ?_|refine s_7 ?_);done)|((repeat first|exact s_0|exact s_1|exact s_3|refine s_4 ?_|refine s_5 ?_|refine s_6 ?_|refine s_8 ?_);done)))
          · intro kd g hi hkd
            rw [List.take_length, hyl]
            rw [List.take_length, hyl] at hkd
            refine bk_n ?_
            refine th_n ?_
            refine xc_seq (xc_region ?_)
            refine xr_op rfl rfl (xv_loadA ty75 rfl rfl (by ((repeat first|exact z_0|assumption|refine z_1 ?_|(refine z_l ?_;(repeat first|exact z_0|assumption|refine z_1 ?_);done)|refine z_r ?_);done)) (by ((try apply evl_some rfl);(repeat (first|exact (rfl : _ = [])|apply evl_cons rfl (by (first|exact v_1|exact v_2|exact v_3|exact v_4|exact v_5|exact v_6|exact v_7|exact v_8|exact v_9|exact rfl))|exact rfl)))) (by rfl) ?_)
            refine xr_op rfl rfl (xv_calls rfl hb35 (spanOf_c (a := ⟨yLo y w (takenR ((vs.drop f.toNat).take (t.toNat + 1 - f.toNat))) (opn y.moves).1, yHi y w (takenR ((vs.drop f.toNat).take (t.toNat + 1 - f.toNat))) (opn y.moves).1⟩) (up_ret ?_)))
            refine xr_op rfl rfl (xv_s ty33 rfl rfl (by (first|(apply u_3;(repeat first|exact u_0|assumption|apply u_1|apply u_2);done)|((repeat first|exact u_0|assumption|apply u_1|apply u_2);done)|(apply u_3;apply u_3;(repeat first|exact u_0|assumption|apply u_1|apply u_2);done)|((repeat first|exact u_0|assumption|apply u_3|apply u_1);done))) (by ((try apply evl_some rfl);(repeat (first|exact (rfl : _ = [])|apply evl_cons rfl (by (first|exact v_1|exact v_2|exact v_3|exact v_4|exact v_5|exact v_6|exact v_7|exact v_8|exact v_9|exact rfl))|exact rfl)))) (by rfl) (by rfl) (by rfl) (by ((try apply evl_some rfl);(repeat (first|exact (rfl : _ = [])|apply evl_cons rfl (by (first|exact v_1|exact v_2|exact v_3|exact v_4|exact v_5|exact v_6|exact v_7|exact v_8|exact v_9|exact rfl))|exact rfl)))) ?_)
            refine xr_op rfl rfl (xv_assign rfl ?_)
            refine xr_end rfl ?_
            refine th_n ?_
            refine xc_ret ?_
            refine body_retM (h' := h) rfl (ro_cellA ty33 rfl rfl (by ((repeat first|exact z_0|assumption|refine z_1 ?_|(refine z_l ?_;(repeat first|exact z_0|assumption|refine z_1 ?_);done)|refine z_r ?_);done)) (by rfl) (by rfl) (ro_tmp rfl ro_nil)) (by (first|((repeat first|exact s_0|exact s_1|exact s_3|refine s_4 ?_|refine s_5 ?_|refine s_6 ?_|refine s_7 ?_);done)|((repeat first|exact s_0|exact s_1|exact s_3|refine s_4 ?_|refine s_5 ?_|refine s_6 ?_|refine s_8 ?_);done))) (by ((repeat first|exact z_0|assumption|refine z_1 ?_|(refine z_l ?_;(repeat first|exact z_0|assumption|refine z_1 ?_);done)|refine z_r ?_);done)) (nkeys (by intro z hz; ((repeat first|exact z_0|assumption|refine z_1 ?_|(refine z_l ?_;(repeat first|exact z_0|assumption|refine z_1 ?_);done)|refine z_r ?_);done)) hkd) ?_
            first | (rw [eans] at H; exact H) | (rw [yieldA_1 hng] at H; exact H) | (rw [yieldA_10 hgy hpn] at H; exact H) | (rw [yieldA_2 hgy hvs (by omega)] at H; exact H)
        · refine xr_gd rfl rfl rfl (xv_not rfl ?_)
          refine xr_op rfl rfl (xv_pick rfl rfl ?_)
          refine xr_op rfl rfl (xv_assign rfl ?_)
          refine xr_end rfl ?_
          refine th_n ?_
          refine xc_true rfl ?_
          refine xc_seq (xc_region ?_)
          refine xr_op rfl rfl (xv_build bt33 rfl (by ((try apply evl_some rfl);(repeat (first|exact (rfl : _ = [])|apply evl_cons rfl (by (first|exact v_1|exact v_2|exact v_3|exact v_4|exact v_5|exact v_6|exact v_7|exact v_8|exact v_9|exact rfl))|exact rfl)))) ?_)
          refine xr_op rfl rfl (xv_s ty33 rfl rfl (by (first|(apply u_3;(repeat first|exact u_0|assumption|apply u_1|apply u_2);done)|((repeat first|exact u_0|assumption|apply u_1|apply u_2);done)|(apply u_3;apply u_3;(repeat first|exact u_0|assumption|apply u_1|apply u_2);done)|((repeat first|exact u_0|assumption|apply u_3|apply u_1);done))) (by ((try apply evl_some rfl);(repeat (first|exact (rfl : _ = [])|apply evl_cons rfl (by (first|exact v_1|exact v_2|exact v_3|exact v_4|exact v_5|exact v_6|exact v_7|exact v_8|exact v_9|exact rfl))|exact rfl)))) (by rfl) (by rfl) (by rfl) (by ((try apply evl_some rfl);(repeat (first|exact (rfl : _ = [])|apply evl_cons rfl (by (first|exact v_1|exact v_2|exact v_3|exact v_4|exact v_5|exact v_6|exact v_7|exact v_8|exact v_9|exact rfl))|exact rfl)))) ?_)
          refine xr_op rfl rfl (xv_assign rfl ?_)
          refine xr_end rfl ?_
          refine th_n ?_
          refine xc_ret ?_
          refine bk_r ?_
          refine th_r ?_
          refine body_ret (h' := h) rfl (ro_cellA ty33 rfl rfl (by ((repeat first|exact z_0|assumption|refine z_1 ?_|(refine z_l ?_;(repeat first|exact z_0|assumption|refine z_1 ?_);done)|refine z_r ?_);done)) (by rfl) (by rfl) (ro_tmp rfl ro_nil)) (by (first|((repeat first|exact s_0|exact s_1|exact s_3|refine s_4 ?_|refine s_5 ?_|refine s_6 ?_|refine s_7 ?_);done)|((repeat first|exact s_0|exact s_1|exact s_3|refine s_4 ?_|refine s_5 ?_|refine s_6 ?_|refine s_8 ?_);done))) ?_
          first | (rw [eans] at H; exact H) | (rw [yieldA_1 hng] at H; exact H) | (rw [yieldA_10 hgy hpn] at H; exact H) | (rw [yieldA_2 hgy hvs (by omega)] at H; exact H)
      · refine xr_gd rfl rfl rfl (xv_not rfl ?_)
        refine xr_op rfl rfl (xv_pick rfl rfl ?_)
        refine xr_op rfl rfl (xv_move rfl ?_)
        refine xr_no rfl rfl rfl rfl ?_
        refine xr_no rfl rfl rfl rfl ?_
        refine xr_no rfl rfl rfl rfl ?_
        refine xr_op rfl rfl (xv_pick rfl rfl ?_)
        refine xr_op rfl rfl (xv_assign rfl ?_)
        refine xr_end rfl ?_
        refine th_n ?_
        refine xc_true rfl ?_
        refine xc_seq (xc_region ?_)
        refine xr_op rfl rfl (xv_build bt33 rfl (by ((try apply evl_some rfl);(repeat (first|exact (rfl : _ = [])|apply evl_cons rfl (by (first|exact v_1|exact v_2|exact v_3|exact v_4|exact v_5|exact v_6|exact v_7|exact v_8|exact v_9|exact rfl))|exact rfl)))) ?_)
        refine xr_op rfl rfl (xv_s ty33 rfl rfl (by (first|(apply u_3;(repeat first|exact u_0|assumption|apply u_1|apply u_2);done)|((repeat first|exact u_0|assumption|apply u_1|apply u_2);done)|(apply u_3;apply u_3;(repeat first|exact u_0|assumption|apply u_1|apply u_2);done)|((repeat first|exact u_0|assumption|apply u_3|apply u_1);done))) (by ((try apply evl_some rfl);(repeat (first|exact (rfl : _ = [])|apply evl_cons rfl (by (first|exact v_1|exact v_2|exact v_3|exact v_4|exact v_5|exact v_6|exact v_7|exact v_8|exact v_9|exact rfl))|exact rfl)))) (by rfl) (by rfl) (by rfl) (by ((try apply evl_some rfl);(repeat (first|exact (rfl : _ = [])|apply evl_cons rfl (by (first|exact v_1|exact v_2|exact v_3|exact v_4|exact v_5|exact v_6|exact v_7|exact v_8|exact v_9|exact rfl))|exact rfl)))) ?_)
        refine xr_op rfl rfl (xv_assign rfl ?_)
        refine xr_end rfl ?_
        refine th_n ?_
        refine xc_ret ?_
        refine bk_r ?_
        refine th_r ?_
        refine body_ret (h' := h) rfl (ro_cellA ty33 rfl rfl (by ((repeat first|exact z_0|assumption|refine z_1 ?_|(refine z_l ?_;(repeat first|exact z_0|assumption|refine z_1 ?_);done)|refine z_r ?_);done)) (by rfl) (by rfl) (ro_tmp rfl ro_nil)) (by (first|((repeat first|exact s_0|exact s_1|exact s_3|refine s_4 ?_|refine s_5 ?_|refine s_6 ?_|refine s_7 ?_);done)|((repeat first|exact s_0|exact s_1|exact s_3|refine s_4 ?_|refine s_5 ?_|refine s_6 ?_|refine s_8 ?_);done))) ?_
        first | (rw [eans] at H; exact H) | (rw [yieldA_1 hng] at H; exact H) | (rw [yieldA_10 hgy hpn] at H; exact H) | (rw [yieldA_2 hgy hvs (by omega)] at H; exact H)
    · refine xr_op rfl rfl (xv_not rfl ?_)
      refine xr_op rfl rfl (xv_move rfl ?_)
      refine xr_no rfl rfl rfl rfl ?_
      refine xr_no rfl rfl rfl rfl ?_
      refine xr_no rfl rfl rfl rfl ?_
      refine xr_no rfl rfl rfl rfl ?_
      refine xr_op rfl rfl (xv_pick rfl rfl ?_)
      refine xr_op rfl rfl (xv_move rfl ?_)
      refine xr_no rfl rfl rfl rfl ?_
      refine xr_no rfl rfl rfl rfl ?_
      refine xr_no rfl rfl rfl rfl ?_
      refine xr_op rfl rfl (xv_pick rfl rfl ?_)
      refine xr_op rfl rfl (xv_assign rfl ?_)
      refine xr_end rfl ?_
      refine th_n ?_
      refine xc_true rfl ?_
      refine xc_seq (xc_region ?_)
      refine xr_op rfl rfl (xv_build bt33 rfl (by ((try apply evl_some rfl);(repeat (first|exact (rfl : _ = [])|apply evl_cons rfl (by (first|exact v_1|exact v_2|exact v_3|exact v_4|exact v_5|exact v_6|exact v_7|exact v_8|exact v_9|exact rfl))|exact rfl)))) ?_)
      refine xr_op rfl rfl (xv_s ty33 rfl rfl (by (first|(apply u_3;(repeat first|exact u_0|assumption|apply u_1|apply u_2);done)|((repeat first|exact u_0|assumption|apply u_1|apply u_2);done)|(apply u_3;apply u_3;(repeat first|exact u_0|assumption|apply u_1|apply u_2);done)|((repeat first|exact u_0|assumption|apply u_3|apply u_1);done))) (by ((try apply evl_some rfl);(repeat (first|exact (rfl : _ = [])|apply evl_cons rfl (by (first|exact v_1|exact v_2|exact v_3|exact v_4|exact v_5|exact v_6|exact v_7|exact v_8|exact v_9|exact rfl))|exact rfl)))) (by rfl) (by rfl) (by rfl) (by ((try apply evl_some rfl);(repeat (first|exact (rfl : _ = [])|apply evl_cons rfl (by (first|exact v_1|exact v_2|exact v_3|exact v_4|exact v_5|exact v_6|exact v_7|exact v_8|exact v_9|exact rfl))|exact rfl)))) ?_)
      refine xr_op rfl rfl (xv_assign rfl ?_)
      refine xr_end rfl ?_
      refine th_n ?_
      refine xc_ret ?_
      refine bk_r ?_
      refine th_r ?_
      refine body_ret (h' := h) rfl (ro_cellA ty33 rfl rfl (by ((repeat first|exact z_0|assumption|refine z_1 ?_|(refine z_l ?_;(repeat first|exact z_0|assumption|refine z_1 ?_);done)|refine z_r ?_);done)) (by rfl) (by rfl) (ro_tmp rfl ro_nil)) (by (first|((repeat first|exact s_0|exact s_1|exact s_3|refine s_4 ?_|refine s_5 ?_|refine s_6 ?_|refine s_7 ?_);done)|((repeat first|exact s_0|exact s_1|exact s_3|refine s_4 ?_|refine s_5 ?_|refine s_6 ?_|refine s_8 ?_);done))) ?_
      first | (rw [eans] at H; exact H) | (rw [yieldA_1 hng] at H; exact H) | (rw [yieldA_10 hgy hpn] at H; exact H) | (rw [yieldA_2 hgy hvs (by omega)] at H; exact H)

end Go.Proofs.Ytpefpafijadfmaa
