/-
  Walks.
-/
import Derived.Test.YtpefpafijadfmaaW21
import Derived.Test.YtpefpafijadfmaaHW
import Derived.Test.YtpefpafijadfmaaW15
import Derived.Test.YtpefpafijadfmaaW13
import Derived.Test.YtpefpafijadfmaaP23
import Derived.Test.YtpefpafijadfmaaHT
import Derived.Test.YtpefpafijadfmaaP12
namespace Go.Proofs.Ytpefpafijadfmaa
open Go Go.H
set_option maxRecDepth 100000
set_option maxHeartbeats 8000000
set_option linter.all false
theorem parts_c {b n c : Nat} {a : Option Addr} {h : Hp} {R : Ending → Hp → Prop} (H : ∀ p1 p2, R (.returned (.func (.func 53) ⟨[]⟩ ⟨[.pointer (some ⟨p1, 0, none⟩), .pointer (some ⟨p2, 0, none⟩)]⟩)) ((p2, .cells ⟨[.slice a n c]⟩ 71) :: (p1, .cells ⟨[.pointer (some ⟨b, 0, none⟩)]⟩ 66) :: h)) : ACalls Try.prog 32 ⟨[.pointer (some ⟨b, 0, none⟩), .slice a n c]⟩ h R := by
  refine calls_of_xc (N := 6) Try.func32 rfl (by rfl) ?_
  refine xc_seq (xc_region ?_)
  refine xr_op rfl rfl (xv_box rfl (fun p1 hp1 => ?_))
  refine xr_op rfl rfl (xv_box rfl (fun p2 hp2 => ?_))
  refine xr_op rfl rfl (xv_assign rfl ?_)
  refine xr_end rfl ?_
  refine th_n ?_
  refine xc_seq (xc_region ?_)
  refine xr_op rfl rfl (xv_func rfl rfl ?_)
  refine xr_op rfl rfl (xv_assign rfl ?_)
  refine xr_end rfl ?_
  refine th_n ?_
  refine xc_ret ?_
  refine body_ret (h' := ((p2, .cells ⟨[.slice a n c]⟩ 71) :: (p1, .cells ⟨[.pointer (some ⟨b, 0, none⟩)]⟩ 66) :: h)) rfl (ro_tmp rfl ro_nil) (by (first|((repeat first|exact s_0|exact s_1|exact s_3|refine s_4 ?_|refine s_5 ?_|refine s_6 ?_|refine s_7 ?_);done)|((repeat first|exact s_0|exact s_1|exact s_3|refine s_4 ?_|refine s_5 ?_|refine s_6 ?_|refine s_8 ?_);done))) ?_
  exact H p1 p2

theorem partsIt {core : Hp} {y : Yard} {vs us : List (List Int)} {b lc dc p1 p2 c : Nat} {la da a : Option Addr} {bs : List Nat} {ds es : List PH} (hp1 : (p1, .cells ⟨[.pointer (some ⟨b, 0, none⟩)]⟩ 66 (0, 0)) ∈ core) (hp2 : (p2, .cells ⟨[.slice a es.length c]⟩ 71 (0, 0)) ∈ core)
    (hsh : ShedV core y vs b la lc bs da dc ds) (hu : SubV core y us a es) : Iter Try.prog 53 [] [.pointer (some ⟨p1, 0, none⟩), .pointer (some ⟨p2, 0, none⟩)] ePc (partsL y us) (fun h' => core ⊆ h') := by
  intro yv J Jx h hRd hyv hJ
  show ACalls Try.prog 53 ⟨[yv, .pointer (some ⟨p1, 0, none⟩), .pointer (some ⟨p2, 0, none⟩)]⟩ h _
  refine calls_of_xc (N := 66) Try.func53 rfl (by rfl) ?_
  have hc0 := hRd _ _ hJ
  have m1 := hc0 hp1
  have m2 := hc0 hp2
  have m3 := hc0 hsh.top
  have hbn := hsh.len
  have hL := hu.lay
  have hen := hu.cnt
  have hfw := hu.few
  refine xc_seq (xc_region ?_)
  refine xr_op rfl rfl (xv_load1 ty66 rfl rfl (by ((repeat first|exact z_0|assumption|refine z_1 ?_|(refine z_l ?_;(repeat first|exact z_0|assumption|refine z_1 ?_);done)|refine z_r ?_);done)) (by rfl) ?_)
  refine xr_op rfl rfl (xv_nilp rfl ?_)
  refine xr_op rfl rfl (xv_faddr fl73_1 rfl ?_)
  refine xr_op rfl rfl (xv_load1 ty70 rfl rfl (by ((repeat first|exact z_0|assumption|refine z_1 ?_|(refine z_l ?_;(repeat first|exact z_0|assumption|refine z_1 ?_);done)|refine z_r ?_);done)) (by rfl) ?_)
  refine xr_op rfl rfl (xv_len sl70 rfl ?_)
  refine xr_op rfl rfl (xv_make (n := bs.length) (l := (tkV (opn y.moves).1 [] []).flatMap eI) sl38 ty3 rfl rfl (by (first|omega|(dsimp only at *;omega)|(simp at *;omega))) (by simp only []; (first|omega|(dsimp only at *;omega)|(simp at *;omega))) (by simp only []; (first|omega|(dsimp only at *;omega)|(simp at *;omega))) (by rw [tkV_0, hbn]; exact make_ints _) (fun b16 hb16 => ?_))
  refine xr_op rfl rfl (xv_assign rfl ?_)
  refine xr_end rfl ?_
  refine th_n ?_
  refine xc_seq ?_
  refine xc_seq (xc_region ?_)
  refine xr_op rfl rfl (xv_load1 ty71 rfl rfl (by ((repeat first|exact z_0|assumption|refine z_1 ?_|(refine z_l ?_;(repeat first|exact z_0|assumption|refine z_1 ?_);done)|refine z_r ?_);done)) (by rfl) ?_)
  refine xr_op rfl rfl (xv_len sl71 rfl ?_)
  refine xr_op rfl rfl (xv_move rfl ?_)
  refine xr_end rfl ?_
  refine th_n ?_
  refine xc_block ?_
  refine xc_loop (σ := Nat) (fun k => k ≤ es.length) (fun k => (((((((emp.put (some 0) (yv)).put (some 1) (.pointer (some ⟨p1, 0, none⟩))).put (some 2) (.pointer (some ⟨p2, 0, none⟩))).put (some 4) (.slice (some ⟨b16, 0, none⟩) (opn y.moves).1 (opn y.moves).1)).put (some 17) (.slice a es.length c)).put (some 18) (I es.length)).put (some 19) (I k))) (fun k => ((b16, .cells ⟨(tkV (opn y.moves).1 (us.take k) []).flatMap eI⟩ 3) :: h)) (fun k => es.length - k) 0 (Nat.zero_le _) (le_put (le_put (le_put (le_put (le_put (le_put (le_put (le_emp _) rfl) rfl) rfl) (by rw [← hbn]; rfl)) rfl) rfl) rfl) (by (first|((repeat first|exact s_0|exact s_1|exact s_3|refine s_4 ?_|refine s_5 ?_|refine s_6 ?_|refine s_7 ?_);done)|((repeat first|exact s_0|exact s_1|exact s_3|refine s_4 ?_|refine s_5 ?_|refine s_6 ?_|refine s_8 ?_);done))) ?_
  rintro k hk
  refine xc_seq (xc_region ?_)
  have hkl : k ≤ us.length := by omega
  refine xr_op rfl rfl (xv_lss2 rfl rfl (fun q1 => ?_) (fun q1 => ?_))
  · refine xr_end rfl ?_
    refine th_n ?_
    refine xc_seq ?_
    refine xc_true rfl ?_
    refine xc_skip ?_
    refine th_n ?_
    refine xc_seq ?_
    refine xc_block ?_
    refine xc_seq (xc_region ?_)
    have hltw : k < es.length := by (first|omega|(dsimp only at *;omega)|(simp at *;omega))
    obtain ⟨bw, ow, lw, tw, fzw, haw, hmw, hxw⟩ := ((hu.sl.sub hc0)).at hltw
    obtain ⟨xw, hkw⟩ : ∃ qq_, es[k]? = some qq_ := ⟨_, List.getElem?_eq_getElem hltw⟩
    obtain ⟨v, hv, hvm⟩ := hu.part hkw
    have hv9 := List.mem_of_getElem? hv
    have hvl := hu.len v hv9
    have hvb := hu.bd v hv9
    have hwl : xw.m.length ≤ (opn y.moves).1 := by rw [hvm]; exact nzF_len _ _
    have hnx : tkV (opn y.moves).1 (us.take (k + 1)) [] = tkV (opn y.moves).1 (us.take k) xw.m := by rw [hvm, tkV_next hv hvl (fun x hx => (hvb x hx).1)]
    have hwp := (hu.parts xw (List.mem_of_getElem? hkw)).sub hc0
    refine xr_op rfl rfl (xv_ia (sz := 1) (j := k) sl71 ty39 rfl (by rw [haw]; rfl) rfl (by (first | assumption | with_reducible exact Int.toNat_natCast _ | with_reducible rfl | rfl)) (by (first|omega|(dsimp only at *;omega)|(simp at *;omega))) (by (first|omega|(dsimp only at *;omega)|(simp at *;omega))) ?_)
    refine xr_op rfl rfl (xv_load1 ty39 rfl rfl (by ((repeat first|exact z_0|assumption|refine z_1 ?_|(refine z_l ?_;(repeat first|exact z_0|assumption|refine z_1 ?_);done)|refine z_r ?_);done)) (take_get (hxw (k) xw hkw) (j := 0) rfl) ?_)
    refine xr_op rfl rfl (xv_assign rfl ?_)
    refine xr_end rfl ?_
    refine th_n ?_
    refine xc_seq (xc_region ?_)
    refine xr_op rfl rfl (xv_move rfl ?_)
    refine xr_op rfl rfl (xv_len sl39 rfl ?_)
    refine xr_op rfl rfl (xv_move rfl ?_)
    refine xr_end rfl ?_
    refine th_n ?_
    refine xc_block ?_
    refine xc_loop (σ := Nat) (fun j => j ≤ xw.m.length) (fun j => ((((((((((emp.put (some 0) (yv)).put (some 1) (.pointer (some ⟨p1, 0, none⟩))).put (some 2) (.pointer (some ⟨p2, 0, none⟩))).put (some 4) (.slice (some ⟨b16, 0, none⟩) (opn y.moves).1 (opn y.moves).1)).put (some 17) (.slice a es.length c)).put (some 18) (I es.length)).put (some 19) (I k)).put (some 23) (.slice xw.a xw.m.length xw.c)).put (some 24) (I xw.m.length)).put (some 25) (I j))) (fun j => ((b16, .cells ⟨(tkV (opn y.moves).1 (us.take k) (xw.m.take j)).flatMap eI⟩ 3) :: h)) (fun j => xw.m.length - j) 0 (Nat.zero_le _) (le_put (le_put (le_put (le_put (le_put (le_put (le_put (le_put (le_put (le_put (le_emp _) rfl) rfl) rfl) rfl) rfl) rfl) rfl) rfl) rfl) rfl) (by (first|((repeat first|exact s_0|exact s_1|exact s_3|refine s_4 ?_|refine s_5 ?_|refine s_6 ?_|refine s_7 ?_);done)|((repeat first|exact s_0|exact s_1|exact s_3|refine s_4 ?_|refine s_5 ?_|refine s_6 ?_|refine s_8 ?_);done))) ?_
    rintro j hj
    refine xc_seq (xc_region ?_)
    refine xr_op rfl rfl (xv_lss2 rfl rfl (fun q2 => ?_) (fun q2 => ?_))
    · refine xr_end rfl ?_
      refine th_n ?_
      refine xc_seq ?_
      refine xc_true rfl ?_
      refine xc_skip ?_
      refine th_n ?_
      refine xc_seq ?_
      refine xc_block ?_
      refine xc_seq (xc_region ?_)
      have hltp : j < xw.m.length := by (first|omega|(dsimp only at *;omega)|(simp at *;omega))
      obtain ⟨bp, op, lp, tp, fzp, hap, hmp, hxp⟩ := (hwp).at hltp
      obtain ⟨xp, hkp⟩ : ∃ qq_, xw.m[j]? = some qq_ := ⟨_, List.getElem?_eq_getElem hltp⟩
      obtain ⟨pt0, pl0, pl1, _⟩ := nzF_mem (hvm ▸ List.mem_of_getElem? hkp)
      have hpos : ∀ q ∈ xw.m, 0 ≤ q.tons := fun q hq => Int.le_of_lt (nzF_mem (hvm ▸ hq)).1
      have hpi : xp.layer = ((xp.layer.toNat : Nat) : Int) := by omega
      have hpn : xp.layer.toNat < (opn y.moves).1 := by omega
      have hg := tkV_get (us := us.take k) (l := xw.m.take j) hpn
      have hb1 := taken_bd (prev := us.take k) (fun v hv => hu.bd v (List.mem_of_mem_take hv)) xp.layer.toNat
      rw [List.length_take] at hb1
      have hb2 := addP_bd hpos xp.layer.toNat (j + 1)
      have hb4 := addP_bd hpos xp.layer.toNat j
      rw [addP_take hkp, if_pos hpi] at hb2
      have hb3 : addP xw.m xp.layer.toNat ≤ 1048576 := by rw [hvm, addP_nz (fun j => (getD_bd (B := 1048576) (by decide) hvb j).1), if_pos hpn]; exact (getD_bd (by decide) hvb _).2
      refine xr_op rfl rfl (xv_ia (sz := 2) (j := j) sl39 ty43 rfl (by rw [hap]; rfl) rfl (by (first | assumption | with_reducible exact Int.toNat_natCast _ | with_reducible rfl | rfl)) (by (first|omega|(dsimp only at *;omega)|(simp at *;omega))) (by (first|omega|(dsimp only at *;omega)|(simp at *;omega))) ?_)
      refine xr_op rfl rfl (xv_loadA ty43 rfl rfl (by ((repeat first|exact z_0|assumption|refine z_1 ?_|(refine z_l ?_;(repeat first|exact z_0|assumption|refine z_1 ?_);done)|refine z_r ?_);done)) (hxp (j) xp hkp) rfl ?_)
      refine xr_op rfl rfl (xv_alloc ty43 (fun b8 hb8 => ?_))
      refine xr_op rfl rfl (xv_s ty43 rfl rfl (by (first|(apply u_3;(repeat first|exact u_0|assumption|apply u_1|apply u_2);done)|((repeat first|exact u_0|assumption|apply u_1|apply u_2);done)|(apply u_3;apply u_3;(repeat first|exact u_0|assumption|apply u_1|apply u_2);done)|((repeat first|exact u_0|assumption|apply u_3|apply u_1);done))) (by ((try apply evl_some rfl);(repeat (first|exact (rfl : _ = [])|apply evl_cons rfl (by (first|exact v_1|exact v_2|exact v_3|exact v_4|exact v_5|exact v_6|exact v_7|exact v_8|exact v_9|exact rfl))|exact rfl)))) (by rfl) (by rfl) (by rfl) (by ((try apply evl_some rfl);(repeat (first|exact (rfl : _ = [])|apply evl_cons rfl (by (first|exact v_1|exact v_2|exact v_3|exact v_4|exact v_5|exact v_6|exact v_7|exact v_8|exact v_9|exact rfl))|exact rfl)))) ?_)
      refine xr_end rfl ?_
      refine th_n ?_
      refine xc_draw0 [(0, .S), (1, .S), (2, .R), (3, .S), (4, .R), (5, .S), (6, .R), (7, .S), (8, .S), (9, .O)] mixed (by kernel_rfl) ?_
      refine js_S rfl rfl (.inl rfl) (xv_move rfl ⟨rfl, rfl⟩) ?_
      refine js_S rfl rfl (.inl rfl) (xv_faddr fl43_0 rfl ⟨rfl, rfl⟩) ?_
      refine js_R0 rfl rfl (.inl rfl) (xv_load1 ty3 rfl rfl (by ((repeat first|exact z_0|assumption|refine z_1 ?_|(refine z_l ?_;(repeat first|exact z_0|assumption|refine z_1 ?_);done)|refine z_r ?_);done)) (by rfl) ⟨rfl, rfl⟩) ?_
      refine js_S rfl rfl (.inl rfl) (xv_ia (sz := 1) (j := xp.layer.toNat) sl38 ty3 rfl rfl rfl (by omega) (by (first|omega|(dsimp only at *;omega)|(simp at *;omega))) (by (first|omega|(dsimp only at *;omega)|(simp at *;omega))) ⟨rfl, rfl⟩) ?_
      refine js_R0 rfl rfl (.inl rfl) (xv_load1 ty3 rfl rfl (by ((repeat first|exact z_0|assumption|refine z_1 ?_|(refine z_l ?_;(repeat first|exact z_0|assumption|refine z_1 ?_);done)|refine z_r ?_);done)) (ints_get hg) ⟨rfl, rfl⟩) ?_
      refine js_S rfl rfl (.inl rfl) (xv_faddr fl43_1 rfl ⟨rfl, rfl⟩) ?_
      refine js_R0 rfl rfl (.inl rfl) (xv_load1 ty3 rfl rfl (by ((repeat first|exact z_0|assumption|refine z_1 ?_|(refine z_l ?_;(repeat first|exact z_0|assumption|refine z_1 ?_);done)|refine z_r ?_);done)) (by rfl) ⟨rfl, rfl⟩) ?_
      refine js_S rfl rfl (.inl rfl) (xv_add rfl rfl (wrap_i64 (by (first|omega|(dsimp only at *;omega)|(simp at *;omega))) (by (first|omega|(dsimp only at *;omega)|(simp at *;omega)))) ⟨rfl, rfl⟩) ?_
      refine js_S rfl rfl (.inl rfl) (xv_ia (sz := 1) (j := xp.layer.toNat) sl38 ty3 rfl rfl rfl (by omega) (by (first|omega|(dsimp only at *;omega)|(simp at *;omega))) (by (first|omega|(dsimp only at *;omega)|(simp at *;omega))) ⟨rfl, rfl⟩) ?_
      refine js_O0 rfl rfl (.inl rfl) (xv_s1 (l := (tkV (opn y.moves).1 (us.take k) (xw.m.take j)).flatMap eI) (l' := (tkV (opn y.moves).1 (us.take k) (xw.m.take (j + 1))).flatMap eI) ty3 rfl rfl rfl (by (first|(apply u_3;(repeat first|exact u_0|assumption|apply u_1|apply u_2);done)|((repeat first|exact u_0|assumption|apply u_1|apply u_2);done)|(apply u_3;apply u_3;(repeat first|exact u_0|assumption|apply u_1|apply u_2);done)|((repeat first|exact u_0|assumption|apply u_3|apply u_1);done))) rfl (by rw [ints_len, tkV_len]; (first|omega|(dsimp only at *;omega)|(simp at *;omega))) ((ints_setN (by rw [tkV_len]; omega)).trans (by rw [tkV_set hkp hpi hpn])) ?_)
      refine j_end0 ?_
      refine bk_n ?_
      refine th_n ?_
      refine xc_region ?_
      refine xr_op rfl rfl (xv_add rfl rfl (wrap_i64 (by (first|omega|(dsimp only at *;omega)|(simp at *;omega))) (by (first|omega|(dsimp only at *;omega)|(simp at *;omega)))) ?_)
      refine xr_op rfl rfl (xv_move rfl ?_)
      refine xr_end rfl ?_
      exact rnd (j + 1) (by (first|omega|(dsimp only at *;omega)|(simp at *;omega))) (by (first|omega|(dsimp only at *;omega)|(simp at *;omega))) (le_put (le_put (le_put (le_put (le_put (le_put (le_put (le_put (le_put (le_put (le_emp _) rfl) rfl) rfl) rfl) rfl) rfl) rfl) rfl) rfl) rfl) (by (first|((repeat first|exact s_0|exact s_1|exact s_3|refine s_4 ?_|refine s_5 ?_|refine s_6 ?_|refine s_7 ?_);done)|((repeat first|exact s_0|exact s_1|exact s_3|refine s_4 ?_|refine s_5 ?_|refine s_6 ?_|refine s_8 ?_);done)))
    · refine xr_end rfl ?_
      refine th_n ?_
      refine xc_seq ?_
      refine xc_false rfl ?_
      refine xc_exit ?_
      refine th_x ?_
      refine th_x ?_
      refine bk_same ?_
      refine bk_n ?_
      refine th_n ?_
      refine xc_region ?_
      obtain rfl : xw.m.length = j := by (first|omega|(dsimp only at *;omega)|(simp at *;omega))
      rw [List.take_length]
      refine xr_op rfl rfl (xv_add rfl rfl (wrap_i64 (by (first|omega|(dsimp only at *;omega)|(simp at *;omega))) (by (first|omega|(dsimp only at *;omega)|(simp at *;omega)))) ?_)
      refine xr_op rfl rfl (xv_move rfl ?_)
      refine xr_end rfl ?_
      exact rnd (k + 1) (by (first|omega|(dsimp only at *;omega)|(simp at *;omega))) (by (first|omega|(dsimp only at *;omega)|(simp at *;omega))) (le_put (le_put (le_put (le_put (le_put (le_put (le_put (le_emp _) rfl) rfl) rfl) rfl) rfl) rfl) rfl) (by rw [hnx]; (first|((repeat first|exact s_0|exact s_1|exact s_3|refine s_4 ?_|refine s_5 ?_|refine s_6 ?_|refine s_7 ?_);done)|((repeat first|exact s_0|exact s_1|exact s_3|refine s_4 ?_|refine s_5 ?_|refine s_6 ?_|refine s_8 ?_);done)))
  · refine xr_end rfl ?_
    refine th_n ?_
    refine xc_seq ?_
    refine xc_false rfl ?_
    refine xc_exit ?_
    refine th_x ?_
    refine th_x ?_
    refine bk_same ?_
    refine th_n ?_
    refine xc_seq (xc_region ?_)
    obtain rfl : es.length = k := by (first|omega|(dsimp only at *;omega)|(simp at *;omega))
    rw [show us.take es.length = us from by rw [hen, List.take_length]]
    refine xr_op rfl rfl (xv_move rfl ?_)
    refine xr_op rfl rfl (xv_len sl38 rfl ?_)
    refine xr_op rfl rfl (xv_move rfl ?_)
    refine xr_end rfl ?_
    refine th_n ?_
    refine xc_block ?_
    refine xc_loop (σ := Nat × Hp) (fun z => z.1 ≤ (opn y.moves).1 ∧ J (partsN y us z.1).length z.2) (fun z => (((((((emp.put (some 0) (yv)).put (some 1) (.pointer (some ⟨p1, 0, none⟩))).put (some 2) (.pointer (some ⟨p2, 0, none⟩))).put (some 4) (.slice (some ⟨b16, 0, none⟩) (opn y.moves).1 (opn y.moves).1)).put (some 40) (.slice (some ⟨b16, 0, none⟩) (opn y.moves).1 (opn y.moves).1)).put (some 41) (I (opn y.moves).1)).put (some 42) (I z.1))) (fun z => ((b16, .cells ⟨(tkV (opn y.moves).1 us []).flatMap eI⟩ 3) :: z.2)) (fun z => (opn y.moves).1 - z.1) ((0, h) : Nat × Hp) ⟨Nat.zero_le _, hJ⟩ (le_put (le_put (le_put (le_put (le_put (le_put (le_put (le_emp _) rfl) rfl) rfl) rfl) rfl) rfl) rfl) (by (first|((repeat first|exact s_0|exact s_1|exact s_3|refine s_4 ?_|refine s_5 ?_|refine s_6 ?_|refine s_7 ?_);done)|((repeat first|exact s_0|exact s_1|exact s_3|refine s_4 ?_|refine s_5 ?_|refine s_6 ?_|refine s_8 ?_);done))) ?_
    rintro ⟨j, h1⟩ ⟨hj, hJ1⟩
    dsimp only at hj hJ1
    have hc1 := hRd _ _ hJ1
    refine xc_seq (xc_region ?_)
    refine xr_op rfl rfl (xv_lss2 rfl rfl (fun q3 => ?_) (fun q3 => ?_))
    · refine xr_end rfl ?_
      refine th_n ?_
      refine xc_seq ?_
      refine xc_true rfl ?_
      refine xc_skip ?_
      refine th_n ?_
      refine xc_seq ?_
      refine xc_block ?_
      refine xc_seq (xc_region ?_)
      have hjl : j < (opn y.moves).1 := by (first|omega|(dsimp only at *;omega)|(simp at *;omega))
      have hg := tkV_get (us := us) (l := []) hjl
      rw [addP_nil, Int.add_zero] at hg
      have hb1 := taken_bd hu.bd j
      refine xr_op rfl rfl (xv_move rfl ?_)
      refine xr_op rfl rfl (xv_ia (sz := 1) (j := j) sl38 ty3 rfl rfl rfl (by (first | assumption | with_reducible exact Int.toNat_natCast _ | with_reducible rfl | rfl)) (by (first|omega|(dsimp only at *;omega)|(simp at *;omega))) (by (first|omega|(dsimp only at *;omega)|(simp at *;omega))) ?_)
      refine xr_op rfl rfl (xv_load1 ty3 rfl rfl (by ((repeat first|exact z_0|assumption|refine z_1 ?_|(refine z_l ?_;(repeat first|exact z_0|assumption|refine z_1 ?_);done)|refine z_r ?_);done)) (ints_get hg) ?_)
      refine xr_op rfl rfl (xv_assign rfl ?_)
      refine xr_op rfl rfl (xv_assign rfl ?_)
      refine xr_end rfl ?_
      refine th_n ?_
      refine xc_seq (xc_region ?_)
      refine xr_op rfl rfl (xv_move rfl ?_)
      refine xr_op rfl rfl (xv_gtr2 rfl rfl (fun q4 => ?_) (fun q4 => ?_))
      · refine xr_op rfl rfl (xv_move rfl ?_)
        have hpt : takenR us j > 0 := by (first|omega|(dsimp only at *;omega)|(simp at *;omega))
        have hz := partsN_at hpt hjl
        have hS1 := hsh.sub hc1
        have m6 := hc1 hp1
        have m7 := hS1.top
        have hltl : j < bs.length := by omega
        obtain ⟨bl, ol, ll, tl, fzl, hal, hml, hxl⟩ := (hS1.lays).at hltl
        obtain ⟨xl, hkl⟩ : ∃ qq_, bs[j]? = some qq_ := ⟨_, List.getElem?_eq_getElem hltl⟩
        have hlay := hS1.lay j xl hkl
        have hll : ((layF y.moves y.moves.length (roomR y.coals.length y.moves y.moves.length vs) j).drop 0).take 6 = (contF 6 (y.moves.take y.moves.length) (j : Int)).flatMap eI := by unfold layF; rw [List.drop_zero, List.take_append_of_le_length (by rw [ints_len, contF_len]; exact Nat.le_refl _), List.take_of_length_le (by rw [ints_len, contF_len]; exact Nat.le_refl _)]
        refine xr_gd rfl rfl rfl (xv_move rfl ?_)
        refine xr_gd rfl rfl rfl (xv_load1 ty66 rfl rfl (by ((repeat first|exact z_0|assumption|refine z_1 ?_|(refine z_l ?_;(repeat first|exact z_0|assumption|refine z_1 ?_);done)|refine z_r ?_);done)) (by rfl) ?_)
        refine xr_gd rfl rfl rfl (xv_nilp rfl ?_)
        refine xr_gd rfl rfl rfl (xv_faddr fl73_1 rfl ?_)
        refine xr_gd rfl rfl rfl (xv_load1 ty70 rfl rfl (by ((repeat first|exact z_0|assumption|refine z_1 ?_|(refine z_l ?_;(repeat first|exact z_0|assumption|refine z_1 ?_);done)|refine z_r ?_);done)) (by rfl) ?_)
        refine xr_gd rfl rfl rfl (xv_move rfl ?_)
        refine xr_gd rfl rfl rfl (xv_ia (sz := 1) (j := j) sl70 ty105 rfl (by rw [hal]; rfl) rfl (by (first | assumption | with_reducible exact Int.toNat_natCast _ | with_reducible rfl | rfl)) (by (first|omega|(dsimp only at *;omega)|(simp at *;omega))) (by (first|omega|(dsimp only at *;omega)|(simp at *;omega))) ?_)
        refine xr_gd rfl rfl rfl (xv_load1 ty105 rfl rfl (by ((repeat first|exact z_0|assumption|refine z_1 ?_|(refine z_l ?_;(repeat first|exact z_0|assumption|refine z_1 ?_);done)|refine z_r ?_);done)) (take_get (hxl (j) xl hkl) (j := 0) rfl) ?_)
        refine xr_gd rfl rfl rfl (xv_nilp rfl ?_)
        refine xr_gd rfl rfl rfl (xv_faddr fl107_0 rfl ?_)
        refine xr_gd rfl rfl rfl (xv_loadA ty80 rfl rfl (by ((repeat first|exact z_0|assumption|refine z_1 ?_|(refine z_l ?_;(repeat first|exact z_0|assumption|refine z_1 ?_);done)|refine z_r ?_);done)) hll (by rw [ints_len]; exact contF_len _ _ _) ?_)
        refine xr_gd rfl rfl rfl (xv_move rfl ?_)
        refine xr_gd rfl rfl rfl (xv_fn rfl rfl (yieldTo (g := [(b16, .cells ⟨(tkV (opn y.moves).1 us []).flatMap eI⟩ 3)]) (hyv _ _ hz _ hJ1) (fun h3 hJ3 => up_ret ?_) (fun h3 hJ3 => up_ret ?_)))
        · refine xr_gd rfl rfl rfl (xv_not rfl ?_)
          refine xr_op rfl rfl (xv_pick rfl rfl ?_)
          refine xr_end rfl ?_
          refine th_n ?_
          refine xc_false rfl ?_
          refine xc_skip ?_
          refine bk_n ?_
          refine th_n ?_
          refine xc_region ?_
          refine xr_op rfl rfl (xv_add rfl rfl (wrap_i64 (by (first|omega|(dsimp only at *;omega)|(simp at *;omega))) (by (first|omega|(dsimp only at *;omega)|(simp at *;omega)))) ?_)
          refine xr_op rfl rfl (xv_move rfl ?_)
          refine xr_end rfl ?_
          exact rnd ((j + 1, h3) : Nat × Hp) ⟨by (first|omega|(dsimp only at *;omega)|(simp at *;omega)), by dsimp only; rw [partsN_lenS hpt]; exact hJ3⟩ (by (first|omega|(dsimp only at *;omega)|(simp at *;omega))) (le_put (le_put (le_put (le_put (le_put (le_put (le_put (le_emp _) rfl) rfl) rfl) rfl) rfl) rfl) rfl) (by (first|((repeat first|exact s_0|exact s_1|exact s_3|refine s_4 ?_|refine s_5 ?_|refine s_6 ?_|refine s_7 ?_);done)|((repeat first|exact s_0|exact s_1|exact s_3|refine s_4 ?_|refine s_5 ?_|refine s_6 ?_|refine s_8 ?_);done)))
        · refine xr_gd rfl rfl rfl (xv_not rfl ?_)
          refine xr_op rfl rfl (xv_pick rfl rfl ?_)
          refine xr_end rfl ?_
          refine th_n ?_
          refine xc_true rfl ?_
          refine xc_ret ?_
          refine bk_r ?_
          refine th_r ?_
          refine th_r ?_
          refine bk_r ?_
          refine body_ret (h' := h3) rfl ro_nil (by (first|((repeat first|exact s_0|exact s_1|exact s_3|refine s_4 ?_|refine s_5 ?_|refine s_6 ?_|refine s_7 ?_);done)|((repeat first|exact s_0|exact s_1|exact s_3|refine s_4 ?_|refine s_5 ?_|refine s_6 ?_|refine s_8 ?_);done))) ?_
          exact ⟨⟨_, rfl⟩, .inr ⟨_, (List.getElem?_eq_some_iff.1 hz).1, hJ3⟩⟩
      · refine xr_op rfl rfl (xv_move rfl ?_)
        refine xr_no rfl rfl rfl rfl ?_
        refine xr_no rfl rfl rfl rfl ?_
        refine xr_no rfl rfl rfl rfl ?_
        refine xr_no rfl rfl rfl rfl ?_
        refine xr_no rfl rfl rfl rfl ?_
        refine xr_no rfl rfl rfl rfl ?_
        refine xr_no rfl rfl rfl rfl ?_
        refine xr_no rfl rfl rfl rfl ?_
        refine xr_no rfl rfl rfl rfl ?_
        refine xr_no rfl rfl rfl rfl ?_
        refine xr_no rfl rfl rfl rfl ?_
        refine xr_no rfl rfl rfl rfl ?_
        refine xr_no rfl rfl rfl rfl ?_
        refine xr_no rfl rfl rfl rfl ?_
        refine xr_op rfl rfl (xv_pick rfl rfl ?_)
        refine xr_end rfl ?_
        refine th_n ?_
        refine xc_false rfl ?_
        refine xc_skip ?_
        refine bk_n ?_
        refine th_n ?_
        refine xc_region ?_
        have hpt : ¬ takenR us j > 0 := by (first|omega|(dsimp only at *;omega)|(simp at *;omega))
        refine xr_op rfl rfl (xv_add rfl rfl (wrap_i64 (by (first|omega|(dsimp only at *;omega)|(simp at *;omega))) (by (first|omega|(dsimp only at *;omega)|(simp at *;omega)))) ?_)
        refine xr_op rfl rfl (xv_move rfl ?_)
        refine xr_end rfl ?_
        exact rnd ((j + 1, h1) : Nat × Hp) ⟨by (first|omega|(dsimp only at *;omega)|(simp at *;omega)), by dsimp only; rw [partsN_eq hpt]; exact hJ1⟩ (by (first|omega|(dsimp only at *;omega)|(simp at *;omega))) (le_put (le_put (le_put (le_put (le_put (le_put (le_put (le_emp _) rfl) rfl) rfl) rfl) rfl) rfl) rfl) (by (first|((repeat first|exact s_0|exact s_1|exact s_3|refine s_4 ?_|refine s_5 ?_|refine s_6 ?_|refine s_7 ?_);done)|((repeat first|exact s_0|exact s_1|exact s_3|refine s_4 ?_|refine s_5 ?_|refine s_6 ?_|refine s_8 ?_);done)))
    · refine xr_end rfl ?_
      refine th_n ?_
      refine xc_seq ?_
      refine xc_false rfl ?_
      refine xc_exit ?_
      refine th_x ?_
      refine th_x ?_
      refine bk_same ?_
      refine body_end (h' := h1) rfl ro_nil (by (first|((repeat first|exact s_0|exact s_1|exact s_3|refine s_4 ?_|refine s_5 ?_|refine s_6 ?_|refine s_7 ?_);done)|((repeat first|exact s_0|exact s_1|exact s_3|refine s_4 ?_|refine s_5 ?_|refine s_6 ?_|refine s_8 ?_);done))) ?_
      exact ⟨⟨_, rfl⟩, .inl (by have hk9 : j = (opn y.moves).1 := (by (first|omega|(dsimp only at *;omega)|(simp at *;omega))); rw [hk9] at hJ1; exact hJ1)⟩

end Go.Proofs.Ytpefpafijadfmaa

/-
  Walks.
-/
namespace Go.Proofs.Ytpefpafijadfmaa
open Go Go.H
set_option maxRecDepth 100000
set_option maxHeartbeats 8000000
set_option linter.all false
theorem Blend_c {y : Yard} {h : Hp} {R : Ending → Hp → Prop} (hy : YardV h y) (hs : Small y) {draw : Int} (H : ∀ a c G, SlV G 2 eSpan a (blendA y draw).1 → R (.returned (.tuple ⟨[.slice a (blendA y draw).1.length c, I (blendA y draw).2]⟩)) (G ++ h)) : ACalls Try.prog 11 ⟨[.agg ⟨eYard y⟩, I draw]⟩ h R := by
  refine calls_of_xc (N := 79) Try.func11 rfl (by rfl) ?_
  obtain ⟨hs1, hs2⟩ := id hs
  refine xc_seq (xc_region ?_)
  refine xr_op rfl rfl (xv_box rfl (fun b2 hb2 => ?_))
  refine xr_op rfl rfl (xv_assign rfl ?_)
  refine xr_op rfl rfl (xv_assign rfl ?_)
  refine xr_end rfl ?_
  refine th_n ?_
  refine xc_seq (xc_region ?_)
  refine xr_op rfl rfl (xv_loadA ty25 rfl rfl (by ((repeat first|exact z_0|assumption|refine z_1 ?_|(refine z_l ?_;(repeat first|exact z_0|assumption|refine z_1 ?_);done)|refine z_r ?_);done)) (by ((try apply evl_some rfl);(repeat (first|exact (rfl : _ = [])|apply evl_cons rfl (by (first|exact v_1|exact v_2|exact v_3|exact v_4|exact v_5|exact v_6|exact v_7|exact v_8|exact v_9|exact rfl))|exact rfl)))) (by rfl) ?_)
  refine xr_op rfl rfl (xv_calls rfl hb30 (newShed_c (hy.sub (by intro z hz; ((repeat first|exact z_0|assumption|refine z_1 ?_|(refine z_l ?_;(repeat first|exact z_0|assumption|refine z_1 ?_);done)|refine z_r ?_);done))) hs (fun hng => up_ret ?_) (fun hgy hpn => up_ret ?_) (fun vs b la lc bs da dc ds G hgy hvs hsh => up_ret ?_)))
  · refine xr_op rfl rfl (xv_move rfl ?_)
    refine xr_op rfl rfl (xv_extract rfl rfl ?_)
    refine xr_op rfl rfl (xv_extract rfl rfl ?_)
    refine xr_op rfl rfl (xv_assign rfl ?_)
    refine xr_op rfl rfl (xv_assign rfl ?_)
    refine xr_end rfl ?_
    refine th_n ?_
    refine xc_seq ?_
    refine xc_block ?_
    refine xc_seq (xc_region ?_)
    refine xr_op rfl rfl (xv_move rfl ?_)
    refine xr_op rfl rfl (xv_neqT rfl rfl (by decide) ?_)
    refine xr_op rfl rfl (xv_assign rfl ?_)
    refine xr_end rfl ?_
    refine th_n ?_
    refine xc_true rfl ?_
    refine xc_seq (xc_region ?_)
    refine xr_op rfl rfl (xv_move rfl ?_)
    refine xr_op rfl rfl (xv_assign rfl ?_)
    refine xr_op rfl rfl (xv_assign rfl ?_)
    refine xr_end rfl ?_
    refine th_n ?_
    refine xc_ret ?_
    refine bk_r ?_
    refine th_r ?_
    refine body_ret (h' := ([] ++ h)) rfl (ro_tmp rfl (ro_tmp rfl ro_nil)) (by (first|((repeat first|exact s_0|exact s_1|exact s_3|refine s_4 ?_|refine s_5 ?_|refine s_6 ?_|refine s_7 ?_);done)|((repeat first|exact s_0|exact s_1|exact s_3|refine s_4 ?_|refine s_5 ?_|refine s_6 ?_|refine s_8 ?_);done))) ?_
    first | (rw [blendA_1 hng] at H; exact H none 0 [] (.inl rfl)) | (rw [blendA_10 hgy hpn] at H; exact H none 0 [] (.inl rfl)) | (rw [blendA_2 hgy hvs (by omega)] at H; exact H none 0 [] (.inl rfl))
  · refine xr_op rfl rfl (xv_move rfl ?_)
    refine xr_op rfl rfl (xv_extract rfl rfl ?_)
    refine xr_op rfl rfl (xv_extract rfl rfl ?_)
    refine xr_op rfl rfl (xv_assign rfl ?_)
    refine xr_op rfl rfl (xv_assign rfl ?_)
    refine xr_end rfl ?_
    refine th_n ?_
    refine xc_seq ?_
    refine xc_block ?_
    refine xc_seq (xc_region ?_)
    refine xr_op rfl rfl (xv_move rfl ?_)
    refine xr_op rfl rfl (xv_neqT rfl rfl (by decide) ?_)
    refine xr_op rfl rfl (xv_assign rfl ?_)
    refine xr_end rfl ?_
    refine th_n ?_
    refine xc_true rfl ?_
    refine xc_seq (xc_region ?_)
    refine xr_op rfl rfl (xv_move rfl ?_)
    refine xr_op rfl rfl (xv_assign rfl ?_)
    refine xr_op rfl rfl (xv_assign rfl ?_)
    refine xr_end rfl ?_
    refine th_n ?_
    refine xc_ret ?_
    refine bk_r ?_
    refine th_r ?_
    refine body_ret (h' := ([] ++ h)) rfl (ro_tmp rfl (ro_tmp rfl ro_nil)) (by (first|((repeat first|exact s_0|exact s_1|exact s_3|refine s_4 ?_|refine s_5 ?_|refine s_6 ?_|refine s_7 ?_);done)|((repeat first|exact s_0|exact s_1|exact s_3|refine s_4 ?_|refine s_5 ?_|refine s_6 ?_|refine s_8 ?_);done))) ?_
    first | (rw [blendA_1 hng] at H; exact H none 0 [] (.inl rfl)) | (rw [blendA_10 hgy hpn] at H; exact H none 0 [] (.inl rfl)) | (rw [blendA_2 hgy hvs (by omega)] at H; exact H none 0 [] (.inl rfl))
  · refine xr_op rfl rfl (xv_move rfl ?_)
    refine xr_op rfl rfl (xv_extract rfl rfl ?_)
    refine xr_op rfl rfl (xv_extract rfl rfl ?_)
    refine xr_op rfl rfl (xv_assign rfl ?_)
    refine xr_op rfl rfl (xv_assign rfl ?_)
    refine xr_end rfl ?_
    refine th_n ?_
    refine xc_seq ?_
    refine xc_block ?_
    refine xc_seq (xc_region ?_)
    refine xr_op rfl rfl (xv_move rfl ?_)
    refine xr_op rfl rfl (xv_neqF rfl rfl rfl ?_)
    refine xr_op rfl rfl (xv_assign rfl ?_)
    refine xr_end rfl ?_
    refine th_n ?_
    refine xc_false rfl ?_
    refine xc_seq (xc_region ?_)
    have hcn := hsh.cnt
    have mtop := hsh.top
    have hm32 := hgy.2.2.2
    have hfw := hsh.inv.few
    refine xr_op rfl rfl (xv_move rfl ?_)
    refine xr_op rfl rfl (xv_move rfl ?_)
    refine xr_op rfl rfl (xv_nilp rfl ?_)
    refine xr_op rfl rfl (xv_faddr fl73_2 rfl ?_)
    refine xr_op rfl rfl (xv_load1 ty71 rfl rfl (by ((repeat first|exact z_0|assumption|refine z_1 ?_|(refine z_l ?_;(repeat first|exact z_0|assumption|refine z_1 ?_);done)|refine z_r ?_);done)) (by rfl) ?_)
    refine xr_op rfl rfl (xv_len sl71 rfl ?_)
    refine xr_op rfl rfl (xv_sub rfl rfl (wrap_i64 (by (first|omega|(dsimp only at *;omega)|(simp at *;omega))) (by (first|omega|(dsimp only at *;omega)|(simp at *;omega)))) ?_)
    refine xr_op rfl rfl (xv_calls rfl hb31 (within_c _ _ _ (fun hl1 hu2 => up_ret ?_) (fun hn3 => up_ret ?_)))
    · refine xr_op rfl rfl (xv_not rfl ?_)
      refine xr_op rfl rfl (xv_assign rfl ?_)
      refine xr_end rfl ?_
      refine th_n ?_
      refine xc_false rfl ?_
      refine xc_skip ?_
      refine bk_n ?_
      refine th_n ?_
      refine xc_seq (xc_region ?_)
      have hdn : draw.toNat < ds.length := by (first|omega|(dsimp only at *;omega)|(simp at *;omega))
      have hltw : draw.toNat < ds.length := hdn
      obtain ⟨bw, ow, lw, tw, fzw, haw, hmw, hxw⟩ := (hsh.draws).at hltw
      obtain ⟨xw, hkw⟩ : ∃ qq_, ds[draw.toNat]? = some qq_ := ⟨_, List.getElem?_eq_getElem hltw⟩
      subst haw
      obtain ⟨v, hv, hvm⟩ := hsh.part hkw
      have eans := blendA_0b hgy hvs (by omega) hv
      have hcut := hsh.cut hgy draw.toNat 1
      rw [drop_one hv, drop_one hkw] at hcut
      have hcap := hsh.cap
      have hn6 := hgy.2.2.1.2
      have hpl := partsN_len y [v] (opn y.moves).1
      have hop := opn_le y.moves
      have hple : (partsL y [v]).length ≤ 32 := Nat.le_trans hpl (by omega)
      refine xr_op rfl rfl (xv_move rfl ?_)
      refine xr_op rfl rfl (xv_nilp rfl ?_)
      refine xr_op rfl rfl (xv_faddr fl73_0 rfl ?_)
      refine xr_op rfl rfl (xv_load1 ty22 rfl rfl (by ((repeat first|exact z_0|assumption|refine z_1 ?_|(refine z_l ?_;(repeat first|exact z_0|assumption|refine z_1 ?_);done)|refine z_r ?_);done)) (by rfl) ?_)
      refine xr_op rfl rfl (xv_len sl22 rfl ?_)
      refine xr_op rfl rfl (xv_make (n := y.coals.length) (l := (pV y.coals.length (bSp (takenR [v]) (contE y) (opn y.moves).1) ⟨0, 0⟩ 0).flatMap eSpan) sl28 ty33 rfl rfl (by (first|omega|(dsimp only at *;omega)|(simp at *;omega))) (by simp only []; (first|omega|(dsimp only at *;omega)|(simp at *;omega))) (by simp only []; (first|omega|(dsimp only at *;omega)|(simp at *;omega))) (by rw [pV_0]; exact make_spans _) (fun b37 hb37 => ?_))
      refine xr_op rfl rfl (xv_assign rfl ?_)
      refine xr_end rfl ?_
      refine th_n ?_
      refine xc_seq ?_
      refine xc_seq (xc_region ?_)
      refine xr_op rfl rfl (xv_move rfl ?_)
      refine xr_op rfl rfl (xv_len sl28 rfl ?_)
      refine xr_op rfl rfl (xv_move rfl ?_)
      refine xr_end rfl ?_
      refine th_n ?_
      refine xc_block ?_
      refine xc_loopD (σ := Nat × List Nat) (fun z => z.1 ≤ y.coals.length) (fun z => ((((((emp.put (some 1) (I draw)).put (some 2) (.pointer (some ⟨b2, 0, none⟩))).put (some 6) (.pointer (some ⟨b, 0, none⟩))).put (some 8) (.slice (some ⟨b37, 0, none⟩) y.coals.length y.coals.length)).put (some 39) (I y.coals.length)).put (some 40) (I z.1))) (fun z => (mkHp z.2 ++ ((b37, .cells ⟨(pV y.coals.length (bSp (takenR [v]) (contE y) (opn y.moves).1) ⟨0, 0⟩ z.1).flatMap eSpan⟩ 33) :: (G ++ (b2, .cells ⟨eYard y⟩ 25) :: h)))) (fun z => z.2.map markOf) (fun z => y.coals.length - z.1) ((0, []) : Nat × List Nat) (Nat.zero_le _) (le_put (le_put (le_put (le_put (le_put (le_put (le_emp _) rfl) rfl) rfl) rfl) rfl) rfl) (by (first|((repeat first|exact s_0|exact s_1|exact s_3|refine s_4 ?_|refine s_5 ?_|refine s_6 ?_|refine s_7 ?_);done)|((repeat first|exact s_0|exact s_1|exact s_3|refine s_4 ?_|refine s_5 ?_|refine s_6 ?_|refine s_8 ?_);done))) rfl ?_
      rintro ⟨i, ks⟩ hi
      dsimp only at hi
      refine xc_seq (xc_region ?_)
      refine xr_op rfl rfl (xv_lss2 rfl rfl (fun q4 => ?_) (fun q4 => ?_))
      · refine xr_end rfl ?_
        refine th_n ?_
        refine xc_seq ?_
        refine xc_true rfl ?_
        refine xc_skip ?_
        refine th_n ?_
        refine xc_seq ?_
        refine xc_block ?_
        refine xc_seq (xc_region ?_)
        have hilt : i < y.coals.length := by (first|omega|(dsimp only at *;omega)|(simp at *;omega))
        refine xr_op rfl rfl (xv_move rfl ?_)
        refine xr_op rfl rfl (xv_alloc ty3 (fun b9 hb9 => ?_))
        refine xr_op rfl rfl (xv_s1 ty3 rfl rfl rfl (by (first|(apply u_3;(repeat first|exact u_0|assumption|apply u_1|apply u_2);done)|((repeat first|exact u_0|assumption|apply u_1|apply u_2);done)|(apply u_3;apply u_3;(repeat first|exact u_0|assumption|apply u_1|apply u_2);done)|((repeat first|exact u_0|assumption|apply u_3|apply u_1);done))) (by (first | rfl | exact Vec.one _ _)) (by (first | decide | exact Nat.le_of_ble_eq_true rfl | (simp only [List.length_cons, List.length_nil]; omega) | (simp; done))) (by ((try apply evl_some rfl);(repeat (first|exact (rfl : _ = [])|apply evl_cons rfl (by (first|exact v_1|exact v_2|exact v_3|exact v_4|exact v_5|exact v_6|exact v_7|exact v_8|exact v_9|exact rfl))|exact rfl)))) ?_)
        refine xr_end rfl ?_
        refine th_n ?_
        refine xc_seq (xc_region ?_)
        refine xr_op rfl rfl (xv_alloc ty75 (fun b10 hb10 => ?_))
        refine xr_end rfl ?_
        refine th_n ?_
        refine xc_seq ?_
        refine xc_seq (xc_region ?_)
        refine xr_op rfl rfl (xv_move rfl ?_)
        refine xr_op rfl rfl (xv_move rfl ?_)
        refine xr_op rfl rfl (xv_nilp rfl ?_)
        refine xr_op rfl rfl (xv_faddr fl73_2 rfl ?_)
        refine xr_op rfl rfl (xv_load1 ty71 rfl rfl (by ((repeat first|exact z_0|assumption|refine z_1 ?_|(refine z_l ?_;(repeat first|exact z_0|assumption|refine z_1 ?_);done)|refine z_r ?_);done)) (by rfl) ?_)
        refine xr_op rfl rfl (xv_move rfl ?_)
        refine xr_op rfl rfl (xv_move rfl ?_)
        refine xr_op rfl rfl (xv_add rfl rfl (wrap_i64 (by (first|omega|(dsimp only at *;omega)|(simp at *;omega))) (by (first|omega|(dsimp only at *;omega)|(simp at *;omega)))) ?_)
        refine xr_op rfl rfl (xv_cut (m := 1) sl71 ty39 rfl rfl rfl (by (first|omega|(dsimp only at *;omega)|(simp at *;omega))) (by (first|omega|(dsimp only at *;omega)|(simp at *;omega))) (by (first|omega|(dsimp only at *;omega)|(simp at *;omega))) (by (first|omega|(dsimp only at *;omega)|(simp at *;omega))) (by (first|omega|(dsimp only at *;omega)|(simp at *;omega))) ?_)
        refine xr_op rfl rfl (xv_calls rfl hb32 (parts_c (fun p1 p2 => up_ret ?_)))
        refine xr_end rfl ?_
        refine th_n ?_
        refine xc_block ?_
        refine xc_range2 (γ := Unit) ePc (partsL y [v]) ((p2, .cells ⟨[.slice (some ⟨bw, ow + draw.toNat * 1, none⟩) 1 (dc - draw.toNat)]⟩ 71) :: (p1, .cells ⟨[.pointer (some ⟨b, 0, none⟩)]⟩ 66) :: G) rfl hb53 (partsIt (core := ((p2, .cells ⟨[.slice (some ⟨bw, ow + draw.toNat * 1, none⟩) 1 (dc - draw.toNat)]⟩ 71) :: (p1, .cells ⟨[.pointer (some ⟨b, 0, none⟩)]⟩ 66) :: G)) (by ((repeat first|exact z_0|assumption|refine z_1 ?_|(refine z_l ?_;(repeat first|exact z_0|assumption|refine z_1 ?_);done)|refine z_r ?_);done)) (by ((repeat first|exact z_0|assumption|refine z_1 ?_|(refine z_l ?_;(repeat first|exact z_0|assumption|refine z_1 ?_);done)|refine z_r ?_);done)) (hsh.sub (by intro z hz; ((repeat first|exact z_0|assumption|refine z_1 ?_|(refine z_l ?_;(repeat first|exact z_0|assumption|refine z_1 ?_);done)|refine z_r ?_);done))) (hcut.sub (by intro z hz; ((repeat first|exact z_0|assumption|refine z_1 ?_|(refine z_l ?_;(repeat first|exact z_0|assumption|refine z_1 ?_);done)|refine z_r ?_);done)))) (fun x => rfl) (by decide) ((emp.put (some 9) (.pointer (some ⟨b9, 0, none⟩))).put (some 10) (.pointer (some ⟨b10, 0, none⟩))) (fun k g => True) (fun k g => ((p2, .cells ⟨[.slice (some ⟨bw, ow + draw.toNat * 1, none⟩) 1 (dc - draw.toNat)]⟩ 71) :: (p1, .cells ⟨[.pointer (some ⟨b, 0, none⟩)]⟩ 66) :: (b10, .cells ⟨[I (blS i ((partsL y [v]).take k)).lo, I (blS i ((partsL y [v]).take k)).hi]⟩ 75) :: (b9, .cells ⟨[I (i : Int)]⟩ 3) :: (mkHp ks ++ ((b37, .cells ⟨(pV y.coals.length (bSp (takenR [v]) (contE y) (opn y.moves).1) ⟨0, 0⟩ i).flatMap eSpan⟩ 33) :: (G ++ (b2, .cells ⟨eYard y⟩ 25) :: h))))) (fun _ _ _ => False) () (mon_bk (mon_th)) (le_put (le_put (le_emp _) rfl) rfl) trivial (by (first|((repeat first|exact s_0|exact s_1|exact s_3|refine s_4 ?_|refine s_5 ?_|refine s_6 ?_|refine s_7 ?_);done)|((repeat first|exact s_0|exact s_1|exact s_3|refine s_4 ?_|refine s_5 ?_|refine s_6 ?_|refine s_8 ?_);done))) (fun k g z hz => by
          simp only [List.mem_cons] at hz
          rcases hz with rfl | rfl | hz
          · exact z_0
          · exact z_1 z_0
          · exact z_1 (z_1 (z_1 (z_1 (z_r (z_1 (z_l hz))))))) ?_ (fun _ _ _ _ _ hf _ => hf.elim) ?_
        · intro ll k x gu hkx _i
          have hkl := (List.getElem?_eq_some_iff.1 hkx).1
          obtain ⟨hx6, hxb, hx0, hx1⟩ := partsL_ok hgy hcut.bd hcut.few (List.mem_of_getElem? hkx)
          rw [List.length_singleton] at hx1
          obtain ⟨ci, hci⟩ : ∃ c, x.1[i]? = some c := ⟨_, List.getElem?_eq_getElem (by (first|omega|(dsimp only at *;omega)|(simp at *;omega)))⟩
          have hgd : x.1.getD i 0 = ci := by rw [List.getD_eq_getElem?_getD, hci]; rfl
          have hcb := hxb ci (List.mem_of_getElem? hci)
          have hcs := getD_sum (fun z hz => (hxb z hz).1) i
          rw [hgd] at hcs
          have hsx := sumI_bd hxb
          rw [hx6] at hsx
          have hbb := blS_bd (i := i) (l := (partsL y [v]).take k) (B := 1048576) (by decide) (fun z hz => by obtain ⟨_, a, b, c⟩ := partsL_ok hgy hcut.bd hcut.few (List.mem_of_mem_take hz); rw [List.length_singleton] at c; exact ⟨fun w hw => (a w hw).1, by omega, by omega⟩)
          rw [List.length_take] at hbb
          refine xc_seq (xc_region ?_)
          refine xr_op rfl rfl (xv_alloc ty80 (fun b11 hb11 => ?_))
          refine xr_op rfl rfl (xv_sAll ty80 rfl rfl (by (first|(apply u_3;(repeat first|exact u_0|assumption|apply u_1|apply u_2);done)|((repeat first|exact u_0|assumption|apply u_1|apply u_2);done)|(apply u_3;apply u_3;(repeat first|exact u_0|assumption|apply u_1|apply u_2);done)|((repeat first|exact u_0|assumption|apply u_3|apply u_1);done))) (by rw [ints_len]; exact hx6) rfl (flat_all eI_1 _) ?_)
          refine xr_end rfl ?_
          refine th_n ?_
          refine xc_region ?_
          refine xr_op rfl rfl (xv_assign rfl ?_)
          refine xr_end rfl ?_
          refine rndA_n ?_
          refine xc_block ?_
          refine xc_draw0 [(0, .R), (1, .S), (2, .R), (3, .R), (4, .R), (5, .S), (6, .R), (7, .S), (8, .S), (9, .S), (10, .S), (11, .R), (12, .S), (13, .R), (14, .S), (15, .S), (16, .R), (17, .O)] mixed (by kernel_rfl) ?_
          refine js_R0 rfl rfl (.inl rfl) (xv_loadA ty75 rfl rfl (by ((repeat first|exact z_0|assumption|refine z_1 ?_|(refine z_l ?_;(repeat first|exact z_0|assumption|refine z_1 ?_);done)|refine z_r ?_);done)) (by ((try apply evl_some rfl);(repeat (first|exact (rfl : _ = [])|apply evl_cons rfl (by (first|exact v_1|exact v_2|exact v_3|exact v_4|exact v_5|exact v_6|exact v_7|exact v_8|exact v_9|exact rfl))|exact rfl)))) (by rfl) ⟨rfl, rfl⟩) ?_
          refine js_S rfl rfl (.inl rfl) (xv_move rfl ⟨rfl, rfl⟩) ?_
          refine js_R0 rfl rfl (.inl rfl) (xv_loadA ty80 rfl rfl (by ((repeat first|exact z_0|assumption|refine z_1 ?_|(refine z_l ?_;(repeat first|exact z_0|assumption|refine z_1 ?_);done)|refine z_r ?_);done)) (ints_all hx6) (by rw [ints_len]; exact hx6) ⟨rfl, rfl⟩) ?_
          refine js_R0 rfl rfl (.inl rfl) (xv_calls rfl hb34 (csum_c hx6 (fun z hz => by have := hxb z hz; omega) (up_ret ⟨rfl, rfl⟩))) ?_
          refine js_R0 rfl rfl (.inl rfl) (xv_load1 ty3 rfl rfl (by ((repeat first|exact z_0|assumption|refine z_1 ?_|(refine z_l ?_;(repeat first|exact z_0|assumption|refine z_1 ?_);done)|refine z_r ?_);done)) (by rfl) ⟨rfl, rfl⟩) ?_
          refine js_S rfl rfl (.inl rfl) (xv_iaA (sz := 1) (j := i) Try.underlying80 ty3 rfl rfl rfl (by (first | assumption | with_reducible exact Int.toNat_natCast _ | with_reducible rfl | rfl)) (by (first|omega|(dsimp only at *;omega)|(simp at *;omega))) (by (first|omega|(dsimp only at *;omega)|(simp at *;omega))) ⟨rfl, rfl⟩) ?_
          refine js_R0 rfl rfl (.inl rfl) (xv_load1 ty3 rfl rfl (by ((repeat first|exact z_0|assumption|refine z_1 ?_|(refine z_l ?_;(repeat first|exact z_0|assumption|refine z_1 ?_);done)|refine z_r ?_);done)) (ints_get hci) ⟨rfl, rfl⟩) ?_
          refine js_S rfl rfl (.inl rfl) (xv_sub rfl rfl (wrap_i64 (by (first|omega|(dsimp only at *;omega)|(simp at *;omega))) (by (first|omega|(dsimp only at *;omega)|(simp at *;omega)))) ⟨rfl, rfl⟩) ?_
          refine js_S rfl rfl (.inl rfl) (xv_sub rfl rfl (wrap_i64 (by (first|omega|(dsimp only at *;omega)|(simp at *;omega))) (by (first|omega|(dsimp only at *;omega)|(simp at *;omega)))) ⟨rfl, rfl⟩) ?_
          refine js_S rfl rfl (.inl rfl) (xv_max rfl rfl rfl ⟨rfl, rfl⟩) ?_
          refine js_S rfl rfl (.inl rfl) (xv_move rfl ⟨rfl, rfl⟩) ?_
          refine js_R0 rfl rfl (.inl rfl) (xv_load1 ty3 rfl rfl (by ((repeat first|exact z_0|assumption|refine z_1 ?_|(refine z_l ?_;(repeat first|exact z_0|assumption|refine z_1 ?_);done)|refine z_r ?_);done)) (by rfl) ⟨rfl, rfl⟩) ?_
          refine js_S rfl rfl (.inl rfl) (xv_iaA (sz := 1) (j := i) Try.underlying80 ty3 rfl rfl rfl (by (first | assumption | with_reducible exact Int.toNat_natCast _ | with_reducible rfl | rfl)) (by (first|omega|(dsimp only at *;omega)|(simp at *;omega))) (by (first|omega|(dsimp only at *;omega)|(simp at *;omega))) ⟨rfl, rfl⟩) ?_
          refine js_R0 rfl rfl (.inl rfl) (xv_load1 ty3 rfl rfl (by ((repeat first|exact z_0|assumption|refine z_1 ?_|(refine z_l ?_;(repeat first|exact z_0|assumption|refine z_1 ?_);done)|refine z_r ?_);done)) (ints_get hci) ⟨rfl, rfl⟩) ?_
          refine js_S rfl rfl (.inl rfl) (xv_min rfl rfl rfl ⟨rfl, rfl⟩) ?_
          refine js_S rfl rfl (.inl rfl) (xv_build bt75 rfl (by ((try apply evl_some rfl);(repeat (first|exact (rfl : _ = [])|apply evl_cons rfl (by (first|exact v_1|exact v_2|exact v_3|exact v_4|exact v_5|exact v_6|exact v_7|exact v_8|exact v_9|exact rfl))|exact rfl)))) ⟨rfl, rfl⟩) ?_
          refine js_R0 rfl rfl (.inl rfl) (xv_calls rfl hb33 (add_c (a := (blS i ((partsL y [v]).take k))) (b := ⟨max 0 (x.2 - (sumI x.1 - ci)), min x.2 ci⟩) ⟨⟨by omega, by omega⟩, by omega, by omega⟩ ⟨⟨by dsimp only; omega, by dsimp only; omega⟩, by dsimp only; omega, by dsimp only; omega⟩ (up_ret ⟨rfl, rfl⟩))) ?_
          refine js_O0 rfl rfl (.inl rfl) (xv_s ty75 rfl rfl (by (first|(apply u_3;(repeat first|exact u_0|assumption|apply u_1|apply u_2);done)|((repeat first|exact u_0|assumption|apply u_1|apply u_2);done)|(apply u_3;apply u_3;(repeat first|exact u_0|assumption|apply u_1|apply u_2);done)|((repeat first|exact u_0|assumption|apply u_3|apply u_1);done))) (by ((try apply evl_some rfl);(repeat (first|exact (rfl : _ = [])|apply evl_cons rfl (by (first|exact v_1|exact v_2|exact v_3|exact v_4|exact v_5|exact v_6|exact v_7|exact v_8|exact v_9|exact rfl))|exact rfl)))) (by rfl) (by rfl) (by rfl) (by ((try apply evl_some rfl);(repeat (first|exact (rfl : _ = [])|apply evl_cons rfl (by (first|exact v_1|exact v_2|exact v_3|exact v_4|exact v_5|exact v_6|exact v_7|exact v_8|exact v_9|exact rfl))|exact rfl)))) ?_)
          refine j_end0 ?_
          refine bk_n ?_
          exact rndQ_n () trivial (by rw [blS_take hkx, hgd]; (first|((repeat first|exact s_0|exact s_1|exact s_3|refine s_4 ?_|refine s_5 ?_|refine s_6 ?_|refine s_7 ?_);done)|((repeat first|exact s_0|exact s_1|exact s_3|refine s_4 ?_|refine s_5 ?_|refine s_6 ?_|refine s_8 ?_);done)))
        · intro kd g hi hkd
          rw [List.take_length]
          have hbl : blS i (partsL y [v]) = bSp (takenR [v]) (contE y) (opn y.moves).1 i := blS_parts hgy hcut.bd hilt _
          refine bk_n ?_
          refine th_n ?_
          refine xc_draw0 [(0, .S), (1, .R), (2, .R), (3, .R), (4, .S), (5, .O)] mixed (by kernel_rfl) ?_
          refine js_S rfl rfl (.inl rfl) (xv_move rfl ⟨rfl, rfl⟩) ?_
          refine js_R0 rfl rfl (.inl rfl) (xv_load1 ty3 rfl rfl (by ((repeat first|exact z_0|assumption|refine z_1 ?_|(refine z_l ?_;(repeat first|exact z_0|assumption|refine z_1 ?_);done)|refine z_r ?_);done)) (by rfl) ⟨rfl, rfl⟩) ?_
          refine js_R0 rfl rfl (.inl rfl) (xv_loadA ty75 rfl rfl (by ((repeat first|exact z_0|assumption|refine z_1 ?_|(refine z_l ?_;(repeat first|exact z_0|assumption|refine z_1 ?_);done)|refine z_r ?_);done)) (by ((try apply evl_some rfl);(repeat (first|exact (rfl : _ = [])|apply evl_cons rfl (by (first|exact v_1|exact v_2|exact v_3|exact v_4|exact v_5|exact v_6|exact v_7|exact v_8|exact v_9|exact rfl))|exact rfl)))) (by rfl) ⟨rfl, rfl⟩) ?_
          refine js_R0 rfl rfl (.inl rfl) (xv_calls rfl hb35 (spanOf_c (a := blS i (partsL y [v])) (up_ret ⟨rfl, rfl⟩))) ?_
          refine js_S rfl rfl (.inl rfl) (xv_ia (sz := 2) (j := i) sl28 ty33 rfl rfl rfl (by (first | assumption | with_reducible exact Int.toNat_natCast _ | with_reducible rfl | rfl)) (by (first|omega|(dsimp only at *;omega)|(simp at *;omega))) (by (first|omega|(dsimp only at *;omega)|(simp at *;omega))) ⟨rfl, rfl⟩) ?_
          refine js_O0 rfl rfl (.inl rfl) (xv_s (l := (pV y.coals.length (bSp (takenR [v]) (contE y) (opn y.moves).1) ⟨0, 0⟩ i).flatMap eSpan) (l' := (pV y.coals.length (bSp (takenR [v]) (contE y) (opn y.moves).1) ⟨0, 0⟩ (i + 1)).flatMap eSpan) (vs := eSpan (blS i (partsL y [v]))) ty33 rfl rfl (by (first|(apply u_3;(repeat first|exact u_0|assumption|apply u_1|apply u_2);done)|((repeat first|exact u_0|assumption|apply u_1|apply u_2);done)|(apply u_3;apply u_3;(repeat first|exact u_0|assumption|apply u_1|apply u_2);done)|((repeat first|exact u_0|assumption|apply u_3|apply u_1);done))) rfl rfl rfl (Nat.ble_eq_true_of_le (by rw [spans_len, pV_len]; dsimp only; (first|omega|(dsimp only at *;omega)|(simp at *;omega)))) (by rw [hbl, span_splice (by rw [pV_len]; (first|omega|(dsimp only at *;omega)|(simp at *;omega))), pV_set (f := (bSp (takenR [v]) (contE y) (opn y.moves).1)) (by (first|omega|(dsimp only at *;omega)|(simp at *;omega)))]) ?_)
          refine j_end0 ?_
          refine bk_n ?_
          refine th_n ?_
          refine xc_region ?_
          refine xr_op rfl rfl (xv_add rfl rfl (wrap_i64 (by (first|omega|(dsimp only at *;omega)|(simp at *;omega))) (by (first|omega|(dsimp only at *;omega)|(simp at *;omega)))) ?_)
          refine xr_op rfl rfl (xv_move rfl ?_)
          refine xr_end rfl ?_
          exact rndD ((i + 1, kd :: ks) : Nat × List Nat) (by (first|omega|(dsimp only at *;omega)|(simp at *;omega))) (by (first|omega|(dsimp only at *;omega)|(simp at *;omega))) (le_put (le_put (le_put (le_put (le_put (le_put (le_emp _) rfl) rfl) rfl) rfl) rfl) rfl) (by (first|((repeat first|exact s_0|exact s_1|exact s_3|refine s_4 ?_|refine s_5 ?_|refine s_6 ?_|refine s_7 ?_);done)|((repeat first|exact s_0|exact s_1|exact s_3|refine s_4 ?_|refine s_5 ?_|refine s_6 ?_|refine s_8 ?_);done))) rfl
      · refine xr_end rfl ?_
        refine th_n ?_
        refine xc_seq ?_
        refine xc_false rfl ?_
        refine xc_exit ?_
        refine th_x ?_
        refine th_x ?_
        refine bk_same ?_
        refine th_n ?_
        refine xc_seq (xc_region ?_)
        obtain rfl : y.coals.length = i := by (first|omega|(dsimp only at *;omega)|(simp at *;omega))
        rw [pV_end]
        refine xr_nd fun hnd => ?_
        refine xr_op rfl rfl (xv_move rfl ?_)
        refine xr_op rfl rfl (xv_assign rfl ?_)
        refine xr_op rfl rfl (xv_assign rfl ?_)
        refine xr_end rfl ?_
        refine th_n ?_
        refine xc_ret ?_
        refine body_retMs (h' := ((b37, .cells ⟨((List.range y.coals.length).map (bSp (takenR [v]) (contE y) (opn y.moves).1)).flatMap eSpan⟩ 33) :: h)) rfl (ro_tmp rfl (ro_tmp rfl ro_nil)) (by (first|((repeat first|exact s_0|exact s_1|exact s_3|refine s_4 ?_|refine s_5 ?_|refine s_6 ?_|refine s_7 ?_);done)|((repeat first|exact s_0|exact s_1|exact s_3|refine s_4 ?_|refine s_5 ?_|refine s_6 ?_|refine s_8 ?_);done))) hnd ?_
        rw [eans] at H
        have hq9 := H (some ⟨b37, 0, none⟩) y.coals.length [(b37, .cells ⟨((List.range y.coals.length).map (bSp (takenR [v]) (contE y) (opn y.moves).1)).flatMap eSpan⟩ 33)] (slvL eSpan_len (by ((repeat first|exact z_0|assumption|refine z_1 ?_|(refine z_l ?_;(repeat first|exact z_0|assumption|refine z_1 ?_);done)|refine z_r ?_);done)))
        rw [List.length_map, List.length_range] at hq9
        exact hq9
    · refine xr_op rfl rfl (xv_not rfl ?_)
      refine xr_op rfl rfl (xv_assign rfl ?_)
      refine xr_end rfl ?_
      refine th_n ?_
      refine xc_true rfl ?_
      refine xc_seq (xc_region ?_)
      refine xr_op rfl rfl (xv_assign rfl ?_)
      refine xr_op rfl rfl (xv_assign rfl ?_)
      refine xr_end rfl ?_
      refine th_n ?_
      refine xc_ret ?_
      refine bk_r ?_
      refine th_r ?_
      refine body_ret (h' := ([] ++ h)) rfl (ro_tmp rfl (ro_tmp rfl ro_nil)) (by (first|((repeat first|exact s_0|exact s_1|exact s_3|refine s_4 ?_|refine s_5 ?_|refine s_6 ?_|refine s_7 ?_);done)|((repeat first|exact s_0|exact s_1|exact s_3|refine s_4 ?_|refine s_5 ?_|refine s_6 ?_|refine s_8 ?_);done))) ?_
      first | (rw [blendA_1 hng] at H; exact H none 0 [] (.inl rfl)) | (rw [blendA_10 hgy hpn] at H; exact H none 0 [] (.inl rfl)) | (rw [blendA_2 hgy hvs (by omega)] at H; exact H none 0 [] (.inl rfl))

end Go.Proofs.Ytpefpafijadfmaa

/-
  Walks.
-/
namespace Go.Proofs.Ytpefpafijadfmaa
open Go Go.H
set_option maxRecDepth 100000
set_option maxHeartbeats 8000000
set_option linter.all false
theorem sortA_c {V : Vec} {xs : List Share} {n : Nat} {f : Value} {cm : Share → Share → Int} {L : Hp} {R : Ending → Hp → Prop} (hn : n = xs.length) (hV : V.ok 2 n (xs.flatMap eShare)) (h49 : n ≤ 49)
    (hf : ∀ x y, x ∈ xs → y ∈ xs → ∀ H R', L ⊆ H → R' (.returned (I (cm x y))) H → AFn Try.prog f [.agg ⟨eShare x⟩, .agg ⟨eShare y⟩] H R') (hs : Go.Sort.SWO (ltc cm))
    (H : ∀ ys : List Share, ys.Perm xs → ys.Pairwise (fun a b => ¬ cm b a < 0) → V.ok 2 n (ys.flatMap eShare) → R (.returned (.tuple #[])) (V.hp 93 (ys.flatMap eShare) ++ L)) :
    ACalls Try.prog 42 ⟨[.slice V.ad n V.cp, f]⟩ (V.hp 93 (xs.flatMap eShare) ++ L) R := by
  rw [← Vec.val_ad hV]
  subst hn
  exact sortV_c hV h49 hf hs fun ys hp ho hk => H ys hp ho (by rw [← hp.length_eq]; exact hk)
theorem reverseA_c {V : Vec} {xs : List Share} {n : Nat} {L : Hp} {R : Ending → Hp → Prop} (hn : n = xs.length) (h0 : 0 < n) (hV : V.ok 2 n (xs.flatMap eShare)) (hlen : n ≤ 1000)
    (H : V.ok 2 n (xs.reverse.flatMap eShare) → R (.returned (.tuple #[])) (V.hp 93 (xs.reverse.flatMap eShare) ++ L)) : ACalls Try.prog 43 ⟨[.slice V.ad n V.cp]⟩ (V.hp 93 (xs.flatMap eShare) ++ L) R := by
  subst hn
  cases V with
  | nil => exact absurd hV.2 (by omega)
  | «at» bb cap sp =>
    refine reverse_c hlen (H ?_)
    obtain ⟨h1, h2, h3⟩ := hV
    rw [List.length_append, flat_lenM eShare_len] at h3
    exact ⟨by rw [flat_lenM eShare_len, List.length_reverse], h2, by rw [List.length_append, flat_lenM eShare_len, List.length_reverse]; exact h3⟩
theorem firstA_c {l : List Share} {a : Option Addr} {c n : Nat} {need : Int} {h : Hp} {R : Ending → Hp → Prop} (hn : n = l.length) (hl : SlV h 2 eShare a l) (hlen : n ≤ 1000) (hok : ∀ x ∈ l, ShareOk x) (hn0 : 0 ≤ need) (hn1 : need ≤ 1048576000) (H : R (.returned (I (fstP l need).1)) h) : ACalls Try.prog 44 ⟨[.slice a n c, I need]⟩ h R := by
  subst hn; exact first_c hl hlen hok hn0 hn1 H
theorem giv_fn {w : Int} (h0 : 0 ≤ w) (h1 : w ≤ 3) : ∃ fv : Value, fv.oneCell' = true ∧ (([.func (.func 54) ⟨[]⟩ ⟨[]⟩, .func (.func 55) ⟨[]⟩ ⟨[]⟩, .func (.func 56) ⟨[]⟩ ⟨[]⟩, .func (.func 57) ⟨[]⟩ ⟨[]⟩] : List Value).drop (w.toNat * 1)).take 1 = [fv] ∧ ∀ (c : Coal) (h : Hp) (R : Ending → Hp → Prop), R (.returned (.agg ⟨eSpan (ofF c w)⟩)) h → AFn Try.prog fv [.agg ⟨eCoal c⟩] h R := by
  obtain rfl | rfl | rfl | rfl : w = 0 ∨ w = 1 ∨ w = 2 ∨ w = 3 := by omega
  · exact ⟨_, rfl, rfl, fun c h R H => afn_func (fi := []) (lb := []) hb54 (give54_c H)⟩
  · exact ⟨_, rfl, rfl, fun c h R H => afn_func (fi := []) (lb := []) hb55 (give55_c H)⟩
  · exact ⟨_, rfl, rfl, fun c h R H => afn_func (fi := []) (lb := []) hb56 (give56_c H)⟩
  · exact ⟨_, rfl, rfl, fun c h R H => afn_func (fi := []) (lb := []) hb57 (give57_c H)⟩

theorem Yield_c {y : Yard} {h : Hp} {R : Ending → Hp → Prop} (hy : YardV h y) (hs : Small y) {f t w : Int} (H : R (.returned (.tuple ⟨[.agg ⟨eSpan (yieldA y f t w).1⟩, I (yieldA y f t w).2]⟩)) h) : ACalls Try.prog 13 ⟨[.agg ⟨eYard y⟩, I f, I t, I w]⟩ h R := by
  refine calls_of_xc (N := 121) Try.func13 rfl (by rfl) ?_
  obtain ⟨hs1, hs2⟩ := id hs
  refine xc_seq (xc_region ?_)
  refine xr_op rfl rfl (xv_box rfl (fun b4 hb4 => ?_))
  refine xr_op rfl rfl (xv_alloc ty33 (fun b8 hb8 => ?_))
  refine xr_op rfl rfl (xv_assign rfl ?_)
  refine xr_end rfl ?_
  refine th_n ?_
  refine xc_seq (xc_region ?_)
  refine xr_op rfl rfl (xv_loadA ty25 rfl rfl (by ((repeat first|exact z_0|assumption|refine z_1 ?_|(refine z_l ?_;(repeat first|exact z_0|assumption|refine z_1 ?_);done)|refine z_r ?_);done)) (by ((try apply evl_some rfl);(repeat (first|exact (rfl : _ = [])|apply evl_cons rfl (by (first|exact v_1|exact v_2|exact v_3|exact v_4|exact v_5|exact v_6|exact v_7|exact v_8|exact v_9|exact rfl))|exact rfl)))) (by rfl) ?_)
  refine xr_op rfl rfl (xv_calls rfl hb30 (newShed_c (hy.sub (by intro z hz; ((repeat first|exact z_0|assumption|refine z_1 ?_|(refine z_l ?_;(repeat first|exact z_0|assumption|refine z_1 ?_);done)|refine z_r ?_);done))) hs (fun hng => up_ret ?_) (fun hgy hpn => up_ret ?_) (fun vs b la lc bs da dc ds G hgy hvs hsh => up_ret ?_)))
  · refine xr_op rfl rfl (xv_move rfl ?_)
    refine xr_op rfl rfl (xv_extract rfl rfl ?_)
    refine xr_op rfl rfl (xv_extract rfl rfl ?_)
    refine xr_op rfl rfl (xv_alloc ty66 (fun b10 hb10 => ?_))
    refine xr_op rfl rfl (xv_s1 ty66 rfl rfl rfl (by (first|(apply u_3;(repeat first|exact u_0|assumption|apply u_1|apply u_2);done)|((repeat first|exact u_0|assumption|apply u_1|apply u_2);done)|(apply u_3;apply u_3;(repeat first|exact u_0|assumption|apply u_1|apply u_2);done)|((repeat first|exact u_0|assumption|apply u_3|apply u_1);done))) (by (first | rfl | exact Vec.one _ _)) (by (first | decide | exact Nat.le_of_ble_eq_true rfl | (simp only [List.length_cons, List.length_nil]; omega) | (simp; done))) (by ((try apply evl_some rfl);(repeat (first|exact (rfl : _ = [])|apply evl_cons rfl (by (first|exact v_1|exact v_2|exact v_3|exact v_4|exact v_5|exact v_6|exact v_7|exact v_8|exact v_9|exact rfl))|exact rfl)))) ?_)
    refine xr_op rfl rfl (xv_assign rfl ?_)
    refine xr_end rfl ?_
    refine th_n ?_
    refine xc_seq ?_
    refine xc_block ?_
    refine xc_seq (xc_region ?_)
    refine xr_op rfl rfl (xv_move rfl ?_)
    refine xr_op rfl rfl (xv_neqT rfl rfl (by decide) ?_)
    refine xr_op rfl rfl (xv_assign rfl ?_)
    refine xr_end rfl ?_
    refine th_n ?_
    refine xc_true rfl ?_
    refine xc_seq (xc_region ?_)
    refine xr_op rfl rfl (xv_build bt33 rfl (by ((try apply evl_some rfl);(repeat (first|exact (rfl : _ = [])|apply evl_cons rfl (by (first|exact v_1|exact v_2|exact v_3|exact v_4|exact v_5|exact v_6|exact v_7|exact v_8|exact v_9|exact rfl))|exact rfl)))) ?_)
    refine xr_op rfl rfl (xv_move rfl ?_)
    refine xr_op rfl rfl (xv_s ty33 rfl rfl (by (first|(apply u_3;(repeat first|exact u_0|assumption|apply u_1|apply u_2);done)|((repeat first|exact u_0|assumption|apply u_1|apply u_2);done)|(apply u_3;apply u_3;(repeat first|exact u_0|assumption|apply u_1|apply u_2);done)|((repeat first|exact u_0|assumption|apply u_3|apply u_1);done))) (by ((try apply evl_some rfl);(repeat (first|exact (rfl : _ = [])|apply evl_cons rfl (by (first|exact v_1|exact v_2|exact v_3|exact v_4|exact v_5|exact v_6|exact v_7|exact v_8|exact v_9|exact rfl))|exact rfl)))) (by rfl) (by rfl) (by rfl) (by ((try apply evl_some rfl);(repeat (first|exact (rfl : _ = [])|apply evl_cons rfl (by (first|exact v_1|exact v_2|exact v_3|exact v_4|exact v_5|exact v_6|exact v_7|exact v_8|exact v_9|exact rfl))|exact rfl)))) ?_)
    refine xr_op rfl rfl (xv_assign rfl ?_)
    refine xr_end rfl ?_
    refine th_n ?_
    refine xc_ret ?_
    refine bk_r ?_
    refine th_r ?_
    refine body_ret (h' := h) rfl (ro_cellA ty33 rfl rfl (by ((repeat first|exact z_0|assumption|refine z_1 ?_|(refine z_l ?_;(repeat first|exact z_0|assumption|refine z_1 ?_);done)|refine z_r ?_);done)) (by rfl) (by rfl) (ro_tmp rfl ro_nil)) (by (first|((repeat first|exact s_0|exact s_1|exact s_3|refine s_4 ?_|refine s_5 ?_|refine s_6 ?_|refine s_7 ?_);done)|((repeat first|exact s_0|exact s_1|exact s_3|refine s_4 ?_|refine s_5 ?_|refine s_6 ?_|refine s_8 ?_);done))) ?_
    first | (rw [eans] at H; exact H) | (rw [yieldA_1 hng] at H; exact H) | (rw [yieldA_10 hgy hpn] at H; exact H) | (rw [yieldA_2 hgy hvs (by omega)] at H; exact H)
  · refine xr_op rfl rfl (xv_move rfl ?_)
    refine xr_op rfl rfl (xv_extract rfl rfl ?_)
    refine xr_op rfl rfl (xv_extract rfl rfl ?_)
    refine xr_op rfl rfl (xv_alloc ty66 (fun b10 hb10 => ?_))
    refine xr_op rfl rfl (xv_s1 ty66 rfl rfl rfl (by (first|(apply u_3;(repeat first|exact u_0|assumption|apply u_1|apply u_2);done)|((repeat first|exact u_0|assumption|apply u_1|apply u_2);done)|(apply u_3;apply u_3;(repeat first|exact u_0|assumption|apply u_1|apply u_2);done)|((repeat first|exact u_0|assumption|apply u_3|apply u_1);done))) (by (first | rfl | exact Vec.one _ _)) (by (first | decide | exact Nat.le_of_ble_eq_true rfl | (simp only [List.length_cons, List.length_nil]; omega) | (simp; done))) (by ((try apply evl_some rfl);(repeat (first|exact (rfl : _ = [])|apply evl_cons rfl (by (first|exact v_1|exact v_2|exact v_3|exact v_4|exact v_5|exact v_6|exact v_7|exact v_8|exact v_9|exact rfl))|exact rfl)))) ?_)
    refine xr_op rfl rfl (xv_assign rfl ?_)
    refine xr_end rfl ?_
    refine th_n ?_
    refine xc_seq ?_
    refine xc_block ?_
    refine xc_seq (xc_region ?_)
    refine xr_op rfl rfl (xv_move rfl ?_)
    refine xr_op rfl rfl (xv_neqT rfl rfl (by decide) ?_)
    refine xr_op rfl rfl (xv_assign rfl ?_)
    refine xr_end rfl ?_
    refine th_n ?_
    refine xc_true rfl ?_
    refine xc_seq (xc_region ?_)
    refine xr_op rfl rfl (xv_build bt33 rfl (by ((try apply evl_some rfl);(repeat (first|exact (rfl : _ = [])|apply evl_cons rfl (by (first|exact v_1|exact v_2|exact v_3|exact v_4|exact v_5|exact v_6|exact v_7|exact v_8|exact v_9|exact rfl))|exact rfl)))) ?_)
    refine xr_op rfl rfl (xv_move rfl ?_)
    refine xr_op rfl rfl (xv_s ty33 rfl rfl (by (first|(apply u_3;(repeat first|exact u_0|assumption|apply u_1|apply u_2);done)|((repeat first|exact u_0|assumption|apply u_1|apply u_2);done)|(apply u_3;apply u_3;(repeat first|exact u_0|assumption|apply u_1|apply u_2);done)|((repeat first|exact u_0|assumption|apply u_3|apply u_1);done))) (by ((try apply evl_some rfl);(repeat (first|exact (rfl : _ = [])|apply evl_cons rfl (by (first|exact v_1|exact v_2|exact v_3|exact v_4|exact v_5|exact v_6|exact v_7|exact v_8|exact v_9|exact rfl))|exact rfl)))) (by rfl) (by rfl) (by rfl) (by ((try apply evl_some rfl);(repeat (first|exact (rfl : _ = [])|apply evl_cons rfl (by (first|exact v_1|exact v_2|exact v_3|exact v_4|exact v_5|exact v_6|exact v_7|exact v_8|exact v_9|exact rfl))|exact rfl)))) ?_)
    refine xr_op rfl rfl (xv_assign rfl ?_)
    refine xr_end rfl ?_
    refine th_n ?_
    refine xc_ret ?_
    refine bk_r ?_
    refine th_r ?_
    refine body_ret (h' := h) rfl (ro_cellA ty33 rfl rfl (by ((repeat first|exact z_0|assumption|refine z_1 ?_|(refine z_l ?_;(repeat first|exact z_0|assumption|refine z_1 ?_);done)|refine z_r ?_);done)) (by rfl) (by rfl) (ro_tmp rfl ro_nil)) (by (first|((repeat first|exact s_0|exact s_1|exact s_3|refine s_4 ?_|refine s_5 ?_|refine s_6 ?_|refine s_7 ?_);done)|((repeat first|exact s_0|exact s_1|exact s_3|refine s_4 ?_|refine s_5 ?_|refine s_6 ?_|refine s_8 ?_);done))) ?_
    first | (rw [eans] at H; exact H) | (rw [yieldA_1 hng] at H; exact H) | (rw [yieldA_10 hgy hpn] at H; exact H) | (rw [yieldA_2 hgy hvs (by omega)] at H; exact H)
  · refine xr_op rfl rfl (xv_move rfl ?_)
    refine xr_op rfl rfl (xv_extract rfl rfl ?_)
    refine xr_op rfl rfl (xv_extract rfl rfl ?_)
    refine xr_op rfl rfl (xv_alloc ty66 (fun b10 hb10 => ?_))
    refine xr_op rfl rfl (xv_s1 ty66 rfl rfl rfl (by (first|(apply u_3;(repeat first|exact u_0|assumption|apply u_1|apply u_2);done)|((repeat first|exact u_0|assumption|apply u_1|apply u_2);done)|(apply u_3;apply u_3;(repeat first|exact u_0|assumption|apply u_1|apply u_2);done)|((repeat first|exact u_0|assumption|apply u_3|apply u_1);done))) (by (first | rfl | exact Vec.one _ _)) (by (first | decide | exact Nat.le_of_ble_eq_true rfl | (simp only [List.length_cons, List.length_nil]; omega) | (simp; done))) (by ((try apply evl_some rfl);(repeat (first|exact (rfl : _ = [])|apply evl_cons rfl (by (first|exact v_1|exact v_2|exact v_3|exact v_4|exact v_5|exact v_6|exact v_7|exact v_8|exact v_9|exact rfl))|exact rfl)))) ?_)
    refine xr_op rfl rfl (xv_assign rfl ?_)
    refine xr_end rfl ?_
    refine th_n ?_
    refine xc_seq ?_
    refine xc_block ?_
    refine xc_seq (xc_region ?_)
    refine xr_op rfl rfl (xv_move rfl ?_)
    refine xr_op rfl rfl (xv_neqF rfl rfl rfl ?_)
    refine xr_op rfl rfl (xv_assign rfl ?_)
    refine xr_end rfl ?_
    refine th_n ?_
    refine xc_false rfl ?_
    refine xc_seq (xc_region ?_)
    have hcn := hsh.cnt
    have mtop := hsh.top
    have hm32 := hgy.2.2.2
    have hfw := hsh.inv.few
    refine xr_op rfl rfl (xv_move rfl ?_)
    refine xr_op rfl rfl (xv_load1 ty66 rfl rfl (by ((repeat first|exact z_0|assumption|refine z_1 ?_|(refine z_l ?_;(repeat first|exact z_0|assumption|refine z_1 ?_);done)|refine z_r ?_);done)) (by rfl) ?_)
    refine xr_op rfl rfl (xv_nilp rfl ?_)
    refine xr_op rfl rfl (xv_faddr fl73_2 rfl ?_)
    refine xr_op rfl rfl (xv_load1 ty71 rfl rfl (by ((repeat first|exact z_0|assumption|refine z_1 ?_|(refine z_l ?_;(repeat first|exact z_0|assumption|refine z_1 ?_);done)|refine z_r ?_);done)) (by rfl) ?_)
    refine xr_op rfl rfl (xv_len sl71 rfl ?_)
    refine xr_op rfl rfl (xv_sub rfl rfl (wrap_i64 (by (first|omega|(dsimp only at *;omega)|(simp at *;omega))) (by (first|omega|(dsimp only at *;omega)|(simp at *;omega)))) ?_)
    refine xr_op rfl rfl (xv_calls rfl hb31 (within_c _ _ _ (fun hl1 hu2 => up_ret ?_) (fun hn3 => up_ret ?_)))
    · refine xr_op rfl rfl (xv_not rfl ?_)
      refine xr_op rfl rfl (xv_move rfl ?_)
      refine xr_gd rfl rfl rfl (xv_move rfl ?_)
      refine xr_gd rfl rfl rfl (xv_move rfl ?_)
      refine xr_gd rfl rfl rfl (xv_calls rfl hb31 (within_c _ _ _ (fun hl4 hu5 => up_ret ?_) (fun hn6 => up_ret ?_)))
      · refine xr_gd rfl rfl rfl (xv_not rfl ?_)
        refine xr_op rfl rfl (xv_pick rfl rfl ?_)
        refine xr_op rfl rfl (xv_move rfl ?_)
        refine xr_gd rfl rfl rfl (xv_move rfl ?_)
        refine xr_gd rfl rfl rfl (xv_calls rfl hb31 (within_c _ _ _ (fun hl7 hu8 => up_ret ?_) (fun hn9 => up_ret ?_)))
        · refine xr_gd rfl rfl rfl (xv_not rfl ?_)
          refine xr_op rfl rfl (xv_pick rfl rfl ?_)
          refine xr_op rfl rfl (xv_assign rfl ?_)
          refine xr_end rfl ?_
          refine th_n ?_
          refine xc_false rfl ?_
          refine xc_skip ?_
          refine bk_n ?_
          refine th_n ?_
          refine xc_seq (xc_region ?_)
          have hw0 : 0 ≤ w := by omega
          have hw1 : w ≤ 3 := by omega
          obtain ⟨fv, hf1, hfv, hfc⟩ := giv_fn hw0 hw1
          have hdn : f.toNat < ds.length := by (first|omega|(dsimp only at *;omega)|(simp at *;omega))
          have hltw : f.toNat < ds.length := hdn
          obtain ⟨bw, ow, lw, tw, fzw, haw, hmw, hxw⟩ := (hsh.draws).at hltw
          obtain ⟨xw, hkw⟩ : ∃ qq_, ds[f.toNat]? = some qq_ := ⟨_, List.getElem?_eq_getElem hltw⟩
          subst haw
          have eans := yieldA_0 (w := w) hgy hvs (f := f) (t := t) ⟨⟨by omega, by omega, by omega⟩, hw0, hw1⟩
          have hcut := hsh.cut hgy f.toNat (t.toNat + 1 - f.toNat)
          have hcap := hsh.cap
          have hn6 := hgy.2.2.1.2
          have hn1 := hgy.2.2.1.1
          have hpl := partsN_len y ((vs.drop f.toNat).take (t.toNat + 1 - f.toNat)) (opn y.moves).1
          have hop := opn_le y.moves
          have hple : (partsL y ((vs.drop f.toNat).take (t.toNat + 1 - f.toNat))).length ≤ 32 := Nat.le_trans hpl (by omega)
          have hyl : ylS y w (partsL y ((vs.drop f.toNat).take (t.toNat + 1 - f.toNat))) = ⟨yLo y w (takenR ((vs.drop f.toNat).take (t.toNat + 1 - f.toNat))) (opn y.moves).1, yHi y w (takenR ((vs.drop f.toNat).take (t.toNat + 1 - f.toNat))) (opn y.moves).1⟩ := ylS_parts hgy hcut.bd hw0 hw1 _
          refine xr_op rfl rfl (xv_calls rfl hb40 (given_c (up_ret ?_)))
          refine xr_op rfl rfl (xv_move rfl ?_)
          refine xr_op rfl rfl (xv_indexA Try.underlying90 ty89 rfl rfl rfl hw0 (by omega) hfv ?_)
          refine xr_op rfl rfl (xv_field1 fl89_0 rfl (by rfl) ?_)
          refine xr_op rfl rfl (xv_alloc ty88 (fun b12 hb12 => ?_))
          refine xr_op rfl rfl (xv_s1 ty88 rfl rfl rfl (by (first|(apply u_3;(repeat first|exact u_0|assumption|apply u_1|apply u_2);done)|((repeat first|exact u_0|assumption|apply u_1|apply u_2);done)|(apply u_3;apply u_3;(repeat first|exact u_0|assumption|apply u_1|apply u_2);done)|((repeat first|exact u_0|assumption|apply u_3|apply u_1);done))) hf1 (by (first | decide | exact Nat.le_of_ble_eq_true rfl | (simp only [List.length_cons, List.length_nil]; omega) | (simp; done))) (by ((try apply evl_some rfl);(repeat (first|exact (rfl : _ = [])|apply evl_cons rfl (by (first|exact v_1|exact v_2|exact v_3|exact v_4|exact v_5|exact v_6|exact v_7|exact v_8|exact v_9|exact rfl))|exact rfl)))) ?_)
          refine xr_end rfl ?_
          refine th_n ?_
          refine xc_seq (xc_region ?_)
          refine xr_op rfl rfl (xv_alloc ty94 (fun b13 hb13 => ?_))
          refine xr_op rfl rfl (xv_s1 ty94 rfl rfl rfl (by (first|(apply u_3;(repeat first|exact u_0|assumption|apply u_1|apply u_2);done)|((repeat first|exact u_0|assumption|apply u_1|apply u_2);done)|(apply u_3;apply u_3;(repeat first|exact u_0|assumption|apply u_1|apply u_2);done)|((repeat first|exact u_0|assumption|apply u_3|apply u_1);done))) (by (first | rfl | exact Vec.one _ _)) (by (first | decide | exact Nat.le_of_ble_eq_true rfl | (simp only [List.length_cons, List.length_nil]; omega) | (simp; done))) (by ((try apply evl_some rfl);(repeat (first|exact (rfl : _ = [])|apply evl_cons rfl (by (first|exact v_1|exact v_2|exact v_3|exact v_4|exact v_5|exact v_6|exact v_7|exact v_8|exact v_9|exact rfl))|exact rfl)))) ?_)
          refine xr_end rfl ?_
          refine th_n ?_
          refine xc_seq (xc_region ?_)
          refine xr_op rfl rfl (xv_alloc ty75 (fun b14 hb14 => ?_))
          refine xr_end rfl ?_
          refine th_n ?_
          refine xc_seq ?_
          refine xc_seq ?_
          refine xc_draw0 [(0, .R), (1, .R), (2, .S), (3, .S), (4, .R), (5, .S), (6, .S), (7, .S), (8, .S), (9, .O)] mixed (by kernel_rfl) ?_
          refine js_R0 rfl rfl (.inl rfl) (xv_load1 ty66 rfl rfl (by ((repeat first|exact z_0|assumption|refine z_1 ?_|(refine z_l ?_;(repeat first|exact z_0|assumption|refine z_1 ?_);done)|refine z_r ?_);done)) (by rfl) ⟨rfl, rfl⟩) ?_
          refine js_R0 rfl rfl (.inl rfl) (xv_load1 ty66 rfl rfl (by ((repeat first|exact z_0|assumption|refine z_1 ?_|(refine z_l ?_;(repeat first|exact z_0|assumption|refine z_1 ?_);done)|refine z_r ?_);done)) (by rfl) ⟨rfl, rfl⟩) ?_
          refine js_S rfl rfl (.inl rfl) (xv_nilp rfl ⟨rfl, rfl⟩) ?_
          refine js_S rfl rfl (.inl rfl) (xv_faddr fl73_2 rfl ⟨rfl, rfl⟩) ?_
          refine js_R0 rfl rfl (.inl rfl) (xv_load1 ty71 rfl rfl (by ((repeat first|exact z_0|assumption|refine z_1 ?_|(refine z_l ?_;(repeat first|exact z_0|assumption|refine z_1 ?_);done)|refine z_r ?_);done)) (by rfl) ⟨rfl, rfl⟩) ?_
          refine js_S rfl rfl (.inl rfl) (xv_move rfl ⟨rfl, rfl⟩) ?_
          refine js_S rfl rfl (.inl rfl) (xv_move rfl ⟨rfl, rfl⟩) ?_
          refine js_S rfl rfl (.inl rfl) (xv_add rfl rfl (wrap_i64 (by (first|omega|(dsimp only at *;omega)|(simp at *;omega))) (by (first|omega|(dsimp only at *;omega)|(simp at *;omega)))) ⟨rfl, rfl⟩) ?_
          refine js_S rfl rfl (.inl rfl) (xv_cut (m := ((ds.drop f.toNat).take (t.toNat + 1 - f.toNat)).length) sl71 ty39 rfl rfl rfl (by (first|omega|(dsimp only at *;omega)|(simp at *;omega))) (by (first|omega|(dsimp only at *;omega)|(simp at *;omega))) (by (first|omega|(dsimp only at *;omega)|(simp at *;omega))) (by (first|omega|(dsimp only at *;omega)|(simp at *;omega))) (by rw [List.length_take, List.length_drop]; (first|omega|(dsimp only at *;omega)|(simp at *;omega))) ⟨rfl, rfl⟩) ?_
          refine js_O0 rfl rfl (.inl rfl) (xv_calls rfl hb32 (parts_c (fun p1 p2 => up_ret ?_)))
          refine j_end0 ?_
          refine th_n ?_
          refine xc_block ?_
          refine xc_range2 (γ := Unit) ePc (partsL y ((vs.drop f.toNat).take (t.toNat + 1 - f.toNat))) ((p2, .cells ⟨[.slice (some ⟨bw, ow + f.toNat * 1, none⟩) ((ds.drop f.toNat).take (t.toNat + 1 - f.toNat)).length (dc - f.toNat)]⟩ 71) :: (p1, .cells ⟨[.pointer (some ⟨b, 0, none⟩)]⟩ 66) :: G) rfl hb53 (partsIt (core := ((p2, .cells ⟨[.slice (some ⟨bw, ow + f.toNat * 1, none⟩) ((ds.drop f.toNat).take (t.toNat + 1 - f.toNat)).length (dc - f.toNat)]⟩ 71) :: (p1, .cells ⟨[.pointer (some ⟨b, 0, none⟩)]⟩ 66) :: G)) (by ((repeat first|exact z_0|assumption|refine z_1 ?_|(refine z_l ?_;(repeat first|exact z_0|assumption|refine z_1 ?_);done)|refine z_r ?_);done)) (by ((repeat first|exact z_0|assumption|refine z_1 ?_|(refine z_l ?_;(repeat first|exact z_0|assumption|refine z_1 ?_);done)|refine z_r ?_);done)) (hsh.sub (by intro z hz; ((repeat first|exact z_0|assumption|refine z_1 ?_|(refine z_l ?_;(repeat first|exact z_0|assumption|refine z_1 ?_);done)|refine z_r ?_);done))) (hcut.sub (by intro z hz; ((repeat first|exact z_0|assumption|refine z_1 ?_|(refine z_l ?_;(repeat first|exact z_0|assumption|refine z_1 ?_);done)|refine z_r ?_);done)))) (fun x => rfl) (by decide) ((((emp.put (some 10) (.pointer (some ⟨b10, 0, none⟩))).put (some 12) (.pointer (some ⟨b12, 0, none⟩))).put (some 13) (.pointer (some ⟨b13, 0, none⟩))).put (some 14) (.pointer (some ⟨b14, 0, none⟩))) (fun k g => True) (fun k g => ((p2, .cells ⟨[.slice (some ⟨bw, ow + f.toNat * 1, none⟩) ((ds.drop f.toNat).take (t.toNat + 1 - f.toNat)).length (dc - f.toNat)]⟩ 71) :: (p1, .cells ⟨[.pointer (some ⟨b, 0, none⟩)]⟩ 66) :: (b14, .cells ⟨[I (ylS y w ((partsL y ((vs.drop f.toNat).take (t.toNat + 1 - f.toNat))).take k)).lo, I (ylS y w ((partsL y ((vs.drop f.toNat).take (t.toNat + 1 - f.toNat))).take k)).hi]⟩ 75) :: (b13, .cells ⟨[.func (.func 41) ⟨[]⟩ ⟨[]⟩]⟩ 94) :: (b12, .cells ⟨[fv]⟩ 88) :: (b10, .cells ⟨[.pointer (some ⟨b, 0, none⟩)]⟩ 66) :: (G ++ (b8, .cells ⟨[I 0, I 0]⟩ 33) :: (b4, .cells ⟨eYard y⟩ 25) :: h))) (fun _ _ _ => False) () (mon_bk (mon_th)) (le_put (le_put (le_put (le_put (le_emp _) rfl) rfl) rfl) rfl) trivial (by (first|((repeat first|exact s_0|exact s_1|exact s_3|refine s_4 ?_|refine s_5 ?_|refine s_6 ?_|refine s_7 ?_);done)|((repeat first|exact s_0|exact s_1|exact s_3|refine s_4 ?_|refine s_5 ?_|refine s_6 ?_|refine s_8 ?_);done))) (fun k g z hz => by
            simp only [List.mem_cons] at hz
            rcases hz with rfl | rfl | hz
            · exact z_0
            · exact z_1 z_0
            · exact z_1 (z_1 (z_1 (z_1 (z_1 (z_1 (z_l hz))))))) ?_ (fun _ _ _ _ _ hf _ => hf.elim) ?_
          · intro ll k x gu hkx _i
            have hkl := (List.getElem?_eq_some_iff.1 hkx).1
            have hxm := List.mem_of_getElem? hkx
            obtain ⟨hx6, hxb, hx0, hx1⟩ := partsL_ok hgy hcut.bd hcut.few hxm
            have hxn := parts_need hgy hsh.inv hxm
            have hxnn : ∀ z ∈ x.1, 0 ≤ z := fun z hz => (hxb z hz).1
            have hx32 : x.2 ≤ 33554432 := by have := hcut.few; omega
            have hso1 := shL_ok (g := Span.lo) (c := x.1) hgy (fun s hs => ⟨hs.1, by have := hs.2; omega⟩) hw0 hw1 hxnn (Nat.le_refl _)
            have hso2 := shL_ok (g := Span.hi) (c := x.1) hgy (fun s hs => ⟨by have := hs.1; have := hs.2.1; omega, hs.2.2⟩) hw0 hw1 hxnn (Nat.le_refl _)
            have hbb := ylS_bd (l := (partsL y ((vs.drop f.toNat).take (t.toNat + 1 - f.toNat))).take k) hgy hw0 hw1 (fun z hz => by obtain ⟨a, _, b, c⟩ := partsL_ok hgy hcut.bd hcut.few (List.mem_of_mem_take hz); have := hcut.few; exact ⟨a, by omega, by omega⟩)
            rw [List.length_take] at hbb
            have hfb := f_bd hgy hw0 hw1 hx6 (by omega) hx32
            refine xc_seq (xc_region ?_)
            refine xr_op rfl rfl (xv_alloc ty80 (fun b15 hb15 => ?_))
            refine xr_op rfl rfl (xv_sAll ty80 rfl rfl (by (first|(apply u_3;(repeat first|exact u_0|assumption|apply u_1|apply u_2);done)|((repeat first|exact u_0|assumption|apply u_1|apply u_2);done)|(apply u_3;apply u_3;(repeat first|exact u_0|assumption|apply u_1|apply u_2);done)|((repeat first|exact u_0|assumption|apply u_3|apply u_1);done))) (by rw [ints_len]; exact hx6) rfl (flat_all eI_1 _) ?_)
            refine xr_end rfl ?_
            refine th_n ?_
            refine xc_region ?_
            refine xr_op rfl rfl (xv_assign rfl ?_)
            refine xr_end rfl ?_
            refine rndA_n ?_
            refine xc_block ?_
            refine xc_seq (xc_region ?_)
            refine xr_op rfl rfl (xv_assign rfl ?_)
            refine xr_op rfl rfl (xv_assign rfl ?_)
            refine xr_end rfl ?_
            refine th_n ?_
            refine xc_seq ?_
            refine xc_seq (xc_region ?_)
            refine xr_op rfl rfl (xv_load1 ty66 rfl rfl (by ((repeat first|exact z_0|assumption|refine z_1 ?_|(refine z_l ?_;(repeat first|exact z_0|assumption|refine z_1 ?_);done)|refine z_r ?_);done)) (by rfl) ?_)
            refine xr_op rfl rfl (xv_nilp rfl ?_)
            refine xr_op rfl rfl (xv_faddr fl73_0 rfl ?_)
            refine xr_op rfl rfl (xv_load1 ty22 rfl rfl (by ((repeat first|exact z_0|assumption|refine z_1 ?_|(refine z_l ?_;(repeat first|exact z_0|assumption|refine z_1 ?_);done)|refine z_r ?_);done)) (by rfl) ?_)
            refine xr_op rfl rfl (xv_len sl22 rfl ?_)
            refine xr_op rfl rfl (xv_move rfl ?_)
            refine xr_end rfl ?_
            refine th_n ?_
            refine xc_block ?_
            refine xc_loop (σ := Nat × Vec × Vec) (fun z => z.1 ≤ y.coals.length ∧ z.2.1.ok 2 z.1 ((shL y Span.lo w x.1 z.1).flatMap eShare) ∧ z.2.2.ok 2 z.1 ((shL y Span.hi w x.1 z.1).flatMap eShare)) (fun z => (((((((((((emp.put (some 10) (.pointer (some ⟨b10, 0, none⟩))).put (some 12) (.pointer (some ⟨b12, 0, none⟩))).put (some 13) (.pointer (some ⟨b13, 0, none⟩))).put (some 14) (.pointer (some ⟨b14, 0, none⟩))).put (some 15) (.pointer (some ⟨b15, 0, none⟩))).put (some 16) (I x.2)).put (some 17) (.slice z.2.1.ad z.1 z.2.1.cp)).put (some 18) (.slice z.2.2.ad z.1 z.2.2.cp)).put (some 72) (.slice y.ca y.coals.length y.cc)).put (some 73) (I y.coals.length)).put (some 74) (I z.1))) (fun z => (z.2.1.hp 93 ((shL y Span.lo w x.1 z.1).flatMap eShare) ++ (z.2.2.hp 93 ((shL y Span.hi w x.1 z.1).flatMap eShare) ++ ((b15, .cells ⟨x.1.flatMap eI⟩ 80) :: (p2, .cells ⟨[.slice (some ⟨bw, ow + f.toNat * 1, none⟩) ((ds.drop f.toNat).take (t.toNat + 1 - f.toNat)).length (dc - f.toNat)]⟩ 71) :: (p1, .cells ⟨[.pointer (some ⟨b, 0, none⟩)]⟩ 66) :: (b14, .cells ⟨[I (ylS y w ((partsL y ((vs.drop f.toNat).take (t.toNat + 1 - f.toNat))).take k)).lo, I (ylS y w ((partsL y ((vs.drop f.toNat).take (t.toNat + 1 - f.toNat))).take k)).hi]⟩ 75) :: (b13, .cells ⟨[.func (.func 41) ⟨[]⟩ ⟨[]⟩]⟩ 94) :: (b12, .cells ⟨[fv]⟩ 88) :: (b10, .cells ⟨[.pointer (some ⟨b, 0, none⟩)]⟩ 66) :: (G ++ (b8, .cells ⟨[I 0, I 0]⟩ 33) :: (b4, .cells ⟨eYard y⟩ 25) :: h))))) (fun z => y.coals.length - z.1) ((0, .nil, .nil) : Nat × Vec × Vec) ⟨Nat.zero_le _, ⟨rfl, rfl⟩, ⟨rfl, rfl⟩⟩ (le_put (le_put (le_put (le_put (le_put (le_put (le_put (le_put (le_put (le_put (le_put (le_emp _) rfl) rfl) rfl) rfl) rfl) rfl) rfl) rfl) rfl) rfl) rfl) (by (first|((repeat first|exact s_0|exact s_1|exact s_3|refine s_4 ?_|refine s_5 ?_|refine s_6 ?_|refine s_7 ?_);done)|((repeat first|exact s_0|exact s_1|exact s_3|refine s_4 ?_|refine s_5 ?_|refine s_6 ?_|refine s_8 ?_);done))) ?_
            rintro ⟨i, V1, V2⟩ ⟨hi, hV1, hV2⟩
            dsimp only at hi hV1 hV2
            refine xc_seq (xc_region ?_)
            refine xr_op rfl rfl (xv_lss2 rfl rfl (fun q10 => ?_) (fun q10 => ?_))
            · refine xr_end rfl ?_
              refine th_n ?_
              refine xc_seq ?_
              refine xc_true rfl ?_
              refine xc_skip ?_
              refine th_n ?_
              refine xc_seq ?_
              refine xc_block ?_
              refine xc_seq (xc_region ?_)
              have hlto : i < y.coals.length := by (first|omega|(dsimp only at *;omega)|(simp at *;omega))
              obtain ⟨bo, oo, lo, to, fzo, hao, hmo, hxo⟩ := (hy.coals).at hlto
              obtain ⟨xo, hko⟩ : ∃ qq_, y.coals[i]? = some qq_ := ⟨_, List.getElem?_eq_getElem hlto⟩
              obtain ⟨ci, hci⟩ : ∃ c, x.1[i]? = some c := ⟨_, List.getElem?_eq_getElem (by (first|omega|(dsimp only at *;omega)|(simp at *;omega)))⟩
              refine xr_op rfl rfl (xv_move rfl ?_)
              refine xr_op rfl rfl (xv_ia (sz := 8) (j := i) sl22 ty59 rfl (by rw [hao]; rfl) rfl (by (first | assumption | with_reducible exact Int.toNat_natCast _ | with_reducible rfl | rfl)) (by (first|omega|(dsimp only at *;omega)|(simp at *;omega))) (by (first|omega|(dsimp only at *;omega)|(simp at *;omega))) ?_)
              refine xr_op rfl rfl (xv_loadA ty59 rfl rfl (by ((repeat first|exact z_0|assumption|refine z_1 ?_|(refine z_l ?_;(repeat first|exact z_0|assumption|refine z_1 ?_);done)|refine z_r ?_);done)) (hxo (i) xo hko) rfl ?_)
              refine xr_op rfl rfl (xv_alloc ty59 (fun b20 hb20 => ?_))
              refine xr_op rfl rfl (xv_assign rfl ?_)
              refine xr_op rfl rfl (xv_s ty59 rfl rfl (by (first|(apply u_3;(repeat first|exact u_0|assumption|apply u_1|apply u_2);done)|((repeat first|exact u_0|assumption|apply u_1|apply u_2);done)|(apply u_3;apply u_3;(repeat first|exact u_0|assumption|apply u_1|apply u_2);done)|((repeat first|exact u_0|assumption|apply u_3|apply u_1);done))) (by ((try apply evl_some rfl);(repeat (first|exact (rfl : _ = [])|apply evl_cons rfl (by (first|exact v_1|exact v_2|exact v_3|exact v_4|exact v_5|exact v_6|exact v_7|exact v_8|exact v_9|exact rfl))|exact rfl)))) (by rfl) (by rfl) (by rfl) (by ((try apply evl_some rfl);(repeat (first|exact (rfl : _ = [])|apply evl_cons rfl (by (first|exact v_1|exact v_2|exact v_3|exact v_4|exact v_5|exact v_6|exact v_7|exact v_8|exact v_9|exact rfl))|exact rfl)))) ?_)
              refine xr_end rfl ?_
              refine th_n ?_
              refine xc_draw [(0, .S), (1, .S), (2, .S), (3, .R), (4, .R), (5, .R), (6, .R), (7, .S), (8, .S), (9, .P), (11, .S), (12, .S), (13, .S), (14, .S), (15, .S), (16, .S), (9, .A), (10, .O), (17, .R), (18, .S), (19, .S), (20, .P), (20, .A), (21, .O), (22, .S), (23, .S)] [(b20, .cells ⟨eCoal xo⟩ 59), (b15, .cells ⟨x.1.flatMap eI⟩ 80), (b12, .cells ⟨[fv]⟩ 88)] (V1.hp 93 ((shL y Span.lo w x.1 i).flatMap eShare) ++ (V2.hp 93 ((shL y Span.hi w x.1 i).flatMap eShare) ++ ((p2, .cells ⟨[.slice (some ⟨bw, ow + f.toNat * 1, none⟩) ((ds.drop f.toNat).take (t.toNat + 1 - f.toNat)).length (dc - f.toNat)]⟩ 71) :: (p1, .cells ⟨[.pointer (some ⟨b, 0, none⟩)]⟩ 66) :: (b14, .cells ⟨[I (ylS y w ((partsL y ((vs.drop f.toNat).take (t.toNat + 1 - f.toNat))).take k)).lo, I (ylS y w ((partsL y ((vs.drop f.toNat).take (t.toNat + 1 - f.toNat))).take k)).hi]⟩ 75) :: (b13, .cells ⟨[.func (.func 41) ⟨[]⟩ ⟨[]⟩]⟩ 94) :: (b10, .cells ⟨[.pointer (some ⟨b, 0, none⟩)]⟩ 66) :: (G ++ (b8, .cells ⟨[I 0, I 0]⟩ 33) :: (b4, .cells ⟨eYard y⟩ 25) :: h)))) mixed (by kernel_rfl) permF ?_
              refine js_S rfl rfl (.inl rfl) (xv_move rfl ⟨rfl, rfl⟩) ?_
              refine js_S rfl rfl (.inl rfl) (xv_move rfl ⟨rfl, rfl⟩) ?_
              refine js_S rfl rfl (.inl rfl) (xv_iaA (sz := 1) (j := i) Try.underlying80 ty3 rfl rfl rfl (by (first | assumption | with_reducible exact Int.toNat_natCast _ | with_reducible rfl | rfl)) (by (first|omega|(dsimp only at *;omega)|(simp at *;omega))) (by (first|omega|(dsimp only at *;omega)|(simp at *;omega))) ⟨rfl, rfl⟩) ?_
              refine js_R rfl rfl (.inl rfl) (xv_load1 ty3 rfl rfl (by ((repeat first|exact z_0|assumption|refine z_1 ?_|(refine z_l ?_;(repeat first|exact z_0|assumption|refine z_1 ?_);done)|refine z_r ?_);done)) (ints_get hci) ⟨rfl, rfl⟩) ?_
              refine js_R rfl rfl (.inl rfl) (xv_load1 ty88 rfl rfl (by ((repeat first|exact z_0|assumption|refine z_1 ?_|(refine z_l ?_;(repeat first|exact z_0|assumption|refine z_1 ?_);done)|refine z_r ?_);done)) (by rfl) ⟨rfl, rfl⟩) ?_
              refine js_R rfl rfl (.inl rfl) (xv_loadA (l := eCoal xo) (l' := eCoal xo) ty59 rfl rfl (by ((repeat first|exact z_0|assumption|refine z_1 ?_|(refine z_l ?_;(repeat first|exact z_0|assumption|refine z_1 ?_);done)|refine z_r ?_);done)) rfl rfl ⟨rfl, rfl⟩) ?_
              refine js_R rfl rfl (.inl rfl) (xv_fn rfl rfl (hfc xo _ _ (up_ret ⟨rfl, rfl⟩))) ?_
              refine js_S rfl rfl (.inl rfl) (xv_field1 fl33_0 rfl (by rfl) ⟨rfl, rfl⟩) ?_
              refine js_S rfl rfl (.inl rfl) (xv_build bt93 rfl (by ((try apply evl_some rfl);(repeat (first|exact (rfl : _ = [])|apply evl_cons rfl (by (first|exact v_1|exact v_2|exact v_3|exact v_4|exact v_5|exact v_6|exact v_7|exact v_8|exact v_9|exact rfl))|exact rfl)))) ⟨rfl, rfl⟩) ?_
              refine js_P rfl rfl rfl (al_buildSlice sl95 ty93 rfl rfl rfl rfl rfl (by ((try apply evl_some rfl);(repeat (first|exact (rfl : _ = [])|apply evl_cons rfl (by (first|exact v_1|exact v_2|exact v_3|exact v_4|exact v_5|exact v_6|exact v_7|exact v_8|exact v_9|exact rfl))|exact rfl))))) ?_
              refine js_S rfl rfl (.inl rfl) (xv_move rfl ⟨rfl, rfl⟩) ?_
              refine js_S rfl rfl (.inl rfl) (xv_move rfl ⟨rfl, rfl⟩) ?_
              refine js_S rfl rfl (.inl rfl) (xv_iaA (sz := 1) (j := i) Try.underlying80 ty3 rfl rfl rfl (by (first | assumption | with_reducible exact Int.toNat_natCast _ | with_reducible rfl | rfl)) (by (first|omega|(dsimp only at *;omega)|(simp at *;omega))) (by (first|omega|(dsimp only at *;omega)|(simp at *;omega))) ⟨rfl, rfl⟩) ?_
              refine js_S rfl rfl (.inl rfl) (xv_load1 ty3 rfl rfl (by ((repeat first|exact z_0|assumption|refine z_1 ?_|(refine z_l ?_;(repeat first|exact z_0|assumption|refine z_1 ?_);done)|refine z_r ?_);done)) (ints_get hci) ⟨rfl, rfl⟩) ?_
              refine js_S rfl rfl (.inl rfl) (xv_load1 ty88 rfl rfl (by ((repeat first|exact z_0|assumption|refine z_1 ?_|(refine z_l ?_;(repeat first|exact z_0|assumption|refine z_1 ?_);done)|refine z_r ?_);done)) (by rfl) ⟨rfl, rfl⟩) ?_
              refine js_S rfl rfl (.inl rfl) (xv_loadA (l := eCoal xo) (l' := eCoal xo) ty59 rfl rfl (by ((repeat first|exact z_0|assumption|refine z_1 ?_|(refine z_l ?_;(repeat first|exact z_0|assumption|refine z_1 ?_);done)|refine z_r ?_);done)) rfl rfl ⟨rfl, rfl⟩) ?_
              refine js_A rfl rfl rfl rfl rfl ⟨rfl, trivial⟩ (fun b88 hb88 => ?_)
              refine js_O rfl rfl (.inl rfl) (xv_append (V := V1) (n := i) (xs := ((shL y Span.lo w x.1 i).flatMap eShare)) sl95 ty93 rfl (by rw [Vec.val_ad hV1]; rfl) rfl hV1 (Tk.app _ (.there .here)) (by ((repeat first|exact z_0|assumption|refine z_1 ?_|(refine z_l ?_;(repeat first|exact z_0|assumption|refine z_1 ?_);done)|refine z_r ?_);done)) (by ((try apply evl_some rfl);(repeat (first|exact (rfl : _ = [])|apply evl_cons rfl (by (first|exact v_1|exact v_2|exact v_3|exact v_4|exact v_5|exact v_6|exact v_7|exact v_8|exact v_9|exact rfl))|exact rfl)))) rfl rfl (by (first|omega|(dsimp only at *;omega)|(simp at *;omega))) (by simp only []; (first|omega|(dsimp only at *;omega)|(simp at *;omega))) (by (first|omega|(dsimp only at *;omega)|(simp at *;omega))) (fun V3 hV3 => ?_))
              refine jo_atL _ permR .nil ?_
              refine js_R rfl rfl (.inl rfl) (xv_fn rfl rfl (hfc xo _ _ (up_ret ⟨rfl, rfl⟩))) ?_
              refine js_S rfl rfl (.inl rfl) (xv_field1 fl33_1 rfl (by rfl) ⟨rfl, rfl⟩) ?_
              refine js_S rfl rfl (.inl rfl) (xv_build bt93 rfl (by ((try apply evl_some rfl);(repeat (first|exact (rfl : _ = [])|apply evl_cons rfl (by (first|exact v_1|exact v_2|exact v_3|exact v_4|exact v_5|exact v_6|exact v_7|exact v_8|exact v_9|exact rfl))|exact rfl)))) ⟨rfl, rfl⟩) ?_
              refine js_P rfl rfl rfl (al_buildSlice sl95 ty93 rfl rfl rfl rfl rfl (by ((try apply evl_some rfl);(repeat (first|exact (rfl : _ = [])|apply evl_cons rfl (by (first|exact v_1|exact v_2|exact v_3|exact v_4|exact v_5|exact v_6|exact v_7|exact v_8|exact v_9|exact rfl))|exact rfl))))) ?_
              refine js_A rfl rfl rfl rfl rfl ⟨rfl, trivial⟩ (fun b99 hb99 => ?_)
              refine js_O rfl rfl (.inl rfl) (xv_append (V := V2) (n := i) (xs := ((shL y Span.hi w x.1 i).flatMap eShare)) sl95 ty93 rfl (by rw [Vec.val_ad hV2]; rfl) rfl hV2 (Tk.app _ (.there (.skip (.there .here)))) (by ((repeat first|exact z_0|assumption|refine z_1 ?_|(refine z_l ?_;(repeat first|exact z_0|assumption|refine z_1 ?_);done)|refine z_r ?_);done)) (by ((try apply evl_some rfl);(repeat (first|exact (rfl : _ = [])|apply evl_cons rfl (by (first|exact v_1|exact v_2|exact v_3|exact v_4|exact v_5|exact v_6|exact v_7|exact v_8|exact v_9|exact rfl))|exact rfl)))) rfl rfl (by (first|omega|(dsimp only at *;omega)|(simp at *;omega))) (by simp only []; (first|omega|(dsimp only at *;omega)|(simp at *;omega))) (by (first|omega|(dsimp only at *;omega)|(simp at *;omega))) (fun V4 hV4 => ?_))
              refine jo_atL _ permR .nil ?_
              refine js_S rfl rfl (.inl rfl) (xv_assign rfl ⟨rfl, rfl⟩) ?_
              refine js_S rfl rfl (.inl rfl) (xv_assign rfl ⟨rfl, rfl⟩) ?_
              refine j_endp permG ?_
              refine bk_n ?_
              refine th_n ?_
              refine xc_region ?_
              refine xr_op rfl rfl (xv_add rfl rfl (wrap_i64 (by (first|omega|(dsimp only at *;omega)|(simp at *;omega))) (by (first|omega|(dsimp only at *;omega)|(simp at *;omega)))) ?_)
              refine xr_op rfl rfl (xv_move rfl ?_)
              refine xr_end rfl ?_
              have e1 := shL_flat (g := Span.lo) (w := w) hci hko
              have e2 := shL_flat (g := Span.hi) (w := w) hci hko
              exact rnd ((i + 1, V3, V4) : Nat × Vec × Vec) ⟨by (first|omega|(dsimp only at *;omega)|(simp at *;omega)), by dsimp only; rw [e1]; exact hV3, by dsimp only; rw [e2]; exact hV4⟩ (by (first|omega|(dsimp only at *;omega)|(simp at *;omega))) (le_put (le_put (le_put (le_put (le_put (le_put (le_put (le_put (le_put (le_put (le_put (le_emp _) rfl) rfl) rfl) rfl) rfl) rfl) (by rw [← Vec.val_ad hV3]; rfl)) (by rw [← Vec.val_ad hV4]; rfl)) rfl) rfl) rfl) (by dsimp only; rw [e1, e2]; (first|((repeat first|exact s_0|exact s_1|exact s_3|refine s_4 ?_|refine s_5 ?_|refine s_6 ?_|refine s_7 ?_);done)|((repeat first|exact s_0|exact s_1|exact s_3|refine s_4 ?_|refine s_5 ?_|refine s_6 ?_|refine s_8 ?_);done)))
            · refine xr_end rfl ?_
              refine th_n ?_
              refine xc_seq ?_
              refine xc_false rfl ?_
              refine xc_exit ?_
              refine th_x ?_
              refine th_x ?_
              refine bk_same ?_
              refine th_n ?_
              refine xc_seq (xc_region ?_)
              obtain rfl : y.coals.length = i := by (first|omega|(dsimp only at *;omega)|(simp at *;omega))
              refine xr_op rfl rfl (xv_move rfl ?_)
              refine xr_op rfl rfl (xv_load1 ty94 rfl rfl (by ((repeat first|exact z_0|assumption|refine z_1 ?_|(refine z_l ?_;(repeat first|exact z_0|assumption|refine z_1 ?_);done)|refine z_r ?_);done)) (by rfl) ?_)
              refine xr_op rfl rfl (xv_calls rfl hb42 (sortA_c (V := V1) (xs := shL y Span.lo w x.1 y.coals.length) (cm := cmS) (shL_len _ _ _ _ _).symm hV1 (by omega) (fun a b ha hb H9 R2 _ h2 => afn_func (fi := []) (lb := []) hb41 (byEach_c (by obtain ⟨_, q1, q2⟩ := hso1 a ha; exact ⟨q1, q2⟩) (by obtain ⟨_, q1, q2⟩ := hso1 b hb; exact ⟨q1, q2⟩) h2)) cmS_swo (fun ys hpm hsd hVa => up_ret ?_)))
              refine xr_end rfl ?_
              refine th_n ?_
              refine xc_seq (xc_region ?_)
              refine xr_op rfl rfl (xv_move rfl ?_)
              refine xr_op rfl rfl (xv_load1 ty94 rfl rfl (by ((repeat first|exact z_0|assumption|refine z_1 ?_|(refine z_l ?_;(repeat first|exact z_0|assumption|refine z_1 ?_);done)|refine z_r ?_);done)) (by rfl) ?_)
              refine xr_op rfl rfl (xv_calls rfl hb42 (ACalls.framed _ (sortA_c (V := V2) (xs := shL y Span.hi w x.1 y.coals.length) (cm := cmS) (shL_len _ _ _ _ _).symm hV2 (by omega) (fun a b ha hb H9 R2 _ h2 => afn_func (fi := []) (lb := []) hb41 (byEach_c (by obtain ⟨_, q1, q2⟩ := hso2 a ha; exact ⟨q1, q2⟩) (by obtain ⟨_, q1, q2⟩ := hso2 b hb; exact ⟨q1, q2⟩) h2)) cmS_swo (fun zs hpn2 hse hVb => up_ret ?_))))
              refine xr_end rfl ?_
              refine th_n ?_
              refine xc_seq (xc_region ?_)
              refine xr_op rfl rfl (xv_move rfl ?_)
              refine xr_op rfl rfl (xv_calls rfl hb43 (ACalls.framed _ (reverseA_c (V := V2) (xs := zs) (by rw [hpn2.length_eq, shL_len]) (by omega) hVb (by omega) (fun hVc => up_ret ?_))))
              refine xr_end rfl ?_
              refine th_n ?_
              refine xc_draw0 [(0, .R), (1, .S), (2, .S), (3, .R), (4, .S), (5, .S), (6, .R), (7, .S), (8, .R), (9, .O)] mixed (by kernel_rfl) ?_
              have hlv : (fstP ys x.2).1 = fLo y w x := low_val hgy hx6 hxnn (by omega) hxn hpm hsd
              have hhv : (fstP zs.reverse x.2).1 = fHi y w x := high_val hgy hx6 hxnn (by omega) hxn hpn2 hse
              refine js_R0 rfl rfl (.inl rfl) (xv_loadA ty75 rfl rfl (by ((repeat first|exact z_0|assumption|refine z_1 ?_|(refine z_l ?_;(repeat first|exact z_0|assumption|refine z_1 ?_);done)|refine z_r ?_);done)) (by ((try apply evl_some rfl);(repeat (first|exact (rfl : _ = [])|apply evl_cons rfl (by (first|exact v_1|exact v_2|exact v_3|exact v_4|exact v_5|exact v_6|exact v_7|exact v_8|exact v_9|exact rfl))|exact rfl)))) (by rfl) ⟨rfl, rfl⟩) ?_
              refine js_S rfl rfl (.inl rfl) (xv_move rfl ⟨rfl, rfl⟩) ?_
              refine js_S rfl rfl (.inl rfl) (xv_move rfl ⟨rfl, rfl⟩) ?_
              refine js_R0 rfl rfl (.inl rfl) (xv_calls rfl hb44 (firstA_c (l := ys) (by rw [hpm.length_eq, shL_len]) ((Vec.slvA (t := 93) eShare_len (by rw [hpm.length_eq, shL_len]) hVa).sub (by intro z hz; ((repeat first|exact z_0|assumption|refine z_1 ?_|(refine z_l ?_;(repeat first|exact z_0|assumption|refine z_1 ?_);done)|refine z_r ?_);done))) (by omega) (fun z hz => hso1 z (hpm.mem_iff.1 hz)) (by omega) (by omega) (up_ret ⟨rfl, rfl⟩))) ?_
              refine js_S rfl rfl (.inl rfl) (xv_move rfl ⟨rfl, rfl⟩) ?_
              refine js_S rfl rfl (.inl rfl) (xv_move rfl ⟨rfl, rfl⟩) ?_
              refine js_R0 rfl rfl (.inl rfl) (xv_calls rfl hb44 (firstA_c (l := zs.reverse) (by rw [List.length_reverse, hpn2.length_eq, shL_len]) ((Vec.slvA (t := 93) eShare_len (by rw [List.length_reverse, hpn2.length_eq, shL_len]) hVc).sub (by intro z hz; ((repeat first|exact z_0|assumption|refine z_1 ?_|(refine z_l ?_;(repeat first|exact z_0|assumption|refine z_1 ?_);done)|refine z_r ?_);done))) (by omega) (fun z hz => hso2 z (hpn2.mem_iff.1 (List.mem_reverse.1 hz))) (by omega) (by omega) (up_ret ⟨rfl, rfl⟩))) ?_
              refine js_S rfl rfl (.inl rfl) (xv_build bt75 rfl (by ((try apply evl_some rfl);(repeat (first|exact (rfl : _ = [])|apply evl_cons rfl (by (first|exact v_1|exact v_2|exact v_3|exact v_4|exact v_5|exact v_6|exact v_7|exact v_8|exact v_9|exact rfl))|exact rfl)))) ⟨rfl, rfl⟩) ?_
              refine js_R0 rfl rfl (.inl rfl) (xv_calls rfl hb33 (add_c (a := (ylS y w ((partsL y ((vs.drop f.toNat).take (t.toNat + 1 - f.toNat))).take k))) (b := ⟨(fstP ys x.2).1, (fstP zs.reverse x.2).1⟩) ⟨⟨by omega, by omega⟩, by omega, by omega⟩ ⟨⟨by dsimp only; omega, by dsimp only; omega⟩, by dsimp only; omega, by dsimp only; omega⟩ (up_ret ⟨rfl, rfl⟩))) ?_
              refine js_O0 rfl rfl (.inl rfl) (xv_s ty75 rfl rfl (by (first|(apply u_3;(repeat first|exact u_0|assumption|apply u_1|apply u_2);done)|((repeat first|exact u_0|assumption|apply u_1|apply u_2);done)|(apply u_3;apply u_3;(repeat first|exact u_0|assumption|apply u_1|apply u_2);done)|((repeat first|exact u_0|assumption|apply u_3|apply u_1);done))) (by ((try apply evl_some rfl);(repeat (first|exact (rfl : _ = [])|apply evl_cons rfl (by (first|exact v_1|exact v_2|exact v_3|exact v_4|exact v_5|exact v_6|exact v_7|exact v_8|exact v_9|exact rfl))|exact rfl)))) (by rfl) (by rfl) (by rfl) (by ((try apply evl_some rfl);(repeat (first|exact (rfl : _ = [])|apply evl_cons rfl (by (first|exact v_1|exact v_2|exact v_3|exact v_4|exact v_5|exact v_6|exact v_7|exact v_8|exact v_9|exact rfl))|exact rfl)))) ?_)
              refine j_end0 ?_
              refine bk_n ?_
              exact rndQ_n () trivial (by rw [ylS_take hkx, ← hlv, ← hhv]; (first|((repeat first|exact s_0|exact s_1|exact s_3|refine s_4 ?_|refine s_5 ?_|refine s_6 ?_|refine s_7 ?_);done)|((repeat first|exact s_0|exact s_1|exact s_3|refine s_4 ?_|refine s_5 ?_|refine s_6 ?_|refine s_8 ?_);done)))
          · intro kd g hi hkd
            rw [List.take_length, hyl]
            rw [List.take_length, hyl] at hkd
            refine bk_n ?_
            refine th_n ?_
            refine xc_seq (xc_region ?_)
            refine xr_op rfl rfl (xv_loadA ty75 rfl rfl (by ((repeat first|exact z_0|assumption|refine z_1 ?_|(refine z_l ?_;(repeat first|exact z_0|assumption|refine z_1 ?_);done)|refine z_r ?_);done)) (by ((try apply evl_some rfl);(repeat (first|exact (rfl : _ = [])|apply evl_cons rfl (by (first|exact v_1|exact v_2|exact v_3|exact v_4|exact v_5|exact v_6|exact v_7|exact v_8|exact v_9|exact rfl))|exact rfl)))) (by rfl) ?_)
            refine xr_op rfl rfl (xv_calls rfl hb35 (spanOf_c (a := ⟨yLo y w (takenR ((vs.drop f.toNat).take (t.toNat + 1 - f.toNat))) (opn y.moves).1, yHi y w (takenR ((vs.drop f.toNat).take (t.toNat + 1 - f.toNat))) (opn y.moves).1⟩) (up_ret ?_)))
            refine xr_op rfl rfl (xv_s ty33 rfl rfl (by (first|(apply u_3;(repeat first|exact u_0|assumption|apply u_1|apply u_2);done)|((repeat first|exact u_0|assumption|apply u_1|apply u_2);done)|(apply u_3;apply u_3;(repeat first|exact u_0|assumption|apply u_1|apply u_2);done)|((repeat first|exact u_0|assumption|apply u_3|apply u_1);done))) (by ((try apply evl_some rfl);(repeat (first|exact (rfl : _ = [])|apply evl_cons rfl (by (first|exact v_1|exact v_2|exact v_3|exact v_4|exact v_5|exact v_6|exact v_7|exact v_8|exact v_9|exact rfl))|exact rfl)))) (by rfl) (by rfl) (by rfl) (by ((try apply evl_some rfl);(repeat (first|exact (rfl : _ = [])|apply evl_cons rfl (by (first|exact v_1|exact v_2|exact v_3|exact v_4|exact v_5|exact v_6|exact v_7|exact v_8|exact v_9|exact rfl))|exact rfl)))) ?_)
            refine xr_op rfl rfl (xv_assign rfl ?_)
            refine xr_end rfl ?_
            refine th_n ?_
            refine xc_ret ?_
            refine body_retM (h' := h) rfl (ro_cellA ty33 rfl rfl (by ((repeat first|exact z_0|assumption|refine z_1 ?_|(refine z_l ?_;(repeat first|exact z_0|assumption|refine z_1 ?_);done)|refine z_r ?_);done)) (by rfl) (by rfl) (ro_tmp rfl ro_nil)) (by (first|((repeat first|exact s_0|exact s_1|exact s_3|refine s_4 ?_|refine s_5 ?_|refine s_6 ?_|refine s_7 ?_);done)|((repeat first|exact s_0|exact s_1|exact s_3|refine s_4 ?_|refine s_5 ?_|refine s_6 ?_|refine s_8 ?_);done))) (by ((repeat first|exact z_0|assumption|refine z_1 ?_|(refine z_l ?_;(repeat first|exact z_0|assumption|refine z_1 ?_);done)|refine z_r ?_);done)) (nkeys (by intro z hz; ((repeat first|exact z_0|assumption|refine z_1 ?_|(refine z_l ?_;(repeat first|exact z_0|assumption|refine z_1 ?_);done)|refine z_r ?_);done)) hkd) ?_
            first | (rw [eans] at H; exact H) | (rw [yieldA_1 hng] at H; exact H) | (rw [yieldA_10 hgy hpn] at H; exact H) | (rw [yieldA_2 hgy hvs (by omega)] at H; exact H)
        · refine xr_gd rfl rfl rfl (xv_not rfl ?_)
          refine xr_op rfl rfl (xv_pick rfl rfl ?_)
          refine xr_op rfl rfl (xv_assign rfl ?_)
          refine xr_end rfl ?_
          refine th_n ?_
          refine xc_true rfl ?_
          refine xc_seq (xc_region ?_)
          refine xr_op rfl rfl (xv_build bt33 rfl (by ((try apply evl_some rfl);(repeat (first|exact (rfl : _ = [])|apply evl_cons rfl (by (first|exact v_1|exact v_2|exact v_3|exact v_4|exact v_5|exact v_6|exact v_7|exact v_8|exact v_9|exact rfl))|exact rfl)))) ?_)
          refine xr_op rfl rfl (xv_s ty33 rfl rfl (by (first|(apply u_3;(repeat first|exact u_0|assumption|apply u_1|apply u_2);done)|((repeat first|exact u_0|assumption|apply u_1|apply u_2);done)|(apply u_3;apply u_3;(repeat first|exact u_0|assumption|apply u_1|apply u_2);done)|((repeat first|exact u_0|assumption|apply u_3|apply u_1);done))) (by ((try apply evl_some rfl);(repeat (first|exact (rfl : _ = [])|apply evl_cons rfl (by (first|exact v_1|exact v_2|exact v_3|exact v_4|exact v_5|exact v_6|exact v_7|exact v_8|exact v_9|exact rfl))|exact rfl)))) (by rfl) (by rfl) (by rfl) (by ((try apply evl_some rfl);(repeat (first|exact (rfl : _ = [])|apply evl_cons rfl (by (first|exact v_1|exact v_2|exact v_3|exact v_4|exact v_5|exact v_6|exact v_7|exact v_8|exact v_9|exact rfl))|exact rfl)))) ?_)
          refine xr_op rfl rfl (xv_assign rfl ?_)
          refine xr_end rfl ?_
          refine th_n ?_
          refine xc_ret ?_
          refine bk_r ?_
          refine th_r ?_
          refine body_ret (h' := h) rfl (ro_cellA ty33 rfl rfl (by ((repeat first|exact z_0|assumption|refine z_1 ?_|(refine z_l ?_;(repeat first|exact z_0|assumption|refine z_1 ?_);done)|refine z_r ?_);done)) (by rfl) (by rfl) (ro_tmp rfl ro_nil)) (by (first|((repeat first|exact s_0|exact s_1|exact s_3|refine s_4 ?_|refine s_5 ?_|refine s_6 ?_|refine s_7 ?_);done)|((repeat first|exact s_0|exact s_1|exact s_3|refine s_4 ?_|refine s_5 ?_|refine s_6 ?_|refine s_8 ?_);done))) ?_
          first | (rw [eans] at H; exact H) | (rw [yieldA_1 hng] at H; exact H) | (rw [yieldA_10 hgy hpn] at H; exact H) | (rw [yieldA_2 hgy hvs (by omega)] at H; exact H)
      · refine xr_gd rfl rfl rfl (xv_not rfl ?_)
        refine xr_op rfl rfl (xv_pick rfl rfl ?_)
        refine xr_op rfl rfl (xv_move rfl ?_)
        refine xr_no rfl rfl rfl rfl ?_
        refine xr_no rfl rfl rfl rfl ?_
        refine xr_no rfl rfl rfl rfl ?_
        refine xr_op rfl rfl (xv_pick rfl rfl ?_)
        refine xr_op rfl rfl (xv_assign rfl ?_)
        refine xr_end rfl ?_
        refine th_n ?_
        refine xc_true rfl ?_
        refine xc_seq (xc_region ?_)
        refine xr_op rfl rfl (xv_build bt33 rfl (by ((try apply evl_some rfl);(repeat (first|exact (rfl : _ = [])|apply evl_cons rfl (by (first|exact v_1|exact v_2|exact v_3|exact v_4|exact v_5|exact v_6|exact v_7|exact v_8|exact v_9|exact rfl))|exact rfl)))) ?_)
        refine xr_op rfl rfl (xv_s ty33 rfl rfl (by (first|(apply u_3;(repeat first|exact u_0|assumption|apply u_1|apply u_2);done)|((repeat first|exact u_0|assumption|apply u_1|apply u_2);done)|(apply u_3;apply u_3;(repeat first|exact u_0|assumption|apply u_1|apply u_2);done)|((repeat first|exact u_0|assumption|apply u_3|apply u_1);done))) (by ((try apply evl_some rfl);(repeat (first|exact (rfl : _ = [])|apply evl_cons rfl (by (first|exact v_1|exact v_2|exact v_3|exact v_4|exact v_5|exact v_6|exact v_7|exact v_8|exact v_9|exact rfl))|exact rfl)))) (by rfl) (by rfl) (by rfl) (by ((try apply evl_some rfl);(repeat (first|exact (rfl : _ = [])|apply evl_cons rfl (by (first|exact v_1|exact v_2|exact v_3|exact v_4|exact v_5|exact v_6|exact v_7|exact v_8|exact v_9|exact rfl))|exact rfl)))) ?_)
        refine xr_op rfl rfl (xv_assign rfl ?_)
        refine xr_end rfl ?_
        refine th_n ?_
        refine xc_ret ?_
        refine bk_r ?_
        refine th_r ?_
        refine body_ret (h' := h) rfl (ro_cellA ty33 rfl rfl (by ((repeat first|exact z_0|assumption|refine z_1 ?_|(refine z_l ?_;(repeat first|exact z_0|assumption|refine z_1 ?_);done)|refine z_r ?_);done)) (by rfl) (by rfl) (ro_tmp rfl ro_nil)) (by (first|((repeat first|exact s_0|exact s_1|exact s_3|refine s_4 ?_|refine s_5 ?_|refine s_6 ?_|refine s_7 ?_);done)|((repeat first|exact s_0|exact s_1|exact s_3|refine s_4 ?_|refine s_5 ?_|refine s_6 ?_|refine s_8 ?_);done))) ?_
        first | (rw [eans] at H; exact H) | (rw [yieldA_1 hng] at H; exact H) | (rw [yieldA_10 hgy hpn] at H; exact H) | (rw [yieldA_2 hgy hvs (by omega)] at H; exact H)
    · refine xr_op rfl rfl (xv_not rfl ?_)
      refine xr_op rfl rfl (xv_move rfl ?_)
      refine xr_no rfl rfl rfl rfl ?_
      refine xr_no rfl rfl rfl rfl ?_
      refine xr_no rfl rfl rfl rfl ?_
      refine xr_no rfl rfl rfl rfl ?_
      refine xr_op rfl rfl (xv_pick rfl rfl ?_)
      refine xr_op rfl rfl (xv_move rfl ?_)
      refine xr_no rfl rfl rfl rfl ?_
      refine xr_no rfl rfl rfl rfl ?_
      refine xr_no rfl rfl rfl rfl ?_
      refine xr_op rfl rfl (xv_pick rfl rfl ?_)
      refine xr_op rfl rfl (xv_assign rfl ?_)
      refine xr_end rfl ?_
      refine th_n ?_
      refine xc_true rfl ?_
      refine xc_seq (xc_region ?_)
      refine xr_op rfl rfl (xv_build bt33 rfl (by ((try apply evl_some rfl);(repeat (first|exact (rfl : _ = [])|apply evl_cons rfl (by (first|exact v_1|exact v_2|exact v_3|exact v_4|exact v_5|exact v_6|exact v_7|exact v_8|exact v_9|exact rfl))|exact rfl)))) ?_)
      refine xr_op rfl rfl (xv_s ty33 rfl rfl (by (first|(apply u_3;(repeat first|exact u_0|assumption|apply u_1|apply u_2);done)|((repeat first|exact u_0|assumption|apply u_1|apply u_2);done)|(apply u_3;apply u_3;(repeat first|exact u_0|assumption|apply u_1|apply u_2);done)|((repeat first|exact u_0|assumption|apply u_3|apply u_1);done))) (by ((try apply evl_some rfl);(repeat (first|exact (rfl : _ = [])|apply evl_cons rfl (by (first|exact v_1|exact v_2|exact v_3|exact v_4|exact v_5|exact v_6|exact v_7|exact v_8|exact v_9|exact rfl))|exact rfl)))) (by rfl) (by rfl) (by rfl) (by ((try apply evl_some rfl);(repeat (first|exact (rfl : _ = [])|apply evl_cons rfl (by (first|exact v_1|exact v_2|exact v_3|exact v_4|exact v_5|exact v_6|exact v_7|exact v_8|exact v_9|exact rfl))|exact rfl)))) ?_)
      refine xr_op rfl rfl (xv_assign rfl ?_)
      refine xr_end rfl ?_
      refine th_n ?_
      refine xc_ret ?_
      refine bk_r ?_
      refine th_r ?_
      refine body_ret (h' := h) rfl (ro_cellA ty33 rfl rfl (by ((repeat first|exact z_0|assumption|refine z_1 ?_|(refine z_l ?_;(repeat first|exact z_0|assumption|refine z_1 ?_);done)|refine z_r ?_);done)) (by rfl) (by rfl) (ro_tmp rfl ro_nil)) (by (first|((repeat first|exact s_0|exact s_1|exact s_3|refine s_4 ?_|refine s_5 ?_|refine s_6 ?_|refine s_7 ?_);done)|((repeat first|exact s_0|exact s_1|exact s_3|refine s_4 ?_|refine s_5 ?_|refine s_6 ?_|refine s_8 ?_);done))) ?_
      first | (rw [eans] at H; exact H) | (rw [yieldA_1 hng] at H; exact H) | (rw [yieldA_10 hgy hpn] at H; exact H) | (rw [yieldA_2 hgy hvs (by omega)] at H; exact H)

end Go.Proofs.Ytpefpafijadfmaa

/-
  Walks.
-/
namespace Go.Proofs.Ytpefpafijadfmaa
open Go Go.H
set_option maxRecDepth 100000
set_option maxHeartbeats 8000000
set_option linter.all false
theorem cloneI_c {l : List Int} {a : Option Addr} {c : Nat} {h : Hp} {R : Ending → Hp → Prop} (hl : SlV h 1 eI a l) (hlen : l.length ≤ 1000) (H : ∀ V, Vec.ok V 1 l.length (l.flatMap eI) → R (.returned (V.val l.length)) (V.hp 3 (l.flatMap eI) ++ h)) : ACalls Try.prog 48 ⟨[.slice a l.length c]⟩ h R := by
  refine calls_of_xc (N := 8) Try.func48 rfl (by rfl) ?_
  refine xc_seq (xc_region ?_)
  refine xr_op rfl rfl (xv_assign rfl ?_)
  refine xr_end rfl ?_
  refine th_n ?_
  refine xc_seq ?_
  refine xc_seq (xc_region ?_)
  cases a
  · refine xr_op rfl rfl (xv_move rfl ?_)
    refine xr_op rfl rfl (xv_eqNilS (b := true) sl38 rfl rfl rfl ?_)
    refine xr_end rfl ?_
    refine th_n ?_
    refine xc_true rfl ?_
    refine xc_seq (xc_region ?_)
    have hl0 := slv_none hl
    subst hl0
    refine xr_op rfl rfl (xv_assign rfl ?_)
    refine xr_end rfl ?_
    refine th_n ?_
    refine xc_ret ?_
    refine th_r ?_
    refine body_ret (h' := h) rfl (ro_tmp rfl ro_nil) (by (first|((repeat first|exact s_0|exact s_1|exact s_3|refine s_4 ?_|refine s_5 ?_|refine s_6 ?_|refine s_7 ?_);done)|((repeat first|exact s_0|exact s_1|exact s_3|refine s_4 ?_|refine s_5 ?_|refine s_6 ?_|refine s_8 ?_);done))) ?_
    first | exact H .nil ⟨rfl, rfl⟩ | exact H V hV
  · refine xr_op rfl rfl (xv_move rfl ?_)
    refine xr_op rfl rfl (xv_eqNilS (b := false) sl38 rfl rfl rfl ?_)
    refine xr_end rfl ?_
    refine th_n ?_
    refine xc_false rfl ?_
    refine xc_skip ?_
    refine th_n ?_
    refine xc_seq (xc_region ?_)
    refine xr_op rfl rfl ((al_buildSlice sl38 ty3 rfl rfl rfl rfl rfl (by ((try apply evl_some rfl);(repeat (first|exact (rfl : _ = [])|apply evl_cons rfl (by (first|exact v_1|exact v_2|exact v_3|exact v_4|exact v_5|exact v_6|exact v_7|exact v_8|exact v_9|exact rfl))|exact rfl))))).xv (fun b1 hb1 => ?_))
    refine xr_op rfl rfl (xv_move rfl ?_)
    refine xr_op rfl rfl (xv_copy (enc := eI) (xs := l) sl38 ty3 rfl rfl rfl rfl hl eI_len eI_1 (by (first|omega|(dsimp only at *;omega)|(simp at *;omega))) (by (first|omega|(dsimp only at *;omega)|(simp at *;omega))) (fun V hV => ?_))
    refine xr_op rfl rfl (xv_assign rfl ?_)
    refine xr_end rfl ?_
    refine th_n ?_
    refine xc_ret ?_
    refine body_ret (h' := (V.hp 3 (l.flatMap eI) ++ h)) rfl (ro_tmp rfl ro_nil) (by (first|((repeat first|exact s_0|exact s_1|exact s_3|refine s_4 ?_|refine s_5 ?_|refine s_6 ?_|refine s_7 ?_);done)|((repeat first|exact s_0|exact s_1|exact s_3|refine s_4 ?_|refine s_5 ?_|refine s_6 ?_|refine s_8 ?_);done))) ?_
    first | exact H .nil ⟨rfl, rfl⟩ | exact H V hV

end Go.Proofs.Ytpefpafijadfmaa

/-
  Walks.
-/
namespace Go.Proofs.Ytpefpafijadfmaa
open Go Go.H
set_option maxRecDepth 100000
set_option maxHeartbeats 8000000
set_option linter.all false
def FitsOk (d : Nat) : Prop := ∀ {core h : Hp} {l : List (List Int × Int)} {ts : List Int} {bt br bm bf : Nat} {ta : Option Addr} {tc : Nat} {ra : Option Addr} {rc : Nat} {ma : Option Addr} {mc : Nat} {coal n : Nat} {ci need : Int} {own : List Int} {oa : Option Addr} {oc : Nat} {R : Ending → Hp → Prop},
  FitsC core l ts bt br bm bf ta tc ra rc ma mc → core ⊆ h → ts.length - coal = d → coal ≤ ts.length → ci = coal → n = own.length → own.length = l.length → (∀ x ∈ own, 0 ≤ x ∧ x ≤ 33554432 * (coal : Int)) → (0 ≤ need ∧ need ≤ 1073741824 * (coal : Int)) → SlV h 1 eI oa own →
  (fitsF l (ts.drop coal) coal need own = true → R (.returned (.bool true)) h) → (fitsF l (ts.drop coal) coal need own = false → R (.returned (.bool false)) h) →
  ACalls Try.prog 47 ⟨[I ci, I need, .slice oa n oc, .pointer (some ⟨bt, 0, none⟩), .pointer (some ⟨br, 0, none⟩), .pointer (some ⟨bm, 0, none⟩), .pointer (some ⟨bf, 0, none⟩)]⟩ h R
theorem cloneN_c {l : List Int} {a : Option Addr} {n c : Nat} {h : Hp} {R : Ending → Hp → Prop} (hn : n = l.length) (hl : SlV h 1 eI a l) (hlen : l.length ≤ 1000) (H : ∀ V, Vec.ok V 1 n (l.flatMap eI) → R (.returned (.slice V.ad n V.cp)) (V.hp 3 (l.flatMap eI) ++ h)) : ACalls Try.prog 48 ⟨[.slice a n c]⟩ h R := by
  subst hn; exact cloneI_c hl hlen fun V hV => by rw [Vec.val_ad hV]; exact H V hV

theorem fits_step {d : Nat} (ih : ∀ j, j < d → FitsOk j) : FitsOk d := by
  intro core h l ts bt br bm bf ta tc ra rc ma mc coal n ci need own oa oc R hC hcs hd hcl hci hnn hol hob hnb hso H1 H2
  subst hci hnn
  refine calls_of_xc (N := 78) Try.func47 rfl (by rfl) ?_
  have mT := hcs hC.t
  have mR := hcs hC.r
  have mM := hcs hC.m
  have mF := hcs hC.f
  have hfew := hC.few
  have hts6 := hC.len
  refine xc_seq (xc_region ?_)
  refine xr_op rfl rfl (xv_assign rfl ?_)
  refine xr_end rfl ?_
  refine th_n ?_
  refine xc_seq ?_
  refine xc_seq (xc_region ?_)
  refine xr_op rfl rfl (xv_move rfl ?_)
  refine xr_op rfl rfl (xv_load1 ty38 rfl rfl (by ((repeat first|exact z_0|assumption|refine z_1 ?_|(refine z_l ?_;(repeat first|exact z_0|assumption|refine z_1 ?_);done)|refine z_r ?_);done)) (by rfl) ?_)
  refine xr_op rfl rfl (xv_len sl38 rfl ?_)
  refine xr_op rfl rfl (xv_eql2 rfl rfl (fun q1 => ?_) (fun q1 => ?_))
  · refine xr_end rfl ?_
    refine th_n ?_
    refine xc_true rfl ?_
    refine xc_seq (xc_region ?_)
    refine xr_op rfl rfl (xv_assign rfl ?_)
    refine xr_end rfl ?_
    refine th_n ?_
    refine xc_seq ?_
    refine xc_seq (xc_region ?_)
    refine xr_op rfl rfl (xv_load1 ty38 rfl rfl (by ((repeat first|exact z_0|assumption|refine z_1 ?_|(refine z_l ?_;(repeat first|exact z_0|assumption|refine z_1 ?_);done)|refine z_r ?_);done)) (by rfl) ?_)
    refine xr_op rfl rfl (xv_len sl38 rfl ?_)
    refine xr_op rfl rfl (xv_move rfl ?_)
    refine xr_end rfl ?_
    refine th_n ?_
    refine xc_block ?_
    refine xc_loop (σ := Nat) (fun k => k ≤ own.length) (fun k => ((((((((((emp.put (some 0) (I coal)).put (some 1) (I need)).put (some 2) (.slice oa own.length oc)).put (some 3) (.pointer (some ⟨bt, 0, none⟩))).put (some 4) (.pointer (some ⟨br, 0, none⟩))).put (some 5) (.pointer (some ⟨bm, 0, none⟩))).put (some 6) (.pointer (some ⟨bf, 0, none⟩))).put (some 11) (I (mnS l own k))).put (some 20) (I l.length)).put (some 21) (I k))) (fun k => h) (fun k => own.length - k) 0 (Nat.zero_le _) (le_put (le_put (le_put (le_put (le_put (le_put (le_put (le_put (le_put (le_put (le_emp _) rfl) rfl) rfl) rfl) rfl) rfl) rfl) rfl) rfl) rfl) (by (first|((repeat first|exact s_0|exact s_1|exact s_3|refine s_4 ?_|refine s_5 ?_|refine s_6 ?_|refine s_7 ?_);done)|((repeat first|exact s_0|exact s_1|exact s_3|refine s_4 ?_|refine s_5 ?_|refine s_6 ?_|refine s_8 ?_);done))) ?_
    rintro k hk
    refine xc_seq (xc_region ?_)
    refine xr_op rfl rfl (xv_lss2 rfl rfl (fun q2 => ?_) (fun q2 => ?_))
    · refine xr_end rfl ?_
      refine th_n ?_
      refine xc_seq ?_
      refine xc_true rfl ?_
      refine xc_skip ?_
      refine th_n ?_
      refine xc_seq ?_
      refine xc_block ?_
      refine xc_seq (xc_region ?_)
      have hlto : k < own.length := by (first|omega|(dsimp only at *;omega)|(simp at *;omega))
      obtain ⟨bo, oo, lo, to, fzo, hao, hmo, hxo⟩ := (hso).at hlto
      obtain ⟨xo, hko⟩ : ∃ qq_, own[k]? = some qq_ := ⟨_, List.getElem?_eq_getElem hlto⟩
      have hltr : k < l.length := by omega
      obtain ⟨br, or, lr, tr, fzr, har, hmr, hxr⟩ := (hC.rs.sub hcs).at hltr
      obtain ⟨xr, hkr⟩ : ∃ qq_, l[k]? = some qq_ := ⟨_, List.getElem?_eq_getElem hltr⟩
      have hgo : own.getD k 0 = xo := by rw [List.getD_eq_getElem?_getD, hko]; rfl
      have hob1 := hob xo (List.mem_of_getElem? hko)
      have hrb1 := (hC.ok xr (List.mem_of_getElem? hkr)).2.2
      have hmb := mnS_bd (l := l) (own := own) (fun x hx => by have := (hC.ok x hx).2.2; omega) (fun x hx => (hob x hx).1) k
      refine xr_op rfl rfl (xv_move rfl ?_)
      refine xr_op rfl rfl (xv_assign rfl ?_)
      refine xr_end rfl ?_
      refine th_n ?_
      refine xc_draw0 [(0, .S), (1, .R), (2, .S), (3, .S), (4, .R), (5, .S), (6, .S), (7, .S), (8, .R), (9, .S), (10, .S), (11, .S)] mixed (by kernel_rfl) ?_
      refine js_S rfl rfl (.inl rfl) (xv_move rfl ⟨rfl, rfl⟩) ?_
      refine js_R0 rfl rfl (.inl rfl) (xv_load1 ty38 rfl rfl (by ((repeat first|exact z_0|assumption|refine z_1 ?_|(refine z_l ?_;(repeat first|exact z_0|assumption|refine z_1 ?_);done)|refine z_r ?_);done)) (by rfl) ⟨rfl, rfl⟩) ?_
      refine js_S rfl rfl (.inl rfl) (xv_move rfl ⟨rfl, rfl⟩) ?_
      refine js_S rfl rfl (.inl rfl) (xv_ia (sz := 1) (j := k) sl38 ty3 rfl (by rw [har]; rfl) rfl (by (first | assumption | with_reducible exact Int.toNat_natCast _ | with_reducible rfl | rfl)) (by (first|omega|(dsimp only at *;omega)|(simp at *;omega))) (by (first|omega|(dsimp only at *;omega)|(simp at *;omega))) ⟨rfl, rfl⟩) ?_
      refine js_R0 rfl rfl (.inl rfl) (xv_load1 ty3 rfl rfl (by ((repeat first|exact z_0|assumption|refine z_1 ?_|(refine z_l ?_;(repeat first|exact z_0|assumption|refine z_1 ?_);done)|refine z_r ?_);done)) (take_get (hxr (k) xr hkr) (j := 0) rfl) ⟨rfl, rfl⟩) ?_
      refine js_S rfl rfl (.inl rfl) (xv_move rfl ⟨rfl, rfl⟩) ?_
      refine js_S rfl rfl (.inl rfl) (xv_move rfl ⟨rfl, rfl⟩) ?_
      refine js_S rfl rfl (.inl rfl) (xv_ia (sz := 1) (j := k) sl38 ty3 rfl (by rw [hao]; rfl) rfl (by (first | assumption | with_reducible exact Int.toNat_natCast _ | with_reducible rfl | rfl)) (by (first|omega|(dsimp only at *;omega)|(simp at *;omega))) (by (first|omega|(dsimp only at *;omega)|(simp at *;omega))) ⟨rfl, rfl⟩) ?_
      refine js_R0 rfl rfl (.inl rfl) (xv_load1 ty3 rfl rfl (by ((repeat first|exact z_0|assumption|refine z_1 ?_|(refine z_l ?_;(repeat first|exact z_0|assumption|refine z_1 ?_);done)|refine z_r ?_);done)) (take_get (hxo (k) xo hko) (j := 0) rfl) ⟨rfl, rfl⟩) ?_
      refine js_S rfl rfl (.inl rfl) (xv_min rfl rfl rfl ⟨rfl, rfl⟩) ?_
      refine js_S rfl rfl (.inl rfl) (xv_add rfl rfl (wrap_i64 (by (first|omega|(dsimp only at *;omega)|(simp at *;omega))) (by (first|omega|(dsimp only at *;omega)|(simp at *;omega)))) ⟨rfl, rfl⟩) ?_
      refine js_S rfl rfl (.inl rfl) (xv_assign rfl ⟨rfl, rfl⟩) ?_
      refine j_end0 ?_
      refine bk_n ?_
      refine th_n ?_
      refine xc_region ?_
      refine xr_op rfl rfl (xv_add rfl rfl (wrap_i64 (by (first|omega|(dsimp only at *;omega)|(simp at *;omega))) (by (first|omega|(dsimp only at *;omega)|(simp at *;omega)))) ?_)
      refine xr_op rfl rfl (xv_move rfl ?_)
      refine xr_end rfl ?_
      exact rnd (k + 1) (by (first|omega|(dsimp only at *;omega)|(simp at *;omega))) (by (first|omega|(dsimp only at *;omega)|(simp at *;omega))) (le_put (le_put (le_put (le_put (le_put (le_put (le_put (le_put (le_put (le_put (le_emp _) rfl) rfl) rfl) rfl) rfl) rfl) rfl) (by rw [mnS, lyr_at hkr, hgo]; rfl)) rfl) rfl) (by (first|((repeat first|exact s_0|exact s_1|exact s_3|refine s_4 ?_|refine s_5 ?_|refine s_6 ?_|refine s_7 ?_);done)|((repeat first|exact s_0|exact s_1|exact s_3|refine s_4 ?_|refine s_5 ?_|refine s_6 ?_|refine s_8 ?_);done)))
    · refine xr_end rfl ?_
      refine th_n ?_
      refine xc_seq ?_
      refine xc_false rfl ?_
      refine xc_exit ?_
      refine th_x ?_
      refine th_x ?_
      refine bk_same ?_
      refine th_n ?_
      refine xc_seq (xc_region ?_)
      obtain rfl : own.length = k := by (first|omega|(dsimp only at *;omega)|(simp at *;omega))
      rw [hol]
      refine xr_op rfl rfl (xv_move rfl ?_)
      refine xr_op rfl rfl (xv_move rfl ?_)
      refine xr_op rfl rfl (xv_leq2 rfl rfl (fun q3 => ?_) (fun q3 => ?_))
      · refine xr_op rfl rfl (xv_assign rfl ?_)
        refine xr_end rfl ?_
        refine th_n ?_
        refine xc_ret ?_
        refine th_r ?_
        refine body_ret (h' := h) rfl (ro_tmp rfl ro_nil) (by (first|((repeat first|exact s_0|exact s_1|exact s_3|refine s_4 ?_|refine s_5 ?_|refine s_6 ?_|refine s_7 ?_);done)|((repeat first|exact s_0|exact s_1|exact s_3|refine s_4 ?_|refine s_5 ?_|refine s_6 ?_|refine s_8 ?_);done))) ?_
        first | exact H1 (by rw [List.drop_of_length_le (by omega)]; exact decide_eq_true (by omega)) | exact H2 (by rw [List.drop_of_length_le (by omega)]; exact decide_eq_false (by omega))
      · refine xr_op rfl rfl (xv_assign rfl ?_)
        refine xr_end rfl ?_
        refine th_n ?_
        refine xc_ret ?_
        refine th_r ?_
        refine body_ret (h' := h) rfl (ro_tmp rfl ro_nil) (by (first|((repeat first|exact s_0|exact s_1|exact s_3|refine s_4 ?_|refine s_5 ?_|refine s_6 ?_|refine s_7 ?_);done)|((repeat first|exact s_0|exact s_1|exact s_3|refine s_4 ?_|refine s_5 ?_|refine s_6 ?_|refine s_8 ?_);done))) ?_
        first | exact H1 (by rw [List.drop_of_length_le (by omega)]; exact decide_eq_true (by omega)) | exact H2 (by rw [List.drop_of_length_le (by omega)]; exact decide_eq_false (by omega))
  · refine xr_end rfl ?_
    refine th_n ?_
    refine xc_false rfl ?_
    refine xc_skip ?_
    refine th_n ?_
    refine xc_seq (xc_region ?_)
    refine xr_op rfl rfl (xv_move rfl ?_)
    refine xr_op rfl rfl (xv_calls rfl hb48 (cloneN_c rfl hso (by omega) (fun V hV0 => up_ret ?_)))
    refine xr_op rfl rfl (xv_assign rfl ?_)
    refine xr_end rfl ?_
    refine th_n ?_
    refine xc_seq ?_
    refine xc_seq (xc_region ?_)
    refine xr_op rfl rfl (xv_move rfl ?_)
    refine xr_op rfl rfl (xv_len sl38 rfl ?_)
    refine xr_op rfl rfl (xv_move rfl ?_)
    refine xr_end rfl ?_
    refine th_n ?_
    refine xc_block ?_
    refine xc_loop (σ := Nat × Unit) (fun z => z.1 ≤ own.length ∧ V.ok 1 own.length ((ownN l coal own z.1).flatMap eI)) (fun z => ((((((((((emp.put (some 0) (I coal)).put (some 1) (I need)).put (some 2) (.slice oa own.length oc)).put (some 3) (.pointer (some ⟨bt, 0, none⟩))).put (some 4) (.pointer (some ⟨br, 0, none⟩))).put (some 5) (.pointer (some ⟨bm, 0, none⟩))).put (some 6) (.pointer (some ⟨bf, 0, none⟩))).put (some 13) (.slice V.ad own.length V.cp)).put (some 42) (I own.length)).put (some 43) (I z.1))) (fun z => (V.hp 3 ((ownN l coal own z.1).flatMap eI) ++ h)) (fun z => own.length - z.1) ((0, ()) : Nat × Unit) ⟨Nat.zero_le _, by dsimp only; rw [ownN_0]; exact hV0⟩ (le_put (le_put (le_put (le_put (le_put (le_put (le_put (le_put (le_put (le_put (le_emp _) rfl) rfl) rfl) rfl) rfl) rfl) rfl) rfl) rfl) rfl) (by dsimp only; rw [ownN_0]; (first|((repeat first|exact s_0|exact s_1|exact s_3|refine s_4 ?_|refine s_5 ?_|refine s_6 ?_|refine s_7 ?_);done)|((repeat first|exact s_0|exact s_1|exact s_3|refine s_4 ?_|refine s_5 ?_|refine s_6 ?_|refine s_8 ?_);done))) ?_
    rintro ⟨k, u9⟩ ⟨hk, hV⟩
    dsimp only at hk hV
    refine xc_seq (xc_region ?_)
    refine xr_op rfl rfl (xv_lss2 rfl rfl (fun q4 => ?_) (fun q4 => ?_))
    · refine xr_end rfl ?_
      refine th_n ?_
      refine xc_seq ?_
      refine xc_true rfl ?_
      refine xc_skip ?_
      refine th_n ?_
      refine xc_seq ?_
      refine xc_block ?_
      refine xc_seq (xc_region ?_)
      have hltr : k < l.length := by (first|omega|(dsimp only at *;omega)|(simp at *;omega))
      obtain ⟨br, or, lr, tr, fzr, har, hmr, hxr⟩ := (hC.ms.sub hcs).at hltr
      obtain ⟨xr, hkr⟩ : ∃ qq_, l[k]? = some qq_ := ⟨_, List.getElem?_eq_getElem hltr⟩
      have hc6 : coal < 6 := by (first|omega|(dsimp only at *;omega)|(simp at *;omega))
      have hkp : k < own.length := by (first|omega|(dsimp only at *;omega)|(simp at *;omega))
      have hgt := ownN_get (l := l) (c := coal) hkp
      have hob1 := getD_bd (B := 33554432 * (coal : Int)) (by omega) hob k
      have hrb1 := getD_bd (by decide) (hC.ok xr (List.mem_of_getElem? hkr)).2.1 coal
      obtain ⟨bv, sv, hva, hvm, hvu, hvo⟩ := vec_updI (t := 3) (ys := (ownN l coal own (k + 1))) hV (by omega) (by rw [ownN_len, ownN_len])
      have hvu2 := u_3 (f := h) hvu
      have hst := ownN_set (l := l) (c := coal) hkp
      rw [lyr_at hkr] at hst
      refine xr_op rfl rfl (xv_move rfl ?_)
      refine xr_op rfl rfl (xv_assign rfl ?_)
      refine xr_end rfl ?_
      refine th_n ?_
      refine xc_draw0 [(0, .S), (1, .S), (2, .S), (3, .R), (4, .R), (5, .S), (6, .S), (7, .S), (8, .S), (9, .R), (10, .S), (11, .S), (12, .O)] mixed (by kernel_rfl) ?_
      refine js_S rfl rfl (.inl rfl) (xv_move rfl ⟨rfl, rfl⟩) ?_
      refine js_S rfl rfl (.inl rfl) (xv_move rfl ⟨rfl, rfl⟩) ?_
      refine js_S rfl rfl (.inl rfl) (xv_ia (sz := 1) (j := k) sl38 ty3 rfl (by rw [hva]; rfl) rfl (by (first | assumption | with_reducible exact Int.toNat_natCast _ | with_reducible rfl | rfl)) (by (first|omega|(dsimp only at *;omega)|(simp at *;omega))) (by (first|omega|(dsimp only at *;omega)|(simp at *;omega))) ⟨rfl, rfl⟩) ?_
      refine js_R0 rfl rfl (.inl rfl) (xv_load1 ty3 rfl rfl (z_l hvm) (getL (ints_get hgt)) ⟨rfl, rfl⟩) ?_
      refine js_R0 rfl rfl (.inl rfl) (xv_load1 ty100 rfl rfl (by ((repeat first|exact z_0|assumption|refine z_1 ?_|(refine z_l ?_;(repeat first|exact z_0|assumption|refine z_1 ?_);done)|refine z_r ?_);done)) (by rfl) ⟨rfl, rfl⟩) ?_
      refine js_S rfl rfl (.inl rfl) (xv_move rfl ⟨rfl, rfl⟩) ?_
      refine js_S rfl rfl (.inl rfl) (xv_move rfl ⟨rfl, rfl⟩) ?_
      refine js_S rfl rfl (.inl rfl) (xv_ia (sz := 6) (j := k) sl100 ty80 rfl (by rw [har]; rfl) rfl (by (first | assumption | with_reducible exact Int.toNat_natCast _ | with_reducible rfl | rfl)) (by (first|omega|(dsimp only at *;omega)|(simp at *;omega))) (by (first|omega|(dsimp only at *;omega)|(simp at *;omega))) ⟨rfl, rfl⟩) ?_
      refine js_S rfl rfl (.inl rfl) (xv_iaA (sz := 1) (j := coal) Try.underlying80 ty3 rfl rfl rfl (by (first | assumption | with_reducible exact Int.toNat_natCast _ | with_reducible rfl | rfl)) (by (first|omega|(dsimp only at *;omega)|(simp at *;omega))) (by (first|omega|(dsimp only at *;omega)|(simp at *;omega))) ⟨rfl, rfl⟩) ?_
      refine js_R0 rfl rfl (.inl rfl) (xv_load1 ty3 rfl rfl (by ((repeat first|exact z_0|assumption|refine z_1 ?_|(refine z_l ?_;(repeat first|exact z_0|assumption|refine z_1 ?_);done)|refine z_r ?_);done)) (by rw [Nat.mul_one]; exact take_get (hxr k xr hkr) (eM_get hc6)) ⟨rfl, rfl⟩) ?_
      refine js_S rfl rfl (.inl rfl) (xv_add rfl rfl (wrap_i64 (by (first|omega|(dsimp only at *;omega)|(simp at *;omega))) (by (first|omega|(dsimp only at *;omega)|(simp at *;omega)))) ⟨rfl, rfl⟩) ?_
      refine js_S rfl rfl (.inl rfl) (xv_ia (sz := 1) (j := k) sl38 ty3 rfl (by rw [hva]; rfl) rfl (by (first | assumption | with_reducible exact Int.toNat_natCast _ | with_reducible rfl | rfl)) (by (first|omega|(dsimp only at *;omega)|(simp at *;omega))) (by (first|omega|(dsimp only at *;omega)|(simp at *;omega))) ⟨rfl, rfl⟩) ?_
      refine js_O0 rfl rfl (.inl rfl) (xv_s1 (l := (ownN l coal own k).flatMap eI ++ sv) (l' := (ownN l coal own (k + 1)).flatMap eI ++ sv) ty3 rfl rfl rfl hvu2 rfl (by rw [List.length_append, ints_len, ownN_len]; omega) (by rw [List.set_append_left _ _ (by rw [ints_len, ownN_len]; omega), ← hst]; exact congrArg (· ++ sv) (ints_setN (by rw [ownN_len]; omega))) ?_)
      refine j_end0 ?_
      refine bk_n ?_
      refine th_n ?_
      refine xc_region ?_
      refine xr_op rfl rfl (xv_add rfl rfl (wrap_i64 (by (first|omega|(dsimp only at *;omega)|(simp at *;omega))) (by (first|omega|(dsimp only at *;omega)|(simp at *;omega)))) ?_)
      refine xr_op rfl rfl (xv_move rfl ?_)
      refine xr_end rfl ?_
      exact rnd ((k + 1, ()) : Nat × Unit) ⟨by (first|omega|(dsimp only at *;omega)|(simp at *;omega)), hvo⟩ (by (first|omega|(dsimp only at *;omega)|(simp at *;omega))) (le_put (le_put (le_put (le_put (le_put (le_put (le_put (le_put (le_put (le_put (le_emp _) rfl) rfl) rfl) rfl) rfl) rfl) rfl) rfl) rfl) rfl) (by (first|((repeat first|exact s_0|exact s_1|exact s_3|refine s_4 ?_|refine s_5 ?_|refine s_6 ?_|refine s_7 ?_);done)|((repeat first|exact s_0|exact s_1|exact s_3|refine s_4 ?_|refine s_5 ?_|refine s_6 ?_|refine s_8 ?_);done)))
    · refine xr_end rfl ?_
      refine th_n ?_
      refine xc_seq ?_
      refine xc_false rfl ?_
      refine xc_exit ?_
      refine th_x ?_
      refine th_x ?_
      refine bk_same ?_
      refine th_n ?_
      refine xc_seq ?_
      refine xc_draw0 [(0, .R), (1, .S), (2, .S), (3, .S), (4, .S), (5, .O), (6, .S), (7, .R), (8, .S), (9, .S), (10, .S), (11, .R), (12, .S), (13, .S), (14, .R), (15, .S), (16, .S), (17, .O), (18, .S), (19, .S)] mixed (by kernel_rfl) ?_
      obtain rfl : own.length = k := by (first|omega|(dsimp only at *;omega)|(simp at *;omega))
      have hlt : coal < ts.length := by (first|omega|(dsimp only at *;omega)|(simp at *;omega))
      obtain ⟨t, ht⟩ : ∃ t, ts[coal]? = some t := ⟨_, List.getElem?_eq_getElem hlt⟩
      have htb := hC.tb t (List.mem_of_getElem? ht)
      have hdr : ts.drop coal = t :: ts.drop (coal + 1) := by rw [List.drop_eq_getElem_cons hlt, (List.getElem?_eq_some_iff.1 ht).2]
      have hon : ∀ x ∈ own, 0 ≤ x ∧ x ≤ 33554432 * ((coal + 1 : Nat) : Int) := fun x hx => by have := hob x hx; push_cast; omega
      have hon2 : ∀ x ∈ (ownN l coal own own.length), 0 ≤ x ∧ x ≤ 33554432 * ((coal + 1 : Nat) : Int) := fun x hx => by have := ownN_bd (l := l) (fun x hx => (hC.ok x hx).2.1) hob x hx; push_cast; omega
      refine js_R0 rfl rfl (.inl rfl) (xv_load1 ty101 rfl rfl (by ((repeat first|exact z_0|assumption|refine z_1 ?_|(refine z_l ?_;(repeat first|exact z_0|assumption|refine z_1 ?_);done)|refine z_r ?_);done)) (by rfl) ⟨rfl, rfl⟩) ?_
      refine js_S rfl rfl (.inl rfl) (xv_move rfl ⟨rfl, rfl⟩) ?_
      refine js_S rfl rfl (.inl rfl) (xv_add rfl rfl (wrap_i64 (by (first|omega|(dsimp only at *;omega)|(simp at *;omega))) (by (first|omega|(dsimp only at *;omega)|(simp at *;omega)))) ⟨rfl, rfl⟩) ?_
      refine js_S rfl rfl (.inl rfl) (xv_move rfl ⟨rfl, rfl⟩) ?_
      refine js_S rfl rfl (.inl rfl) (xv_move rfl ⟨rfl, rfl⟩) ?_
      refine js_O0 rfl rfl (.inl rfl) (xv_fn rfl rfl (afn_func (fi := []) hb47 (ih (ts.length - (coal + 1)) (by omega) (own := own) (hC.sub hcs) (by intro z hz; ((repeat first|exact z_0|assumption|refine z_1 ?_|(refine z_l ?_;(repeat first|exact z_0|assumption|refine z_1 ?_);done)|refine z_r ?_);done)) rfl (by omega) (by push_cast; omega) rfl hol hon (by push_cast; omega) (hso.sub (by intro z hz; ((repeat first|exact z_0|assumption|refine z_1 ?_|(refine z_l ?_;(repeat first|exact z_0|assumption|refine z_1 ?_);done)|refine z_r ?_);done))) (fun hq1 => up_ret ?_) (fun hq1 => up_ret ?_))))
      · refine js_S rfl rfl (.inl rfl) (xv_move rfl ⟨rfl, rfl⟩) ?_
        refine js_R0 rfl rfl (.inr ⟨_, _, rfl, rfl⟩) (xv_load1 ty101 rfl rfl (by ((repeat first|exact z_0|assumption|refine z_1 ?_|(refine z_l ?_;(repeat first|exact z_0|assumption|refine z_1 ?_);done)|refine z_r ?_);done)) (by rfl) ⟨rfl, rfl⟩) ?_
        refine js_S rfl rfl (.inr ⟨_, _, rfl, rfl⟩) (xv_move rfl ⟨rfl, rfl⟩) ?_
        refine js_S rfl rfl (.inr ⟨_, _, rfl, rfl⟩) (xv_add rfl rfl (wrap_i64 (by (first|omega|(dsimp only at *;omega)|(simp at *;omega))) (by (first|omega|(dsimp only at *;omega)|(simp at *;omega)))) ⟨rfl, rfl⟩) ?_
        refine js_S rfl rfl (.inr ⟨_, _, rfl, rfl⟩) (xv_move rfl ⟨rfl, rfl⟩) ?_
        have hlte : coal < ts.length := hlt
        obtain ⟨be, oe, le, te, fze, hae, hme, hxe⟩ := (hC.tv.sub hcs).at hlte
        obtain ⟨xe, hke⟩ : ∃ qq_, ts[coal]? = some qq_ := ⟨_, List.getElem?_eq_getElem hlte⟩
        obtain rfl : xe = t := Option.some.inj (hke.symm.trans ht)
        refine js_R0 rfl rfl (.inr ⟨_, _, rfl, rfl⟩) (xv_load1 ty38 rfl rfl (by ((repeat first|exact z_0|assumption|refine z_1 ?_|(refine z_l ?_;(repeat first|exact z_0|assumption|refine z_1 ?_);done)|refine z_r ?_);done)) (by rfl) ⟨rfl, rfl⟩) ?_
        refine js_S rfl rfl (.inr ⟨_, _, rfl, rfl⟩) (xv_move rfl ⟨rfl, rfl⟩) ?_
        refine js_S rfl rfl (.inr ⟨_, _, rfl, rfl⟩) (xv_ia (sz := 1) (j := coal) sl38 ty3 rfl (by rw [hae]; rfl) rfl (by (first | assumption | with_reducible exact Int.toNat_natCast _ | with_reducible rfl | rfl)) (by (first|omega|(dsimp only at *;omega)|(simp at *;omega))) (by (first|omega|(dsimp only at *;omega)|(simp at *;omega))) ⟨rfl, rfl⟩) ?_
        refine js_R0 rfl rfl (.inr ⟨_, _, rfl, rfl⟩) (xv_load1 ty3 rfl rfl (by ((repeat first|exact z_0|assumption|refine z_1 ?_|(refine z_l ?_;(repeat first|exact z_0|assumption|refine z_1 ?_);done)|refine z_r ?_);done)) (take_get (hxe (coal) xe hke) (j := 0) rfl) ⟨rfl, rfl⟩) ?_
        refine js_S rfl rfl (.inr ⟨_, _, rfl, rfl⟩) (xv_add rfl rfl (wrap_i64 (by (first|omega|(dsimp only at *;omega)|(simp at *;omega))) (by (first|omega|(dsimp only at *;omega)|(simp at *;omega)))) ⟨rfl, rfl⟩) ?_
        refine js_S rfl rfl (.inr ⟨_, _, rfl, rfl⟩) (xv_move rfl ⟨rfl, rfl⟩) ?_
        refine js_O0 rfl rfl (.inr ⟨_, _, rfl, rfl⟩) (xv_fn rfl rfl (afn_func (fi := []) hb47 (ih (ts.length - (coal + 1)) (by omega) (own := (ownN l coal own own.length)) (hC.sub hcs) (by intro z hz; ((repeat first|exact z_0|assumption|refine z_1 ?_|(refine z_l ?_;(repeat first|exact z_0|assumption|refine z_1 ?_);done)|refine z_r ?_);done)) rfl (by omega) (by push_cast; omega) (by rw [ownN_len]) (by rw [ownN_len]; exact hol) hon2 (by push_cast; omega) ((Vec.slvA (t := 3) eI_len (by rw [ownN_len]) hV).sub (by intro z hz; ((repeat first|exact z_0|assumption|refine z_1 ?_|(refine z_l ?_;(repeat first|exact z_0|assumption|refine z_1 ?_);done)|refine z_r ?_);done))) (fun hq2 => up_ret ?_) (fun hq2 => up_ret ?_))))
        · refine js_S rfl rfl (.inl rfl) (xv_pick rfl rfl ⟨rfl, rfl⟩) ?_
          refine js_S rfl rfl (.inl rfl) (xv_assign rfl ⟨rfl, rfl⟩) ?_
          refine j_end0 ?_
          refine th_n ?_
          refine xc_ret ?_
          refine body_ret (h' := h) rfl (ro_tmp rfl ro_nil) (by (first|((repeat first|exact s_0|exact s_1|exact s_3|refine s_4 ?_|refine s_5 ?_|refine s_6 ?_|refine s_7 ?_);done)|((repeat first|exact s_0|exact s_1|exact s_3|refine s_4 ?_|refine s_5 ?_|refine s_6 ?_|refine s_8 ?_);done))) ?_
          first | exact H1 (by rw [hdr, fitsF, hq1, ← hol, hq2]; rfl) | exact H2 (by rw [hdr, fitsF, hq1, ← hol, hq2]; rfl) | exact H2 (by rw [hdr, fitsF, hq1]; rfl)
        · refine js_S rfl rfl (.inl rfl) (xv_pick rfl rfl ⟨rfl, rfl⟩) ?_
          refine js_S rfl rfl (.inl rfl) (xv_assign rfl ⟨rfl, rfl⟩) ?_
          refine j_end0 ?_
          refine th_n ?_
          refine xc_ret ?_
          refine body_ret (h' := h) rfl (ro_tmp rfl ro_nil) (by (first|((repeat first|exact s_0|exact s_1|exact s_3|refine s_4 ?_|refine s_5 ?_|refine s_6 ?_|refine s_7 ?_);done)|((repeat first|exact s_0|exact s_1|exact s_3|refine s_4 ?_|refine s_5 ?_|refine s_6 ?_|refine s_8 ?_);done))) ?_
          first | exact H1 (by rw [hdr, fitsF, hq1, ← hol, hq2]; rfl) | exact H2 (by rw [hdr, fitsF, hq1, ← hol, hq2]; rfl) | exact H2 (by rw [hdr, fitsF, hq1]; rfl)
      · refine js_S rfl rfl (.inl rfl) (xv_move rfl ⟨rfl, rfl⟩) ?_
        refine js_Rs rfl rfl ⟨_, _, _, rfl, rfl, rfl⟩ ?_
        refine js_Ss rfl rfl ⟨_, _, _, rfl, rfl, rfl⟩ ?_
        refine js_Ss rfl rfl ⟨_, _, _, rfl, rfl, rfl⟩ ?_
        refine js_Ss rfl rfl ⟨_, _, _, rfl, rfl, rfl⟩ ?_
        refine js_Rs rfl rfl ⟨_, _, _, rfl, rfl, rfl⟩ ?_
        refine js_Ss rfl rfl ⟨_, _, _, rfl, rfl, rfl⟩ ?_
        refine js_Ss rfl rfl ⟨_, _, _, rfl, rfl, rfl⟩ ?_
        refine js_Rs rfl rfl ⟨_, _, _, rfl, rfl, rfl⟩ ?_
        refine js_Ss rfl rfl ⟨_, _, _, rfl, rfl, rfl⟩ ?_
        refine js_Ss rfl rfl ⟨_, _, _, rfl, rfl, rfl⟩ ?_
        refine js_Os rfl rfl ⟨_, _, _, rfl, rfl, rfl⟩ ?_
        refine js_S rfl rfl (.inl rfl) (xv_pick rfl rfl ⟨rfl, rfl⟩) ?_
        refine js_S rfl rfl (.inl rfl) (xv_assign rfl ⟨rfl, rfl⟩) ?_
        refine j_end0 ?_
        refine th_n ?_
        refine xc_ret ?_
        refine body_ret (h' := h) rfl (ro_tmp rfl ro_nil) (by (first|((repeat first|exact s_0|exact s_1|exact s_3|refine s_4 ?_|refine s_5 ?_|refine s_6 ?_|refine s_7 ?_);done)|((repeat first|exact s_0|exact s_1|exact s_3|refine s_4 ?_|refine s_5 ?_|refine s_6 ?_|refine s_8 ?_);done))) ?_
        first | exact H1 (by rw [hdr, fitsF, hq1, ← hol, hq2]; rfl) | exact H2 (by rw [hdr, fitsF, hq1, ← hol, hq2]; rfl) | exact H2 (by rw [hdr, fitsF, hq1]; rfl)

theorem fits_all (d : Nat) : FitsOk d := by
  induction d using Nat.strongRecOn with
  | _ d ih => exact fits_step ih
theorem fits0_c {core h : Hp} {l : List (List Int × Int)} {ts : List Int} {bt br bm bf : Nat} {ta : Option Addr} {tc : Nat} {ra : Option Addr} {rc : Nat} {ma : Option Addr} {mc n : Nat} {oa : Option Addr} {oc : Nat} {R : Ending → Hp → Prop} (hC : FitsC core l ts bt br bm bf ta tc ra rc ma mc) (hcs : core ⊆ h) (hn : n = l.length) (ho : SlV h 1 eI oa (List.replicate n 0))
    (H1 : fitsF l ts 0 0 (List.replicate l.length 0) = true → R (.returned (.bool true)) h) (H2 : fitsF l ts 0 0 (List.replicate l.length 0) = false → R (.returned (.bool false)) h) :
    ACalls Try.prog 47 ⟨[I 0, I 0, .slice oa n oc, .pointer (some ⟨bt, 0, none⟩), .pointer (some ⟨br, 0, none⟩), .pointer (some ⟨bm, 0, none⟩), .pointer (some ⟨bf, 0, none⟩)]⟩ h R := by
  subst hn
  exact fits_all _ (coal := 0) (own := List.replicate l.length 0) hC hcs rfl (Nat.zero_le _) rfl (by rw [List.length_replicate]) (by rw [List.length_replicate]) (fun z hz => by rw [List.eq_of_mem_replicate hz]; simp) (by simp) ho H1 H2

end Go.Proofs.Ytpefpafijadfmaa
