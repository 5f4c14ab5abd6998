/-
  Walks.
-/
import Derived.Test.YtpefpafijadfmaaW3
import Derived.Test.YtpefpafijadfmaaW25
import Derived.Test.YtpefpafijadfmaaW20
import Derived.Test.YtpefpafijadfmaaP23
import Derived.Test.YtpefpafijadfmaaW21
namespace Go.Proofs.Ytpefpafijadfmaa
open Go Go.H
set_option maxRecDepth 100000
set_option maxHeartbeats 8000000
set_option linter.all false
theorem Can_c {y : Yard} {h : Hp} {R : Ending → Hp → Prop} (hy : YardV h y) (hs : Small y) {draw : Int} {ta : Option Addr} {tc : Nat} {ts : List Int} (ht : SlV h 1 eI ta ts) (H : R (.returned (.tuple ⟨[.bool (canA y draw ts).1, I (canA y draw ts).2]⟩)) h) : ACalls Try.prog 17 ⟨[.agg ⟨eYard y⟩, I draw, .slice ta ts.length tc]⟩ h R := by
  refine calls_of_xc (N := 94) Try.func17 rfl (by rfl) ?_
  obtain ⟨hs1, hs2⟩ := id hs
  refine xc_seq (xc_region ?_)
  refine xr_op rfl rfl (xv_box rfl (fun b3 hb3 => ?_))
  refine xr_op rfl rfl (xv_box rfl (fun b5 hb5 => ?_))
  refine xr_op rfl rfl (xv_assign rfl ?_)
  refine xr_op rfl rfl (xv_assign rfl ?_)
  refine xr_end rfl ?_
  refine th_n ?_
  refine xc_seq (xc_region ?_)
  refine xr_op rfl rfl (xv_loadA ty25 rfl rfl (by ((repeat first|exact z_0|assumption|refine z_1 ?_|(refine z_l ?_;(repeat first|exact z_0|assumption|refine z_1 ?_);done)|refine z_r ?_);done)) (by ((try apply evl_some rfl);(repeat (first|exact (rfl : _ = [])|apply evl_cons rfl (by (first|exact v_1|exact v_2|exact v_3|exact v_4|exact v_5|exact v_6|exact v_7|exact v_8|exact v_9|exact rfl))|exact rfl)))) (by rfl) ?_)
  refine xr_op rfl rfl (xv_calls rfl hb30 (newShed_c (hy.sub (by intro z hz; ((repeat first|exact z_0|assumption|refine z_1 ?_|(refine z_l ?_;(repeat first|exact z_0|assumption|refine z_1 ?_);done)|refine z_r ?_);done))) hs (fun hng => up_ret ?_) (fun hgy hpn => up_ret ?_) (fun vs b la lc bs da dc ds G hgy hvs hsh => up_ret ?_)))
  · refine xr_op rfl rfl (xv_move rfl ?_)
    refine xr_op rfl rfl (xv_extract rfl rfl ?_)
    refine xr_op rfl rfl (xv_extract rfl rfl ?_)
    refine xr_op rfl rfl (xv_assign rfl ?_)
    refine xr_op rfl rfl (xv_assign rfl ?_)
    refine xr_end rfl ?_
    refine th_n ?_
    refine xc_seq ?_
    refine xc_block ?_
    refine xc_seq (xc_region ?_)
    refine xr_op rfl rfl (xv_move rfl ?_)
    refine xr_op rfl rfl (xv_neqT rfl rfl (by decide) ?_)
    refine xr_op rfl rfl (xv_assign rfl ?_)
    refine xr_end rfl ?_
    refine th_n ?_
    refine xc_true rfl ?_
    refine xc_seq (xc_region ?_)
    refine xr_op rfl rfl (xv_move rfl ?_)
    refine xr_op rfl rfl (xv_assign rfl ?_)
    refine xr_op rfl rfl (xv_assign rfl ?_)
    refine xr_end rfl ?_
    refine th_n ?_
    refine xc_ret ?_
    refine bk_r ?_
    refine th_r ?_
    refine body_ret (h' := h) rfl (ro_tmp rfl (ro_tmp rfl ro_nil)) (by (first|((repeat first|exact s_0|exact s_1|exact s_3|refine s_4 ?_|refine s_5 ?_|refine s_6 ?_|refine s_7 ?_);done)|((repeat first|exact s_0|exact s_1|exact s_3|refine s_4 ?_|refine s_5 ?_|refine s_6 ?_|refine s_8 ?_);done))) ?_
    first | (rw [eans, hco] at H; exact H) | (rw [eans, hci, decide_eq_true hsq, hft] at H; exact H) | (rw [eans, hci, decide_eq_false hsq] at H; exact H) | (rw [canA_1 hng] at H; exact H) | (rw [canA_10 hgy hpn] at H; exact H) | (rw [canA_2 hgy hvs (by omega)] at H; exact H)
  · refine xr_op rfl rfl (xv_move rfl ?_)
    refine xr_op rfl rfl (xv_extract rfl rfl ?_)
    refine xr_op rfl rfl (xv_extract rfl rfl ?_)
    refine xr_op rfl rfl (xv_assign rfl ?_)
    refine xr_op rfl rfl (xv_assign rfl ?_)
    refine xr_end rfl ?_
    refine th_n ?_
    refine xc_seq ?_
    refine xc_block ?_
    refine xc_seq (xc_region ?_)
    refine xr_op rfl rfl (xv_move rfl ?_)
    refine xr_op rfl rfl (xv_neqT rfl rfl (by decide) ?_)
    refine xr_op rfl rfl (xv_assign rfl ?_)
    refine xr_end rfl ?_
    refine th_n ?_
    refine xc_true rfl ?_
    refine xc_seq (xc_region ?_)
    refine xr_op rfl rfl (xv_move rfl ?_)
    refine xr_op rfl rfl (xv_assign rfl ?_)
    refine xr_op rfl rfl (xv_assign rfl ?_)
    refine xr_end rfl ?_
    refine th_n ?_
    refine xc_ret ?_
    refine bk_r ?_
    refine th_r ?_
    refine body_ret (h' := h) rfl (ro_tmp rfl (ro_tmp rfl ro_nil)) (by (first|((repeat first|exact s_0|exact s_1|exact s_3|refine s_4 ?_|refine s_5 ?_|refine s_6 ?_|refine s_7 ?_);done)|((repeat first|exact s_0|exact s_1|exact s_3|refine s_4 ?_|refine s_5 ?_|refine s_6 ?_|refine s_8 ?_);done))) ?_
    first | (rw [eans, hco] at H; exact H) | (rw [eans, hci, decide_eq_true hsq, hft] at H; exact H) | (rw [eans, hci, decide_eq_false hsq] at H; exact H) | (rw [canA_1 hng] at H; exact H) | (rw [canA_10 hgy hpn] at H; exact H) | (rw [canA_2 hgy hvs (by omega)] at H; exact H)
  · refine xr_op rfl rfl (xv_move rfl ?_)
    refine xr_op rfl rfl (xv_extract rfl rfl ?_)
    refine xr_op rfl rfl (xv_extract rfl rfl ?_)
    refine xr_op rfl rfl (xv_assign rfl ?_)
    refine xr_op rfl rfl (xv_assign rfl ?_)
    refine xr_end rfl ?_
    refine th_n ?_
    refine xc_seq ?_
    refine xc_block ?_
    refine xc_seq (xc_region ?_)
    refine xr_op rfl rfl (xv_move rfl ?_)
    refine xr_op rfl rfl (xv_neqF rfl rfl rfl ?_)
    refine xr_op rfl rfl (xv_assign rfl ?_)
    refine xr_end rfl ?_
    refine th_n ?_
    refine xc_false rfl ?_
    refine xc_seq (xc_region ?_)
    have hcn := hsh.cnt
    have mtop := hsh.top
    have hm32 := hgy.2.2.2
    have hfw := hsh.inv.few
    refine xr_op rfl rfl (xv_move rfl ?_)
    refine xr_op rfl rfl (xv_move rfl ?_)
    refine xr_op rfl rfl (xv_nilp rfl ?_)
    refine xr_op rfl rfl (xv_faddr fl73_2 rfl ?_)
    refine xr_op rfl rfl (xv_load1 ty71 rfl rfl (by ((repeat first|exact z_0|assumption|refine z_1 ?_|(refine z_l ?_;(repeat first|exact z_0|assumption|refine z_1 ?_);done)|refine z_r ?_);done)) (by rfl) ?_)
    refine xr_op rfl rfl (xv_len sl71 rfl ?_)
    refine xr_op rfl rfl (xv_sub rfl rfl (wrap_i64 (by (first|omega|(dsimp only at *;omega)|(simp at *;omega))) (by (first|omega|(dsimp only at *;omega)|(simp at *;omega)))) ?_)
    refine xr_op rfl rfl (xv_calls rfl hb31 (within_c _ _ _ (fun hl1 hu2 => up_ret ?_) (fun hn3 => up_ret ?_)))
    · refine xr_op rfl rfl (xv_not rfl ?_)
      refine xr_op rfl rfl (xv_move rfl ?_)
      refine xr_gd rfl rfl rfl (xv_load1 ty38 rfl rfl (by ((repeat first|exact z_0|assumption|refine z_1 ?_|(refine z_l ?_;(repeat first|exact z_0|assumption|refine z_1 ?_);done)|refine z_r ?_);done)) (by rfl) ?_)
      refine xr_gd rfl rfl rfl (xv_len sl38 rfl ?_)
      refine xr_gd rfl rfl rfl (xv_faddr fl25_0 rfl ?_)
      refine xr_gd rfl rfl rfl (xv_load1 ty22 rfl rfl (by ((repeat first|exact z_0|assumption|refine z_1 ?_|(refine z_l ?_;(repeat first|exact z_0|assumption|refine z_1 ?_);done)|refine z_r ?_);done)) (by rfl) ?_)
      refine xr_gd rfl rfl rfl (xv_len sl22 rfl ?_)
      refine xr_gd rfl rfl rfl (xv_neq2 rfl rfl (fun q4 => ?_) (fun q4 => ?_))
      · refine xr_op rfl rfl (xv_pick rfl rfl ?_)
        refine xr_op rfl rfl (xv_assign rfl ?_)
        refine xr_end rfl ?_
        refine th_n ?_
        refine xc_true rfl ?_
        refine xc_seq (xc_region ?_)
        refine xr_op rfl rfl (xv_assign rfl ?_)
        refine xr_op rfl rfl (xv_assign rfl ?_)
        refine xr_end rfl ?_
        refine th_n ?_
        refine xc_ret ?_
        refine bk_r ?_
        refine th_r ?_
        refine body_ret (h' := h) rfl (ro_tmp rfl (ro_tmp rfl ro_nil)) (by (first|((repeat first|exact s_0|exact s_1|exact s_3|refine s_4 ?_|refine s_5 ?_|refine s_6 ?_|refine s_7 ?_);done)|((repeat first|exact s_0|exact s_1|exact s_3|refine s_4 ?_|refine s_5 ?_|refine s_6 ?_|refine s_8 ?_);done))) ?_
        first | (rw [eans, hco] at H; exact H) | (rw [eans, hci, decide_eq_true hsq, hft] at H; exact H) | (rw [eans, hci, decide_eq_false hsq] at H; exact H) | (rw [canA_1 hng] at H; exact H) | (rw [canA_10 hgy hpn] at H; exact H) | (rw [canA_2 hgy hvs (by omega)] at H; exact H)
      · refine xr_op rfl rfl (xv_pick rfl rfl ?_)
        refine xr_op rfl rfl (xv_assign rfl ?_)
        refine xr_end rfl ?_
        refine th_n ?_
        refine xc_false rfl ?_
        refine xc_skip ?_
        refine bk_n ?_
        refine th_n ?_
        refine xc_seq (xc_region ?_)
        have hdn : draw.toNat < ds.length := by (first|omega|(dsimp only at *;omega)|(simp at *;omega))
        have htl : ts.length = y.coals.length := by (first|omega|(dsimp only at *;omega)|(simp at *;omega))
        have hltw : draw.toNat < ds.length := hdn
        obtain ⟨bw, ow, lw, tw, fzw, haw, hmw, hxw⟩ := (hsh.draws).at hltw
        obtain ⟨xw, hkw⟩ : ∃ qq_, ds[draw.toNat]? = some qq_ := ⟨_, List.getElem?_eq_getElem hltw⟩
        subst haw
        obtain ⟨v, hv, hvm⟩ := hsh.part hkw
        have eans := canA_0 (ts := ts) hgy hvs (draw := draw) (by omega) htl hv
        have hcut := hsh.cut hgy draw.toNat 1
        rw [drop_one hv, drop_one hkw] at hcut
        have hcap := hsh.cap
        have hn6 := hgy.2.2.1.2
        have hpl := partsN_len y [v] (opn y.moves).1
        have hop := opn_le y.moves
        have hple : (partsL y [v]).length ≤ 32 := Nat.le_trans hpl (by omega)
        have hall := allT_bd (l := (partsL y [v])) (B := 1048576) (fun z hz => by obtain ⟨_, a, b, c⟩ := partsL_ok hgy hcut.bd hcut.few hz; rw [List.length_singleton] at c; exact ⟨by omega, by omega⟩)
        refine xr_op rfl rfl (xv_alloc ty38 (fun b10 hb10 => ?_))
        refine xr_end rfl ?_
        refine th_n ?_
        refine xc_seq (xc_region ?_)
        refine xr_op rfl rfl (xv_alloc ty100 (fun b11 hb11 => ?_))
        refine xr_end rfl ?_
        refine th_n ?_
        refine xc_seq (xc_region ?_)
        refine xr_op rfl rfl (xv_alloc ty3 (fun b12 hb12 => ?_))
        refine xr_op rfl rfl (xv_s1 ty3 rfl rfl rfl (by (first|(apply u_3;(repeat first|exact u_0|assumption|apply u_1|apply u_2);done)|((repeat first|exact u_0|assumption|apply u_1|apply u_2);done)|(apply u_3;apply u_3;(repeat first|exact u_0|assumption|apply u_1|apply u_2);done)|((repeat first|exact u_0|assumption|apply u_3|apply u_1);done))) (by (first | rfl | exact Vec.one _ _)) (by (first | decide | exact Nat.le_of_ble_eq_true rfl | (simp only [List.length_cons, List.length_nil]; omega) | (simp; done))) (by ((try apply evl_some rfl);(repeat (first|exact (rfl : _ = [])|apply evl_cons rfl (by (first|exact v_1|exact v_2|exact v_3|exact v_4|exact v_5|exact v_6|exact v_7|exact v_8|exact v_9|exact rfl))|exact rfl)))) ?_)
        refine xr_end rfl ?_
        refine th_n ?_
        refine xc_seq ?_
        refine xc_seq (xc_region ?_)
        refine xr_op rfl rfl (xv_move rfl ?_)
        refine xr_op rfl rfl (xv_move rfl ?_)
        refine xr_op rfl rfl (xv_nilp rfl ?_)
        refine xr_op rfl rfl (xv_faddr fl73_2 rfl ?_)
        refine xr_op rfl rfl (xv_load1 ty71 rfl rfl (by ((repeat first|exact z_0|assumption|refine z_1 ?_|(refine z_l ?_;(repeat first|exact z_0|assumption|refine z_1 ?_);done)|refine z_r ?_);done)) (by rfl) ?_)
        refine xr_op rfl rfl (xv_move rfl ?_)
        refine xr_op rfl rfl (xv_move rfl ?_)
        refine xr_op rfl rfl (xv_add rfl rfl (wrap_i64 (by (first|omega|(dsimp only at *;omega)|(simp at *;omega))) (by (first|omega|(dsimp only at *;omega)|(simp at *;omega)))) ?_)
        refine xr_op rfl rfl (xv_cut (m := 1) sl71 ty39 rfl rfl rfl (by (first|omega|(dsimp only at *;omega)|(simp at *;omega))) (by (first|omega|(dsimp only at *;omega)|(simp at *;omega))) (by (first|omega|(dsimp only at *;omega)|(simp at *;omega))) (by (first|omega|(dsimp only at *;omega)|(simp at *;omega))) (by (first|omega|(dsimp only at *;omega)|(simp at *;omega))) ?_)
        refine xr_op rfl rfl (xv_calls rfl hb32 (parts_c (fun p1 p2 => up_ret ?_)))
        refine xr_end rfl ?_
        refine th_n ?_
        refine xc_block ?_
        refine xc_range2 (γ := Vec × Vec) ePc (partsL y [v]) ((p2, .cells ⟨[.slice (some ⟨bw, ow + draw.toNat * 1, none⟩) 1 (dc - draw.toNat)]⟩ 71) :: (p1, .cells ⟨[.pointer (some ⟨b, 0, none⟩)]⟩ 66) :: G) rfl hb53 (partsIt (core := ((p2, .cells ⟨[.slice (some ⟨bw, ow + draw.toNat * 1, none⟩) 1 (dc - draw.toNat)]⟩ 71) :: (p1, .cells ⟨[.pointer (some ⟨b, 0, none⟩)]⟩ 66) :: G)) (by ((repeat first|exact z_0|assumption|refine z_1 ?_|(refine z_l ?_;(repeat first|exact z_0|assumption|refine z_1 ?_);done)|refine z_r ?_);done)) (by ((repeat first|exact z_0|assumption|refine z_1 ?_|(refine z_l ?_;(repeat first|exact z_0|assumption|refine z_1 ?_);done)|refine z_r ?_);done)) (hsh.sub (by intro z hz; ((repeat first|exact z_0|assumption|refine z_1 ?_|(refine z_l ?_;(repeat first|exact z_0|assumption|refine z_1 ?_);done)|refine z_r ?_);done))) (hcut.sub (by intro z hz; ((repeat first|exact z_0|assumption|refine z_1 ?_|(refine z_l ?_;(repeat first|exact z_0|assumption|refine z_1 ?_);done)|refine z_r ?_);done)))) (fun x => rfl) (by decide) (((emp.put (some 10) (.pointer (some ⟨b10, 0, none⟩))).put (some 11) (.pointer (some ⟨b11, 0, none⟩))).put (some 12) (.pointer (some ⟨b12, 0, none⟩))) (fun k g => g.1.ok 1 k (((partsL y [v]).take k).flatMap eR) ∧ g.2.ok 6 k (((partsL y [v]).take k).flatMap eM)) (fun k g => ((p2, .cells ⟨[.slice (some ⟨bw, ow + draw.toNat * 1, none⟩) 1 (dc - draw.toNat)]⟩ 71) :: (p1, .cells ⟨[.pointer (some ⟨b, 0, none⟩)]⟩ 66) :: (b12, .cells ⟨[I (allT ((partsL y [v]).take k))]⟩ 3) :: (b11, .cells ⟨[.slice g.2.ad k g.2.cp]⟩ 100) :: (b10, .cells ⟨[.slice g.1.ad k g.1.cp]⟩ 38) :: (g.1.hp 3 (((partsL y [v]).take k).flatMap eR) ++ (g.2.hp 80 (((partsL y [v]).take k).flatMap eM) ++ (G ++ (b5, .cells ⟨[.slice ta ts.length tc]⟩ 38) :: (b3, .cells ⟨eYard y⟩ 25) :: h))))) (fun _ _ _ => False) ((.nil, .nil) : Vec × Vec) (mon_bk (mon_th)) (le_put (le_put (le_put (le_emp _) rfl) rfl) rfl) ⟨⟨rfl, rfl⟩, ⟨rfl, rfl⟩⟩ (by (first|((repeat first|exact s_0|exact s_1|exact s_3|refine s_4 ?_|refine s_5 ?_|refine s_6 ?_|refine s_7 ?_);done)|((repeat first|exact s_0|exact s_1|exact s_3|refine s_4 ?_|refine s_5 ?_|refine s_6 ?_|refine s_8 ?_);done))) (fun k g z hz => by
          simp only [List.mem_cons] at hz
          rcases hz with rfl | rfl | hz
          · exact z_0
          · exact z_1 z_0
          · exact z_1 (z_1 (z_1 (z_1 (z_1 (z_r (z_r (z_l hz)))))))) ?_ (fun _ _ _ _ _ hf _ => hf.elim) ?_
        · intro ll k x ⟨U, M⟩ hkx ⟨hU, hM⟩
          dsimp only at hU hM
          have hkl := (List.getElem?_eq_some_iff.1 hkx).1
          obtain ⟨hx6, hxb, hx0, hx1⟩ := partsL_ok hgy hcut.bd hcut.few (List.mem_of_getElem? hkx)
          rw [List.length_singleton] at hx1
          have hbb := allT_bd (l := (partsL y [v]).take k) (B := 1048576) (fun z hz => by obtain ⟨_, a, b, c⟩ := partsL_ok hgy hcut.bd hcut.few (List.mem_of_mem_take hz); rw [List.length_singleton] at c; exact ⟨by omega, by omega⟩)
          rw [List.length_take] at hbb
          refine xc_seq (xc_region ?_)
          refine xr_op rfl rfl (xv_alloc ty80 (fun b13 hb13 => ?_))
          refine xr_op rfl rfl (xv_sAll ty80 rfl rfl (by (first|(apply u_3;(repeat first|exact u_0|assumption|apply u_1|apply u_2);done)|((repeat first|exact u_0|assumption|apply u_1|apply u_2);done)|(apply u_3;apply u_3;(repeat first|exact u_0|assumption|apply u_1|apply u_2);done)|((repeat first|exact u_0|assumption|apply u_3|apply u_1);done))) (by rw [ints_len]; exact hx6) rfl (flat_all eI_1 _) ?_)
          refine xr_end rfl ?_
          refine th_n ?_
          refine xc_region ?_
          refine xr_op rfl rfl (xv_assign rfl ?_)
          refine xr_end rfl ?_
          refine rndA_n ?_
          refine xc_block ?_
          refine xc_drawX0 [(4, [(b11, fun o => o = .cells ⟨[.slice M.ad k M.cp]⟩ 100 (0, 0))]), (5, [(b13, fun o => o = .cells ⟨x.1.flatMap eI⟩ 80 (0, 0))]), (8, [(b12, fun o => o = .cells ⟨[I (allT ((partsL y [v]).take k))]⟩ 3 (0, 0))])] [(0, .R), (1, .S), (4, .S), (5, .S), (8, .S), (9, .S), (10, .S), (2, .P), (6, .P), (2, .A), (3, .O), (6, .A), (7, .O), (11, .O), (12, .O), (13, .O)] mixed (by kernel_rfl) (iv_cons (holds1 (by ((repeat first|exact z_0|assumption|refine z_1 ?_|(refine z_l ?_;(repeat first|exact z_0|assumption|refine z_1 ?_);done)|refine z_r ?_);done)) rfl) (iv_cons (holds1 (by ((repeat first|exact z_0|assumption|refine z_1 ?_|(refine z_l ?_;(repeat first|exact z_0|assumption|refine z_1 ?_);done)|refine z_r ?_);done)) rfl) (iv_cons (holds1 (by ((repeat first|exact z_0|assumption|refine z_1 ?_|(refine z_l ?_;(repeat first|exact z_0|assumption|refine z_1 ?_);done)|refine z_r ?_);done)) rfl) iv_nil))) ?_
          refine jx_R rfl rfl (.inl rfl) (xv_load1 ty38 rfl rfl (by ((repeat first|exact z_0|assumption|refine z_1 ?_|(refine z_l ?_;(repeat first|exact z_0|assumption|refine z_1 ?_);done)|refine z_r ?_);done)) (by rfl) ⟨rfl, rfl⟩) ?_
          refine jx_S rfl rfl (.inl rfl) (xv_move rfl ⟨rfl, rfl⟩) ?_
          refine jx_I rfl rfl (.inl rfl) (fun hh hv => by have hv2 : Holds [(b11, fun o => o = .cells ⟨[.slice M.ad k M.cp]⟩ 100 (0, 0))] hh := hv; obtain ⟨o9, hm9, e9⟩ := hv2 _ _ List.mem_cons_self; subst e9; exact xv_load1 ty100 rfl rfl hm9 rfl ⟨rfl, rfl⟩) ?_
          refine jx_I rfl rfl (.inl rfl) (fun hh hv => by have hv2 : Holds [(b13, fun o => o = .cells ⟨x.1.flatMap eI⟩ 80 (0, 0))] hh := hv; obtain ⟨o9, hm9, e9⟩ := hv2 _ _ List.mem_cons_self; subst e9; exact xv_loadA ty80 rfl rfl hm9 (ints_all hx6) (by rw [ints_len]; exact hx6) ⟨rfl, rfl⟩) ?_
          refine jx_I rfl rfl (.inl rfl) (fun hh hv => by have hv2 : Holds [(b12, fun o => o = .cells ⟨[I (allT ((partsL y [v]).take k))]⟩ 3 (0, 0))] hh := hv; obtain ⟨o9, hm9, e9⟩ := hv2 _ _ List.mem_cons_self; subst e9; exact xv_load1 ty3 rfl rfl hm9 rfl ⟨rfl, rfl⟩) ?_
          refine jx_S rfl rfl (.inl rfl) (xv_move rfl ⟨rfl, rfl⟩) ?_
          refine jx_S rfl rfl (.inl rfl) (xv_add rfl rfl (wrap_i64 (by (first|omega|(dsimp only at *;omega)|(simp at *;omega))) (by (first|omega|(dsimp only at *;omega)|(simp at *;omega)))) ⟨rfl, rfl⟩) ?_
          refine jx_P rfl rfl rfl (al_buildSlice sl38 ty3 rfl rfl rfl rfl rfl (by ((try apply evl_some rfl);(repeat (first|exact (rfl : _ = [])|apply evl_cons rfl (by (first|exact v_1|exact v_2|exact v_3|exact v_4|exact v_5|exact v_6|exact v_7|exact v_8|exact v_9|exact rfl))|exact rfl))))) ?_
          refine jx_P rfl rfl rfl (al_buildSlice sl100 ty80 rfl rfl rfl rfl rfl (bld6 hx6)) ?_
          refine jx_A rfl rfl rfl rfl rfl ⟨rfl, trivial⟩ (fun b60 hb60 => ?_)
          skip
          refine jx_O rfl rfl (.inl rfl) (xv_append (V := U) (n := k) (xs := ((partsL y [v]).take k).flatMap eR) sl38 ty3 rfl (by rw [Vec.val_ad hU]; rfl) rfl hU (.there (.there (.there (.there (.there (.there (.there .here))))))) (by ((repeat first|exact z_0|assumption|refine z_1 ?_|(refine z_l ?_;(repeat first|exact z_0|assumption|refine z_1 ?_);done)|refine z_r ?_);done)) (by ((try apply evl_some rfl);(repeat (first|exact (rfl : _ = [])|apply evl_cons rfl (by (first|exact v_1|exact v_2|exact v_3|exact v_4|exact v_5|exact v_6|exact v_7|exact v_8|exact v_9|exact rfl))|exact rfl)))) rfl rfl (by (first|omega|(dsimp only at *;omega)|(simp at *;omega))) (by simp only []; (first|omega|(dsimp only at *;omega)|(simp at *;omega))) (by (first|omega|(dsimp only at *;omega)|(simp at *;omega))) (fun U2 hU2 => ?_))
          refine ⟨(kp_in (holds1 (by ((repeat first|exact z_0|assumption|refine z_1 ?_|(refine z_l ?_;(repeat first|exact z_0|assumption|refine z_1 ?_);done)|refine z_r ?_);done)) rfl) (kp_in (holds1 (by ((repeat first|exact z_0|assumption|refine z_1 ?_|(refine z_l ?_;(repeat first|exact z_0|assumption|refine z_1 ?_);done)|refine z_r ?_);done)) rfl) (kp_in (holds1 (by ((repeat first|exact z_0|assumption|refine z_1 ?_|(refine z_l ?_;(repeat first|exact z_0|assumption|refine z_1 ?_);done)|refine z_r ?_);done)) rfl) kp_nil))), ?_⟩
          refine jx_A rfl rfl rfl rfl rfl ⟨rfl, trivial⟩ (fun b64 hb64 => ?_)
          refine jx_O rfl rfl (.inl rfl) (xv_append (V := M) (n := k) (xs := ((partsL y [v]).take k).flatMap eM) sl100 ty80 rfl (by rw [Vec.val_ad hM]; rfl) rfl hM (.there (.skip (.there (.there (.there (.there (.there (.there (.there .here))))))))) (by ((repeat first|exact z_0|assumption|refine z_1 ?_|(refine z_l ?_;(repeat first|exact z_0|assumption|refine z_1 ?_);done)|refine z_r ?_);done)) (ints_all hx6) (by rw [ints_len]; exact hx6) (flat_all eI_1 _) (by (first|omega|(dsimp only at *;omega)|(simp at *;omega))) (by simp only []; (first|omega|(dsimp only at *;omega)|(simp at *;omega))) (by (first|omega|(dsimp only at *;omega)|(simp at *;omega))) (fun M2 hM2 => ?_))
          refine ⟨(kp_go (by kernel_rfl) (kp_go (by kernel_rfl) (kp_in (holds1 (by ((repeat first|exact z_0|assumption|refine z_1 ?_|(refine z_l ?_;(repeat first|exact z_0|assumption|refine z_1 ?_);done)|refine z_r ?_);done)) rfl) kp_nil))), ?_⟩
          rw [Vec.val_ad hU2]
          refine jx_O rfl rfl (.inl rfl) (xv_s1 ty38 rfl rfl rfl (by (first|(apply u_3;(repeat first|exact u_0|assumption|apply u_1|apply u_2);done)|((repeat first|exact u_0|assumption|apply u_1|apply u_2);done)|(apply u_3;apply u_3;(repeat first|exact u_0|assumption|apply u_1|apply u_2);done)|((repeat first|exact u_0|assumption|apply u_3|apply u_1);done))) (by (first | rfl | exact Vec.one _ _)) (by (first | decide | exact Nat.le_of_ble_eq_true rfl | (simp only [List.length_cons, List.length_nil]; omega) | (simp; done))) (by ((try apply evl_some rfl);(repeat (first|exact (rfl : _ = [])|apply evl_cons rfl (by (first|exact v_1|exact v_2|exact v_3|exact v_4|exact v_5|exact v_6|exact v_7|exact v_8|exact v_9|exact rfl))|exact rfl)))) ?_)
          refine ⟨(kp_go (by kernel_rfl) (kp_go (by kernel_rfl) (kp_in (holds1 (by ((repeat first|exact z_0|assumption|refine z_1 ?_|(refine z_l ?_;(repeat first|exact z_0|assumption|refine z_1 ?_);done)|refine z_r ?_);done)) rfl) kp_nil))), ?_⟩
          rw [Vec.val_ad hM2]
          refine jx_O rfl rfl (.inl rfl) (xv_s1 ty100 rfl rfl rfl (by (first|(apply u_3;(repeat first|exact u_0|assumption|apply u_1|apply u_2);done)|((repeat first|exact u_0|assumption|apply u_1|apply u_2);done)|(apply u_3;apply u_3;(repeat first|exact u_0|assumption|apply u_1|apply u_2);done)|((repeat first|exact u_0|assumption|apply u_3|apply u_1);done))) (by (first | rfl | exact Vec.one _ _)) (by (first | decide | exact Nat.le_of_ble_eq_true rfl | (simp only [List.length_cons, List.length_nil]; omega) | (simp; done))) (by ((try apply evl_some rfl);(repeat (first|exact (rfl : _ = [])|apply evl_cons rfl (by (first|exact v_1|exact v_2|exact v_3|exact v_4|exact v_5|exact v_6|exact v_7|exact v_8|exact v_9|exact rfl))|exact rfl)))) ?_)
          refine ⟨(kp_go (by kernel_rfl) (kp_go (by kernel_rfl) (kp_in (holds1 (by ((repeat first|exact z_0|assumption|refine z_1 ?_|(refine z_l ?_;(repeat first|exact z_0|assumption|refine z_1 ?_);done)|refine z_r ?_);done)) rfl) kp_nil))), ?_⟩
          refine jx_O rfl rfl (.inl rfl) (xv_s1 ty3 rfl rfl rfl (by (first|(apply u_3;(repeat first|exact u_0|assumption|apply u_1|apply u_2);done)|((repeat first|exact u_0|assumption|apply u_1|apply u_2);done)|(apply u_3;apply u_3;(repeat first|exact u_0|assumption|apply u_1|apply u_2);done)|((repeat first|exact u_0|assumption|apply u_3|apply u_1);done))) (by (first | rfl | exact Vec.one _ _)) (by (first | decide | exact Nat.le_of_ble_eq_true rfl | (simp only [List.length_cons, List.length_nil]; omega) | (simp; done))) (by ((try apply evl_some rfl);(repeat (first|exact (rfl : _ = [])|apply evl_cons rfl (by (first|exact v_1|exact v_2|exact v_3|exact v_4|exact v_5|exact v_6|exact v_7|exact v_8|exact v_9|exact rfl))|exact rfl)))) ?_)
          refine ⟨(kp_go (by kernel_rfl) (kp_go (by kernel_rfl) (kp_go (by kernel_rfl) kp_nil))), ?_⟩
          refine jx_endp permC ?_
          refine bk_n ?_
          exact rndQ_n ((U2, M2) : Vec × Vec) ⟨by dsimp only; rw [eR_take hkx]; exact hU2, by dsimp only; rw [eM_take hkx hx6]; exact hM2⟩ (by dsimp only; rw [eR_take hkx, eM_take hkx hx6, allT_take hkx]; (first|((repeat first|exact s_0|exact s_1|exact s_3|refine s_4 ?_|refine s_5 ?_|refine s_6 ?_|refine s_7 ?_);done)|((repeat first|exact s_0|exact s_1|exact s_3|refine s_4 ?_|refine s_5 ?_|refine s_6 ?_|refine s_8 ?_);done)))
        · intro kd g hi hkd
          obtain ⟨U, M⟩ := g
          dsimp only at hi
          obtain ⟨hU, hM⟩ := hi
          rw [List.take_length] at hU hM
          rw [List.take_length]
          rw [List.take_length] at hkd
          dsimp only
          refine bk_n ?_
          refine th_n ?_
          refine xc_seq (xc_region ?_)
          refine xr_op rfl rfl (xv_alloc ty101 (fun b15 hb15 => ?_))
          refine xr_end rfl ?_
          refine th_n ?_
          refine xc_seq (xc_region ?_)
          refine xr_op rfl rfl (xv_func rfl rfl ?_)
          refine xr_op rfl rfl (xv_s1 ty101 rfl rfl rfl (by (first|(apply u_3;(repeat first|exact u_0|assumption|apply u_1|apply u_2);done)|((repeat first|exact u_0|assumption|apply u_1|apply u_2);done)|(apply u_3;apply u_3;(repeat first|exact u_0|assumption|apply u_1|apply u_2);done)|((repeat first|exact u_0|assumption|apply u_3|apply u_1);done))) (by (first | rfl | exact Vec.one _ _)) (by (first | decide | exact Nat.le_of_ble_eq_true rfl | (simp only [List.length_cons, List.length_nil]; omega) | (simp; done))) (by ((try apply evl_some rfl);(repeat (first|exact (rfl : _ = [])|apply evl_cons rfl (by (first|exact v_1|exact v_2|exact v_3|exact v_4|exact v_5|exact v_6|exact v_7|exact v_8|exact v_9|exact rfl))|exact rfl)))) ?_)
          refine xr_end rfl ?_
          refine th_n ?_
          refine xc_seq (xc_region ?_)
          refine xr_op rfl rfl (xv_assign rfl ?_)
          refine xr_end rfl ?_
          refine th_n ?_
          refine xc_seq ?_
          refine xc_seq (xc_region ?_)
          refine xr_op rfl rfl (xv_load1 ty38 rfl rfl (by ((repeat first|exact z_0|assumption|refine z_1 ?_|(refine z_l ?_;(repeat first|exact z_0|assumption|refine z_1 ?_);done)|refine z_r ?_);done)) (by rfl) ?_)
          refine xr_op rfl rfl (xv_len sl38 rfl ?_)
          refine xr_op rfl rfl (xv_move rfl ?_)
          refine xr_end rfl ?_
          refine th_n ?_
          refine xc_block ?_
          refine xc_loop (σ := Nat) (fun k => k ≤ ts.length ∧ ∀ t ∈ ts.take k, 0 ≤ t ∧ t ≤ allT (partsL y [v])) (fun k => (((((((emp.put (some 12) (.pointer (some ⟨b12, 0, none⟩))).put (some 10) (.pointer (some ⟨b10, 0, none⟩))).put (some 15) (.pointer (some ⟨b15, 0, none⟩))).put (some 70) (.slice ta ts.length tc)).put (some 71) (I ts.length)).put (some 16) (I (sumI (ts.take k)))).put (some 72) (I k))) (fun k => ((b15, .cells ⟨[.func (.func 47) ⟨[]⟩ ⟨[.pointer (some ⟨b5, 0, none⟩), .pointer (some ⟨b10, 0, none⟩), .pointer (some ⟨b11, 0, none⟩), .pointer (some ⟨b15, 0, none⟩)]⟩]⟩ 101) :: (kd, .deferred (some [])) :: (b12, .cells ⟨[I (allT (partsL y [v]))]⟩ 3) :: (b11, .cells ⟨[.slice M.ad (partsL y [v]).length M.cp]⟩ 100) :: (b10, .cells ⟨[.slice U.ad (partsL y [v]).length U.cp]⟩ 38) :: (U.hp 3 ((partsL y [v]).flatMap eR) ++ (M.hp 80 ((partsL y [v]).flatMap eM) ++ (G ++ (b5, .cells ⟨[.slice ta ts.length tc]⟩ 38) :: (b3, .cells ⟨eYard y⟩ 25) :: h))))) (fun k => ts.length - k) 0 ⟨Nat.zero_le _, fun t ht => by simp at ht⟩ (le_put (le_put (le_put (le_put (le_put (le_put (le_put (le_emp _) rfl) rfl) rfl) rfl) rfl) rfl) rfl) (by (first|((repeat first|exact s_0|exact s_1|exact s_3|refine s_4 ?_|refine s_5 ?_|refine s_6 ?_|refine s_7 ?_);done)|((repeat first|exact s_0|exact s_1|exact s_3|refine s_4 ?_|refine s_5 ?_|refine s_6 ?_|refine s_8 ?_);done))) ?_
          rintro k ⟨hk, hal⟩
          refine xc_seq (xc_region ?_)
          refine xr_op rfl rfl (xv_lss2 rfl rfl (fun q8 => ?_) (fun q8 => ?_))
          · refine xr_end rfl ?_
            refine th_n ?_
            refine xc_seq ?_
            refine xc_true rfl ?_
            refine xc_skip ?_
            refine th_n ?_
            refine xc_seq ?_
            refine xc_block ?_
            refine xc_seq (xc_region ?_)
            have hlto : k < ts.length := by (first|omega|(dsimp only at *;omega)|(simp at *;omega))
            obtain ⟨bo, oo, lo, to, fzo, hao, hmo, hxo⟩ := (ht).at hlto
            obtain ⟨xo, hko⟩ : ∃ qq_, ts[k]? = some qq_ := ⟨_, List.getElem?_eq_getElem hlto⟩
            have hsb := sumI_bd (B := 33554432) (l := ts.take k) (fun t h9 => by have := hal t h9; omega)
            rw [List.length_take] at hsb
            refine xr_op rfl rfl (xv_ia (sz := 1) (j := k) sl38 ty3 rfl (by rw [hao]; rfl) rfl (by (first | assumption | with_reducible exact Int.toNat_natCast _ | with_reducible rfl | rfl)) (by (first|omega|(dsimp only at *;omega)|(simp at *;omega))) (by (first|omega|(dsimp only at *;omega)|(simp at *;omega))) ?_)
            refine xr_op rfl rfl (xv_load1 ty3 rfl rfl (by ((repeat first|exact z_0|assumption|refine z_1 ?_|(refine z_l ?_;(repeat first|exact z_0|assumption|refine z_1 ?_);done)|refine z_r ?_);done)) (take_get (hxo (k) xo hko) (j := 0) rfl) ?_)
            refine xr_op rfl rfl (xv_assign rfl ?_)
            refine xr_end rfl ?_
            refine th_n ?_
            refine xc_seq ?_
            refine xc_seq (xc_region ?_)
            refine xr_op rfl rfl (xv_move rfl ?_)
            refine xr_op rfl rfl (xv_load1 ty3 rfl rfl (by ((repeat first|exact z_0|assumption|refine z_1 ?_|(refine z_l ?_;(repeat first|exact z_0|assumption|refine z_1 ?_);done)|refine z_r ?_);done)) (by rfl) ?_)
            refine xr_op rfl rfl (xv_calls rfl hb31 (within_c _ _ _ (fun hl9 hu10 => up_ret ?_) (fun hn11 => up_ret ?_)))
            · refine xr_op rfl rfl (xv_not rfl ?_)
              refine xr_end rfl ?_
              refine th_n ?_
              refine xc_false rfl ?_
              refine xc_skip ?_
              refine th_n ?_
              refine xc_region ?_
              refine xr_op rfl rfl (xv_move rfl ?_)
              refine xr_op rfl rfl (xv_move rfl ?_)
              refine xr_op rfl rfl (xv_add rfl rfl (wrap_i64 (by (first|omega|(dsimp only at *;omega)|(simp at *;omega))) (by (first|omega|(dsimp only at *;omega)|(simp at *;omega)))) ?_)
              refine xr_op rfl rfl (xv_assign rfl ?_)
              refine xr_end rfl ?_
              refine bk_n ?_
              refine th_n ?_
              refine xc_region ?_
              refine xr_op rfl rfl (xv_add rfl rfl (wrap_i64 (by (first|omega|(dsimp only at *;omega)|(simp at *;omega))) (by (first|omega|(dsimp only at *;omega)|(simp at *;omega)))) ?_)
              refine xr_op rfl rfl (xv_move rfl ?_)
              refine xr_end rfl ?_
              exact rnd (k + 1) ⟨by (first|omega|(dsimp only at *;omega)|(simp at *;omega)), (take_all hko).2 ⟨hal, by (first|omega|(dsimp only at *;omega)|(simp at *;omega)), by (first|omega|(dsimp only at *;omega)|(simp at *;omega))⟩⟩ (by (first|omega|(dsimp only at *;omega)|(simp at *;omega))) (le_put (le_put (le_put (le_put (le_put (le_put (le_put (le_emp _) rfl) rfl) rfl) rfl) rfl) (by rw [sumI_take hko]; rfl)) rfl) (by (first|((repeat first|exact s_0|exact s_1|exact s_3|refine s_4 ?_|refine s_5 ?_|refine s_6 ?_|refine s_7 ?_);done)|((repeat first|exact s_0|exact s_1|exact s_3|refine s_4 ?_|refine s_5 ?_|refine s_6 ?_|refine s_8 ?_);done)))
            · refine xr_op rfl rfl (xv_not rfl ?_)
              refine xr_end rfl ?_
              refine th_n ?_
              refine xc_true rfl ?_
              refine xc_seq (xc_region ?_)
              have hco : canB (partsL y [v]) ts = false := canB_out hko (by (first|omega|(dsimp only at *;omega)|(simp at *;omega)))
              refine xr_op rfl rfl (xv_assign rfl ?_)
              refine xr_op rfl rfl (xv_assign rfl ?_)
              refine xr_end rfl ?_
              refine th_n ?_
              refine xc_ret ?_
              refine th_r ?_
              refine bk_r ?_
              refine th_r ?_
              refine th_r ?_
              refine bk_r ?_
              refine th_r ?_
              refine body_retM (h' := h) rfl (ro_tmp rfl (ro_tmp rfl ro_nil)) (by (first|((repeat first|exact s_0|exact s_1|exact s_3|refine s_4 ?_|refine s_5 ?_|refine s_6 ?_|refine s_7 ?_);done)|((repeat first|exact s_0|exact s_1|exact s_3|refine s_4 ?_|refine s_5 ?_|refine s_6 ?_|refine s_8 ?_);done))) (by ((repeat first|exact z_0|assumption|refine z_1 ?_|(refine z_l ?_;(repeat first|exact z_0|assumption|refine z_1 ?_);done)|refine z_r ?_);done)) (nkeys (by intro z hz; ((repeat first|exact z_0|assumption|refine z_1 ?_|(refine z_l ?_;(repeat first|exact z_0|assumption|refine z_1 ?_);done)|refine z_r ?_);done)) hkd) ?_
              first | (rw [eans, hco] at H; exact H) | (rw [eans, hci, decide_eq_true hsq, hft] at H; exact H) | (rw [eans, hci, decide_eq_false hsq] at H; exact H) | (rw [canA_1 hng] at H; exact H) | (rw [canA_10 hgy hpn] at H; exact H) | (rw [canA_2 hgy hvs (by omega)] at H; exact H)
          · refine xr_end rfl ?_
            refine th_n ?_
            refine xc_seq ?_
            refine xc_false rfl ?_
            refine xc_exit ?_
            refine th_x ?_
            refine th_x ?_
            refine bk_same ?_
            refine th_n ?_
            refine xc_seq ?_
            refine xc_draw [(0, .S), (1, .R), (2, .O), (3, .S), (4, .S), (5, .R), (6, .S), (7, .O), (8, .O), (9, .S), (10, .S), (11, .S)] [(b15, .cells ⟨[.func (.func 47) ⟨[]⟩ ⟨[.pointer (some ⟨b5, 0, none⟩), .pointer (some ⟨b10, 0, none⟩), .pointer (some ⟨b11, 0, none⟩), .pointer (some ⟨b15, 0, none⟩)]⟩]⟩ 101)] ((kd, .deferred (some [])) :: (b12, .cells ⟨[I (allT (partsL y [v]))]⟩ 3) :: (b11, .cells ⟨[.slice M.ad (partsL y [v]).length M.cp]⟩ 100) :: (b10, .cells ⟨[.slice U.ad (partsL y [v]).length U.cp]⟩ 38) :: (U.hp 3 ((partsL y [v]).flatMap eR) ++ (M.hp 80 ((partsL y [v]).flatMap eM) ++ (G ++ (b5, .cells ⟨[.slice ta ts.length tc]⟩ 38) :: (b3, .cells ⟨eYard y⟩ 25) :: h)))) mixed (by kernel_rfl) (List.perm_append_singleton _ _) ?_
            have hal2 : ∀ t ∈ ts, 0 ≤ t ∧ t ≤ allT (partsL y [v]) := by
              have e9 : k = ts.length := by (first|omega|(dsimp only at *;omega)|(simp at *;omega))
              rw [e9, List.take_length] at hal; exact hal
            have hci := canB_in hal2
            obtain rfl : ts.length = k := by (first|omega|(dsimp only at *;omega)|(simp at *;omega))
            rw [List.take_length]
            refine js_S rfl rfl (.inl rfl) (xv_move rfl ⟨rfl, rfl⟩) ?_
            refine js_R rfl rfl (.inl rfl) (xv_load1 ty3 rfl rfl (by ((repeat first|exact z_0|assumption|refine z_1 ?_|(refine z_l ?_;(repeat first|exact z_0|assumption|refine z_1 ?_);done)|refine z_r ?_);done)) (by rfl) ⟨rfl, rfl⟩) ?_
            refine js_O rfl rfl (.inl rfl) (xv_eql2 rfl rfl (fun hsq => ?_) (fun hsq => ?_))
            · refine jo_same ?_
              refine js_S rfl rfl (.inl rfl) (xv_move rfl ⟨rfl, rfl⟩) ?_
              refine js_S rfl rfl (.inr ⟨_, _, rfl, rfl⟩) (xv_load1 ty101 rfl rfl (by ((repeat first|exact z_0|assumption|refine z_1 ?_|(refine z_l ?_;(repeat first|exact z_0|assumption|refine z_1 ?_);done)|refine z_r ?_);done)) (by rfl) ⟨rfl, rfl⟩) ?_
              refine js_R rfl rfl (.inr ⟨_, _, rfl, rfl⟩) (xv_load1 ty38 rfl rfl (by ((repeat first|exact z_0|assumption|refine z_1 ?_|(refine z_l ?_;(repeat first|exact z_0|assumption|refine z_1 ?_);done)|refine z_r ?_);done)) (by rfl) ⟨rfl, rfl⟩) ?_
              refine js_S rfl rfl (.inr ⟨_, _, rfl, rfl⟩) (xv_len sl38 rfl ⟨rfl, rfl⟩) ?_
              refine js_O rfl rfl (.inr ⟨_, _, rfl, rfl⟩) (xv_make (n := (partsL y [v]).length) (l := (List.replicate (partsL y [v]).length 0).flatMap eI) sl38 ty3 rfl rfl (by (first|omega|(dsimp only at *;omega)|(simp at *;omega))) (by simp only []; (first|omega|(dsimp only at *;omega)|(simp at *;omega))) (by simp only []; (first|omega|(dsimp only at *;omega)|(simp at *;omega))) (make_ints _) (fun b91 hb91 => ?_))
              refine jo_atL ((b91, _) :: _) (List.Perm.refl _) .nil ?_
              have hFC : FitsC ((b15, .cells ⟨[.func (.func 47) ⟨[]⟩ ⟨[.pointer (some ⟨b5, 0, none⟩), .pointer (some ⟨b10, 0, none⟩), .pointer (some ⟨b11, 0, none⟩), .pointer (some ⟨b15, 0, none⟩)]⟩]⟩ 101) :: (kd, .deferred (some [])) :: (b12, .cells ⟨[I (allT (partsL y [v]))]⟩ 3) :: (b11, .cells ⟨[.slice M.ad (partsL y [v]).length M.cp]⟩ 100) :: (b10, .cells ⟨[.slice U.ad (partsL y [v]).length U.cp]⟩ 38) :: (U.hp 3 ((partsL y [v]).flatMap eR) ++ (M.hp 80 ((partsL y [v]).flatMap eM) ++ (G ++ (b5, .cells ⟨[.slice ta ts.length tc]⟩ 38) :: (b3, .cells ⟨eYard y⟩ 25) :: h)))) (partsL y [v]) ts b5 b10 b11 b15 ta tc U.ad U.cp M.ad M.cp := ⟨by ((repeat first|exact z_0|assumption|refine z_1 ?_|(refine z_l ?_;(repeat first|exact z_0|assumption|refine z_1 ?_);done)|refine z_r ?_);done), by ((repeat first|exact z_0|assumption|refine z_1 ?_|(refine z_l ?_;(repeat first|exact z_0|assumption|refine z_1 ?_);done)|refine z_r ?_);done), by ((repeat first|exact z_0|assumption|refine z_1 ?_|(refine z_l ?_;(repeat first|exact z_0|assumption|refine z_1 ?_);done)|refine z_r ?_);done), by ((repeat first|exact z_0|assumption|refine z_1 ?_|(refine z_l ?_;(repeat first|exact z_0|assumption|refine z_1 ?_);done)|refine z_r ?_);done), ht.sub (by intro z hz; ((repeat first|exact z_0|assumption|refine z_1 ?_|(refine z_l ?_;(repeat first|exact z_0|assumption|refine z_1 ?_);done)|refine z_r ?_);done)), (Vec.slvA (t := 3) eR_len rfl hU).sub (by intro z hz; ((repeat first|exact z_0|assumption|refine z_1 ?_|(refine z_l ?_;(repeat first|exact z_0|assumption|refine z_1 ?_);done)|refine z_r ?_);done)), (Vec.slvA (t := 80) eM_len rfl hM).sub (by intro z hz; ((repeat first|exact z_0|assumption|refine z_1 ?_|(refine z_l ?_;(repeat first|exact z_0|assumption|refine z_1 ?_);done)|refine z_r ?_);done)), fun x hx => by obtain ⟨a, b, c, d⟩ := partsL_ok hgy hcut.bd hcut.few hx; rw [List.length_singleton] at d; exact ⟨a, b, c, by omega⟩, hple, by omega, fun t h9 => by have := hal2 t h9; omega⟩
              refine js_O rfl rfl (.inr ⟨_, _, rfl, rfl⟩) (xv_fn rfl rfl (afn_func (fi := []) hb47 (fits0_c hFC (by intro z hz; rcases List.mem_cons.1 hz with rfl | hz; exact List.mem_append_right _ List.mem_cons_self; exact List.mem_append_left _ (List.mem_cons_of_mem _ hz)) rfl (slvL eI_len (List.mem_append_left _ List.mem_cons_self)) (fun hft => up_ret ?_) (fun hft => up_ret ?_))))
              · refine jo_same ?_
                refine js_S rfl rfl (.inl rfl) (xv_pick rfl rfl ⟨rfl, rfl⟩) ?_
                refine js_S rfl rfl (.inl rfl) (xv_assign rfl ⟨rfl, rfl⟩) ?_
                refine js_S rfl rfl (.inl rfl) (xv_assign rfl ⟨rfl, rfl⟩) ?_
                refine j_endp (List.perm_append_singleton _ _) ?_
                refine th_n ?_
                refine xc_ret ?_
                refine body_retM (h' := h) rfl (ro_tmp rfl (ro_tmp rfl ro_nil)) (by (first|((repeat first|exact s_0|exact s_1|exact s_3|refine s_4 ?_|refine s_5 ?_|refine s_6 ?_|refine s_7 ?_);done)|((repeat first|exact s_0|exact s_1|exact s_3|refine s_4 ?_|refine s_5 ?_|refine s_6 ?_|refine s_8 ?_);done))) (by ((repeat first|exact z_0|assumption|refine z_1 ?_|(refine z_l ?_;(repeat first|exact z_0|assumption|refine z_1 ?_);done)|refine z_r ?_);done)) (nkeys (by intro z hz; ((repeat first|exact z_0|assumption|refine z_1 ?_|(refine z_l ?_;(repeat first|exact z_0|assumption|refine z_1 ?_);done)|refine z_r ?_);done)) hkd) ?_
                first | (rw [eans, hco] at H; exact H) | (rw [eans, hci, decide_eq_true hsq, hft] at H; exact H) | (rw [eans, hci, decide_eq_false hsq] at H; exact H) | (rw [canA_1 hng] at H; exact H) | (rw [canA_10 hgy hpn] at H; exact H) | (rw [canA_2 hgy hvs (by omega)] at H; exact H)
              · refine jo_same ?_
                refine js_S rfl rfl (.inl rfl) (xv_pick rfl rfl ⟨rfl, rfl⟩) ?_
                refine js_S rfl rfl (.inl rfl) (xv_assign rfl ⟨rfl, rfl⟩) ?_
                refine js_S rfl rfl (.inl rfl) (xv_assign rfl ⟨rfl, rfl⟩) ?_
                refine j_endp (List.perm_append_singleton _ _) ?_
                refine th_n ?_
                refine xc_ret ?_
                refine body_retM (h' := h) rfl (ro_tmp rfl (ro_tmp rfl ro_nil)) (by (first|((repeat first|exact s_0|exact s_1|exact s_3|refine s_4 ?_|refine s_5 ?_|refine s_6 ?_|refine s_7 ?_);done)|((repeat first|exact s_0|exact s_1|exact s_3|refine s_4 ?_|refine s_5 ?_|refine s_6 ?_|refine s_8 ?_);done))) (by ((repeat first|exact z_0|assumption|refine z_1 ?_|(refine z_l ?_;(repeat first|exact z_0|assumption|refine z_1 ?_);done)|refine z_r ?_);done)) (nkeys (by intro z hz; ((repeat first|exact z_0|assumption|refine z_1 ?_|(refine z_l ?_;(repeat first|exact z_0|assumption|refine z_1 ?_);done)|refine z_r ?_);done)) hkd) ?_
                first | (rw [eans, hco] at H; exact H) | (rw [eans, hci, decide_eq_true hsq, hft] at H; exact H) | (rw [eans, hci, decide_eq_false hsq] at H; exact H) | (rw [canA_1 hng] at H; exact H) | (rw [canA_10 hgy hpn] at H; exact H) | (rw [canA_2 hgy hvs (by omega)] at H; exact H)
            · refine jo_same ?_
              refine js_S rfl rfl (.inl rfl) (xv_move rfl ⟨rfl, rfl⟩) ?_
              refine js_Ss rfl rfl ⟨_, _, _, rfl, rfl, rfl⟩ ?_
              refine js_Rs rfl rfl ⟨_, _, _, rfl, rfl, rfl⟩ ?_
              refine js_Ss rfl rfl ⟨_, _, _, rfl, rfl, rfl⟩ ?_
              refine js_Os rfl rfl ⟨_, _, _, rfl, rfl, rfl⟩ ?_
              refine js_Os rfl rfl ⟨_, _, _, rfl, rfl, rfl⟩ ?_
              refine js_S rfl rfl (.inl rfl) (xv_pick rfl rfl ⟨rfl, rfl⟩) ?_
              refine js_S rfl rfl (.inl rfl) (xv_assign rfl ⟨rfl, rfl⟩) ?_
              refine js_S rfl rfl (.inl rfl) (xv_assign rfl ⟨rfl, rfl⟩) ?_
              refine j_endp (List.perm_append_singleton _ _) ?_
              refine th_n ?_
              refine xc_ret ?_
              refine body_retM (h' := h) rfl (ro_tmp rfl (ro_tmp rfl ro_nil)) (by (first|((repeat first|exact s_0|exact s_1|exact s_3|refine s_4 ?_|refine s_5 ?_|refine s_6 ?_|refine s_7 ?_);done)|((repeat first|exact s_0|exact s_1|exact s_3|refine s_4 ?_|refine s_5 ?_|refine s_6 ?_|refine s_8 ?_);done))) (by ((repeat first|exact z_0|assumption|refine z_1 ?_|(refine z_l ?_;(repeat first|exact z_0|assumption|refine z_1 ?_);done)|refine z_r ?_);done)) (nkeys (by intro z hz; ((repeat first|exact z_0|assumption|refine z_1 ?_|(refine z_l ?_;(repeat first|exact z_0|assumption|refine z_1 ?_);done)|refine z_r ?_);done)) hkd) ?_
              first | (rw [eans, hco] at H; exact H) | (rw [eans, hci, decide_eq_true hsq, hft] at H; exact H) | (rw [eans, hci, decide_eq_false hsq] at H; exact H) | (rw [canA_1 hng] at H; exact H) | (rw [canA_10 hgy hpn] at H; exact H) | (rw [canA_2 hgy hvs (by omega)] at H; exact H)
    · refine xr_op rfl rfl (xv_not rfl ?_)
      refine xr_op rfl rfl (xv_move rfl ?_)
      refine xr_no rfl rfl rfl rfl ?_
      refine xr_no rfl rfl rfl rfl ?_
      refine xr_no rfl rfl rfl rfl ?_
      refine xr_no rfl rfl rfl rfl ?_
      refine xr_no rfl rfl rfl rfl ?_
      refine xr_no rfl rfl rfl rfl ?_
      refine xr_op rfl rfl (xv_pick rfl rfl ?_)
      refine xr_op rfl rfl (xv_assign rfl ?_)
      refine xr_end rfl ?_
      refine th_n ?_
      refine xc_true rfl ?_
      refine xc_seq (xc_region ?_)
      refine xr_op rfl rfl (xv_assign rfl ?_)
      refine xr_op rfl rfl (xv_assign rfl ?_)
      refine xr_end rfl ?_
      refine th_n ?_
      refine xc_ret ?_
      refine bk_r ?_
      refine th_r ?_
      refine body_ret (h' := h) rfl (ro_tmp rfl (ro_tmp rfl ro_nil)) (by (first|((repeat first|exact s_0|exact s_1|exact s_3|refine s_4 ?_|refine s_5 ?_|refine s_6 ?_|refine s_7 ?_);done)|((repeat first|exact s_0|exact s_1|exact s_3|refine s_4 ?_|refine s_5 ?_|refine s_6 ?_|refine s_8 ?_);done))) ?_
      first | (rw [eans, hco] at H; exact H) | (rw [eans, hci, decide_eq_true hsq, hft] at H; exact H) | (rw [eans, hci, decide_eq_false hsq] at H; exact H) | (rw [canA_1 hng] at H; exact H) | (rw [canA_10 hgy hpn] at H; exact H) | (rw [canA_2 hgy hvs (by omega)] at H; exact H)

end Go.Proofs.Ytpefpafijadfmaa

/-
  Walks.
-/
namespace Go.Proofs.Ytpefpafijadfmaa
open Go Go.H
set_option maxRecDepth 100000
set_option maxHeartbeats 8000000
set_option linter.all false
def smC : List Coal := [⟨⟨400, 500⟩, ⟨5, 6⟩, ⟨10, 12⟩, ⟨60, 70⟩⟩, ⟨⟨600, 650⟩, ⟨8, 9⟩, ⟨30, 40⟩, ⟨50, 55⟩⟩]
def smM : List Move := [⟨5, 0, 30⟩, ⟨5, 1, 20⟩, ⟨8, -1, 40⟩, ⟨9, 1, 15⟩, ⟨10, -1, 20⟩]

theorem sample_c {h : Hp} {R : Ending → Hp → Prop} (H : ∀ bc bm, R (.returned (.agg ⟨[.slice (some ⟨bc, 0, none⟩) 2 2, .slice (some ⟨bm, 0, none⟩) 5 5]⟩)) ((bm, .cells ⟨smM.flatMap eMove⟩ 63) :: (bc, .cells ⟨smC.flatMap eCoal⟩ 59) :: h)) : ACalls Try.prog 29 ⟨[]⟩ h R := by
  refine calls_of_xc (N := 19) Try.func29 rfl (by rfl) ?_
  refine xc_seq (xc_region ?_)
  refine xr_op rfl rfl (xv_alloc ty25 (fun b0 hb0 => ?_))
  refine xr_end rfl ?_
  refine th_n ?_
  refine xc_seq (xc_region ?_)
  refine xr_op rfl rfl (xv_calls rfl hb28 (span_c _ _ (up_ret ?_)))
  refine xr_op rfl rfl (xv_calls rfl hb28 (span_c _ _ (up_ret ?_)))
  refine xr_op rfl rfl (xv_calls rfl hb28 (span_c _ _ (up_ret ?_)))
  refine xr_op rfl rfl (xv_calls rfl hb28 (span_c _ _ (up_ret ?_)))
  refine xr_op rfl rfl (xv_build bt59 rfl (by ((try apply evl_some rfl);(repeat (first|exact (rfl : _ = [])|apply evl_cons rfl (by (first|exact v_1|exact v_2|exact v_3|exact v_4|exact v_5|exact v_6|exact v_7|exact v_8|exact v_9|exact rfl))|exact rfl)))) ?_)
  refine xr_op rfl rfl (xv_calls rfl hb28 (span_c _ _ (up_ret ?_)))
  refine xr_op rfl rfl (xv_calls rfl hb28 (span_c _ _ (up_ret ?_)))
  refine xr_op rfl rfl (xv_calls rfl hb28 (span_c _ _ (up_ret ?_)))
  refine xr_op rfl rfl (xv_calls rfl hb28 (span_c _ _ (up_ret ?_)))
  refine xr_op rfl rfl (xv_build bt59 rfl (by ((try apply evl_some rfl);(repeat (first|exact (rfl : _ = [])|apply evl_cons rfl (by (first|exact v_1|exact v_2|exact v_3|exact v_4|exact v_5|exact v_6|exact v_7|exact v_8|exact v_9|exact rfl))|exact rfl)))) ?_)
  refine xr_op rfl rfl ((al_buildSlice sl22 ty59 rfl rfl rfl rfl rfl (by ((try apply evl_some rfl);(repeat (first|exact (rfl : _ = [])|apply evl_cons rfl (by (first|exact v_1|exact v_2|exact v_3|exact v_4|exact v_5|exact v_6|exact v_7|exact v_8|exact v_9|exact rfl))|exact rfl))))).xv (fun bc hbc => ?_))
  refine xr_op rfl rfl (xv_build bt63 rfl (by ((try apply evl_some rfl);(repeat (first|exact (rfl : _ = [])|apply evl_cons rfl (by (first|exact v_1|exact v_2|exact v_3|exact v_4|exact v_5|exact v_6|exact v_7|exact v_8|exact v_9|exact rfl))|exact rfl)))) ?_)
  refine xr_op rfl rfl (xv_build bt63 rfl (by ((try apply evl_some rfl);(repeat (first|exact (rfl : _ = [])|apply evl_cons rfl (by (first|exact v_1|exact v_2|exact v_3|exact v_4|exact v_5|exact v_6|exact v_7|exact v_8|exact v_9|exact rfl))|exact rfl)))) ?_)
  refine xr_op rfl rfl (xv_build bt63 rfl (by ((try apply evl_some rfl);(repeat (first|exact (rfl : _ = [])|apply evl_cons rfl (by (first|exact v_1|exact v_2|exact v_3|exact v_4|exact v_5|exact v_6|exact v_7|exact v_8|exact v_9|exact rfl))|exact rfl)))) ?_)
  refine xr_op rfl rfl (xv_build bt63 rfl (by ((try apply evl_some rfl);(repeat (first|exact (rfl : _ = [])|apply evl_cons rfl (by (first|exact v_1|exact v_2|exact v_3|exact v_4|exact v_5|exact v_6|exact v_7|exact v_8|exact v_9|exact rfl))|exact rfl)))) ?_)
  refine xr_op rfl rfl (xv_build bt63 rfl (by ((try apply evl_some rfl);(repeat (first|exact (rfl : _ = [])|apply evl_cons rfl (by (first|exact v_1|exact v_2|exact v_3|exact v_4|exact v_5|exact v_6|exact v_7|exact v_8|exact v_9|exact rfl))|exact rfl)))) ?_)
  refine xr_op rfl rfl ((al_buildSlice sl23 ty63 rfl rfl rfl rfl rfl (by ((try apply evl_some rfl);(repeat (first|exact (rfl : _ = [])|apply evl_cons rfl (by (first|exact v_1|exact v_2|exact v_3|exact v_4|exact v_5|exact v_6|exact v_7|exact v_8|exact v_9|exact rfl))|exact rfl))))).xv (fun bm hbm => ?_))
  refine xr_op rfl rfl (xv_build bt25 rfl (by ((try apply evl_some rfl);(repeat (first|exact (rfl : _ = [])|apply evl_cons rfl (by (first|exact v_1|exact v_2|exact v_3|exact v_4|exact v_5|exact v_6|exact v_7|exact v_8|exact v_9|exact rfl))|exact rfl)))) ?_)
  refine xr_op rfl rfl (xv_s ty25 rfl rfl (by (first|(apply u_3;(repeat first|exact u_0|assumption|apply u_1|apply u_2);done)|((repeat first|exact u_0|assumption|apply u_1|apply u_2);done)|(apply u_3;apply u_3;(repeat first|exact u_0|assumption|apply u_1|apply u_2);done)|((repeat first|exact u_0|assumption|apply u_3|apply u_1);done))) (by ((try apply evl_some rfl);(repeat (first|exact (rfl : _ = [])|apply evl_cons rfl (by (first|exact v_1|exact v_2|exact v_3|exact v_4|exact v_5|exact v_6|exact v_7|exact v_8|exact v_9|exact rfl))|exact rfl)))) (by rfl) (by rfl) (by rfl) (by ((try apply evl_some rfl);(repeat (first|exact (rfl : _ = [])|apply evl_cons rfl (by (first|exact v_1|exact v_2|exact v_3|exact v_4|exact v_5|exact v_6|exact v_7|exact v_8|exact v_9|exact rfl))|exact rfl)))) ?_)
  refine xr_end rfl ?_
  refine th_n ?_
  refine xc_ret ?_
  refine body_ret (h' := ((bm, .cells ⟨smM.flatMap eMove⟩ 63) :: (bc, .cells ⟨smC.flatMap eCoal⟩ 59) :: h)) rfl (ro_cellA ty25 rfl rfl (by ((repeat first|exact z_0|assumption|refine z_1 ?_|(refine z_l ?_;(repeat first|exact z_0|assumption|refine z_1 ?_);done)|refine z_r ?_);done)) (by rfl) (by rfl) ro_nil) (by (first|((repeat first|exact s_0|exact s_1|exact s_3|refine s_4 ?_|refine s_5 ?_|refine s_6 ?_|refine s_7 ?_);done)|((repeat first|exact s_0|exact s_1|exact s_3|refine s_4 ?_|refine s_5 ?_|refine s_6 ?_|refine s_8 ?_);done))) ?_
  exact H bc bm

end Go.Proofs.Ytpefpafijadfmaa

/-
  The yard of the document's examples.
-/
set_option linter.all false
namespace Go.Proofs.Ytpefpafijadfmaa
open Go Go.H
def smY (bc bm : Nat) : Yard := ⟨some ⟨bc, 0, none⟩, 2, smC, some ⟨bm, 0, none⟩, 5, smM⟩
theorem sm_good (bc bm : Nat) : GoodYard (smY bc bm) := by
  show CoalsOk smC ∧ movesOk 2 0 smM ∧ (1 ≤ 2 ∧ 2 ≤ 6) ∧ 5 ≤ 32
  refine ⟨?_, ?_, ?_, ?_⟩ <;> decide
theorem sm_vecs (bc bm : Nat) : vecsR (smY bc bm) = some [[40, 0], [10, 10]] := by
  show partsR 2 smM (opn smM).1 5 = _
  decide
theorem sm_drawn (bc bm : Nat) : drawnA (smY bc bm) 1 = ([⟨0, 10⟩, ⟨1, 10⟩], 0) := by
  rw [drawnA_0 (sm_good bc bm) (sm_vecs bc bm) (by decide)]
  show (nzF _ (opn smM).1, (0 : Int)) = _
  decide
theorem sm_blend (bc bm : Nat) : blendA (smY bc bm) 1 = ([⟨0, 10⟩, ⟨10, 20⟩], 0) := by
  rw [blendA_0b (v := [10, 10]) (sm_good bc bm) (sm_vecs bc bm) (by decide) rfl]
  show ((List.range 2).map (bSp (takenR [[10, 10]]) (fun j => contF 2 (smM.take 5) (j : Int)) (opn smM).1), (0 : Int)) = _
  decide
theorem sm_can (bc bm : Nat) : canA (smY bc bm) 0 [25, 15] = (true, 0) := by
  rw [canA_0 (v := [40, 0]) (sm_good bc bm) (sm_vecs bc bm) (by decide) rfl rfl]
  show (canB ((List.range (opn smM).1).filterMap fun j => if takenR [[40, 0]] j > 0 then some (contF 6 (smM.take 5) (j : Int), takenR [[40, 0]] j) else none) [25, 15], (0 : Int)) = _
  decide
theorem greedy2 {r0 r1 e0 e1 n x0 x1 : Int} (h0 : 0 ≤ x0 ∧ x0 ≤ r0) (h1 : 0 ≤ x1 ∧ x1 ≤ r1) (hs : x0 + x1 = n) (ha : e0 < e1 → 0 < x1 → x0 = r0) (hb : e1 < e0 → 0 < x0 → x1 = r1) : Greedy [r0, r1] [e0, e1] n [x0, x1] := by
  refine ⟨rfl, fun i a r ha' hr => ?_, by simp [sumI]; exact hs, fun i j a r ei b ej ha' hr hei hb' hej hlt hp => ?_⟩
  · match i, ha', hr with
    | 0, ha', hr => cases ha'; cases hr; exact h0
    | 1, ha', hr => cases ha'; cases hr; exact h1
  · match i, j, ha', hr, hei, hb', hej with
    | 0, 0, ha', hr, hei, hb', hej => cases ha'; cases hr; cases hei; cases hb'; cases hej; omega
    | 0, 1, ha', hr, hei, hb', hej => cases ha'; cases hr; cases hei; cases hb'; cases hej; exact ha hlt hp
    | 1, 0, ha', hr, hei, hb', hej => cases ha'; cases hr; cases hei; cases hb'; cases hej; exact hb hlt hp
    | 1, 1, ha', hr, hei, hb', hej => cases ha'; cases hr; cases hei; cases hb'; cases hej; omega
theorem gval2 {r0 r1 e0 e1 n x0 x1 : Int} (h0 : 0 ≤ x0 ∧ x0 ≤ r0) (h1 : 0 ≤ x1 ∧ x1 ≤ r1) (hs : x0 + x1 = n) (ha : e0 < e1 → 0 < x1 → x0 = r0) (hb : e1 < e0 → 0 < x0 → x1 = r1) : gval [r0, r1] [e0, e1] n = x0 * e0 + x1 * e1 := by
  have hq := gval_eq (room := [r0, r1]) (each := [e0, e1]) rfl (greedy2 h0 h1 hs ha hb)
  rw [← hq]
  simp [dotI]
theorem sm_yield {bc bm : Nat} {f t w : Int} {a : Span} {n0 n1 l0 l1 h0 h1 : Int} (h3 : (0 ≤ f ∧ f ≤ t ∧ t < 2) ∧ 0 ≤ w ∧ w ≤ 3)
    (e0 : needF [[40, 0], [10, 10]] f t 0 = n0) (e1 : needF [[40, 0], [10, 10]] f t 1 = n1) (el : lows (smY bc bm) w = [l0, l1]) (eh : highs (smY bc bm) w = [h0, h1])
    (g : gval [30, 20] [l0, l1] n0 + gval [0, 15] [l0, l1] n1 = a.lo) (g2 : -gval [30, 20] [h0, h1] n0 - gval [0, 15] [h0, h1] n1 = a.hi) : yieldA (smY bc bm) f t w = (a, 0) := by
  rw [yieldA_0 (sm_good bc bm) (sm_vecs bc bm) h3]
  have eo : (opn (smY bc bm).moves).1 = 2 := by show (opn smM).1 = 2; decide
  have c0 : contE (smY bc bm) 0 = [30, 20] := by show contF 2 (smM.take 5) (0 : Int) = _; decide
  have c1 : contE (smY bc bm) 1 = [0, 15] := by show contF 2 (smM.take 5) (1 : Int) = _; decide
  rw [eo]
  have y1 : yLo (smY bc bm) w (needF [[40, 0], [10, 10]] f t) 2 = a.lo := by
    rw [yLo, yLo, yLo, e0, e1, c0, c1, el]; omega
  have y2 : yHi (smY bc bm) w (needF [[40, 0], [10, 10]] f t) 2 = a.hi := by
    rw [yHi, yHi, yHi, e0, e1, c0, c1, eh]; omega
  rw [y1, y2]
theorem sm_yield1 (bc bm : Nat) : yieldA (smY bc bm) 0 0 0 = (⟨18000, 23000⟩, 0) := by
  refine sm_yield (n0 := 40) (n1 := 0) (l0 := 400) (l1 := 600) (h0 := -500) (h1 := -650) (by decide) (by decide) (by decide) rfl rfl ?_ ?_
  · rw [gval2 (x0 := 30) (x1 := 10) (by decide) (by decide) (by decide) (by decide) (by decide), gval2 (x0 := 0) (x1 := 0) (by decide) (by decide) (by decide) (by decide) (by decide)]; decide
  · rw [gval2 (x0 := 20) (x1 := 20) (by decide) (by decide) (by decide) (by decide) (by decide), gval2 (x0 := 0) (x1 := 0) (by decide) (by decide) (by decide) (by decide) (by decide)]; decide
theorem sm_yield2 (bc bm : Nat) : yieldA (smY bc bm) 1 1 2 = (⟨400, 800⟩, 0) := by
  refine sm_yield (n0 := 10) (n1 := 10) (l0 := 10) (l1 := 30) (h0 := -12) (h1 := -40) (by decide) (by decide) (by decide) rfl rfl ?_ ?_
  · rw [gval2 (x0 := 10) (x1 := 0) (by decide) (by decide) (by decide) (by decide) (by decide), gval2 (x0 := 0) (x1 := 10) (by decide) (by decide) (by decide) (by decide) (by decide)]; decide
  · rw [gval2 (x0 := 0) (x1 := 10) (by decide) (by decide) (by decide) (by decide) (by decide), gval2 (x0 := 0) (x1 := 10) (by decide) (by decide) (by decide) (by decide) (by decide)]; decide
end Go.Proofs.Ytpefpafijadfmaa

/-
  Walks.
-/
namespace Go.Proofs.Ytpefpafijadfmaa
open Go Go.H
set_option maxRecDepth 100000
set_option maxHeartbeats 8000000
set_option linter.all false
theorem ListsT_c {a a2 : Option Addr} {c c2 n n2 : Nat} {xs ys : List Part} {h : Hp} {R : Ending → Hp → Prop} (hn : n = xs.length) (hn2 : n2 = ys.length) (hs : SlV h 2 ePart a xs) (hs2 : SlV h 2 ePart a2 ys) (he : xs = ys) (hl : n ≤ 1000000) (H : R (.returned (.bool true)) h) : ACalls Try.prog 23 ⟨[.slice a n c, .slice a2 n2 c2]⟩ h R := by
  subst hn hn2
  refine Lists_c hs hs2 hl (by rw [← he]; omega) ?_
  rw [decide_eq_true he]; exact H
theorem SpansT_c {a a2 : Option Addr} {c c2 n n2 : Nat} {xs ys : List Span} {h : Hp} {R : Ending → Hp → Prop} (hn : n = xs.length) (hn2 : n2 = ys.length) (hs : SlV h 2 eSpan a xs) (hs2 : SlV h 2 eSpan a2 ys) (he : xs = ys) (hl : n ≤ 1000000) (H : R (.returned (.bool true)) h) : ACalls Try.prog 15 ⟨[.slice a n c, .slice a2 n2 c2]⟩ h R := by
  subst hn hn2
  refine Spans_c hs hs2 hl (by rw [← he]; omega) ?_
  rw [decide_eq_true he]; exact H
theorem blendA_len (y : Yard) (draw : Int) : (blendA y draw).1.length ≤ y.coals.length := by
  unfold blendA
  split
  · split
    · exact Nat.zero_le _
    · split
      · dsimp only; rw [List.length_map, List.length_range]; exact Nat.le_refl _
      · exact Nat.zero_le _
  · exact Nat.zero_le _
theorem smV {h : Hp} {bc bm : Nat} (m1 : (bm, .cells ⟨smM.flatMap eMove⟩ 63 (0, 0)) ∈ h) (m2 : (bc, .cells ⟨smC.flatMap eCoal⟩ 59 (0, 0)) ∈ h) : YardV h (smY bc bm) := ⟨slvL eCoal_len m2, slvL eMove_len m1⟩
theorem smS (bc bm : Nat) : Small (smY bc bm) := ⟨by show 2 ≤ 1000; decide, by show 5 ≤ 1000; decide⟩
section
variable {h : Hp} {R : Ending → Hp → Prop} {bc bm : Nat} (m1 : (bm, .cells ⟨smM.flatMap eMove⟩ 63 (0, 0)) ∈ h) (m2 : (bc, .cells ⟨smC.flatMap eCoal⟩ 59 (0, 0)) ∈ h)
include m1 m2
theorem aDrawn (H : ∀ a c G, SlV G 2 ePart a [⟨0, 10⟩, ⟨1, 10⟩] → R (.returned (.tuple ⟨[.slice a 2 c, I 0]⟩)) (G ++ h)) : ACalls Try.prog 19 ⟨[.agg ⟨[.slice (some ⟨bc, 0, none⟩) 2 2, .slice (some ⟨bm, 0, none⟩) 5 5]⟩, I 1]⟩ h R :=
  Drawn_c (y := smY bc bm) (smV m1 m2) (smS bc bm) (by rw [sm_drawn]; exact H)
theorem aBlend (H : ∀ a c G, SlV G 2 eSpan a [⟨0, 10⟩, ⟨10, 20⟩] → R (.returned (.tuple ⟨[.slice a 2 c, I 0]⟩)) (G ++ h)) : ACalls Try.prog 11 ⟨[.agg ⟨[.slice (some ⟨bc, 0, none⟩) 2 2, .slice (some ⟨bm, 0, none⟩) 5 5]⟩, I 1]⟩ h R :=
  Blend_c (y := smY bc bm) (smV m1 m2) (smS bc bm) (by rw [sm_blend]; exact H)
theorem aYield1 (H : R (.returned (.tuple ⟨[.agg ⟨[I 18000, I 23000]⟩, I 0]⟩)) h) : ACalls Try.prog 13 ⟨[.agg ⟨[.slice (some ⟨bc, 0, none⟩) 2 2, .slice (some ⟨bm, 0, none⟩) 5 5]⟩, I 0, I 0, I 0]⟩ h R :=
  Yield_c (y := smY bc bm) (smV m1 m2) (smS bc bm) (by rw [sm_yield1]; exact H)
theorem aYield2 (H : R (.returned (.tuple ⟨[.agg ⟨[I 400, I 800]⟩, I 0]⟩)) h) : ACalls Try.prog 13 ⟨[.agg ⟨[.slice (some ⟨bc, 0, none⟩) 2 2, .slice (some ⟨bm, 0, none⟩) 5 5]⟩, I 1, I 1, I 2]⟩ h R :=
  Yield_c (y := smY bc bm) (smV m1 m2) (smS bc bm) (by rw [sm_yield2]; exact H)
theorem aCan {b : Nat} (m3 : (b, .cells ⟨[I 25, I 15]⟩ 3 (0, 0)) ∈ h) (H : R (.returned (.tuple ⟨[.bool true, I 0]⟩)) h) : ACalls Try.prog 17 ⟨[.agg ⟨[.slice (some ⟨bc, 0, none⟩) 2 2, .slice (some ⟨bm, 0, none⟩) 5 5]⟩, I 0, .slice (some ⟨b, 0, none⟩) 2 2]⟩ h R :=
  Can_c (y := smY bc bm) (ts := [25, 15]) (smV m1 m2) (smS bc bm) (slvL eI_len m3) (by rw [sm_can]; exact H)
end

theorem awake_c {h : Hp} {R : Ending → Hp → Prop} (H : R (.returned (.bool true)) h) : ACalls Try.prog 10 ⟨[]⟩ h R := by
  refine calls_of_xc (N := 84) Try.func10 rfl (by rfl) ?_
  refine xc_seq (xc_region ?_)
  refine xr_op rfl rfl (xv_assign rfl ?_)
  refine xr_end rfl ?_
  refine th_n ?_
  refine xc_seq (xc_region ?_)
  refine xr_op rfl rfl (xv_calls rfl hb29 (sample_c (fun bc bm => up_ret ?_)))
  refine xr_op rfl rfl (xv_alloc ty25 (fun b1 hb1 => ?_))
  refine xr_op rfl rfl (xv_s ty25 rfl rfl (by (first|(apply u_3;(repeat first|exact u_0|assumption|apply u_1|apply u_2);done)|((repeat first|exact u_0|assumption|apply u_1|apply u_2);done)|(apply u_3;apply u_3;(repeat first|exact u_0|assumption|apply u_1|apply u_2);done)|((repeat first|exact u_0|assumption|apply u_3|apply u_1);done))) (by ((try apply evl_some rfl);(repeat (first|exact (rfl : _ = [])|apply evl_cons rfl (by (first|exact v_1|exact v_2|exact v_3|exact v_4|exact v_5|exact v_6|exact v_7|exact v_8|exact v_9|exact rfl))|exact rfl)))) (by rfl) (by rfl) (by rfl) (by ((try apply evl_some rfl);(repeat (first|exact (rfl : _ = [])|apply evl_cons rfl (by (first|exact v_1|exact v_2|exact v_3|exact v_4|exact v_5|exact v_6|exact v_7|exact v_8|exact v_9|exact rfl))|exact rfl)))) ?_)
  refine xr_end rfl ?_
  refine th_n ?_
  refine xc_seq (xc_region ?_)
  refine xr_op rfl rfl (xv_loadA ty25 rfl rfl (by ((repeat first|exact z_0|assumption|refine z_1 ?_|(refine z_l ?_;(repeat first|exact z_0|assumption|refine z_1 ?_);done)|refine z_r ?_);done)) (by ((try apply evl_some rfl);(repeat (first|exact (rfl : _ = [])|apply evl_cons rfl (by (first|exact v_1|exact v_2|exact v_3|exact v_4|exact v_5|exact v_6|exact v_7|exact v_8|exact v_9|exact rfl))|exact rfl)))) (by rfl) ?_)
  refine xr_op rfl rfl (xv_calls rfl hb19 (aDrawn (by ((repeat first|exact z_0|assumption|refine z_1 ?_|(refine z_l ?_;(repeat first|exact z_0|assumption|refine z_1 ?_);done)|refine z_r ?_);done)) (by ((repeat first|exact z_0|assumption|refine z_1 ?_|(refine z_l ?_;(repeat first|exact z_0|assumption|refine z_1 ?_);done)|refine z_r ?_);done)) (fun a1 c1 G1 s1 => up_ret ?_)))
  refine xr_op rfl rfl (xv_move rfl ?_)
  refine xr_op rfl rfl (xv_extract rfl rfl ?_)
  refine xr_op rfl rfl (xv_extract rfl rfl ?_)
  refine xr_op rfl rfl (xv_assign rfl ?_)
  refine xr_op rfl rfl (xv_assign rfl ?_)
  refine xr_end rfl ?_
  refine th_n ?_
  refine xc_seq (xc_region ?_)
  refine xr_op rfl rfl (xv_loadA ty25 rfl rfl (by ((repeat first|exact z_0|assumption|refine z_1 ?_|(refine z_l ?_;(repeat first|exact z_0|assumption|refine z_1 ?_);done)|refine z_r ?_);done)) (by ((try apply evl_some rfl);(repeat (first|exact (rfl : _ = [])|apply evl_cons rfl (by (first|exact v_1|exact v_2|exact v_3|exact v_4|exact v_5|exact v_6|exact v_7|exact v_8|exact v_9|exact rfl))|exact rfl)))) (by rfl) ?_)
  refine xr_op rfl rfl (xv_calls rfl hb11 (aBlend (by ((repeat first|exact z_0|assumption|refine z_1 ?_|(refine z_l ?_;(repeat first|exact z_0|assumption|refine z_1 ?_);done)|refine z_r ?_);done)) (by ((repeat first|exact z_0|assumption|refine z_1 ?_|(refine z_l ?_;(repeat first|exact z_0|assumption|refine z_1 ?_);done)|refine z_r ?_);done)) (fun a2 c2 G2 s2 => up_ret ?_)))
  refine xr_op rfl rfl (xv_move rfl ?_)
  refine xr_op rfl rfl (xv_extract rfl rfl ?_)
  refine xr_op rfl rfl (xv_extract rfl rfl ?_)
  refine xr_op rfl rfl (xv_assign rfl ?_)
  refine xr_op rfl rfl (xv_assign rfl ?_)
  refine xr_end rfl ?_
  refine th_n ?_
  refine xc_seq (xc_region ?_)
  refine xr_op rfl rfl (xv_loadA ty25 rfl rfl (by ((repeat first|exact z_0|assumption|refine z_1 ?_|(refine z_l ?_;(repeat first|exact z_0|assumption|refine z_1 ?_);done)|refine z_r ?_);done)) (by ((try apply evl_some rfl);(repeat (first|exact (rfl : _ = [])|apply evl_cons rfl (by (first|exact v_1|exact v_2|exact v_3|exact v_4|exact v_5|exact v_6|exact v_7|exact v_8|exact v_9|exact rfl))|exact rfl)))) (by rfl) ?_)
  refine xr_op rfl rfl (xv_calls rfl hb13 (aYield1 (by ((repeat first|exact z_0|assumption|refine z_1 ?_|(refine z_l ?_;(repeat first|exact z_0|assumption|refine z_1 ?_);done)|refine z_r ?_);done)) (by ((repeat first|exact z_0|assumption|refine z_1 ?_|(refine z_l ?_;(repeat first|exact z_0|assumption|refine z_1 ?_);done)|refine z_r ?_);done)) (up_ret ?_)))
  refine xr_op rfl rfl (xv_move rfl ?_)
  refine xr_op rfl rfl (xv_extract rfl rfl ?_)
  refine xr_op rfl rfl (xv_extract rfl rfl ?_)
  refine xr_op rfl rfl (xv_alloc ty33 (fun b6 hb6 => ?_))
  refine xr_op rfl rfl (xv_s ty33 rfl rfl (by (first|(apply u_3;(repeat first|exact u_0|assumption|apply u_1|apply u_2);done)|((repeat first|exact u_0|assumption|apply u_1|apply u_2);done)|(apply u_3;apply u_3;(repeat first|exact u_0|assumption|apply u_1|apply u_2);done)|((repeat first|exact u_0|assumption|apply u_3|apply u_1);done))) (by ((try apply evl_some rfl);(repeat (first|exact (rfl : _ = [])|apply evl_cons rfl (by (first|exact v_1|exact v_2|exact v_3|exact v_4|exact v_5|exact v_6|exact v_7|exact v_8|exact v_9|exact rfl))|exact rfl)))) (by rfl) (by rfl) (by rfl) (by ((try apply evl_some rfl);(repeat (first|exact (rfl : _ = [])|apply evl_cons rfl (by (first|exact v_1|exact v_2|exact v_3|exact v_4|exact v_5|exact v_6|exact v_7|exact v_8|exact v_9|exact rfl))|exact rfl)))) ?_)
  refine xr_op rfl rfl (xv_assign rfl ?_)
  refine xr_end rfl ?_
  refine th_n ?_
  refine xc_seq (xc_region ?_)
  refine xr_op rfl rfl (xv_loadA ty25 rfl rfl (by ((repeat first|exact z_0|assumption|refine z_1 ?_|(refine z_l ?_;(repeat first|exact z_0|assumption|refine z_1 ?_);done)|refine z_r ?_);done)) (by ((try apply evl_some rfl);(repeat (first|exact (rfl : _ = [])|apply evl_cons rfl (by (first|exact v_1|exact v_2|exact v_3|exact v_4|exact v_5|exact v_6|exact v_7|exact v_8|exact v_9|exact rfl))|exact rfl)))) (by rfl) ?_)
  refine xr_op rfl rfl (xv_calls rfl hb13 (aYield2 (by ((repeat first|exact z_0|assumption|refine z_1 ?_|(refine z_l ?_;(repeat first|exact z_0|assumption|refine z_1 ?_);done)|refine z_r ?_);done)) (by ((repeat first|exact z_0|assumption|refine z_1 ?_|(refine z_l ?_;(repeat first|exact z_0|assumption|refine z_1 ?_);done)|refine z_r ?_);done)) (up_ret ?_)))
  refine xr_op rfl rfl (xv_move rfl ?_)
  refine xr_op rfl rfl (xv_extract rfl rfl ?_)
  refine xr_op rfl rfl (xv_extract rfl rfl ?_)
  refine xr_op rfl rfl (xv_alloc ty33 (fun b8 hb8 => ?_))
  refine xr_op rfl rfl (xv_s ty33 rfl rfl (by (first|(apply u_3;(repeat first|exact u_0|assumption|apply u_1|apply u_2);done)|((repeat first|exact u_0|assumption|apply u_1|apply u_2);done)|(apply u_3;apply u_3;(repeat first|exact u_0|assumption|apply u_1|apply u_2);done)|((repeat first|exact u_0|assumption|apply u_3|apply u_1);done))) (by ((try apply evl_some rfl);(repeat (first|exact (rfl : _ = [])|apply evl_cons rfl (by (first|exact v_1|exact v_2|exact v_3|exact v_4|exact v_5|exact v_6|exact v_7|exact v_8|exact v_9|exact rfl))|exact rfl)))) (by rfl) (by rfl) (by rfl) (by ((try apply evl_some rfl);(repeat (first|exact (rfl : _ = [])|apply evl_cons rfl (by (first|exact v_1|exact v_2|exact v_3|exact v_4|exact v_5|exact v_6|exact v_7|exact v_8|exact v_9|exact rfl))|exact rfl)))) ?_)
  refine xr_op rfl rfl (xv_assign rfl ?_)
  refine xr_end rfl ?_
  refine th_n ?_
  refine xc_seq (xc_region ?_)
  refine xr_op rfl rfl (xv_loadA ty25 rfl rfl (by ((repeat first|exact z_0|assumption|refine z_1 ?_|(refine z_l ?_;(repeat first|exact z_0|assumption|refine z_1 ?_);done)|refine z_r ?_);done)) (by ((try apply evl_some rfl);(repeat (first|exact (rfl : _ = [])|apply evl_cons rfl (by (first|exact v_1|exact v_2|exact v_3|exact v_4|exact v_5|exact v_6|exact v_7|exact v_8|exact v_9|exact rfl))|exact rfl)))) (by rfl) ?_)
  refine xr_op rfl rfl ((al_buildSlice sl38 ty3 rfl rfl rfl rfl rfl (by ((try apply evl_some rfl);(repeat (first|exact (rfl : _ = [])|apply evl_cons rfl (by (first|exact v_1|exact v_2|exact v_3|exact v_4|exact v_5|exact v_6|exact v_7|exact v_8|exact v_9|exact rfl))|exact rfl))))).xv (fun b35 hb35 => ?_))
  refine xr_op rfl rfl (xv_calls rfl hb17 (aCan (by ((repeat first|exact z_0|assumption|refine z_1 ?_|(refine z_l ?_;(repeat first|exact z_0|assumption|refine z_1 ?_);done)|refine z_r ?_);done)) (by ((repeat first|exact z_0|assumption|refine z_1 ?_|(refine z_l ?_;(repeat first|exact z_0|assumption|refine z_1 ?_);done)|refine z_r ?_);done)) (by ((repeat first|exact z_0|assumption|refine z_1 ?_|(refine z_l ?_;(repeat first|exact z_0|assumption|refine z_1 ?_);done)|refine z_r ?_);done)) (up_ret ?_)))
  refine xr_op rfl rfl (xv_move rfl ?_)
  refine xr_op rfl rfl (xv_extract rfl rfl ?_)
  refine xr_op rfl rfl (xv_extract rfl rfl ?_)
  refine xr_op rfl rfl (xv_assign rfl ?_)
  refine xr_op rfl rfl (xv_assign rfl ?_)
  refine xr_end rfl ?_
  refine th_n ?_
  refine xc_seq ?_
  refine xc_draw0 [(0, .S), (1, .S), (2, .S), (3, .P), (3, .A), (4, .R), (5, .S), (6, .S), (7, .S), (8, .S), (9, .S), (10, .S), (11, .R), (12, .R), (13, .O), (14, .R), (15, .S), (16, .S), (17, .S), (18, .S), (19, .S), (20, .S), (21, .R), (22, .R), (23, .S), (24, .S), (25, .S), (26, .S), (27, .S), (28, .S), (29, .S), (30, .R), (31, .R), (32, .S), (33, .S), (34, .S), (35, .S), (36, .S), (37, .S), (38, .S), (39, .S), (40, .S), (41, .S), (42, .S), (43, .S), (44, .S), (45, .S)] mixed (by kernel_rfl) ?_
  refine js_S rfl rfl (.inl rfl) (xv_move rfl ⟨rfl, rfl⟩) ?_
  refine js_S rfl rfl (.inl rfl) (xv_build bt43 rfl (by ((try apply evl_some rfl);(repeat (first|exact (rfl : _ = [])|apply evl_cons rfl (by (first|exact v_1|exact v_2|exact v_3|exact v_4|exact v_5|exact v_6|exact v_7|exact v_8|exact v_9|exact rfl))|exact rfl)))) ⟨rfl, rfl⟩) ?_
  refine js_S rfl rfl (.inl rfl) (xv_build bt43 rfl (by ((try apply evl_some rfl);(repeat (first|exact (rfl : _ = [])|apply evl_cons rfl (by (first|exact v_1|exact v_2|exact v_3|exact v_4|exact v_5|exact v_6|exact v_7|exact v_8|exact v_9|exact rfl))|exact rfl)))) ⟨rfl, rfl⟩) ?_
  refine js_P rfl rfl rfl (al_buildSlice sl39 ty43 rfl rfl rfl rfl rfl (by ((try apply evl_some rfl);(repeat (first|exact (rfl : _ = [])|apply evl_cons rfl (by (first|exact v_1|exact v_2|exact v_3|exact v_4|exact v_5|exact v_6|exact v_7|exact v_8|exact v_9|exact rfl))|exact rfl))))) ?_
  refine js_A0 rfl rfl rfl rfl rfl ⟨rfl, rfl, trivial⟩ (fun b42 hb42 => ?_)
  refine js_R0 rfl rfl (.inl rfl) (xv_calls rfl hb23 (ListsT_c (xs := [⟨0, 10⟩, ⟨1, 10⟩]) (ys := [⟨0, 10⟩, ⟨1, 10⟩]) rfl rfl (s1.sub (by intro z hz; ((repeat first|exact z_0|assumption|refine z_1 ?_|(refine z_l ?_;(repeat first|exact z_0|assumption|refine z_1 ?_);done)|refine z_r ?_);done))) (slvL ePart_len (by ((repeat first|exact z_0|assumption|refine z_1 ?_|(refine z_l ?_;(repeat first|exact z_0|assumption|refine z_1 ?_);done)|refine z_r ?_);done))) rfl (by decide) (up_ret ⟨rfl, rfl⟩))) ?_
  refine js_S rfl rfl (.inl rfl) (xv_move rfl ⟨rfl, rfl⟩) ?_
  refine js_S rfl rfl (.inr ⟨_, _, rfl, rfl⟩) (xv_move rfl ⟨rfl, rfl⟩) ?_
  refine js_S rfl rfl (.inr ⟨_, _, rfl, rfl⟩) (xv_eqlT rfl rfl rfl ⟨rfl, rfl⟩) ?_
  refine js_S rfl rfl (.inl rfl) (xv_pick rfl rfl ⟨rfl, rfl⟩) ?_
  refine js_S rfl rfl (.inl rfl) (xv_move rfl ⟨rfl, rfl⟩) ?_
  refine js_S rfl rfl (.inr ⟨_, _, rfl, rfl⟩) (xv_move rfl ⟨rfl, rfl⟩) ?_
  refine js_R0 rfl rfl (.inr ⟨_, _, rfl, rfl⟩) (xv_calls rfl hb28 (span_c _ _ (up_ret ⟨rfl, rfl⟩))) ?_
  refine js_R0 rfl rfl (.inr ⟨_, _, rfl, rfl⟩) (xv_calls rfl hb28 (span_c _ _ (up_ret ⟨rfl, rfl⟩))) ?_
  refine js_O0 rfl rfl (.inr ⟨_, _, rfl, rfl⟩) ((al_buildSlice sl28 ty33 rfl rfl rfl rfl rfl (by ((try apply evl_some rfl);(repeat (first|exact (rfl : _ = [])|apply evl_cons rfl (by (first|exact v_1|exact v_2|exact v_3|exact v_4|exact v_5|exact v_6|exact v_7|exact v_8|exact v_9|exact rfl))|exact rfl))))).xv (fun b52 hb52 => ?_))
  refine js_R0 rfl rfl (.inr ⟨_, _, rfl, rfl⟩) (xv_calls rfl hb15 (SpansT_c (xs := [⟨0, 10⟩, ⟨10, 20⟩]) (ys := [⟨0, 10⟩, ⟨10, 20⟩]) rfl rfl (s2.sub (by intro z hz; ((repeat first|exact z_0|assumption|refine z_1 ?_|(refine z_l ?_;(repeat first|exact z_0|assumption|refine z_1 ?_);done)|refine z_r ?_);done))) (slvL eSpan_len (by ((repeat first|exact z_0|assumption|refine z_1 ?_|(refine z_l ?_;(repeat first|exact z_0|assumption|refine z_1 ?_);done)|refine z_r ?_);done))) rfl (by decide) (up_ret ⟨rfl, rfl⟩))) ?_
  refine js_S rfl rfl (.inl rfl) (xv_pick rfl rfl ⟨rfl, rfl⟩) ?_
  refine js_S rfl rfl (.inl rfl) (xv_move rfl ⟨rfl, rfl⟩) ?_
  refine js_S rfl rfl (.inr ⟨_, _, rfl, rfl⟩) (xv_move rfl ⟨rfl, rfl⟩) ?_
  refine js_S rfl rfl (.inr ⟨_, _, rfl, rfl⟩) (xv_eqlT rfl rfl rfl ⟨rfl, rfl⟩) ?_
  refine js_S rfl rfl (.inl rfl) (xv_pick rfl rfl ⟨rfl, rfl⟩) ?_
  refine js_S rfl rfl (.inl rfl) (xv_move rfl ⟨rfl, rfl⟩) ?_
  refine js_R0 rfl rfl (.inr ⟨_, _, rfl, rfl⟩) (xv_loadA ty33 rfl rfl (by ((repeat first|exact z_0|assumption|refine z_1 ?_|(refine z_l ?_;(repeat first|exact z_0|assumption|refine z_1 ?_);done)|refine z_r ?_);done)) (by ((try apply evl_some rfl);(repeat (first|exact (rfl : _ = [])|apply evl_cons rfl (by (first|exact v_1|exact v_2|exact v_3|exact v_4|exact v_5|exact v_6|exact v_7|exact v_8|exact v_9|exact rfl))|exact rfl)))) (by rfl) ⟨rfl, rfl⟩) ?_
  refine js_R0 rfl rfl (.inr ⟨_, _, rfl, rfl⟩) (xv_calls rfl hb28 (span_c _ _ (up_ret ⟨rfl, rfl⟩))) ?_
  refine js_S rfl rfl (.inr ⟨_, _, rfl, rfl⟩) (xv_eqA (b := true) fq33 rfl eg33 rfl rfl rfl rfl (by ((repeat' first | assumption | exact numNil | refine numCons ?_ | refine numApp ?_ ?_); done)) (by ((repeat' first | assumption | exact numNil | refine numCons ?_ | refine numApp ?_ ?_); done)) (eqc_self (by ((repeat' first | assumption | exact numNil | refine numCons ?_ | refine numApp ?_ ?_); done))) ⟨rfl, rfl⟩) ?_
  refine js_S rfl rfl (.inl rfl) (xv_pick rfl rfl ⟨rfl, rfl⟩) ?_
  refine js_S rfl rfl (.inl rfl) (xv_move rfl ⟨rfl, rfl⟩) ?_
  refine js_S rfl rfl (.inr ⟨_, _, rfl, rfl⟩) (xv_move rfl ⟨rfl, rfl⟩) ?_
  refine js_S rfl rfl (.inr ⟨_, _, rfl, rfl⟩) (xv_eqlT rfl rfl rfl ⟨rfl, rfl⟩) ?_
  refine js_S rfl rfl (.inl rfl) (xv_pick rfl rfl ⟨rfl, rfl⟩) ?_
  refine js_S rfl rfl (.inl rfl) (xv_move rfl ⟨rfl, rfl⟩) ?_
  refine js_R0 rfl rfl (.inr ⟨_, _, rfl, rfl⟩) (xv_loadA ty33 rfl rfl (by ((repeat first|exact z_0|assumption|refine z_1 ?_|(refine z_l ?_;(repeat first|exact z_0|assumption|refine z_1 ?_);done)|refine z_r ?_);done)) (by ((try apply evl_some rfl);(repeat (first|exact (rfl : _ = [])|apply evl_cons rfl (by (first|exact v_1|exact v_2|exact v_3|exact v_4|exact v_5|exact v_6|exact v_7|exact v_8|exact v_9|exact rfl))|exact rfl)))) (by rfl) ⟨rfl, rfl⟩) ?_
  refine js_R0 rfl rfl (.inr ⟨_, _, rfl, rfl⟩) (xv_calls rfl hb28 (span_c _ _ (up_ret ⟨rfl, rfl⟩))) ?_
  refine js_S rfl rfl (.inr ⟨_, _, rfl, rfl⟩) (xv_eqA (b := true) fq33 rfl eg33 rfl rfl rfl rfl (by ((repeat' first | assumption | exact numNil | refine numCons ?_ | refine numApp ?_ ?_); done)) (by ((repeat' first | assumption | exact numNil | refine numCons ?_ | refine numApp ?_ ?_); done)) (eqc_self (by ((repeat' first | assumption | exact numNil | refine numCons ?_ | refine numApp ?_ ?_); done))) ⟨rfl, rfl⟩) ?_
  refine js_S rfl rfl (.inl rfl) (xv_pick rfl rfl ⟨rfl, rfl⟩) ?_
  refine js_S rfl rfl (.inl rfl) (xv_move rfl ⟨rfl, rfl⟩) ?_
  refine js_S rfl rfl (.inr ⟨_, _, rfl, rfl⟩) (xv_move rfl ⟨rfl, rfl⟩) ?_
  refine js_S rfl rfl (.inr ⟨_, _, rfl, rfl⟩) (xv_eqlT rfl rfl rfl ⟨rfl, rfl⟩) ?_
  refine js_S rfl rfl (.inl rfl) (xv_pick rfl rfl ⟨rfl, rfl⟩) ?_
  refine js_S rfl rfl (.inl rfl) (xv_move rfl ⟨rfl, rfl⟩) ?_
  refine js_S rfl rfl (.inr ⟨_, _, rfl, rfl⟩) (xv_move rfl ⟨rfl, rfl⟩) ?_
  refine js_S rfl rfl (.inl rfl) (xv_pick rfl rfl ⟨rfl, rfl⟩) ?_
  refine js_S rfl rfl (.inl rfl) (xv_move rfl ⟨rfl, rfl⟩) ?_
  refine js_S rfl rfl (.inr ⟨_, _, rfl, rfl⟩) (xv_move rfl ⟨rfl, rfl⟩) ?_
  refine js_S rfl rfl (.inr ⟨_, _, rfl, rfl⟩) (xv_eqlT rfl rfl rfl ⟨rfl, rfl⟩) ?_
  refine js_S rfl rfl (.inl rfl) (xv_pick rfl rfl ⟨rfl, rfl⟩) ?_
  refine js_S rfl rfl (.inl rfl) (xv_assign rfl ⟨rfl, rfl⟩) ?_
  refine j_end0 ?_
  refine th_n ?_
  refine xc_ret ?_
  refine body_ret (h' := h) rfl (ro_tmp rfl ro_nil) (by (first|((repeat first|exact s_0|exact s_1|exact s_3|refine s_4 ?_|refine s_5 ?_|refine s_6 ?_|refine s_7 ?_);done)|((repeat first|exact s_0|exact s_1|exact s_3|refine s_4 ?_|refine s_5 ?_|refine s_6 ?_|refine s_8 ?_);done))) ?_
  exact H

end Go.Proofs.Ytpefpafijadfmaa

/-
  Walks.
-/
namespace Go.Proofs.Ytpefpafijadfmaa
open Go Go.H
set_option maxRecDepth 100000
set_option maxHeartbeats 8000000
set_option linter.all false
end Go.Proofs.Ytpefpafijadfmaa

/-
  Walks.
-/
namespace Go.Proofs.Ytpefpafijadfmaa
open Go Go.H
set_option maxRecDepth 100000
set_option maxHeartbeats 8000000
set_option linter.all false
end Go.Proofs.Ytpefpafijadfmaa

/-
  Walks.
-/
namespace Go.Proofs.Ytpefpafijadfmaa
open Go Go.H
set_option maxRecDepth 100000
set_option maxHeartbeats 8000000
set_option linter.all false
end Go.Proofs.Ytpefpafijadfmaa

/-
  The order of coals that arrive in a layer; what is drawn and left is all that arrived; later moves.
-/
set_option linter.all false
namespace Go.Proofs.Ytpefpafijadfmaa
open Go Go.H
section
variable {a b : Move}
theorem opn_app (l q : List Move) : opn (l ++ q) = q.foldl stepO (opn l) := by unfold opn; rw [List.foldl_append]
theorem opn_two (ha : a.coal ≠ -1) (hb : b.coal ≠ -1) (hh : a.hour = b.hour) (l : List Move) : opn (l ++ [a]) = opn (l ++ [b]) ∧ opn (l ++ [a] ++ [b]) = opn (l ++ [a]) := by
  constructor
  · rw [opn_snoc, opn_snoc]
    unfold stepO
    rw [if_neg ha, if_neg hb, hh]
  · rw [opn_snoc]
    have e : (opn (l ++ [a])).2 = a.hour := by
      rw [opn_snoc]
      unfold stepO
      rw [if_neg ha]
      split
      · assumption
      · rfl
    unfold stepO
    rw [if_neg hb, if_pos (by rw [e, hh])]
theorem opn_sw (ha : a.coal ≠ -1) (hb : b.coal ≠ -1) (hh : a.hour = b.hour) (l : List Move) : opn (l ++ [a] ++ [b]) = opn (l ++ [b] ++ [a]) := by
  rw [(opn_two ha hb hh l).2, (opn_two hb ha hh.symm l).2, (opn_two ha hb hh l).1]
theorem set_sw {l : List Int} {i j : Nat} {x z : Int} (hi : i < l.length) (hj : j < l.length) : (l.set i (l.getD i 0 + x)).set j ((l.set i (l.getD i 0 + x)).getD j 0 + z) = (l.set j (l.getD j 0 + z)).set i ((l.set j (l.getD j 0 + z)).getD i 0 + x) := by
  by_cases h : i = j
  · subst h
    rw [List.set_set, List.set_set, List.getD_eq_getElem?_getD (l := l.set i _), List.getElem?_set_self hi, List.getD_eq_getElem?_getD (l := l.set i _), List.getElem?_set_self hi]
    simp only [Option.getD_some]
    congr 1; omega
  · rw [List.getD_eq_getElem?_getD (l := l.set i _), List.getElem?_set_ne h, List.getD_eq_getElem?_getD (l := l.set j _), List.getElem?_set_ne (fun e => h e.symm), ← List.getD_eq_getElem?_getD, ← List.getD_eq_getElem?_getD]
    exact List.set_comm _ _ h
theorem cont_sw {n : Nat} (ha : 0 ≤ a.coal ∧ a.coal < n) (hb : 0 ≤ b.coal ∧ b.coal < n) (hh : a.hour = b.hour) (l : List Move) (j : Int) : contF n (l ++ [a] ++ [b]) j = contF n (l ++ [b] ++ [a]) j := by
  have ha1 : a.coal ≠ -1 := by omega
  have hb1 : b.coal ≠ -1 := by omega
  have h1 := opn_two ha1 hb1 hh l
  have h2 := opn_two hb1 ha1 hh.symm l
  have hl := contF_len n l j
  rw [contF_snoc, contF_snoc, contF_snoc, contF_snoc, h1.2, h2.2, ← h1.1]
  by_cases hj : ((opn (l ++ [a])).1 : Int) - 1 = j
  · rw [if_pos ⟨hb1, hj⟩, if_pos ⟨ha1, hj⟩, if_pos ⟨ha1, hj⟩, if_pos ⟨hb1, hj⟩]
    exact set_sw (by omega) (by omega)
  · rw [if_neg (fun q => hj q.2), if_neg (fun q => hj q.2), if_neg (fun q => hj q.2), if_neg (fun q => hj q.2)]
theorem cont_app {n : Nat} {l l' : List Move} {j : Int} (ho : opn l = opn l') (hc : contF n l j = contF n l' j) (q : List Move) : contF n (l ++ q) j = contF n (l' ++ q) j := by
  induction q using snoc_ind with
  | h0 => simpa using hc
  | h1 q m ih =>
    rw [← List.append_assoc, ← List.append_assoc, contF_snoc, contF_snoc, ih, opn_snoc, opn_snoc, opn_app, opn_app, ho]
theorem moves_sw {n : Nat} (hh : a.hour = b.hour) : ∀ (p q : List Move) (last : Int), movesOk n last (p ++ a :: b :: q) → movesOk n last (p ++ b :: a :: q)
  | [], q, last, h => by
    obtain ⟨⟨⟨a1, a2⟩, a3, a4⟩, ⟨⟨b1, b2⟩, b3, b4⟩, h⟩ := h
    refine ⟨⟨⟨by omega, b2⟩, b3, b4⟩, ⟨⟨by omega, a2⟩, a3, a4⟩, ?_⟩
    rw [hh]; exact h
  | m :: p, q, last, h => ⟨h.1, moves_sw hh p q m.hour h.2⟩
theorem parts_sw {n L : Nat} (ha : 0 ≤ a.coal ∧ a.coal < n) (hb : 0 ≤ b.coal ∧ b.coal < n) (hh : a.hour = b.hour) (p q : List Move) : ∀ k, partsR n (p ++ a :: b :: q) L k = partsR n (p ++ b :: a :: q) L k
  | 0 => rfl
  | k + 1 => by
    have ih := parts_sw (L := L) ha hb hh p q k
    have ha1 : a.coal ≠ -1 := by omega
    have hb1 : b.coal ≠ -1 := by omega
    simp only [partsR]
    rw [← ih]
    by_cases h1 : k < p.length
    · have e1 : (p ++ a :: b :: q)[k]? = (p ++ b :: a :: q)[k]? := by rw [List.getElem?_append_left h1, List.getElem?_append_left h1]
      have e2 : (p ++ a :: b :: q).take k = (p ++ b :: a :: q).take k := by rw [List.take_append_of_le_length (by omega), List.take_append_of_le_length (by omega)]
      have e3 : ∀ prev, roomR n (p ++ a :: b :: q) k prev = roomR n (p ++ b :: a :: q) k prev := fun prev => by unfold roomR; rw [e2]
      rw [e1]
      simp only [e3]
    · by_cases h2 : k = p.length
      · subst h2
        have e1 : (p ++ a :: b :: q)[p.length]? = some a := by rw [List.getElem?_append_right (Nat.le_refl _), Nat.sub_self]; rfl
        have e2 : (p ++ b :: a :: q)[p.length]? = some b := by rw [List.getElem?_append_right (Nat.le_refl _), Nat.sub_self]; rfl
        rw [e1, e2]
        cases partsR n (p ++ a :: b :: q) L p.length with
        | none => rfl
        | some prev => simp only [if_pos ha1, if_pos hb1]
      · by_cases h3 : k = p.length + 1
        · subst h3
          have e1 : (p ++ a :: b :: q)[p.length + 1]? = some b := by rw [List.getElem?_append_right (by omega), show p.length + 1 - p.length = 1 by omega]; rfl
          have e2 : (p ++ b :: a :: q)[p.length + 1]? = some a := by rw [List.getElem?_append_right (by omega), show p.length + 1 - p.length = 1 by omega]; rfl
          rw [e1, e2]
          cases partsR n (p ++ a :: b :: q) L (p.length + 1) with
          | none => rfl
          | some prev => simp only [if_pos ha1, if_pos hb1]
        · obtain ⟨d, rfl⟩ : ∃ d, k = p.length + (d + 2) := ⟨k - p.length - 2, by omega⟩
          have e1 : ∀ u w : Move, (p ++ u :: w :: q)[p.length + (d + 2)]? = q[d]? := fun u w => by rw [List.getElem?_append_right (by omega), show p.length + (d + 2) - p.length = d + 2 by omega]; rfl
          have e2 : ∀ u w : Move, (p ++ u :: w :: q).take (p.length + (d + 2)) = p ++ [u] ++ [w] ++ q.take d := fun u w => by
            rw [List.take_append, List.take_of_length_le (by omega), show p.length + (d + 2) - p.length = d + 2 by omega]; simp
          have e3 : ∀ prev, roomR n (p ++ a :: b :: q) (p.length + (d + 2)) prev = roomR n (p ++ b :: a :: q) (p.length + (d + 2)) prev := fun prev => funext fun j => by
            unfold roomR
            rw [e2, e2, cont_app (opn_sw ha1 hb1 hh p) (cont_sw ha hb hh p j)]
          rw [e1, e1]
          simp only [e3]
end
theorem two_at {l : List Move} {i : Nat} {a b : Move} (h0 : 0 < i) (ha : l[i - 1]? = some a) (hb : l[i]? = some b) : l = l.take (i - 1) ++ a :: b :: l.drop (i + 1) ∧ (l.set (i - 1) b).set i a = l.take (i - 1) ++ b :: a :: l.drop (i + 1) := by
  obtain ⟨h1, e1⟩ := List.getElem?_eq_some_iff.1 ha
  obtain ⟨h2, e2⟩ := List.getElem?_eq_some_iff.1 hb
  have k1 : l.drop (i - 1) = a :: b :: l.drop (i + 1) := by
    rw [List.drop_eq_getElem_cons h1, e1, show i - 1 + 1 = i by omega, List.drop_eq_getElem_cons h2, e2]
  have k2 : l = l.take (i - 1) ++ a :: b :: l.drop (i + 1) := by rw [← k1, List.take_append_drop]
  refine ⟨k2, ?_⟩
  have hl : (l.take (i - 1)).length = i - 1 := by rw [List.length_take]; omega
  have k3 : ((l.take (i - 1) ++ a :: b :: l.drop (i + 1)).set (i - 1) b).set i a = l.take (i - 1) ++ b :: a :: l.drop (i + 1) := by
    rw [List.set_append_right _ _ (by omega), hl, Nat.sub_self, List.set_cons_zero, List.set_append_right _ _ (by omega), hl, show i - (i - 1) = 0 + 1 by omega, List.set_cons_succ, List.set_cons_zero]
  rw [← k2] at k3
  exact k3
structure SameY (y z : Yard) : Prop where
  coals : z.coals = y.coals
  good : GoodYard z
  vecs : vecsR z = vecsR y
  lays : (opn z.moves).1 = (opn y.moves).1
  cont : ∀ j, contE z j = contE y j
theorem sameY_of {y : Yard} {i : Nat} {a b : Move} {ma : Option Addr} {mc : Nat} (hg : GoodYard y) (h0 : 0 < i) (ha : y.moves[i - 1]? = some a) (hb : y.moves[i]? = some b) (ha1 : a.coal ≠ -1) (hb1 : b.coal ≠ -1) (hh : a.hour = b.hour) : SameY y ⟨y.ca, y.cc, y.coals, ma, mc, (y.moves.set (i - 1) b).set i a⟩ := by
  obtain ⟨g1, g2, g3, g4⟩ := id hg
  obtain ⟨_, ⟨ac1, ac2⟩, _⟩ := movesOk_at g2 ha
  obtain ⟨_, ⟨bc1, bc2⟩, _⟩ := movesOk_at g2 hb
  have hac : 0 ≤ a.coal ∧ a.coal < (y.coals.length : Int) := by omega
  have hbc : 0 ≤ b.coal ∧ b.coal < (y.coals.length : Int) := by omega
  obtain ⟨e1, e2⟩ := two_at h0 ha hb
  obtain ⟨p, hp⟩ : ∃ p, p = y.moves.take (i - 1) := ⟨_, rfl⟩
  obtain ⟨q, hq⟩ : ∃ q, q = y.moves.drop (i + 1) := ⟨_, rfl⟩
  rw [← hp, ← hq] at e1 e2
  have hlen : ((y.moves.set (i - 1) b).set i a).length = y.moves.length := by simp
  have ho : opn ((y.moves.set (i - 1) b).set i a) = opn y.moves := by
    rw [e2, e1]
    have h1 := opn_app (p ++ [b] ++ [a]) q
    have h2 := opn_app (p ++ [a] ++ [b]) q
    rw [opn_sw ha1 hb1 hh p] at h2
    simp only [List.append_assoc, List.cons_append, List.nil_append] at h1 h2
    rw [h1, h2]
  have hm : movesOk y.coals.length 0 ((y.moves.set (i - 1) b).set i a) := by rw [e2]; exact moves_sw hh p q 0 (by rw [← e1]; exact g2)
  refine ⟨rfl, ⟨g1, hm, g3, by show ((y.moves.set (i - 1) b).set i a).length ≤ 32; rw [hlen]; exact g4⟩, ?_, by show (opn ((y.moves.set (i - 1) b).set i a)).1 = _; rw [ho], fun j => ?_⟩
  · show partsR y.coals.length ((y.moves.set (i - 1) b).set i a) (opn ((y.moves.set (i - 1) b).set i a)).1 ((y.moves.set (i - 1) b).set i a).length = partsR y.coals.length y.moves (opn y.moves).1 y.moves.length
    rw [ho, hlen]
    have := parts_sw (L := (opn y.moves).1) hac hbc hh p q y.moves.length
    rw [e2]
    refine this.symm.trans ?_
    rw [← e1]
  · show contF y.coals.length (((y.moves.set (i - 1) b).set i a).take ((y.moves.set (i - 1) b).set i a).length) (j : Int) = contF y.coals.length (y.moves.take y.moves.length) (j : Int)
    rw [List.take_length, List.take_length, e2, e1]
    have := cont_app (q := q) (opn_sw ha1 hb1 hh p) (cont_sw hac hbc hh p (j : Int))
    simp only [List.append_assoc, List.cons_append, List.nil_append] at this
    exact this.symm
theorem SameY.blend {y z : Yard} (H : SameY y z) (hg : GoodYard y) (draw : Int) : blendA z draw = blendA y draw := by
  unfold blendA
  rw [if_pos H.good, if_pos hg, H.vecs, H.lays, H.coals]
  have e : contE z = contE y := funext H.cont
  rw [e]
theorem SameY.yield {y z : Yard} (H : SameY y z) (hg : GoodYard y) (f t w : Int) : yieldA z f t w = yieldA y f t w := by
  unfold yieldA
  rw [if_pos H.good, if_pos hg, H.vecs, H.lays]
  have e : contE z = contE y := funext H.cont
  have e1 : lows z w = lows y w := by unfold lows; rw [H.coals]
  have e2 : highs z w = highs y w := by unfold highs; rw [H.coals]
  have k1 : ∀ need L, yLo z w need L = yLo y w need L := fun need L => by rw [yLo_sF, yLo_sF, e1, e]
  have k2 : ∀ need L, yHi z w need L = yHi y w need L := fun need L => by rw [yHi_sF, yHi_sF, e2, e]
  simp only [k1, k2]
def arrS (ms : List Move) : Nat → Int
  | 0 => 0
  | k + 1 => arrS ms k + match ms[k]? with
    | some m => if m.coal ≠ -1 then m.tons else 0
    | none => 0
def dcn (ms : List Move) : Nat → Nat
  | 0 => 0
  | k + 1 => dcn ms k + match ms[k]? with
    | some m => if m.coal ≠ -1 then 0 else 1
    | none => 0
theorem arr_in {ms : List Move} {k : Nat} {m : Move} (h : ms[k]? = some m) (hc : m.coal ≠ -1) : arrS ms (k + 1) = arrS ms k + m.tons ∧ dcn ms (k + 1) = dcn ms k := by
  rw [arrS, dcn, h]; dsimp only; rw [if_pos hc, if_pos hc]; exact ⟨rfl, rfl⟩
theorem arr_out {ms : List Move} {k : Nat} {m : Move} (h : ms[k]? = some m) (hc : m.coal = -1) : arrS ms (k + 1) = arrS ms k ∧ dcn ms (k + 1) = dcn ms k + 1 := by
  rw [arrS, dcn, h]; dsimp only; rw [if_neg (fun q => q hc), if_neg (fun q => q hc), Int.add_zero]; exact ⟨rfl, rfl⟩
theorem dcn_le (ms : List Move) : ∀ k, dcn ms k ≤ k
  | 0 => Nat.le_refl _
  | k + 1 => by
    have := dcn_le ms k
    rw [dcn]
    split
    · split <;> omega
    · omega
theorem dcn_mono (ms : List Move) : ∀ d k, dcn ms k ≤ dcn ms (k + d)
  | 0, k => Nat.le_refl _
  | d + 1, k => by
    have := dcn_mono ms d k
    rw [← Nat.add_assoc, dcn]; omega
theorem arr_bd {n : Nat} {ms : List Move} (hm : movesOk n 0 ms) : ∀ k, k ≤ ms.length → 0 ≤ arrS ms k ∧ arrS ms k ≤ 1048576 * (k : Int)
  | 0, _ => by simp [arrS]
  | k + 1, h => by
    have ih := arr_bd hm k (by omega)
    obtain ⟨m, hk⟩ : ∃ m, ms[k]? = some m := ⟨_, List.getElem?_eq_getElem (by omega)⟩
    obtain ⟨_, _, t1, t2⟩ := movesOk_at hm hk
    by_cases hc : m.coal = -1
    · rw [(arr_out hk hc).1]; omega
    · rw [(arr_in hk hc).1]; omega
theorem sF_set {f g : Nat → Int} {a : Nat} {m : Int} {n : Nat} (ha : a < n) (h1 : g a = f a + m) (h2 : ∀ i, i ≠ a → g i = f i) : sF g n = sF f n + m := by
  have : sF g n = sF (fun q => if q = a then f q + m else f q) n := sF_congr fun i _ => by
    by_cases h : i = a
    · subst h; rw [if_pos rfl, h1]
    · rw [if_neg h, h2 i h]
  rw [this, sF_upd, if_pos ha]
theorem arr_cont {n : Nat} {ms : List Move} (hm : movesOk n 0 ms) : ∀ k, k ≤ ms.length → sF (fun j => sumI (contF n (ms.take k) (j : Int))) (opn ms).1 = arrS ms k
  | 0, _ => by
    rw [List.take_zero]
    refine (sF_congr (g := fun _ => 0) fun j _ => ?_).trans (sF_zero _)
    rw [contF_nil]; exact sumI_rep _
  | k + 1, h => by
    have ih := arr_cont hm k (by omega)
    obtain ⟨m, hk⟩ : ∃ m, ms[k]? = some m := ⟨_, List.getElem?_eq_getElem (by omega)⟩
    obtain ⟨⟨mh1, mh2⟩, ⟨c1, c2⟩, t1, t2⟩ := movesOk_at hm hk
    by_cases hc : m.coal = -1
    · rw [(arr_out hk hc).1, ← ih]
      exact sF_congr fun j _ => by rw [(cont_sum_mono hm hk (j : Int)).2 hc]
    · rw [(arr_in hk hc).1, ← ih]
      have hop := opn_open (l := ms) (k := k + 1) (by omega) hk
      rw [if_neg hc] at hop
      have h0 := lastH_0le (movesOk_mono k hm) (Nat.le_refl k)
      have hpos := opn_pos (ms.take (k + 1)) (by rw [hop]; omega)
      have hall := opn_all ms (k + 1)
      obtain ⟨o, ho⟩ : ∃ o : Nat, ((opn (ms.take (k + 1))).1 : Int) - 1 = (o : Int) := ⟨(opn (ms.take (k + 1))).1 - 1, by omega⟩
      have hr := room_in (prev := []) hm hk hc ho
      unfold roomR takenR at hr
      simp only [List.map_nil, List.sum_nil, Int.sub_zero] at hr
      exact sF_set (a := o) (by omega) hr.1 hr.2
theorem parts_cnt {n : Nat} {ms : List Move} {L : Nat} : ∀ (k : Nat) (prev : List (List Int)), k ≤ ms.length → partsR n ms L k = some prev → prev.length = dcn ms k
  | 0, prev, _, h => by cases h; rfl
  | k + 1, prev, hk, h => by
    obtain ⟨m, hm2⟩ : ∃ m, ms[k]? = some m := ⟨_, List.getElem?_eq_getElem (by omega)⟩
    cases hp : partsR n ms L k with
    | none => rw [parts_end hp (Nat.le_succ k)] at h; cases h
    | some p =>
      have ih := parts_cnt k p (by omega) hp
      by_cases hc : m.coal = -1
      · by_cases h2 : (vecR (roomR n ms k p) L m.tons).2 > 0
        · rw [parts_bad hp hm2 hc h2] at h; cases h
        · rw [parts_more hp hm2 hc h2] at h
          cases h
          rw [List.length_append, List.length_singleton, ih, (arr_out hm2 hc).2]
      · rw [parts_skip hp hm2 hc] at h
        cases h
        rw [ih, (arr_in hm2 hc).2]
theorem parts_pre {n : Nat} {ms : List Move} {L : Nat} : ∀ (d k : Nat) (vs : List (List Int)), k + d ≤ ms.length → partsR n ms L (k + d) = some vs → partsR n ms L k = some (vs.take (dcn ms k))
  | 0, k, vs, hk, h => by
    have := parts_cnt k vs (by omega) h
    rw [← this, List.take_length]; exact h
  | d + 1, k, vs, hk, h => by
    obtain ⟨m, hm2⟩ : ∃ m, ms[k + d]? = some m := ⟨_, List.getElem?_eq_getElem (by omega)⟩
    cases hp : partsR n ms L (k + d) with
    | none => rw [parts_end hp (show k + d ≤ k + (d + 1) by omega)] at h; cases h
    | some p =>
      have ih := parts_pre d k p (by omega) hp
      have hc0 := parts_cnt (k + d) p (by omega) hp
      have hmo := dcn_mono ms d k
      rw [← Nat.add_assoc] at h
      rw [ih]
      by_cases hc : m.coal = -1
      · by_cases h2 : (vecR (roomR n ms (k + d) p) L m.tons).2 > 0
        · rw [parts_bad hp hm2 hc h2] at h; cases h
        · rw [parts_more hp hm2 hc h2] at h
          cases h
          rw [List.take_append_of_le_length (by omega)]
      · rw [parts_skip hp hm2 hc] at h
        cases h; rfl
theorem parts_short {n : Nat} {ms : List Move} {q e : Nat} (hm : movesOk n 0 ms) : ∀ (k : Nat) (prev : List (List Int)), k ≤ q → q ≤ ms.length → partsR n ms ((opn (ms.take q)).1 + e) k = some prev → ∃ p1, partsR n (ms.take q) (opn (ms.take q)).1 k = some p1 ∧ prev = p1.map fun v => v ++ List.replicate e 0
  | 0, prev, _, _, h => by cases h; exact ⟨[], rfl, rfl⟩
  | k + 1, prev, hk, hq, h => by
    obtain ⟨m, hm2⟩ : ∃ m, ms[k]? = some m := ⟨_, List.getElem?_eq_getElem (by omega)⟩
    have hm3 : (ms.take q)[k]? = some m := by rw [List.getElem?_take_of_lt (by omega)]; exact hm2
    cases hp : partsR n ms ((opn (ms.take q)).1 + e) k with
    | none => rw [parts_end hp (Nat.le_succ k)] at h; cases h
    | some p =>
      obtain ⟨p1, h1, h2⟩ := parts_short hm k p (by omega) hq hp
      by_cases hc : m.coal = -1
      · have hP1 := (parts_all (movesOk_mono q hm) k p1 (by rw [List.length_take]; omega) h1).1
        have htk : (ms.take q).take k = ms.take k := by rw [List.take_take, Nat.min_eq_left (by omega)]
        have hroom : roomR n (ms.take q) k p1 = roomR n ms k p := funext fun j => by
          unfold roomR
          rw [htk, h2]
          congr 1
          unfold takenR
          rw [List.map_map]
          congr 1
          refine List.map_congr_left fun v hv => ?_
          show v.getD j 0 = (v ++ List.replicate e 0).getD j 0
          rw [List.getD_eq_getElem?_getD, List.getD_eq_getElem?_getD]
          by_cases hj : j < v.length
          · rw [List.getElem?_append_left hj]
          · rw [List.getElem?_eq_none (by omega), List.getElem?_append_right (by omega), List.getElem?_replicate]
            split <;> rfl
        have hz := fun j hj => room_zero hP1 (j := j) hj
        have hnn := fun j => room_nn hP1 j
        obtain ⟨_, _, t1, t2⟩ := movesOk_at hm hm2
        obtain ⟨⟨va, vb⟩, _⟩ := vecR_bd (room := roomR n (ms.take q) k p1) (t := m.tons) (by omega) (opn (ms.take q)).1 (fun i _ => hnn i)
        have hv := vecR_more (room := roomR n (ms.take q) k p1) (t := m.tons) (c := (opn (ms.take q)).1) (fun j hj => hz j (by have := opn_all (ms.take q) k; omega)) va e
        rw [hroom] at hv
        by_cases h3 : (vecR (roomR n ms k p) ((opn (ms.take q)).1 + e) m.tons).2 > 0
        · rw [parts_bad hp hm2 hc h3] at h; cases h
        · rw [parts_more hp hm2 hc h3] at h
          cases h
          rw [hv] at h3 ⊢
          refine ⟨_, parts_more h1 hm3 hc (by rw [hroom]; exact h3), ?_⟩
          rw [List.map_append, ← h2, hroom]; rfl
      · rw [parts_skip hp hm2 hc] at h
        cases h
        exact ⟨p1, parts_skip h1 hm3 hc, h2⟩
theorem drawn_early {y : Yard} {vs : List (List Int)} {v : List Int} {at_ d : Nat} {m : Move} (hg : GoodYard y) (hv : vecsR y = some vs) (hm : y.moves[at_]? = some m) (hc : m.coal = -1) (hd : dcn y.moves at_ = d) (hvd : vs[d]? = some v) : GoodYard ⟨y.ca, y.cc, y.coals, y.ma, y.mc, y.moves.take (at_ + 1)⟩ ∧ drawnA ⟨y.ca, y.cc, y.coals, y.ma, y.mc, y.moves.take (at_ + 1)⟩ (d : Int) = (nzF (fun i => v.getD i 0) (opn y.moves).1, 0) := by
  obtain ⟨g1, g2, g3, g4⟩ := id hg
  have hlt := (List.getElem?_eq_some_iff.1 hm).1
  have hlen : (y.moves.take (at_ + 1)).length = at_ + 1 := by rw [List.length_take]; omega
  have hge : GoodYard ⟨y.ca, y.cc, y.coals, y.ma, y.mc, y.moves.take (at_ + 1)⟩ := ⟨g1, movesOk_mono _ g2, g3, by show (y.moves.take (at_ + 1)).length ≤ 32; rw [hlen]; omega⟩
  refine ⟨hge, ?_⟩
  have hall := opn_all y.moves (at_ + 1)
  obtain ⟨e, he⟩ : ∃ e, (opn y.moves).1 = (opn (y.moves.take (at_ + 1))).1 + e := ⟨(opn y.moves).1 - (opn (y.moves.take (at_ + 1))).1, by omega⟩
  have h1 := parts_pre (n := y.coals.length) (ms := y.moves) (L := (opn y.moves).1) (y.moves.length - (at_ + 1)) (at_ + 1) vs (by omega) (by rw [show at_ + 1 + (y.moves.length - (at_ + 1)) = y.moves.length by omega]; exact hv)
  rw [(arr_out hm hc).2, hd, he] at h1
  obtain ⟨p1, h2, h3⟩ := parts_short g2 (at_ + 1) _ (Nat.le_refl _) (by omega) h1
  have hve : vecsR ⟨y.ca, y.cc, y.coals, y.ma, y.mc, y.moves.take (at_ + 1)⟩ = some p1 := by
    show partsR y.coals.length (y.moves.take (at_ + 1)) (opn (y.moves.take (at_ + 1))).1 (y.moves.take (at_ + 1)).length = some p1
    rw [hlen]; exact h2
  have hdl := (List.getElem?_eq_some_iff.1 hvd).1
  have hpl : p1.length = d + 1 := by
    have := congrArg List.length h3
    rw [List.length_take, List.length_map] at this; omega
  obtain ⟨v1, hv1⟩ : ∃ v1, p1[d]? = some v1 := ⟨_, List.getElem?_eq_getElem (by omega)⟩
  have hvv : v = v1 ++ List.replicate e 0 := by
    have h4 : (vs.take (d + 1))[d]? = some v := by rw [List.getElem?_take_of_lt (by omega)]; exact hvd
    rw [h3, List.getElem?_map, hv1] at h4
    exact (Option.some.inj h4).symm
  rw [drawnA_0 hge hve (by omega)]
  have hP1 := (parts_all (movesOk_mono (at_ + 1) g2) (at_ + 1) p1 (by omega) h2).1
  have hl1 := hP1.len v1 (List.mem_of_getElem? hv1)
  have hg1 : p1.getD ((d : Int)).toNat [] = v1 := by rw [Int.toNat_natCast, List.getD_eq_getElem?_getD, hv1]; rfl
  rw [hg1]
  show (nzF (fun i => v1.getD i 0) (opn (y.moves.take (at_ + 1))).1, (0 : Int)) = _
  rw [he]
  congr 1
  have e1 : ∀ j, v.getD j 0 = v1.getD j 0 := fun j => by
    rw [hvv, List.getD_eq_getElem?_getD, List.getD_eq_getElem?_getD]
    by_cases hj : j < v1.length
    · rw [List.getElem?_append_left hj]
    · rw [List.getElem?_eq_none (l := v1) (by omega), List.getElem?_append_right (by omega), List.getElem?_replicate]
      split <;> rfl
  rw [nzF_more (f := fun i => v.getD i 0) (fun j hj => by rw [e1, getD_none (by rw [hl1]; exact hj)]; decide) e]
  exact nzF_congr fun j _ => (e1 j).symm
def atM (ms : List Move) (draw : Int) : Nat → Nat
  | 0 => ms.length
  | k + 1 => match ms[k]? with
    | some m => if m.coal = -1 ∧ (dcn ms k : Int) = draw then k else atM ms draw k
    | none => atM ms draw k
theorem atM_in {ms : List Move} {draw : Int} {k : Nat} {m : Move} (h : ms[k]? = some m) (hc : m.coal ≠ -1) : atM ms draw (k + 1) = atM ms draw k := by
  rw [atM, h]; dsimp only; exact if_neg fun q => hc q.1
theorem atM_eq {ms : List Move} {draw : Int} {k : Nat} {m : Move} (h : ms[k]? = some m) (hc : m.coal = -1) (hd : (dcn ms k : Int) = draw) : atM ms draw (k + 1) = k := by
  rw [atM, h]; dsimp only; exact if_pos ⟨hc, hd⟩
theorem atM_ne {ms : List Move} {draw : Int} {k : Nat} {m : Move} (h : ms[k]? = some m) (hd : (dcn ms k : Int) ≠ draw) : atM ms draw (k + 1) = atM ms draw k := by
  rw [atM, h]; dsimp only; exact if_neg fun q => hd q.2
theorem atM_is {ms : List Move} {draw : Int} : ∀ k, k ≤ ms.length → 0 ≤ draw → draw < (dcn ms k : Int) → ∃ m, ms[atM ms draw k]? = some m ∧ m.coal = -1 ∧ (dcn ms (atM ms draw k) : Int) = draw
  | 0, _, h0, h1 => absurd h1 (by have e : dcn ms 0 = 0 := rfl; omega)
  | k + 1, hk, h0, h1 => by
    obtain ⟨m, hm2⟩ : ∃ m, ms[k]? = some m := ⟨_, List.getElem?_eq_getElem (by omega)⟩
    by_cases hc : m.coal = -1
    · by_cases hd : (dcn ms k : Int) = draw
      · rw [atM_eq hm2 hc hd]; exact ⟨m, hm2, hc, hd⟩
      · rw [atM_ne hm2 hd]
        rw [(arr_out hm2 hc).2] at h1
        exact atM_is k (by omega) h0 (by omega)
    · rw [atM_in hm2 hc]
      rw [(arr_in hm2 hc).2] at h1
      exact atM_is k (by omega) h0 h1
def drS (vs : List (List Int)) (d : Nat) : Int := sF (fun q => sumI (vs.getD q [])) d
theorem lost_none {y : Yard} {vs : List (List Int)} (hg : GoodYard y) (hv : vecsR y = some vs) : arrS y.moves y.moves.length - drS vs vs.length - sumI ((nzF (roomR y.coals.length y.moves y.moves.length vs) (opn y.moves).1).map Part.tons) = 0 := by
  obtain ⟨hP, _⟩ := parts_all hg.2.1 y.moves.length vs (Nat.le_refl _) hv
  rw [nz_tons (fun j => room_nn hP j)]
  have h1 := arr_cont hg.2.1 y.moves.length (Nat.le_refl _)
  have h2 : sF (roomR y.coals.length y.moves y.moves.length vs) (opn y.moves).1 = arrS y.moves y.moves.length - sF (fun j => takenR vs j) (opn y.moves).1 := by
    rw [← h1, ← sF_sub]; rfl
  have h3 : drS vs vs.length = sF (fun j => takenR vs j) (opn y.moves).1 := by
    have e : sF (fun j => takenR vs j) (opn y.moves).1 = sF (fun j => sF (fun q => (vs.getD q []).getD j 0) vs.length) (opn y.moves).1 := sF_congr fun j _ => taken_sF vs j
    rw [e, sF_comm (fun q j => (vs.getD q []).getD j 0) vs.length]
    unfold drS
    refine sF_congr fun q hq => ?_
    have hq2 : vs.getD q [] ∈ vs := by rw [List.getD_eq_getElem?_getD, List.getElem?_eq_getElem hq]; exact List.getElem_mem hq
    rw [sumI_sF, hP.len _ hq2]
  omega
theorem drS_at {vs : List (List Int)} {d L : Nat} {v : List Int} (h : vs[d]? = some v) (hl : v.length = L) (hn : ∀ x ∈ v, 0 ≤ x) : drS vs (d + 1) = drS vs d + sumI ((nzF (fun i => v.getD i 0) L).map Part.tons) := by
  unfold drS
  rw [sF_succ, nz_tons (getD_nn hn), ← hl, ← sumI_sF, List.getD_eq_getElem?_getD, h]; rfl
end Go.Proofs.Ytpefpafijadfmaa
