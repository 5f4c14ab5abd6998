/-
  Walks.
-/
import Derived.Test.YtpefpafijadfmaaHY
import Derived.Test.YtpefpafijadfmaaW25
import Derived.Test.YtpefpafijadfmaaW15
import Derived.Test.YtpefpafijadfmaaP23
import Derived.Test.YtpefpafijadfmaaP26
import Derived.Test.YtpefpafijadfmaaW21
import Derived.Test.YtpefpafijadfmaaHW
namespace Go.Proofs.Ytpefpafijadfmaa
open Go Go.H
set_option maxRecDepth 100000
set_option maxHeartbeats 8000000
set_option linter.all false
theorem Can_c {y : Yard} {h : Hp} {R : Ending → Hp → Prop} (hy : YardV h y) (hs : Small y) {draw : Int} {ta : Option Addr} {tc : Nat} {ts : List Int} (ht : SlV h 1 eI ta ts) (H : R (.returned (.tuple ⟨[.bool (canA y draw ts).1, I (canA y draw ts).2]⟩)) h) : ACalls Try.prog 17 ⟨[.agg ⟨eYard y⟩, I draw, .slice ta ts.length tc]⟩ h R := by
  refine calls_of_xc (N := 94) Try.func17 rfl (by rfl) ?_
  obtain ⟨hs1, hs2⟩ := id hs
  refine xc_seq (xc_region ?_)
  refine xr_op rfl rfl (xv_box rfl (fun b3 hb3 => ?_))
  refine xr_op rfl rfl (xv_box rfl (fun b5 hb5 => ?_))
  refine xr_op rfl rfl (xv_assign rfl ?_)
  refine xr_op rfl rfl (xv_assign rfl ?_)
  refine xr_end rfl ?_
  refine th_n ?_
  refine xc_seq (xc_region ?_)
  refine xr_op rfl rfl (xv_loadA ty25 rfl rfl (by ((repeat first|exact z_0|assumption|refine z_1 ?_|(refine z_l ?_;(repeat first|exact z_0|assumption|refine z_1 ?_);done)|refine z_r ?_);done)) (by ((try apply evl_some rfl);(repeat (first|exact (rfl : _ = [])|apply evl_cons rfl (by (first|exact v_1|exact v_2|exact v_3|exact v_4|exact v_5|exact v_6|exact v_7|exact v_8|exact v_9|exact rfl))|exact rfl)))) (by rfl) ?_)
  refine xr_op rfl rfl (xv_calls rfl hb30 (newShed_c (hy.sub (by intro z hz; ((repeat first|exact z_0|assumption|refine z_1 ?_|(refine z_l ?_;(repeat first|exact z_0|assumption|refine z_1 ?_);done)|refine z_r ?_);done))) hs (fun hng => up_ret ?_) (fun hgy hpn => up_ret ?_) (fun vs b la lc bs da dc ds G hgy hvs hsh => up_ret ?_)))
  · refine xr_op rfl rfl (xv_move rfl ?_)
    refine xr_op rfl rfl (xv_extract rfl rfl ?_)
    refine xr_op rfl rfl (xv_extract rfl rfl ?_)
    refine xr_op rfl rfl (xv_assign rfl ?_)
    refine xr_op rfl rfl (xv_assign rfl ?_)
    refine xr_end rfl ?_
    refine th_n ?_
    refine xc_seq ?_
    refine xc_block ?_
    refine xc_seq (xc_region ?_)
    refine xr_op rfl rfl (xv_move rfl ?_)
    refine xr_op rfl rfl (xv_neqT rfl rfl (by decide) ?_)
    refine xr_op rfl rfl (xv_assign rfl ?_)
    refine xr_end rfl ?_
    refine th_n ?_
    refine xc_true rfl ?_
    refine xc_seq (xc_region ?_)
    refine xr_op rfl rfl (xv_move rfl ?_)
    refine xr_op rfl rfl (xv_assign rfl ?_)
    refine xr_op rfl rfl (xv_assign rfl ?_)
    refine xr_end rfl ?_
    refine th_n ?_
    refine xc_ret ?_
    refine bk_r ?_
    refine th_r ?_
    refine body_ret (h' := h) rfl (ro_tmp rfl (ro_tmp rfl ro_nil)) (by (first|((repeat first|exact s_0|exact s_1|exact s_3|refine s_4 ?_|refine s_5 ?_|refine s_6 ?_|refine s_7 ?_);done)|((repeat first|exact s_0|exact s_1|exact s_3|refine s_4 ?_|refine s_5 ?_|refine s_6 ?_|refine s_8 ?_);done))) ?_
    first | (rw [eans, hco] at H; exact H) | (rw [eans, hci, decide_eq_true hsq, hft] at H; exact H) | (rw [eans, hci, decide_eq_false hsq] at H; exact H) | (rw [canA_1 hng] at H; exact H) | (rw [canA_10 hgy hpn] at H; exact H) | (rw [canA_2 hgy hvs (by omega)] at H; exact H)
  · refine xr_op rfl rfl (xv_move rfl ?_)
    refine xr_op rfl rfl (xv_extract rfl rfl ?_)
    refine xr_op rfl rfl (xv_extract rfl rfl ?_)
    refine xr_op rfl rfl (xv_assign rfl ?_)
    refine xr_op rfl rfl (xv_assign rfl ?_)
    refine xr_end rfl ?_
    refine th_n ?_
    refine xc_seq ?_
    refine xc_block ?_
    refine xc_seq (xc_region ?_)
    refine xr_op rfl rfl (xv_move rfl ?_)
    refine xr_op rfl rfl (xv_neqT rfl rfl (by decide) ?_)
    refine xr_op rfl rfl (xv_assign rfl ?_)
    refine xr_end rfl ?_
    refine th_n ?_
    refine xc_true rfl ?_
    refine xc_seq (xc_region ?_)
    refine xr_op rfl rfl (xv_move rfl ?_)
    refine xr_op rfl rfl (xv_assign rfl ?_)
    refine xr_op rfl rfl (xv_assign rfl ?_)
    refine xr_end rfl ?_
    refine th_n ?_
    refine xc_ret ?_
    refine bk_r ?_
    refine th_r ?_
    refine body_ret (h' := h) rfl (ro_tmp rfl (ro_tmp rfl ro_nil)) (by (first|((repeat first|exact s_0|exact s_1|exact s_3|refine s_4 ?_|refine s_5 ?_|refine s_6 ?_|refine s_7 ?_);done)|((repeat first|exact s_0|exact s_1|exact s_3|refine s_4 ?_|refine s_5 ?_|refine s_6 ?_|refine s_8 ?_);done))) ?_
    first | (rw [eans, hco] at H; exact H) | (rw [eans, hci, decide_eq_true hsq, hft] at H; exact H) | (rw [eans, hci, decide_eq_false hsq] at H; exact H) | (rw [canA_1 hng] at H; exact H) | (rw [canA_10 hgy hpn] at H; exact H) | (rw [canA_2 hgy hvs (by omega)] at H; exact H)
  · refine xr_op rfl rfl (xv_move rfl ?_)
    refine xr_op rfl rfl (xv_extract rfl rfl ?_)
    refine xr_op rfl rfl (xv_extract rfl rfl ?_)
    refine xr_op rfl rfl (xv_assign rfl ?_)
    refine xr_op rfl rfl (xv_assign rfl ?_)
    refine xr_end rfl ?_
    refine th_n ?_
    refine xc_seq ?_
    refine xc_block ?_
    refine xc_seq (xc_region ?_)
    refine xr_op rfl rfl (xv_move rfl ?_)
    refine xr_op rfl rfl (xv_neqF rfl rfl rfl ?_)
    refine xr_op rfl rfl (xv_assign rfl ?_)
    refine xr_end rfl ?_
    refine th_n ?_
    refine xc_false rfl ?_
    refine xc_seq (xc_region ?_)
    have hcn := hsh.cnt
    have mtop := hsh.top
    have hm32 := hgy.2.2.2
    have hfw := hsh.inv.few
    refine xr_op rfl rfl (xv_move rfl ?_)
    refine xr_op rfl rfl (xv_move rfl ?_)
    refine xr_op rfl rfl (xv_nilp rfl ?_)
    refine xr_op rfl rfl (xv_faddr fl73_2 rfl ?_)
    refine xr_op rfl rfl (xv_load1 ty71 rfl rfl (by ((repeat first|exact z_0|assumption|refine z_1 ?_|(refine z_l ?_;(repeat first|exact z_0|assumption|refine z_1 ?_);done)|refine z_r ?_);done)) (by rfl) ?_)
    refine xr_op rfl rfl (xv_len sl71 rfl ?_)
    refine xr_op rfl rfl (xv_sub rfl rfl (wrap_i64 (by (first|omega|(dsimp only at *;omega)|(simp at *;omega))) (by (first|omega|(dsimp only at *;omega)|(simp at *;omega)))) ?_)
    refine xr_op rfl rfl (xv_calls rfl hb31 (within_c _ _ _ (fun hl1 hu2 => up_ret ?_) (fun hn3 => up_ret ?_)))
    · refine xr_op rfl rfl (xv_not rfl ?_)
      refine xr_op rfl rfl (xv_move rfl ?_)
      refine xr_gd rfl rfl rfl (xv_load1 ty38 rfl rfl (by ((repeat first|exact z_0|assumption|refine z_1 ?_|(refine z_l ?_;(repeat first|exact z_0|assumption|refine z_1 ?_);done)|refine z_r ?_);done)) (by rfl) ?_)
      refine xr_gd rfl rfl rfl (xv_len sl38 rfl ?_)
      refine xr_gd rfl rfl rfl (xv_faddr fl25_0 rfl ?_)
      refine xr_gd rfl rfl rfl (xv_load1 ty22 rfl rfl (by ((repeat first|exact z_0|assumption|refine z_1 ?_|(refine z_l ?_;(repeat first|exact z_0|assumption|refine z_1 ?_);done)|refine z_r ?_);done)) (by rfl) ?_)
      refine xr_gd rfl rfl rfl (xv_len sl22 rfl ?_)
      refine xr_gd rfl rfl rfl (xv_neq2 rfl rfl (fun q4 => ?_) (fun q4 => ?_))
      · refine xr_op rfl rfl (xv_pick rfl rfl ?_)
        refine xr_op rfl rfl (xv_assign rfl ?_)
        refine xr_end rfl ?_
        refine th_n ?_
        refine xc_true rfl ?_
        refine xc_seq (xc_region ?_)
        refine xr_op rfl rfl (xv_assign rfl ?_)
        refine xr_op rfl rfl (xv_assign rfl ?_)
        refine xr_end rfl ?_
        refine th_n ?_
        refine xc_ret ?_
        refine bk_r ?_
        refine th_r ?_
        refine body_ret (h' := h) rfl (ro_tmp rfl (ro_tmp rfl ro_nil)) (by (first|((repeat first|exact s_0|exact s_1|exact s_3|refine s_4 ?_|refine s_5 ?_|refine s_6 ?_|refine s_7 ?_);done)|((repeat first|exact s_0|exact s_1|exact s_3|refine s_4 ?_|refine s_5 ?_|refine s_6 ?_|refine s_8 ?_);done))) ?_
        first | (rw [eans, hco] at H; exact H) | (rw [eans, hci, decide_eq_true hsq, hft] at H; exact H) | (rw [eans, hci, decide_eq_false hsq] at H; exact H) | (rw [canA_1 hng] at H; exact H) | (rw [canA_10 hgy hpn] at H; exact H) | (rw [canA_2 hgy hvs (by omega)] at H; exact H)
      · refine xr_op rfl rfl (xv_pick rfl rfl ?_)
        refine xr_op rfl rfl (xv_assign rfl ?_)
        refine xr_end rfl ?_
        refine th_n ?_
        refine xc_false rfl ?_
        refine xc_skip ?_
        refine bk_n ?_
        refine th_n ?_
        refine xc_seq (xc_region ?_)
        have hdn : draw.toNat < ds.length := by (first|omega|(dsimp only at *;omega)|(simp at *;omega))
        have htl : ts.length = y.coals.length := by (first|omega|(dsimp only at *;omega)|(simp at *;omega))
        have hltw : draw.toNat < ds.length := hdn
        obtain ⟨bw, ow, lw, tw, fzw, haw, hmw, hxw⟩ := (hsh.draws).at hltw
        obtain ⟨xw, hkw⟩ : ∃ qq_, ds[draw.toNat]? = some qq_ := ⟨_, List.getElem?_eq_getElem hltw⟩
        subst haw
        obtain ⟨v, hv, hvm⟩ := hsh.part hkw
        have eans := canA_0 (ts := ts) hgy hvs (draw := draw) (by omega) htl hv
        have hcut := hsh.cut hgy draw.toNat 1
        rw [drop_one hv, drop_one hkw] at hcut
        have hcap := hsh.cap
        have hn6 := hgy.2.2.1.2
        have hpl := partsN_len y [v] (opn y.moves).1
        have hop := opn_le y.moves
        have hple : (partsL y [v]).length ≤ 32 := Nat.le_trans hpl (by omega)
        have hall := allT_bd (l := (partsL y [v])) (B := 1048576) (fun z hz => by obtain ⟨_, a, b, c⟩ := partsL_ok hgy hcut.bd hcut.few hz; rw [List.length_singleton] at c; exact ⟨by omega, by omega⟩)
        refine xr_op rfl rfl (xv_alloc ty38 (fun b10 hb10 => ?_))
        refine xr_end rfl ?_
        refine th_n ?_
        refine xc_seq (xc_region ?_)
        refine xr_op rfl rfl (xv_alloc ty100 (fun b11 hb11 => ?_))
        refine xr_end rfl ?_
        refine th_n ?_
        refine xc_seq (xc_region ?_)
        refine xr_op rfl rfl (xv_alloc ty3 (fun b12 hb12 => ?_))
        refine xr_op rfl rfl (xv_s1 ty3 rfl rfl rfl (by (first|(apply u_3;(repeat first|exact u_0|assumption|apply u_1|apply u_2);done)|((repeat first|exact u_0|assumption|apply u_1|apply u_2);done)|(apply u_3;apply u_3;(repeat first|exact u_0|assumption|apply u_1|apply u_2);done)|((repeat first|exact u_0|assumption|apply u_3|apply u_1);done))) (by (first | rfl | exact Vec.one _ _)) (by (first | decide | exact Nat.le_of_ble_eq_true rfl | (simp only [List.length_cons, List.length_nil]; omega) | (simp; done))) (by ((try apply evl_some rfl);(repeat (first|exact (rfl : _ = [])|apply evl_cons rfl (by (first|exact v_1|exact v_2|exact v_3|exact v_4|exact v_5|exact v_6|exact v_7|exact v_8|exact v_9|exact rfl))|exact rfl)))) ?_)
        refine xr_end rfl ?_
        refine th_n ?_
        refine xc_seq ?_
        refine xc_seq (xc_region ?_)
        refine xr_op rfl rfl (xv_move rfl ?_)
        refine xr_op rfl rfl (xv_move rfl ?_)
        refine xr_op rfl rfl (xv_nilp rfl ?_)
        refine xr_op rfl rfl (xv_faddr fl73_2 rfl ?_)
        refine xr_op rfl rfl (xv_load1 ty71 rfl rfl (by ((repeat first|exact z_0|assumption|refine z_1 ?_|(refine z_l ?_;(repeat first|exact z_0|assumption|refine z_1 ?_);done)|refine z_r ?_);done)) (by rfl) ?_)
        refine xr_op rfl rfl (xv_move rfl ?_)
        refine xr_op rfl rfl (xv_move rfl ?_)
        refine xr_op rfl rfl (xv_add rfl rfl (wrap_i64 (by (first|omega|(dsimp only at *;omega)|(simp at *;omega))) (by (first|omega|(dsimp only at *;omega)|(simp at *;omega)))) ?_)
        refine xr_op rfl rfl (xv_cut (m := 1) sl71 ty39 rfl rfl rfl (by (first|omega|(dsimp only at *;omega)|(simp at *;omega))) (by (first|omega|(dsimp only at *;omega)|(simp at *;omega))) (by (first|omega|(dsimp only at *;omega)|(simp at *;omega))) (by (first|omega|(dsimp only at *;omega)|(simp at *;omega))) (by (first|omega|(dsimp only at *;omega)|(simp at *;omega))) ?_)
        refine xr_op rfl rfl (xv_calls rfl hb32 (parts_c (fun p1 p2 => up_ret ?_)))
        refine xr_end rfl ?_
        refine th_n ?_
        refine xc_block ?_
        refine xc_range2 (γ := Vec × Vec) ePc (partsL y [v]) ((p2, .cells ⟨[.slice (some ⟨bw, ow + draw.toNat * 1, none⟩) 1 (dc - draw.toNat)]⟩ 71) :: (p1, .cells ⟨[.pointer (some ⟨b, 0, none⟩)]⟩ 66) :: G) rfl hb53 (partsIt (core := ((p2, .cells ⟨[.slice (some ⟨bw, ow + draw.toNat * 1, none⟩) 1 (dc - draw.toNat)]⟩ 71) :: (p1, .cells ⟨[.pointer (some ⟨b, 0, none⟩)]⟩ 66) :: G)) (by ((repeat first|exact z_0|assumption|refine z_1 ?_|(refine z_l ?_;(repeat first|exact z_0|assumption|refine z_1 ?_);done)|refine z_r ?_);done)) (by ((repeat first|exact z_0|assumption|refine z_1 ?_|(refine z_l ?_;(repeat first|exact z_0|assumption|refine z_1 ?_);done)|refine z_r ?_);done)) (hsh.sub (by intro z hz; ((repeat first|exact z_0|assumption|refine z_1 ?_|(refine z_l ?_;(repeat first|exact z_0|assumption|refine z_1 ?_);done)|refine z_r ?_);done))) (hcut.sub (by intro z hz; ((repeat first|exact z_0|assumption|refine z_1 ?_|(refine z_l ?_;(repeat first|exact z_0|assumption|refine z_1 ?_);done)|refine z_r ?_);done)))) (fun x => rfl) (by decide) (((emp.put (some 10) (.pointer (some ⟨b10, 0, none⟩))).put (some 11) (.pointer (some ⟨b11, 0, none⟩))).put (some 12) (.pointer (some ⟨b12, 0, none⟩))) (fun k g => g.1.ok 1 k (((partsL y [v]).take k).flatMap eR) ∧ g.2.ok 6 k (((partsL y [v]).take k).flatMap eM)) (fun k g => ((p2, .cells ⟨[.slice (some ⟨bw, ow + draw.toNat * 1, none⟩) 1 (dc - draw.toNat)]⟩ 71) :: (p1, .cells ⟨[.pointer (some ⟨b, 0, none⟩)]⟩ 66) :: (b12, .cells ⟨[I (allT ((partsL y [v]).take k))]⟩ 3) :: (b11, .cells ⟨[.slice g.2.ad k g.2.cp]⟩ 100) :: (b10, .cells ⟨[.slice g.1.ad k g.1.cp]⟩ 38) :: (g.1.hp 3 (((partsL y [v]).take k).flatMap eR) ++ (g.2.hp 80 (((partsL y [v]).take k).flatMap eM) ++ (G ++ (b5, .cells ⟨[.slice ta ts.length tc]⟩ 38) :: (b3, .cells ⟨eYard y⟩ 25) :: h))))) (fun _ _ _ => False) ((.nil, .nil) : Vec × Vec) (mon_bk (mon_th)) (le_put (le_put (le_put (le_emp _) rfl) rfl) rfl) ⟨⟨rfl, rfl⟩, ⟨rfl, rfl⟩⟩ (by (first|((repeat first|exact s_0|exact s_1|exact s_3|refine s_4 ?_|refine s_5 ?_|refine s_6 ?_|refine s_7 ?_);done)|((repeat first|exact s_0|exact s_1|exact s_3|refine s_4 ?_|refine s_5 ?_|refine s_6 ?_|refine s_8 ?_);done))) (fun k g z hz => by
          simp only [List.mem_cons] at hz
          rcases hz with rfl | rfl | hz
          · exact z_0
          · exact z_1 z_0
          · exact z_1 (z_1 (z_1 (z_1 (z_1 (z_r (z_r (z_l hz)))))))) ?_ (fun _ _ _ _ _ hf _ => hf.elim) ?_
        · intro ll k x ⟨U, M⟩ hkx ⟨hU, hM⟩
          dsimp only at hU hM
          have hkl := (List.getElem?_eq_some_iff.1 hkx).1
          obtain ⟨hx6, hxb, hx0, hx1⟩ := partsL_ok hgy hcut.bd hcut.few (List.mem_of_getElem? hkx)
          rw [List.length_singleton] at hx1
          have hbb := allT_bd (l := (partsL y [v]).take k) (B := 1048576) (fun z hz => by obtain ⟨_, a, b, c⟩ := partsL_ok hgy hcut.bd hcut.few (List.mem_of_mem_take hz); rw [List.length_singleton] at c; exact ⟨by omega, by omega⟩)
          rw [List.length_take] at hbb
          refine xc_seq (xc_region ?_)
          refine xr_op rfl rfl (xv_alloc ty80 (fun b13 hb13 => ?_))
          refine xr_op rfl rfl (xv_sAll ty80 rfl rfl (by (first|(apply u_3;(repeat first|exact u_0|assumption|apply u_1|apply u_2);done)|((repeat first|exact u_0|assumption|apply u_1|apply u_2);done)|(apply u_3;apply u_3;(repeat first|exact u_0|assumption|apply u_1|apply u_2);done)|((repeat first|exact u_0|assumption|apply u_3|apply u_1);done))) (by rw [ints_len]; exact hx6) rfl (flat_all eI_1 _) ?_)
          refine xr_end rfl ?_
          refine th_n ?_
          refine xc_region ?_
          refine xr_op rfl rfl (xv_assign rfl ?_)
          refine xr_end rfl ?_
          refine rndA_n ?_
          refine xc_block ?_
          refine xc_drawX0 [(4, [(b11, fun o => o = .cells ⟨[.slice M.ad k M.cp]⟩ 100 (0, 0))]), (5, [(b13, fun o => o = .cells ⟨x.1.flatMap eI⟩ 80 (0, 0))]), (8, [(b12, fun o => o = .cells ⟨[I (allT ((partsL y [v]).take k))]⟩ 3 (0, 0))])] [(0, .R), (1, .S), (4, .S), (5, .S), (8, .S), (9, .S), (10, .S), (2, .P), (6, .P), (2, .A), (3, .O), (6, .A), (7, .O), (11, .O), (12, .O), (13, .O)] mixed (by kernel_rfl) (iv_cons (holds1 (by ((repeat first|exact z_0|assumption|refine z_1 ?_|(refine z_l ?_;(repeat first|exact z_0|assumption|refine z_1 ?_);done)|refine z_r ?_);done)) rfl) (iv_cons (holds1 (by ((repeat first|exact z_0|assumption|refine z_1 ?_|(refine z_l ?_;(repeat first|exact z_0|assumption|refine z_1 ?_);done)|refine z_r ?_);done)) rfl) (iv_cons (holds1 (by ((repeat first|exact z_0|assumption|refine z_1 ?_|(refine z_l ?_;(repeat first|exact z_0|assumption|refine z_1 ?_);done)|refine z_r ?_);done)) rfl) iv_nil))) ?_
          refine jx_R rfl rfl (.inl rfl) (xv_load1 ty38 rfl rfl (by ((repeat first|exact z_0|assumption|refine z_1 ?_|(refine z_l ?_;(repeat first|exact z_0|assumption|refine z_1 ?_);done)|refine z_r ?_);done)) (by rfl) ⟨rfl, rfl⟩) ?_
          refine jx_S rfl rfl (.inl rfl) (xv_move rfl ⟨rfl, rfl⟩) ?_
          refine jx_I rfl rfl (.inl rfl) (fun hh hv => by have hv2 : Holds [(b11, fun o => o = .cells ⟨[.slice M.ad k M.cp]⟩ 100 (0, 0))] hh := hv; obtain ⟨o9, hm9, e9⟩ := hv2 _ _ List.mem_cons_self; subst e9; exact xv_load1 ty100 rfl rfl hm9 rfl ⟨rfl, rfl⟩) ?_
          refine jx_I rfl rfl (.inl rfl) (fun hh hv => by have hv2 : Holds [(b13, fun o => o = .cells ⟨x.1.flatMap eI⟩ 80 (0, 0))] hh := hv; obtain ⟨o9, hm9, e9⟩ := hv2 _ _ List.mem_cons_self; subst e9; exact xv_loadA ty80 rfl rfl hm9 (ints_all hx6) (by rw [ints_len]; exact hx6) ⟨rfl, rfl⟩) ?_
          refine jx_I rfl rfl (.inl rfl) (fun hh hv => by have hv2 : Holds [(b12, fun o => o = .cells ⟨[I (allT ((partsL y [v]).take k))]⟩ 3 (0, 0))] hh := hv; obtain ⟨o9, hm9, e9⟩ := hv2 _ _ List.mem_cons_self; subst e9; exact xv_load1 ty3 rfl rfl hm9 rfl ⟨rfl, rfl⟩) ?_
          refine jx_S rfl rfl (.inl rfl) (xv_move rfl ⟨rfl, rfl⟩) ?_
          refine jx_S rfl rfl (.inl rfl) (xv_add rfl rfl (wrap_i64 (by (first|omega|(dsimp only at *;omega)|(simp at *;omega))) (by (first|omega|(dsimp only at *;omega)|(simp at *;omega)))) ⟨rfl, rfl⟩) ?_
          refine jx_P rfl rfl rfl (al_buildSlice sl38 ty3 rfl rfl rfl rfl rfl (by ((try apply evl_some rfl);(repeat (first|exact (rfl : _ = [])|apply evl_cons rfl (by (first|exact v_1|exact v_2|exact v_3|exact v_4|exact v_5|exact v_6|exact v_7|exact v_8|exact v_9|exact rfl))|exact rfl))))) ?_
          refine jx_P rfl rfl rfl (al_buildSlice sl100 ty80 rfl rfl rfl rfl rfl (bld6 hx6)) ?_
          refine jx_A rfl rfl rfl rfl rfl ⟨rfl, trivial⟩ (fun b60 hb60 => ?_)
          skip
          refine jx_O rfl rfl (.inl rfl) (xv_append (V := U) (n := k) (xs := ((partsL y [v]).take k).flatMap eR) sl38 ty3 rfl (by rw [Vec.val_ad hU]; rfl) rfl hU (.there (.there (.there (.there (.there (.there (.there .here))))))) (by ((repeat first|exact z_0|assumption|refine z_1 ?_|(refine z_l ?_;(repeat first|exact z_0|assumption|refine z_1 ?_);done)|refine z_r ?_);done)) (by ((try apply evl_some rfl);(repeat (first|exact (rfl : _ = [])|apply evl_cons rfl (by (first|exact v_1|exact v_2|exact v_3|exact v_4|exact v_5|exact v_6|exact v_7|exact v_8|exact v_9|exact rfl))|exact rfl)))) rfl rfl (by (first|omega|(dsimp only at *;omega)|(simp at *;omega))) (by simp only []; (first|omega|(dsimp only at *;omega)|(simp at *;omega))) (by (first|omega|(dsimp only at *;omega)|(simp at *;omega))) (fun U2 hU2 => ?_))
          refine ⟨(kp_in (holds1 (by ((repeat first|exact z_0|assumption|refine z_1 ?_|(refine z_l ?_;(repeat first|exact z_0|assumption|refine z_1 ?_);done)|refine z_r ?_);done)) rfl) (kp_in (holds1 (by ((repeat first|exact z_0|assumption|refine z_1 ?_|(refine z_l ?_;(repeat first|exact z_0|assumption|refine z_1 ?_);done)|refine z_r ?_);done)) rfl) (kp_in (holds1 (by ((repeat first|exact z_0|assumption|refine z_1 ?_|(refine z_l ?_;(repeat first|exact z_0|assumption|refine z_1 ?_);done)|refine z_r ?_);done)) rfl) kp_nil))), ?_⟩
          refine jx_A rfl rfl rfl rfl rfl ⟨rfl, trivial⟩ (fun b64 hb64 => ?_)
          refine jx_O rfl rfl (.inl rfl) (xv_append (V := M) (n := k) (xs := ((partsL y [v]).take k).flatMap eM) sl100 ty80 rfl (by rw [Vec.val_ad hM]; rfl) rfl hM (.there (.skip (.there (.there (.there (.there (.there (.there (.there .here))))))))) (by ((repeat first|exact z_0|assumption|refine z_1 ?_|(refine z_l ?_;(repeat first|exact z_0|assumption|refine z_1 ?_);done)|refine z_r ?_);done)) (ints_all hx6) (by rw [ints_len]; exact hx6) (flat_all eI_1 _) (by (first|omega|(dsimp only at *;omega)|(simp at *;omega))) (by simp only []; (first|omega|(dsimp only at *;omega)|(simp at *;omega))) (by (first|omega|(dsimp only at *;omega)|(simp at *;omega))) (fun M2 hM2 => ?_))
          refine ⟨(kp_go (by kernel_rfl) (kp_go (by kernel_rfl) (kp_in (holds1 (by ((repeat first|exact z_0|assumption|refine z_1 ?_|(refine z_l ?_;(repeat first|exact z_0|assumption|refine z_1 ?_);done)|refine z_r ?_);done)) rfl) kp_nil))), ?_⟩
          rw [Vec.val_ad hU2]
          refine jx_O rfl rfl (.inl rfl) (xv_s1 ty38 rfl rfl rfl (by (first|(apply u_3;(repeat first|exact u_0|assumption|apply u_1|apply u_2);done)|((repeat first|exact u_0|assumption|apply u_1|apply u_2);done)|(apply u_3;apply u_3;(repeat first|exact u_0|assumption|apply u_1|apply u_2);done)|((repeat first|exact u_0|assumption|apply u_3|apply u_1);done))) (by (first | rfl | exact Vec.one _ _)) (by (first | decide | exact Nat.le_of_ble_eq_true rfl | (simp only [List.length_cons, List.length_nil]; omega) | (simp; done))) (by ((try apply evl_some rfl);(repeat (first|exact (rfl : _ = [])|apply evl_cons rfl (by (first|exact v_1|exact v_2|exact v_3|exact v_4|exact v_5|exact v_6|exact v_7|exact v_8|exact v_9|exact rfl))|exact rfl)))) ?_)
          refine ⟨(kp_go (by kernel_rfl) (kp_go (by kernel_rfl) (kp_in (holds1 (by ((repeat first|exact z_0|assumption|refine z_1 ?_|(refine z_l ?_;(repeat first|exact z_0|assumption|refine z_1 ?_);done)|refine z_r ?_);done)) rfl) kp_nil))), ?_⟩
          rw [Vec.val_ad hM2]
          refine jx_O rfl rfl (.inl rfl) (xv_s1 ty100 rfl rfl rfl (by (first|(apply u_3;(repeat first|exact u_0|assumption|apply u_1|apply u_2);done)|((repeat first|exact u_0|assumption|apply u_1|apply u_2);done)|(apply u_3;apply u_3;(repeat first|exact u_0|assumption|apply u_1|apply u_2);done)|((repeat first|exact u_0|assumption|apply u_3|apply u_1);done))) (by (first | rfl | exact Vec.one _ _)) (by (first | decide | exact Nat.le_of_ble_eq_true rfl | (simp only [List.length_cons, List.length_nil]; omega) | (simp; done))) (by ((try apply evl_some rfl);(repeat (first|exact (rfl : _ = [])|apply evl_cons rfl (by (first|exact v_1|exact v_2|exact v_3|exact v_4|exact v_5|exact v_6|exact v_7|exact v_8|exact v_9|exact rfl))|exact rfl)))) ?_)
          refine ⟨(kp_go (by kernel_rfl) (kp_go (by kernel_rfl) (kp_in (holds1 (by ((repeat first|exact z_0|assumption|refine z_1 ?_|(refine z_l ?_;(repeat first|exact z_0|assumption|refine z_1 ?_);done)|refine z_r ?_);done)) rfl) kp_nil))), ?_⟩
          refine jx_O rfl rfl (.inl rfl) (xv_s1 ty3 rfl rfl rfl (by (first|(apply u_3;(repeat first|exact u_0|assumption|apply u_1|apply u_2);done)|((repeat first|exact u_0|assumption|apply u_1|apply u_2);done)|(apply u_3;apply u_3;(repeat first|exact u_0|assumption|apply u_1|apply u_2);done)|((repeat first|exact u_0|assumption|apply u_3|apply u_1);done))) (by (first | rfl | exact Vec.one _ _)) (by (first | decide | exact Nat.le_of_ble_eq_true rfl | (simp only [List.length_cons, List.length_nil]; omega) | (simp; done))) (by ((try apply evl_some rfl);(repeat (first|exact (rfl : _ = [])|apply evl_cons rfl (by (first|exact v_1|exact v_2|exact v_3|exact v_4|exact v_5|exact v_6|exact v_7|exact v_8|exact v_9|exact rfl))|exact rfl)))) ?_)
          refine ⟨(kp_go (by kernel_rfl) (kp_go (by kernel_rfl) (kp_go (by kernel_rfl) kp_nil))), ?_⟩
          refine jx_endp permC ?_
          refine bk_n ?_
          exact rndQ_n ((U2, M2) : Vec × Vec) ⟨by dsimp only; rw [eR_take hkx]; exact hU2, by dsimp only; rw [eM_take hkx hx6]; exact hM2⟩ (by dsimp only; rw [eR_take hkx, eM_take hkx hx6, allT_take hkx]; (first|((repeat first|exact s_0|exact s_1|exact s_3|refine s_4 ?_|refine s_5 ?_|refine s_6 ?_|refine s_7 ?_);done)|((repeat first|exact s_0|exact s_1|exact s_3|refine s_4 ?_|refine s_5 ?_|refine s_6 ?_|refine s_8 ?_);done)))
        · intro kd g hi hkd
          obtain ⟨U, M⟩ := g
          dsimp only at hi
          obtain ⟨hU, hM⟩ := hi
          rw [List.take_length] at hU hM
          rw [List.take_length]
          rw [List.take_length] at hkd
          dsimp only
          refine bk_n ?_
          refine th_n ?_
          refine xc_seq (xc_region ?_)
          refine xr_op rfl rfl (xv_alloc ty101 (fun b15 hb15 => ?_))
          refine xr_end rfl ?_
          refine th_n ?_
          refine xc_seq (xc_region ?_)
          refine xr_op rfl rfl (xv_func rfl rfl ?_)
          refine xr_op rfl rfl (xv_s1 ty101 rfl rfl rfl (by (first|(apply u_3;(repeat first|exact u_0|assumption|apply u_1|apply u_2);done)|((repeat first|exact u_0|assumption|apply u_1|apply u_2);done)|(apply u_3;apply u_3;(repeat first|exact u_0|assumption|apply u_1|apply u_2);done)|((repeat first|exact u_0|assumption|apply u_3|apply u_1);done))) (by (first | rfl | exact Vec.one _ _)) (by (first | decide | exact Nat.le_of_ble_eq_true rfl | (simp only [List.length_cons, List.length_nil]; omega) | (simp; done))) (by ((try apply evl_some rfl);(repeat (first|exact (rfl : _ = [])|apply evl_cons rfl (by (first|exact v_1|exact v_2|exact v_3|exact v_4|exact v_5|exact v_6|exact v_7|exact v_8|exact v_9|exact rfl))|exact rfl)))) ?_)
          refine xr_end rfl ?_
          refine th_n ?_
          refine xc_seq (xc_region ?_)
          refine xr_op rfl rfl (xv_assign rfl ?_)
          refine xr_end rfl ?_
          refine th_n ?_
          refine xc_seq ?_
          refine xc_seq (xc_region ?_)
          refine xr_op rfl rfl (xv_load1 ty38 rfl rfl (by ((repeat first|exact z_0|assumption|refine z_1 ?_|(refine z_l ?_;(repeat first|exact z_0|assumption|refine z_1 ?_);done)|refine z_r ?_);done)) (by rfl) ?_)
          refine xr_op rfl rfl (xv_len sl38 rfl ?_)
          refine xr_op rfl rfl (xv_move rfl ?_)
          refine xr_end rfl ?_
          refine th_n ?_
          refine xc_block ?_
          refine xc_loop (σ := Nat) (fun k => k ≤ ts.length ∧ ∀ t ∈ ts.take k, 0 ≤ t ∧ t ≤ allT (partsL y [v])) (fun k => (((((((emp.put (some 12) (.pointer (some ⟨b12, 0, none⟩))).put (some 10) (.pointer (some ⟨b10, 0, none⟩))).put (some 15) (.pointer (some ⟨b15, 0, none⟩))).put (some 70) (.slice ta ts.length tc)).put (some 71) (I ts.length)).put (some 16) (I (sumI (ts.take k)))).put (some 72) (I k))) (fun k => ((b15, .cells ⟨[.func (.func 47) ⟨[]⟩ ⟨[.pointer (some ⟨b5, 0, none⟩), .pointer (some ⟨b10, 0, none⟩), .pointer (some ⟨b11, 0, none⟩), .pointer (some ⟨b15, 0, none⟩)]⟩]⟩ 101) :: (kd, .deferred (some [])) :: (b12, .cells ⟨[I (allT (partsL y [v]))]⟩ 3) :: (b11, .cells ⟨[.slice M.ad (partsL y [v]).length M.cp]⟩ 100) :: (b10, .cells ⟨[.slice U.ad (partsL y [v]).length U.cp]⟩ 38) :: (U.hp 3 ((partsL y [v]).flatMap eR) ++ (M.hp 80 ((partsL y [v]).flatMap eM) ++ (G ++ (b5, .cells ⟨[.slice ta ts.length tc]⟩ 38) :: (b3, .cells ⟨eYard y⟩ 25) :: h))))) (fun k => ts.length - k) 0 ⟨Nat.zero_le _, fun t ht => by simp at ht⟩ (le_put (le_put (le_put (le_put (le_put (le_put (le_put (le_emp _) rfl) rfl) rfl) rfl) rfl) rfl) rfl) (by (first|((repeat first|exact s_0|exact s_1|exact s_3|refine s_4 ?_|refine s_5 ?_|refine s_6 ?_|refine s_7 ?_);done)|((repeat first|exact s_0|exact s_1|exact s_3|refine s_4 ?_|refine s_5 ?_|refine s_6 ?_|refine s_8 ?_);done))) ?_
          rintro k ⟨hk, hal⟩
          refine xc_seq (xc_region ?_)
          refine xr_op rfl rfl (xv_lss2 rfl rfl (fun q8 => ?_) (fun q8 => ?_))
          · refine xr_end rfl ?_
            refine th_n ?_
            refine xc_seq ?_
            refine xc_true rfl ?_
            refine xc_skip ?_
            refine th_n ?_
            refine xc_seq ?_
            refine xc_block ?_
            refine xc_seq (xc_region ?_)
            have hlto : k < ts.length := by (first|omega|(dsimp only at *;omega)|(simp at *;omega))
            obtain ⟨bo, oo, lo, to, fzo, hao, hmo, hxo⟩ := (ht).at hlto
            obtain ⟨xo, hko⟩ : ∃ qq_, ts[k]? = some qq_ := ⟨_, List.getElem?_eq_getElem hlto⟩
            have hsb := sumI_bd (B := 33554432) (l := ts.take k) (fun t h9 => by have := hal t h9; omega)
            rw [List.length_take] at hsb
            refine xr_op rfl rfl (xv_ia (sz := 1) (j := k) sl38 ty3 rfl (by rw [hao]; rfl) rfl (by (first | assumption | with_reducible exact Int.toNat_natCast _ | with_reducible rfl | rfl)) (by (first|omega|(dsimp only at *;omega)|(simp at *;omega))) (by (first|omega|(dsimp only at *;omega)|(simp at *;omega))) ?_)
            refine xr_op rfl rfl (xv_load1 ty3 rfl rfl (by ((repeat first|exact z_0|assumption|refine z_1 ?_|(refine z_l ?_;(repeat first|exact z_0|assumption|refine z_1 ?_);done)|refine z_r ?_);done)) (take_get (hxo (k) xo hko) (j := 0) rfl) ?_)
            refine xr_op rfl rfl (xv_assign rfl ?_)
            refine xr_end rfl ?_
            refine th_n ?_
            refine xc_seq ?_
            refine xc_seq (xc_region ?_)
            refine xr_op rfl rfl (xv_move rfl ?_)
            refine xr_op rfl rfl (xv_load1 ty3 rfl rfl (by ((repeat first|exact z_0|assumption|refine z_1 ?_|(refine z_l ?_;(repeat first|exact z_0|assumption|refine z_1 ?_);done)|refine z_r ?_);done)) (by rfl) ?_)
            refine xr_op rfl rfl (xv_calls rfl hb31 (within_c _ _ _ (fun hl9 hu10 => up_ret ?_) (fun hn11 => up_ret ?_)))
            · refine xr_op rfl rfl (xv_not rfl ?_)
              refine xr_end rfl ?_
              refine th_n ?_
              refine xc_false rfl ?_
              refine xc_skip ?_
              refine th_n ?_
              refine xc_region ?_
              refine xr_op rfl rfl (xv_move rfl ?_)
              refine xr_op rfl rfl (xv_move rfl ?_)
              refine xr_op rfl rfl (xv_add rfl rfl (wrap_i64 (by (first|omega|(dsimp only at *;omega)|(simp at *;omega))) (by (first|omega|(dsimp only at *;omega)|(simp at *;omega)))) ?_)
              refine xr_op rfl rfl (xv_assign rfl ?_)
              refine xr_end rfl ?_
              refine bk_n ?_
              refine th_n ?_
              refine xc_region ?_
              refine xr_op rfl rfl (xv_add rfl rfl (wrap_i64 (by (first|omega|(dsimp only at *;omega)|(simp at *;omega))) (by (first|omega|(dsimp only at *;omega)|(simp at *;omega)))) ?_)
              refine xr_op rfl rfl (xv_move rfl ?_)
              refine xr_end rfl ?_
              exact rnd (k + 1) ⟨by (first|omega|(dsimp only at *;omega)|(simp at *;omega)), (take_all hko).2 ⟨hal, by (first|omega|(dsimp only at *;omega)|(simp at *;omega)), by (first|omega|(dsimp only at *;omega)|(simp at *;omega))⟩⟩ (by (first|omega|(dsimp only at *;omega)|(simp at *;omega))) (le_put (le_put (le_put (le_put (le_put (le_put (le_put (le_emp _) rfl) rfl) rfl) rfl) rfl) (by rw [sumI_take hko]; rfl)) rfl) (by (first|((repeat first|exact s_0|exact s_1|exact s_3|refine s_4 ?_|refine s_5 ?_|refine s_6 ?_|refine s_7 ?_);done)|((repeat first|exact s_0|exact s_1|exact s_3|refine s_4 ?_|refine s_5 ?_|refine s_6 ?_|refine s_8 ?_);done)))
            · refine xr_op rfl rfl (xv_not rfl ?_)
              refine xr_end rfl ?_
              refine th_n ?_
              refine xc_true rfl ?_
              refine xc_seq (xc_region ?_)
              have hco : canB (partsL y [v]) ts = false := canB_out hko (by (first|omega|(dsimp only at *;omega)|(simp at *;omega)))
              refine xr_op rfl rfl (xv_assign rfl ?_)
              refine xr_op rfl rfl (xv_assign rfl ?_)
              refine xr_end rfl ?_
              refine th_n ?_
              refine xc_ret ?_
              refine th_r ?_
              refine bk_r ?_
              refine th_r ?_
              refine th_r ?_
              refine bk_r ?_
              refine th_r ?_
              refine body_retM (h' := h) rfl (ro_tmp rfl (ro_tmp rfl ro_nil)) (by (first|((repeat first|exact s_0|exact s_1|exact s_3|refine s_4 ?_|refine s_5 ?_|refine s_6 ?_|refine s_7 ?_);done)|((repeat first|exact s_0|exact s_1|exact s_3|refine s_4 ?_|refine s_5 ?_|refine s_6 ?_|refine s_8 ?_);done))) (by ((repeat first|exact z_0|assumption|refine z_1 ?_|(refine z_l ?_;(repeat first|exact z_0|assumption|refine z_1 ?_);done)|refine z_r ?_);done)) (nkeys (by intro z hz; ((repeat first|exact z_0|assumption|refine z_1 ?_|(refine z_l ?_;(repeat first|exact z_0|assumption|refine z_1 ?_);done)|refine z_r ?_);done)) hkd) ?_
              first | (rw [eans, hco] at H; exact H) | (rw [eans, hci, decide_eq_true hsq, hft] at H; exact H) | (rw [eans, hci, decide_eq_false hsq] at H; exact H) | (rw [canA_1 hng] at H; exact H) | (rw [canA_10 hgy hpn] at H; exact H) | (rw [canA_2 hgy hvs (by omega)] at H; exact H)
          · refine xr_end rfl ?_
            refine th_n ?_
            refine xc_seq ?_
            refine xc_false rfl ?_
            refine xc_exit ?_
            refine th_x ?_
            refine th_x ?_
            refine bk_same ?_
            refine th_n ?_
            refine xc_seq ?_
            refine xc_draw [(0, .S), (1, .R), (2, .O), (3, .S), (4, .S), (5, .R), (6, .S), (7, .O), (8, .O), (9, .S), (10, .S), (11, .S)] [(b15, .cells ⟨[.func (.func 47) ⟨[]⟩ ⟨[.pointer (some ⟨b5, 0, none⟩), .pointer (some ⟨b10, 0, none⟩), .pointer (some ⟨b11, 0, none⟩), .pointer (some ⟨b15, 0, none⟩)]⟩]⟩ 101)] ((kd, .deferred (some [])) :: (b12, .cells ⟨[I (allT (partsL y [v]))]⟩ 3) :: (b11, .cells ⟨[.slice M.ad (partsL y [v]).length M.cp]⟩ 100) :: (b10, .cells ⟨[.slice U.ad (partsL y [v]).length U.cp]⟩ 38) :: (U.hp 3 ((partsL y [v]).flatMap eR) ++ (M.hp 80 ((partsL y [v]).flatMap eM) ++ (G ++ (b5, .cells ⟨[.slice ta ts.length tc]⟩ 38) :: (b3, .cells ⟨eYard y⟩ 25) :: h)))) mixed (by kernel_rfl) (List.perm_append_singleton _ _) ?_
            have hal2 : ∀ t ∈ ts, 0 ≤ t ∧ t ≤ allT (partsL y [v]) := by
              have e9 : k = ts.length := by (first|omega|(dsimp only at *;omega)|(simp at *;omega))
              rw [e9, List.take_length] at hal; exact hal
            have hci := canB_in hal2
            obtain rfl : ts.length = k := by (first|omega|(dsimp only at *;omega)|(simp at *;omega))
            rw [List.take_length]
            refine js_S rfl rfl (.inl rfl) (xv_move rfl ⟨rfl, rfl⟩) ?_
            refine js_R rfl rfl (.inl rfl) (xv_load1 ty3 rfl rfl (by ((repeat first|exact z_0|assumption|refine z_1 ?_|(refine z_l ?_;(repeat first|exact z_0|assumption|refine z_1 ?_);done)|refine z_r ?_);done)) (by rfl) ⟨rfl, rfl⟩) ?_
            refine js_O rfl rfl (.inl rfl) (xv_eql2 rfl rfl (fun hsq => ?_) (fun hsq => ?_))
            · refine jo_same ?_
              refine js_S rfl rfl (.inl rfl) (xv_move rfl ⟨rfl, rfl⟩) ?_
              refine js_S rfl rfl (.inr ⟨_, _, rfl, rfl⟩) (xv_load1 ty101 rfl rfl (by ((repeat first|exact z_0|assumption|refine z_1 ?_|(refine z_l ?_;(repeat first|exact z_0|assumption|refine z_1 ?_);done)|refine z_r ?_);done)) (by rfl) ⟨rfl, rfl⟩) ?_
              refine js_R rfl rfl (.inr ⟨_, _, rfl, rfl⟩) (xv_load1 ty38 rfl rfl (by ((repeat first|exact z_0|assumption|refine z_1 ?_|(refine z_l ?_;(repeat first|exact z_0|assumption|refine z_1 ?_);done)|refine z_r ?_);done)) (by rfl) ⟨rfl, rfl⟩) ?_
              refine js_S rfl rfl (.inr ⟨_, _, rfl, rfl⟩) (xv_len sl38 rfl ⟨rfl, rfl⟩) ?_
              refine js_O rfl rfl (.inr ⟨_, _, rfl, rfl⟩) (xv_make (n := (partsL y [v]).length) (l := (List.replicate (partsL y [v]).length 0).flatMap eI) sl38 ty3 rfl rfl (by (first|omega|(dsimp only at *;omega)|(simp at *;omega))) (by simp only []; (first|omega|(dsimp only at *;omega)|(simp at *;omega))) (by simp only []; (first|omega|(dsimp only at *;omega)|(simp at *;omega))) (make_ints _) (fun b91 hb91 => ?_))
              refine jo_atL ((b91, _) :: _) (List.Perm.refl _) .nil ?_
              have hFC : FitsC ((b15, .cells ⟨[.func (.func 47) ⟨[]⟩ ⟨[.pointer (some ⟨b5, 0, none⟩), .pointer (some ⟨b10, 0, none⟩), .pointer (some ⟨b11, 0, none⟩), .pointer (some ⟨b15, 0, none⟩)]⟩]⟩ 101) :: (kd, .deferred (some [])) :: (b12, .cells ⟨[I (allT (partsL y [v]))]⟩ 3) :: (b11, .cells ⟨[.slice M.ad (partsL y [v]).length M.cp]⟩ 100) :: (b10, .cells ⟨[.slice U.ad (partsL y [v]).length U.cp]⟩ 38) :: (U.hp 3 ((partsL y [v]).flatMap eR) ++ (M.hp 80 ((partsL y [v]).flatMap eM) ++ (G ++ (b5, .cells ⟨[.slice ta ts.length tc]⟩ 38) :: (b3, .cells ⟨eYard y⟩ 25) :: h)))) (partsL y [v]) ts b5 b10 b11 b15 ta tc U.ad U.cp M.ad M.cp := ⟨by ((repeat first|exact z_0|assumption|refine z_1 ?_|(refine z_l ?_;(repeat first|exact z_0|assumption|refine z_1 ?_);done)|refine z_r ?_);done), by ((repeat first|exact z_0|assumption|refine z_1 ?_|(refine z_l ?_;(repeat first|exact z_0|assumption|refine z_1 ?_);done)|refine z_r ?_);done), by ((repeat first|exact z_0|assumption|refine z_1 ?_|(refine z_l ?_;(repeat first|exact z_0|assumption|refine z_1 ?_);done)|refine z_r ?_);done), by ((repeat first|exact z_0|assumption|refine z_1 ?_|(refine z_l ?_;(repeat first|exact z_0|assumption|refine z_1 ?_);done)|refine z_r ?_);done), ht.sub (by intro z hz; ((repeat first|exact z_0|assumption|refine z_1 ?_|(refine z_l ?_;(repeat first|exact z_0|assumption|refine z_1 ?_);done)|refine z_r ?_);done)), (Vec.slvA (t := 3) eR_len rfl hU).sub (by intro z hz; ((repeat first|exact z_0|assumption|refine z_1 ?_|(refine z_l ?_;(repeat first|exact z_0|assumption|refine z_1 ?_);done)|refine z_r ?_);done)), (Vec.slvA (t := 80) eM_len rfl hM).sub (by intro z hz; ((repeat first|exact z_0|assumption|refine z_1 ?_|(refine z_l ?_;(repeat first|exact z_0|assumption|refine z_1 ?_);done)|refine z_r ?_);done)), fun x hx => by obtain ⟨a, b, c, d⟩ := partsL_ok hgy hcut.bd hcut.few hx; rw [List.length_singleton] at d; exact ⟨a, b, c, by omega⟩, hple, by omega, fun t h9 => by have := hal2 t h9; omega⟩
              refine js_O rfl rfl (.inr ⟨_, _, rfl, rfl⟩) (xv_fn rfl rfl (afn_func (fi := []) hb47 (fits0_c hFC (by intro z hz; rcases List.mem_cons.1 hz with rfl | hz; exact List.mem_append_right _ List.mem_cons_self; exact List.mem_append_left _ (List.mem_cons_of_mem _ hz)) rfl (slvL eI_len (List.mem_append_left _ List.mem_cons_self)) (fun hft => up_ret ?_) (fun hft => up_ret ?_))))
              · refine jo_same ?_
                refine js_S rfl rfl (.inl rfl) (xv_pick rfl rfl ⟨rfl, rfl⟩) ?_
                refine js_S rfl rfl (.inl rfl) (xv_assign rfl ⟨rfl, rfl⟩) ?_
                refine js_S rfl rfl (.inl rfl) (xv_assign rfl ⟨rfl, rfl⟩) ?_
                refine j_endp (List.perm_append_singleton _ _) ?_
                refine th_n ?_
                refine xc_ret ?_
                refine body_retM (h' := h) rfl (ro_tmp rfl (ro_tmp rfl ro_nil)) (by (first|((repeat first|exact s_0|exact s_1|exact s_3|refine s_4 ?_|refine s_5 ?_|refine s_6 ?_|refine s_7 ?_);done)|((repeat first|exact s_0|exact s_1|exact s_3|refine s_4 ?_|refine s_5 ?_|refine s_6 ?_|refine s_8 ?_);done))) (by ((repeat first|exact z_0|assumption|refine z_1 ?_|(refine z_l ?_;(repeat first|exact z_0|assumption|refine z_1 ?_);done)|refine z_r ?_);done)) (nkeys (by intro z hz; ((repeat first|exact z_0|assumption|refine z_1 ?_|(refine z_l ?_;(repeat first|exact z_0|assumption|refine z_1 ?_);done)|refine z_r ?_);done)) hkd) ?_
                first | (rw [eans, hco] at H; exact H) | (rw [eans, hci, decide_eq_true hsq, hft] at H; exact H) | (rw [eans, hci, decide_eq_false hsq] at H; exact H) | (rw [canA_1 hng] at H; exact H) | (rw [canA_10 hgy hpn] at H; exact H) | (rw [canA_2 hgy hvs (by omega)] at H; exact H)
              · refine jo_same ?_
                refine js_S rfl rfl (.inl rfl) (xv_pick rfl rfl ⟨rfl, rfl⟩) ?_
                refine js_S rfl rfl (.inl rfl) (xv_assign rfl ⟨rfl, rfl⟩) ?_
                refine js_S rfl rfl (.inl rfl) (xv_assign rfl ⟨rfl, rfl⟩) ?_
                refine j_endp (List.perm_append_singleton _ _) ?_
                refine th_n ?_
                refine xc_ret ?_
                refine body_retM (h' := h) rfl (ro_tmp rfl (ro_tmp rfl ro_nil)) (by (first|((repeat first|exact s_0|exact s_1|exact s_3|refine s_4 ?_|refine s_5 ?_|refine s_6 ?_|refine s_7 ?_);done)|((repeat first|exact s_0|exact s_1|exact s_3|refine s_4 ?_|refine s_5 ?_|refine s_6 ?_|refine s_8 ?_);done))) (by ((repeat first|exact z_0|assumption|refine z_1 ?_|(refine z_l ?_;(repeat first|exact z_0|assumption|refine z_1 ?_);done)|refine z_r ?_);done)) (nkeys (by intro z hz; ((repeat first|exact z_0|assumption|refine z_1 ?_|(refine z_l ?_;(repeat first|exact z_0|assumption|refine z_1 ?_);done)|refine z_r ?_);done)) hkd) ?_
                first | (rw [eans, hco] at H; exact H) | (rw [eans, hci, decide_eq_true hsq, hft] at H; exact H) | (rw [eans, hci, decide_eq_false hsq] at H; exact H) | (rw [canA_1 hng] at H; exact H) | (rw [canA_10 hgy hpn] at H; exact H) | (rw [canA_2 hgy hvs (by omega)] at H; exact H)
            · refine jo_same ?_
              refine js_S rfl rfl (.inl rfl) (xv_move rfl ⟨rfl, rfl⟩) ?_
              refine js_Ss rfl rfl ⟨_, _, _, rfl, rfl, rfl⟩ ?_
              refine js_Rs rfl rfl ⟨_, _, _, rfl, rfl, rfl⟩ ?_
              refine js_Ss rfl rfl ⟨_, _, _, rfl, rfl, rfl⟩ ?_
              refine js_Os rfl rfl ⟨_, _, _, rfl, rfl, rfl⟩ ?_
              refine js_Os rfl rfl ⟨_, _, _, rfl, rfl, rfl⟩ ?_
              refine js_S rfl rfl (.inl rfl) (xv_pick rfl rfl ⟨rfl, rfl⟩) ?_
              refine js_S rfl rfl (.inl rfl) (xv_assign rfl ⟨rfl, rfl⟩) ?_
              refine js_S rfl rfl (.inl rfl) (xv_assign rfl ⟨rfl, rfl⟩) ?_
              refine j_endp (List.perm_append_singleton _ _) ?_
              refine th_n ?_
              refine xc_ret ?_
              refine body_retM (h' := h) rfl (ro_tmp rfl (ro_tmp rfl ro_nil)) (by (first|((repeat first|exact s_0|exact s_1|exact s_3|refine s_4 ?_|refine s_5 ?_|refine s_6 ?_|refine s_7 ?_);done)|((repeat first|exact s_0|exact s_1|exact s_3|refine s_4 ?_|refine s_5 ?_|refine s_6 ?_|refine s_8 ?_);done))) (by ((repeat first|exact z_0|assumption|refine z_1 ?_|(refine z_l ?_;(repeat first|exact z_0|assumption|refine z_1 ?_);done)|refine z_r ?_);done)) (nkeys (by intro z hz; ((repeat first|exact z_0|assumption|refine z_1 ?_|(refine z_l ?_;(repeat first|exact z_0|assumption|refine z_1 ?_);done)|refine z_r ?_);done)) hkd) ?_
              first | (rw [eans, hco] at H; exact H) | (rw [eans, hci, decide_eq_true hsq, hft] at H; exact H) | (rw [eans, hci, decide_eq_false hsq] at H; exact H) | (rw [canA_1 hng] at H; exact H) | (rw [canA_10 hgy hpn] at H; exact H) | (rw [canA_2 hgy hvs (by omega)] at H; exact H)
    · refine xr_op rfl rfl (xv_not rfl ?_)
      refine xr_op rfl rfl (xv_move rfl ?_)
      refine xr_no rfl rfl rfl rfl ?_
      refine xr_no rfl rfl rfl rfl ?_
      refine xr_no rfl rfl rfl rfl ?_
      refine xr_no rfl rfl rfl rfl ?_
      refine xr_no rfl rfl rfl rfl ?_
      refine xr_no rfl rfl rfl rfl ?_
      refine xr_op rfl rfl (xv_pick rfl rfl ?_)
      refine xr_op rfl rfl (xv_assign rfl ?_)
      refine xr_end rfl ?_
      refine th_n ?_
      refine xc_true rfl ?_
      refine xc_seq (xc_region ?_)
      refine xr_op rfl rfl (xv_assign rfl ?_)
      refine xr_op rfl rfl (xv_assign rfl ?_)
      refine xr_end rfl ?_
      refine th_n ?_
      refine xc_ret ?_
      refine bk_r ?_
      refine th_r ?_
      refine body_ret (h' := h) rfl (ro_tmp rfl (ro_tmp rfl ro_nil)) (by (first|((repeat first|exact s_0|exact s_1|exact s_3|refine s_4 ?_|refine s_5 ?_|refine s_6 ?_|refine s_7 ?_);done)|((repeat first|exact s_0|exact s_1|exact s_3|refine s_4 ?_|refine s_5 ?_|refine s_6 ?_|refine s_8 ?_);done))) ?_
      first | (rw [eans, hco] at H; exact H) | (rw [eans, hci, decide_eq_true hsq, hft] at H; exact H) | (rw [eans, hci, decide_eq_false hsq] at H; exact H) | (rw [canA_1 hng] at H; exact H) | (rw [canA_10 hgy hpn] at H; exact H) | (rw [canA_2 hgy hvs (by omega)] at H; exact H)

end Go.Proofs.Ytpefpafijadfmaa

/-
  Walks.
-/
namespace Go.Proofs.Ytpefpafijadfmaa
open Go Go.H
set_option maxRecDepth 100000
set_option maxHeartbeats 8000000
set_option linter.all false
def smC : List Coal := [⟨⟨400, 500⟩, ⟨5, 6⟩, ⟨10, 12⟩, ⟨60, 70⟩⟩, ⟨⟨600, 650⟩, ⟨8, 9⟩, ⟨30, 40⟩, ⟨50, 55⟩⟩]
def smM : List Move := [⟨5, 0, 30⟩, ⟨5, 1, 20⟩, ⟨8, -1, 40⟩, ⟨9, 1, 15⟩, ⟨10, -1, 20⟩]

theorem sample_c {h : Hp} {R : Ending → Hp → Prop} (H : ∀ bc bm, R (.returned (.agg ⟨[.slice (some ⟨bc, 0, none⟩) 2 2, .slice (some ⟨bm, 0, none⟩) 5 5]⟩)) ((bm, .cells ⟨smM.flatMap eMove⟩ 63) :: (bc, .cells ⟨smC.flatMap eCoal⟩ 59) :: h)) : ACalls Try.prog 29 ⟨[]⟩ h R := by
  refine calls_of_xc (N := 19) Try.func29 rfl (by rfl) ?_
  refine xc_seq (xc_region ?_)
  refine xr_op rfl rfl (xv_alloc ty25 (fun b0 hb0 => ?_))
  refine xr_end rfl ?_
  refine th_n ?_
  refine xc_seq (xc_region ?_)
  refine xr_op rfl rfl (xv_calls rfl hb28 (span_c _ _ (up_ret ?_)))
  refine xr_op rfl rfl (xv_calls rfl hb28 (span_c _ _ (up_ret ?_)))
  refine xr_op rfl rfl (xv_calls rfl hb28 (span_c _ _ (up_ret ?_)))
  refine xr_op rfl rfl (xv_calls rfl hb28 (span_c _ _ (up_ret ?_)))
  refine xr_op rfl rfl (xv_build bt59 rfl (by ((try apply evl_some rfl);(repeat (first|exact (rfl : _ = [])|apply evl_cons rfl (by (first|exact v_1|exact v_2|exact v_3|exact v_4|exact v_5|exact v_6|exact v_7|exact v_8|exact v_9|exact rfl))|exact rfl)))) ?_)
  refine xr_op rfl rfl (xv_calls rfl hb28 (span_c _ _ (up_ret ?_)))
  refine xr_op rfl rfl (xv_calls rfl hb28 (span_c _ _ (up_ret ?_)))
  refine xr_op rfl rfl (xv_calls rfl hb28 (span_c _ _ (up_ret ?_)))
  refine xr_op rfl rfl (xv_calls rfl hb28 (span_c _ _ (up_ret ?_)))
  refine xr_op rfl rfl (xv_build bt59 rfl (by ((try apply evl_some rfl);(repeat (first|exact (rfl : _ = [])|apply evl_cons rfl (by (first|exact v_1|exact v_2|exact v_3|exact v_4|exact v_5|exact v_6|exact v_7|exact v_8|exact v_9|exact rfl))|exact rfl)))) ?_)
  refine xr_op rfl rfl ((al_buildSlice sl22 ty59 rfl rfl rfl rfl rfl (by ((try apply evl_some rfl);(repeat (first|exact (rfl : _ = [])|apply evl_cons rfl (by (first|exact v_1|exact v_2|exact v_3|exact v_4|exact v_5|exact v_6|exact v_7|exact v_8|exact v_9|exact rfl))|exact rfl))))).xv (fun bc hbc => ?_))
  refine xr_op rfl rfl (xv_build bt63 rfl (by ((try apply evl_some rfl);(repeat (first|exact (rfl : _ = [])|apply evl_cons rfl (by (first|exact v_1|exact v_2|exact v_3|exact v_4|exact v_5|exact v_6|exact v_7|exact v_8|exact v_9|exact rfl))|exact rfl)))) ?_)
  refine xr_op rfl rfl (xv_build bt63 rfl (by ((try apply evl_some rfl);(repeat (first|exact (rfl : _ = [])|apply evl_cons rfl (by (first|exact v_1|exact v_2|exact v_3|exact v_4|exact v_5|exact v_6|exact v_7|exact v_8|exact v_9|exact rfl))|exact rfl)))) ?_)
  refine xr_op rfl rfl (xv_build bt63 rfl (by ((try apply evl_some rfl);(repeat (first|exact (rfl : _ = [])|apply evl_cons rfl (by (first|exact v_1|exact v_2|exact v_3|exact v_4|exact v_5|exact v_6|exact v_7|exact v_8|exact v_9|exact rfl))|exact rfl)))) ?_)
  refine xr_op rfl rfl (xv_build bt63 rfl (by ((try apply evl_some rfl);(repeat (first|exact (rfl : _ = [])|apply evl_cons rfl (by (first|exact v_1|exact v_2|exact v_3|exact v_4|exact v_5|exact v_6|exact v_7|exact v_8|exact v_9|exact rfl))|exact rfl)))) ?_)
  refine xr_op rfl rfl (xv_build bt63 rfl (by ((try apply evl_some rfl);(repeat (first|exact (rfl : _ = [])|apply evl_cons rfl (by (first|exact v_1|exact v_2|exact v_3|exact v_4|exact v_5|exact v_6|exact v_7|exact v_8|exact v_9|exact rfl))|exact rfl)))) ?_)
  refine xr_op rfl rfl ((al_buildSlice sl23 ty63 rfl rfl rfl rfl rfl (by ((try apply evl_some rfl);(repeat (first|exact (rfl : _ = [])|apply evl_cons rfl (by (first|exact v_1|exact v_2|exact v_3|exact v_4|exact v_5|exact v_6|exact v_7|exact v_8|exact v_9|exact rfl))|exact rfl))))).xv (fun bm hbm => ?_))
  refine xr_op rfl rfl (xv_build bt25 rfl (by ((try apply evl_some rfl);(repeat (first|exact (rfl : _ = [])|apply evl_cons rfl (by (first|exact v_1|exact v_2|exact v_3|exact v_4|exact v_5|exact v_6|exact v_7|exact v_8|exact v_9|exact rfl))|exact rfl)))) ?_)
  refine xr_op rfl rfl (xv_s ty25 rfl rfl (by (first|(apply u_3;(repeat first|exact u_0|assumption|apply u_1|apply u_2);done)|((repeat first|exact u_0|assumption|apply u_1|apply u_2);done)|(apply u_3;apply u_3;(repeat first|exact u_0|assumption|apply u_1|apply u_2);done)|((repeat first|exact u_0|assumption|apply u_3|apply u_1);done))) (by ((try apply evl_some rfl);(repeat (first|exact (rfl : _ = [])|apply evl_cons rfl (by (first|exact v_1|exact v_2|exact v_3|exact v_4|exact v_5|exact v_6|exact v_7|exact v_8|exact v_9|exact rfl))|exact rfl)))) (by rfl) (by rfl) (by rfl) (by ((try apply evl_some rfl);(repeat (first|exact (rfl : _ = [])|apply evl_cons rfl (by (first|exact v_1|exact v_2|exact v_3|exact v_4|exact v_5|exact v_6|exact v_7|exact v_8|exact v_9|exact rfl))|exact rfl)))) ?_)
  refine xr_end rfl ?_
  refine th_n ?_
  refine xc_ret ?_
  refine body_ret (h' := ((bm, .cells ⟨smM.flatMap eMove⟩ 63) :: (bc, .cells ⟨smC.flatMap eCoal⟩ 59) :: h)) rfl (ro_cellA ty25 rfl rfl (by ((repeat first|exact z_0|assumption|refine z_1 ?_|(refine z_l ?_;(repeat first|exact z_0|assumption|refine z_1 ?_);done)|refine z_r ?_);done)) (by rfl) (by rfl) ro_nil) (by (first|((repeat first|exact s_0|exact s_1|exact s_3|refine s_4 ?_|refine s_5 ?_|refine s_6 ?_|refine s_7 ?_);done)|((repeat first|exact s_0|exact s_1|exact s_3|refine s_4 ?_|refine s_5 ?_|refine s_6 ?_|refine s_8 ?_);done))) ?_
  exact H bc bm

end Go.Proofs.Ytpefpafijadfmaa

/-
  The yard of the document's examples.
-/
set_option linter.all false
namespace Go.Proofs.Ytpefpafijadfmaa
open Go Go.H
def smY (bc bm : Nat) : Yard := ⟨some ⟨bc, 0, none⟩, 2, smC, some ⟨bm, 0, none⟩, 5, smM⟩
theorem sm_good (bc bm : Nat) : GoodYard (smY bc bm) := by
  show CoalsOk smC ∧ movesOk 2 0 smM ∧ (1 ≤ 2 ∧ 2 ≤ 6) ∧ 5 ≤ 32
  refine ⟨?_, ?_, ?_, ?_⟩ <;> decide
theorem sm_vecs (bc bm : Nat) : vecsR (smY bc bm) = some [[40, 0], [10, 10]] := by
  show partsR 2 smM (opn smM).1 5 = _
  decide
theorem sm_drawn (bc bm : Nat) : drawnA (smY bc bm) 1 = ([⟨0, 10⟩, ⟨1, 10⟩], 0) := by
  rw [drawnA_0 (sm_good bc bm) (sm_vecs bc bm) (by decide)]
  show (nzF _ (opn smM).1, (0 : Int)) = _
  decide
theorem sm_blend (bc bm : Nat) : blendA (smY bc bm) 1 = ([⟨0, 10⟩, ⟨10, 20⟩], 0) := by
  rw [blendA_0b (v := [10, 10]) (sm_good bc bm) (sm_vecs bc bm) (by decide) rfl]
  show ((List.range 2).map (bSp (takenR [[10, 10]]) (fun j => contF 2 (smM.take 5) (j : Int)) (opn smM).1), (0 : Int)) = _
  decide
theorem sm_can (bc bm : Nat) : canA (smY bc bm) 0 [25, 15] = (true, 0) := by
  rw [canA_0 (v := [40, 0]) (sm_good bc bm) (sm_vecs bc bm) (by decide) rfl rfl]
  show (canB ((List.range (opn smM).1).filterMap fun j => if takenR [[40, 0]] j > 0 then some (contF 6 (smM.take 5) (j : Int), takenR [[40, 0]] j) else none) [25, 15], (0 : Int)) = _
  decide
theorem greedy2 {r0 r1 e0 e1 n x0 x1 : Int} (h0 : 0 ≤ x0 ∧ x0 ≤ r0) (h1 : 0 ≤ x1 ∧ x1 ≤ r1) (hs : x0 + x1 = n) (ha : e0 < e1 → 0 < x1 → x0 = r0) (hb : e1 < e0 → 0 < x0 → x1 = r1) : Greedy [r0, r1] [e0, e1] n [x0, x1] := by
  refine ⟨rfl, fun i a r ha' hr => ?_, by simp [sumI]; exact hs, fun i j a r ei b ej ha' hr hei hb' hej hlt hp => ?_⟩
  · match i, ha', hr with
    | 0, ha', hr => cases ha'; cases hr; exact h0
    | 1, ha', hr => cases ha'; cases hr; exact h1
  · match i, j, ha', hr, hei, hb', hej with
    | 0, 0, ha', hr, hei, hb', hej => cases ha'; cases hr; cases hei; cases hb'; cases hej; omega
    | 0, 1, ha', hr, hei, hb', hej => cases ha'; cases hr; cases hei; cases hb'; cases hej; exact ha hlt hp
    | 1, 0, ha', hr, hei, hb', hej => cases ha'; cases hr; cases hei; cases hb'; cases hej; exact hb hlt hp
    | 1, 1, ha', hr, hei, hb', hej => cases ha'; cases hr; cases hei; cases hb'; cases hej; omega
theorem gval2 {r0 r1 e0 e1 n x0 x1 : Int} (h0 : 0 ≤ x0 ∧ x0 ≤ r0) (h1 : 0 ≤ x1 ∧ x1 ≤ r1) (hs : x0 + x1 = n) (ha : e0 < e1 → 0 < x1 → x0 = r0) (hb : e1 < e0 → 0 < x0 → x1 = r1) : gval [r0, r1] [e0, e1] n = x0 * e0 + x1 * e1 := by
  have hq := gval_eq (room := [r0, r1]) (each := [e0, e1]) rfl (greedy2 h0 h1 hs ha hb)
  rw [← hq]
  simp [dotI]
theorem sm_yield {bc bm : Nat} {f t w : Int} {a : Span} {n0 n1 l0 l1 h0 h1 : Int} (h3 : (0 ≤ f ∧ f ≤ t ∧ t < 2) ∧ 0 ≤ w ∧ w ≤ 3)
    (e0 : needF [[40, 0], [10, 10]] f t 0 = n0) (e1 : needF [[40, 0], [10, 10]] f t 1 = n1) (el : lows (smY bc bm) w = [l0, l1]) (eh : highs (smY bc bm) w = [h0, h1])
    (g : gval [30, 20] [l0, l1] n0 + gval [0, 15] [l0, l1] n1 = a.lo) (g2 : -gval [30, 20] [h0, h1] n0 - gval [0, 15] [h0, h1] n1 = a.hi) : yieldA (smY bc bm) f t w = (a, 0) := by
  rw [yieldA_0 (sm_good bc bm) (sm_vecs bc bm) h3]
  have eo : (opn (smY bc bm).moves).1 = 2 := by show (opn smM).1 = 2; decide
  have c0 : contE (smY bc bm) 0 = [30, 20] := by show contF 2 (smM.take 5) (0 : Int) = _; decide
  have c1 : contE (smY bc bm) 1 = [0, 15] := by show contF 2 (smM.take 5) (1 : Int) = _; decide
  rw [eo]
  have y1 : yLo (smY bc bm) w (needF [[40, 0], [10, 10]] f t) 2 = a.lo := by
    rw [yLo, yLo, yLo, e0, e1, c0, c1, el]; omega
  have y2 : yHi (smY bc bm) w (needF [[40, 0], [10, 10]] f t) 2 = a.hi := by
    rw [yHi, yHi, yHi, e0, e1, c0, c1, eh]; omega
  rw [y1, y2]
theorem sm_yield1 (bc bm : Nat) : yieldA (smY bc bm) 0 0 0 = (⟨18000, 23000⟩, 0) := by
  refine sm_yield (n0 := 40) (n1 := 0) (l0 := 400) (l1 := 600) (h0 := -500) (h1 := -650) (by decide) (by decide) (by decide) rfl rfl ?_ ?_
  · rw [gval2 (x0 := 30) (x1 := 10) (by decide) (by decide) (by decide) (by decide) (by decide), gval2 (x0 := 0) (x1 := 0) (by decide) (by decide) (by decide) (by decide) (by decide)]; decide
  · rw [gval2 (x0 := 20) (x1 := 20) (by decide) (by decide) (by decide) (by decide) (by decide), gval2 (x0 := 0) (x1 := 0) (by decide) (by decide) (by decide) (by decide) (by decide)]; decide
theorem sm_yield2 (bc bm : Nat) : yieldA (smY bc bm) 1 1 2 = (⟨400, 800⟩, 0) := by
  refine sm_yield (n0 := 10) (n1 := 10) (l0 := 10) (l1 := 30) (h0 := -12) (h1 := -40) (by decide) (by decide) (by decide) rfl rfl ?_ ?_
  · rw [gval2 (x0 := 10) (x1 := 0) (by decide) (by decide) (by decide) (by decide) (by decide), gval2 (x0 := 0) (x1 := 10) (by decide) (by decide) (by decide) (by decide) (by decide)]; decide
  · rw [gval2 (x0 := 0) (x1 := 10) (by decide) (by decide) (by decide) (by decide) (by decide), gval2 (x0 := 0) (x1 := 10) (by decide) (by decide) (by decide) (by decide) (by decide)]; decide
end Go.Proofs.Ytpefpafijadfmaa

/-
  Walks.
-/
namespace Go.Proofs.Ytpefpafijadfmaa
open Go Go.H
set_option maxRecDepth 100000
set_option maxHeartbeats 8000000
set_option linter.all false
theorem ListsT_c {a a2 : Option Addr} {c c2 n n2 : Nat} {xs ys : List Part} {h : Hp} {R : Ending → Hp → Prop} (hn : n = xs.length) (hn2 : n2 = ys.length) (hs : SlV h 2 ePart a xs) (hs2 : SlV h 2 ePart a2 ys) (he : xs = ys) (hl : n ≤ 1000000) (H : R (.returned (.bool true)) h) : ACalls Try.prog 23 ⟨[.slice a n c, .slice a2 n2 c2]⟩ h R := by
  subst hn hn2
  refine Lists_c hs hs2 hl (by rw [← he]; omega) ?_
  rw [decide_eq_true he]; exact H
theorem SpansT_c {a a2 : Option Addr} {c c2 n n2 : Nat} {xs ys : List Span} {h : Hp} {R : Ending → Hp → Prop} (hn : n = xs.length) (hn2 : n2 = ys.length) (hs : SlV h 2 eSpan a xs) (hs2 : SlV h 2 eSpan a2 ys) (he : xs = ys) (hl : n ≤ 1000000) (H : R (.returned (.bool true)) h) : ACalls Try.prog 15 ⟨[.slice a n c, .slice a2 n2 c2]⟩ h R := by
  subst hn hn2
  refine Spans_c hs hs2 hl (by rw [← he]; omega) ?_
  rw [decide_eq_true he]; exact H
theorem RDrawnA_c {y : Yard} {h : Hp} {R : Ending → Hp → Prop} (hy : YardV h y) (hs : Small y) {draw : Int} (H : ∀ a c G, SlV G 2 ePart a (drawnA y draw).1 → R (.returned (.tuple ⟨[.slice a (drawnA y draw).1.length c, I (drawnA y draw).2]⟩)) (G ++ h)) : ACalls Try.prog 16 ⟨[.agg ⟨eYard y⟩, I draw]⟩ h R :=
  RDrawn_c hy hs fun V hV => by rw [Vec.val_ad hV]; exact H V.ad V.cp _ (Vec.slvA ePart_len rfl hV)
theorem smV {h : Hp} {bc bm : Nat} (m1 : (bm, .cells ⟨smM.flatMap eMove⟩ 63 (0, 0)) ∈ h) (m2 : (bc, .cells ⟨smC.flatMap eCoal⟩ 59 (0, 0)) ∈ h) : YardV h (smY bc bm) := ⟨slvL eCoal_len m2, slvL eMove_len m1⟩
theorem smS (bc bm : Nat) : Small (smY bc bm) := ⟨by show 2 ≤ 1000; decide, by show 5 ≤ 1000; decide⟩
section
variable {h : Hp} {R : Ending → Hp → Prop} {bc bm : Nat} (m1 : (bm, .cells ⟨smM.flatMap eMove⟩ 63 (0, 0)) ∈ h) (m2 : (bc, .cells ⟨smC.flatMap eCoal⟩ 59 (0, 0)) ∈ h)
include m1 m2
theorem aDrawn (H : ∀ a c G, SlV G 2 ePart a [⟨0, 10⟩, ⟨1, 10⟩] → R (.returned (.tuple ⟨[.slice a 2 c, I 0]⟩)) (G ++ h)) : ACalls Try.prog 19 ⟨[.agg ⟨[.slice (some ⟨bc, 0, none⟩) 2 2, .slice (some ⟨bm, 0, none⟩) 5 5]⟩, I 1]⟩ h R :=
  Drawn_c (y := smY bc bm) (smV m1 m2) (smS bc bm) (by rw [sm_drawn]; exact H)
theorem aBlend (H : ∀ a c G, SlV G 2 eSpan a [⟨0, 10⟩, ⟨10, 20⟩] → R (.returned (.tuple ⟨[.slice a 2 c, I 0]⟩)) (G ++ h)) : ACalls Try.prog 11 ⟨[.agg ⟨[.slice (some ⟨bc, 0, none⟩) 2 2, .slice (some ⟨bm, 0, none⟩) 5 5]⟩, I 1]⟩ h R :=
  Blend_c (y := smY bc bm) (smV m1 m2) (smS bc bm) (by rw [sm_blend]; exact H)
theorem aYield1 (H : R (.returned (.tuple ⟨[.agg ⟨[I 18000, I 23000]⟩, I 0]⟩)) h) : ACalls Try.prog 13 ⟨[.agg ⟨[.slice (some ⟨bc, 0, none⟩) 2 2, .slice (some ⟨bm, 0, none⟩) 5 5]⟩, I 0, I 0, I 0]⟩ h R :=
  Yield_c (y := smY bc bm) (smV m1 m2) (smS bc bm) (by rw [sm_yield1]; exact H)
theorem aYield2 (H : R (.returned (.tuple ⟨[.agg ⟨[I 400, I 800]⟩, I 0]⟩)) h) : ACalls Try.prog 13 ⟨[.agg ⟨[.slice (some ⟨bc, 0, none⟩) 2 2, .slice (some ⟨bm, 0, none⟩) 5 5]⟩, I 1, I 1, I 2]⟩ h R :=
  Yield_c (y := smY bc bm) (smV m1 m2) (smS bc bm) (by rw [sm_yield2]; exact H)
theorem aCan {b : Nat} (m3 : (b, .cells ⟨[I 25, I 15]⟩ 3 (0, 0)) ∈ h) (H : R (.returned (.tuple ⟨[.bool true, I 0]⟩)) h) : ACalls Try.prog 17 ⟨[.agg ⟨[.slice (some ⟨bc, 0, none⟩) 2 2, .slice (some ⟨bm, 0, none⟩) 5 5]⟩, I 0, .slice (some ⟨b, 0, none⟩) 2 2]⟩ h R :=
  Can_c (y := smY bc bm) (ts := [25, 15]) (smV m1 m2) (smS bc bm) (slvL eI_len m3) (by rw [sm_can]; exact H)
end

theorem awake_c {h : Hp} {R : Ending → Hp → Prop} (H : R (.returned (.bool true)) h) : ACalls Try.prog 10 ⟨[]⟩ h R := by
  refine calls_of_xc (N := 84) Try.func10 rfl (by rfl) ?_
  refine xc_seq (xc_region ?_)
  refine xr_op rfl rfl (xv_assign rfl ?_)
  refine xr_end rfl ?_
  refine th_n ?_
  refine xc_seq (xc_region ?_)
  refine xr_op rfl rfl (xv_calls rfl hb29 (sample_c (fun bc bm => up_ret ?_)))
  refine xr_op rfl rfl (xv_alloc ty25 (fun b1 hb1 => ?_))
  refine xr_op rfl rfl (xv_s ty25 rfl rfl (by (first|(apply u_3;(repeat first|exact u_0|assumption|apply u_1|apply u_2);done)|((repeat first|exact u_0|assumption|apply u_1|apply u_2);done)|(apply u_3;apply u_3;(repeat first|exact u_0|assumption|apply u_1|apply u_2);done)|((repeat first|exact u_0|assumption|apply u_3|apply u_1);done))) (by ((try apply evl_some rfl);(repeat (first|exact (rfl : _ = [])|apply evl_cons rfl (by (first|exact v_1|exact v_2|exact v_3|exact v_4|exact v_5|exact v_6|exact v_7|exact v_8|exact v_9|exact rfl))|exact rfl)))) (by rfl) (by rfl) (by rfl) (by ((try apply evl_some rfl);(repeat (first|exact (rfl : _ = [])|apply evl_cons rfl (by (first|exact v_1|exact v_2|exact v_3|exact v_4|exact v_5|exact v_6|exact v_7|exact v_8|exact v_9|exact rfl))|exact rfl)))) ?_)
  refine xr_end rfl ?_
  refine th_n ?_
  refine xc_seq (xc_region ?_)
  refine xr_op rfl rfl (xv_loadA ty25 rfl rfl (by ((repeat first|exact z_0|assumption|refine z_1 ?_|(refine z_l ?_;(repeat first|exact z_0|assumption|refine z_1 ?_);done)|refine z_r ?_);done)) (by ((try apply evl_some rfl);(repeat (first|exact (rfl : _ = [])|apply evl_cons rfl (by (first|exact v_1|exact v_2|exact v_3|exact v_4|exact v_5|exact v_6|exact v_7|exact v_8|exact v_9|exact rfl))|exact rfl)))) (by rfl) ?_)
  refine xr_op rfl rfl (xv_calls rfl hb19 (aDrawn (by ((repeat first|exact z_0|assumption|refine z_1 ?_|(refine z_l ?_;(repeat first|exact z_0|assumption|refine z_1 ?_);done)|refine z_r ?_);done)) (by ((repeat first|exact z_0|assumption|refine z_1 ?_|(refine z_l ?_;(repeat first|exact z_0|assumption|refine z_1 ?_);done)|refine z_r ?_);done)) (fun a1 c1 G1 s1 => up_ret ?_)))
  refine xr_op rfl rfl (xv_move rfl ?_)
  refine xr_op rfl rfl (xv_extract rfl rfl ?_)
  refine xr_op rfl rfl (xv_extract rfl rfl ?_)
  refine xr_op rfl rfl (xv_assign rfl ?_)
  refine xr_op rfl rfl (xv_assign rfl ?_)
  refine xr_end rfl ?_
  refine th_n ?_
  refine xc_seq (xc_region ?_)
  refine xr_op rfl rfl (xv_loadA ty25 rfl rfl (by ((repeat first|exact z_0|assumption|refine z_1 ?_|(refine z_l ?_;(repeat first|exact z_0|assumption|refine z_1 ?_);done)|refine z_r ?_);done)) (by ((try apply evl_some rfl);(repeat (first|exact (rfl : _ = [])|apply evl_cons rfl (by (first|exact v_1|exact v_2|exact v_3|exact v_4|exact v_5|exact v_6|exact v_7|exact v_8|exact v_9|exact rfl))|exact rfl)))) (by rfl) ?_)
  refine xr_op rfl rfl (xv_calls rfl hb11 (aBlend (by ((repeat first|exact z_0|assumption|refine z_1 ?_|(refine z_l ?_;(repeat first|exact z_0|assumption|refine z_1 ?_);done)|refine z_r ?_);done)) (by ((repeat first|exact z_0|assumption|refine z_1 ?_|(refine z_l ?_;(repeat first|exact z_0|assumption|refine z_1 ?_);done)|refine z_r ?_);done)) (fun a2 c2 G2 s2 => up_ret ?_)))
  refine xr_op rfl rfl (xv_move rfl ?_)
  refine xr_op rfl rfl (xv_extract rfl rfl ?_)
  refine xr_op rfl rfl (xv_extract rfl rfl ?_)
  refine xr_op rfl rfl (xv_assign rfl ?_)
  refine xr_op rfl rfl (xv_assign rfl ?_)
  refine xr_end rfl ?_
  refine th_n ?_
  refine xc_seq (xc_region ?_)
  refine xr_op rfl rfl (xv_loadA ty25 rfl rfl (by ((repeat first|exact z_0|assumption|refine z_1 ?_|(refine z_l ?_;(repeat first|exact z_0|assumption|refine z_1 ?_);done)|refine z_r ?_);done)) (by ((try apply evl_some rfl);(repeat (first|exact (rfl : _ = [])|apply evl_cons rfl (by (first|exact v_1|exact v_2|exact v_3|exact v_4|exact v_5|exact v_6|exact v_7|exact v_8|exact v_9|exact rfl))|exact rfl)))) (by rfl) ?_)
  refine xr_op rfl rfl (xv_calls rfl hb13 (aYield1 (by ((repeat first|exact z_0|assumption|refine z_1 ?_|(refine z_l ?_;(repeat first|exact z_0|assumption|refine z_1 ?_);done)|refine z_r ?_);done)) (by ((repeat first|exact z_0|assumption|refine z_1 ?_|(refine z_l ?_;(repeat first|exact z_0|assumption|refine z_1 ?_);done)|refine z_r ?_);done)) (up_ret ?_)))
  refine xr_op rfl rfl (xv_move rfl ?_)
  refine xr_op rfl rfl (xv_extract rfl rfl ?_)
  refine xr_op rfl rfl (xv_extract rfl rfl ?_)
  refine xr_op rfl rfl (xv_alloc ty33 (fun b6 hb6 => ?_))
  refine xr_op rfl rfl (xv_s ty33 rfl rfl (by (first|(apply u_3;(repeat first|exact u_0|assumption|apply u_1|apply u_2);done)|((repeat first|exact u_0|assumption|apply u_1|apply u_2);done)|(apply u_3;apply u_3;(repeat first|exact u_0|assumption|apply u_1|apply u_2);done)|((repeat first|exact u_0|assumption|apply u_3|apply u_1);done))) (by ((try apply evl_some rfl);(repeat (first|exact (rfl : _ = [])|apply evl_cons rfl (by (first|exact v_1|exact v_2|exact v_3|exact v_4|exact v_5|exact v_6|exact v_7|exact v_8|exact v_9|exact rfl))|exact rfl)))) (by rfl) (by rfl) (by rfl) (by ((try apply evl_some rfl);(repeat (first|exact (rfl : _ = [])|apply evl_cons rfl (by (first|exact v_1|exact v_2|exact v_3|exact v_4|exact v_5|exact v_6|exact v_7|exact v_8|exact v_9|exact rfl))|exact rfl)))) ?_)
  refine xr_op rfl rfl (xv_assign rfl ?_)
  refine xr_end rfl ?_
  refine th_n ?_
  refine xc_seq (xc_region ?_)
  refine xr_op rfl rfl (xv_loadA ty25 rfl rfl (by ((repeat first|exact z_0|assumption|refine z_1 ?_|(refine z_l ?_;(repeat first|exact z_0|assumption|refine z_1 ?_);done)|refine z_r ?_);done)) (by ((try apply evl_some rfl);(repeat (first|exact (rfl : _ = [])|apply evl_cons rfl (by (first|exact v_1|exact v_2|exact v_3|exact v_4|exact v_5|exact v_6|exact v_7|exact v_8|exact v_9|exact rfl))|exact rfl)))) (by rfl) ?_)
  refine xr_op rfl rfl (xv_calls rfl hb13 (aYield2 (by ((repeat first|exact z_0|assumption|refine z_1 ?_|(refine z_l ?_;(repeat first|exact z_0|assumption|refine z_1 ?_);done)|refine z_r ?_);done)) (by ((repeat first|exact z_0|assumption|refine z_1 ?_|(refine z_l ?_;(repeat first|exact z_0|assumption|refine z_1 ?_);done)|refine z_r ?_);done)) (up_ret ?_)))
  refine xr_op rfl rfl (xv_move rfl ?_)
  refine xr_op rfl rfl (xv_extract rfl rfl ?_)
  refine xr_op rfl rfl (xv_extract rfl rfl ?_)
  refine xr_op rfl rfl (xv_alloc ty33 (fun b8 hb8 => ?_))
  refine xr_op rfl rfl (xv_s ty33 rfl rfl (by (first|(apply u_3;(repeat first|exact u_0|assumption|apply u_1|apply u_2);done)|((repeat first|exact u_0|assumption|apply u_1|apply u_2);done)|(apply u_3;apply u_3;(repeat first|exact u_0|assumption|apply u_1|apply u_2);done)|((repeat first|exact u_0|assumption|apply u_3|apply u_1);done))) (by ((try apply evl_some rfl);(repeat (first|exact (rfl : _ = [])|apply evl_cons rfl (by (first|exact v_1|exact v_2|exact v_3|exact v_4|exact v_5|exact v_6|exact v_7|exact v_8|exact v_9|exact rfl))|exact rfl)))) (by rfl) (by rfl) (by rfl) (by ((try apply evl_some rfl);(repeat (first|exact (rfl : _ = [])|apply evl_cons rfl (by (first|exact v_1|exact v_2|exact v_3|exact v_4|exact v_5|exact v_6|exact v_7|exact v_8|exact v_9|exact rfl))|exact rfl)))) ?_)
  refine xr_op rfl rfl (xv_assign rfl ?_)
  refine xr_end rfl ?_
  refine th_n ?_
  refine xc_seq (xc_region ?_)
  refine xr_op rfl rfl (xv_loadA ty25 rfl rfl (by ((repeat first|exact z_0|assumption|refine z_1 ?_|(refine z_l ?_;(repeat first|exact z_0|assumption|refine z_1 ?_);done)|refine z_r ?_);done)) (by ((try apply evl_some rfl);(repeat (first|exact (rfl : _ = [])|apply evl_cons rfl (by (first|exact v_1|exact v_2|exact v_3|exact v_4|exact v_5|exact v_6|exact v_7|exact v_8|exact v_9|exact rfl))|exact rfl)))) (by rfl) ?_)
  refine xr_op rfl rfl ((al_buildSlice sl38 ty3 rfl rfl rfl rfl rfl (by ((try apply evl_some rfl);(repeat (first|exact (rfl : _ = [])|apply evl_cons rfl (by (first|exact v_1|exact v_2|exact v_3|exact v_4|exact v_5|exact v_6|exact v_7|exact v_8|exact v_9|exact rfl))|exact rfl))))).xv (fun b35 hb35 => ?_))
  refine xr_op rfl rfl (xv_calls rfl hb17 (aCan (by ((repeat first|exact z_0|assumption|refine z_1 ?_|(refine z_l ?_;(repeat first|exact z_0|assumption|refine z_1 ?_);done)|refine z_r ?_);done)) (by ((repeat first|exact z_0|assumption|refine z_1 ?_|(refine z_l ?_;(repeat first|exact z_0|assumption|refine z_1 ?_);done)|refine z_r ?_);done)) (by ((repeat first|exact z_0|assumption|refine z_1 ?_|(refine z_l ?_;(repeat first|exact z_0|assumption|refine z_1 ?_);done)|refine z_r ?_);done)) (up_ret ?_)))
  refine xr_op rfl rfl (xv_move rfl ?_)
  refine xr_op rfl rfl (xv_extract rfl rfl ?_)
  refine xr_op rfl rfl (xv_extract rfl rfl ?_)
  refine xr_op rfl rfl (xv_assign rfl ?_)
  refine xr_op rfl rfl (xv_assign rfl ?_)
  refine xr_end rfl ?_
  refine th_n ?_
  refine xc_seq ?_
  refine xc_draw0 [(0, .S), (1, .S), (2, .S), (3, .P), (3, .A), (4, .R), (5, .S), (6, .S), (7, .S), (8, .S), (9, .S), (10, .S), (11, .R), (12, .R), (13, .O), (14, .R), (15, .S), (16, .S), (17, .S), (18, .S), (19, .S), (20, .S), (21, .R), (22, .R), (23, .S), (24, .S), (25, .S), (26, .S), (27, .S), (28, .S), (29, .S), (30, .R), (31, .R), (32, .S), (33, .S), (34, .S), (35, .S), (36, .S), (37, .S), (38, .S), (39, .S), (40, .S), (41, .S), (42, .S), (43, .S), (44, .S), (45, .S)] mixed (by kernel_rfl) ?_
  refine js_S rfl rfl (.inl rfl) (xv_move rfl ⟨rfl, rfl⟩) ?_
  refine js_S rfl rfl (.inl rfl) (xv_build bt43 rfl (by ((try apply evl_some rfl);(repeat (first|exact (rfl : _ = [])|apply evl_cons rfl (by (first|exact v_1|exact v_2|exact v_3|exact v_4|exact v_5|exact v_6|exact v_7|exact v_8|exact v_9|exact rfl))|exact rfl)))) ⟨rfl, rfl⟩) ?_
  refine js_S rfl rfl (.inl rfl) (xv_build bt43 rfl (by ((try apply evl_some rfl);(repeat (first|exact (rfl : _ = [])|apply evl_cons rfl (by (first|exact v_1|exact v_2|exact v_3|exact v_4|exact v_5|exact v_6|exact v_7|exact v_8|exact v_9|exact rfl))|exact rfl)))) ⟨rfl, rfl⟩) ?_
  refine js_P rfl rfl rfl (al_buildSlice sl39 ty43 rfl rfl rfl rfl rfl (by ((try apply evl_some rfl);(repeat (first|exact (rfl : _ = [])|apply evl_cons rfl (by (first|exact v_1|exact v_2|exact v_3|exact v_4|exact v_5|exact v_6|exact v_7|exact v_8|exact v_9|exact rfl))|exact rfl))))) ?_
  refine js_A0 rfl rfl rfl rfl rfl ⟨rfl, rfl, trivial⟩ (fun b42 hb42 => ?_)
  refine js_R0 rfl rfl (.inl rfl) (xv_calls rfl hb23 (ListsT_c (xs := [⟨0, 10⟩, ⟨1, 10⟩]) (ys := [⟨0, 10⟩, ⟨1, 10⟩]) rfl rfl (s1.sub (by intro z hz; ((repeat first|exact z_0|assumption|refine z_1 ?_|(refine z_l ?_;(repeat first|exact z_0|assumption|refine z_1 ?_);done)|refine z_r ?_);done))) (slvL ePart_len (by ((repeat first|exact z_0|assumption|refine z_1 ?_|(refine z_l ?_;(repeat first|exact z_0|assumption|refine z_1 ?_);done)|refine z_r ?_);done))) rfl (by decide) (up_ret ⟨rfl, rfl⟩))) ?_
  refine js_S rfl rfl (.inl rfl) (xv_move rfl ⟨rfl, rfl⟩) ?_
  refine js_S rfl rfl (.inr ⟨_, _, rfl, rfl⟩) (xv_move rfl ⟨rfl, rfl⟩) ?_
  refine js_S rfl rfl (.inr ⟨_, _, rfl, rfl⟩) (xv_eqlT rfl rfl rfl ⟨rfl, rfl⟩) ?_
  refine js_S rfl rfl (.inl rfl) (xv_pick rfl rfl ⟨rfl, rfl⟩) ?_
  refine js_S rfl rfl (.inl rfl) (xv_move rfl ⟨rfl, rfl⟩) ?_
  refine js_S rfl rfl (.inr ⟨_, _, rfl, rfl⟩) (xv_move rfl ⟨rfl, rfl⟩) ?_
  refine js_R0 rfl rfl (.inr ⟨_, _, rfl, rfl⟩) (xv_calls rfl hb28 (span_c _ _ (up_ret ⟨rfl, rfl⟩))) ?_
  refine js_R0 rfl rfl (.inr ⟨_, _, rfl, rfl⟩) (xv_calls rfl hb28 (span_c _ _ (up_ret ⟨rfl, rfl⟩))) ?_
  refine js_O0 rfl rfl (.inr ⟨_, _, rfl, rfl⟩) ((al_buildSlice sl28 ty33 rfl rfl rfl rfl rfl (by ((try apply evl_some rfl);(repeat (first|exact (rfl : _ = [])|apply evl_cons rfl (by (first|exact v_1|exact v_2|exact v_3|exact v_4|exact v_5|exact v_6|exact v_7|exact v_8|exact v_9|exact rfl))|exact rfl))))).xv (fun b52 hb52 => ?_))
  refine js_R0 rfl rfl (.inr ⟨_, _, rfl, rfl⟩) (xv_calls rfl hb15 (SpansT_c (xs := [⟨0, 10⟩, ⟨10, 20⟩]) (ys := [⟨0, 10⟩, ⟨10, 20⟩]) rfl rfl (s2.sub (by intro z hz; ((repeat first|exact z_0|assumption|refine z_1 ?_|(refine z_l ?_;(repeat first|exact z_0|assumption|refine z_1 ?_);done)|refine z_r ?_);done))) (slvL eSpan_len (by ((repeat first|exact z_0|assumption|refine z_1 ?_|(refine z_l ?_;(repeat first|exact z_0|assumption|refine z_1 ?_);done)|refine z_r ?_);done))) rfl (by decide) (up_ret ⟨rfl, rfl⟩))) ?_
  refine js_S rfl rfl (.inl rfl) (xv_pick rfl rfl ⟨rfl, rfl⟩) ?_
  refine js_S rfl rfl (.inl rfl) (xv_move rfl ⟨rfl, rfl⟩) ?_
  refine js_S rfl rfl (.inr ⟨_, _, rfl, rfl⟩) (xv_move rfl ⟨rfl, rfl⟩) ?_
  refine js_S rfl rfl (.inr ⟨_, _, rfl, rfl⟩) (xv_eqlT rfl rfl rfl ⟨rfl, rfl⟩) ?_
  refine js_S rfl rfl (.inl rfl) (xv_pick rfl rfl ⟨rfl, rfl⟩) ?_
  refine js_S rfl rfl (.inl rfl) (xv_move rfl ⟨rfl, rfl⟩) ?_
  refine js_R0 rfl rfl (.inr ⟨_, _, rfl, rfl⟩) (xv_loadA ty33 rfl rfl (by ((repeat first|exact z_0|assumption|refine z_1 ?_|(refine z_l ?_;(repeat first|exact z_0|assumption|refine z_1 ?_);done)|refine z_r ?_);done)) (by ((try apply evl_some rfl);(repeat (first|exact (rfl : _ = [])|apply evl_cons rfl (by (first|exact v_1|exact v_2|exact v_3|exact v_4|exact v_5|exact v_6|exact v_7|exact v_8|exact v_9|exact rfl))|exact rfl)))) (by rfl) ⟨rfl, rfl⟩) ?_
  refine js_R0 rfl rfl (.inr ⟨_, _, rfl, rfl⟩) (xv_calls rfl hb28 (span_c _ _ (up_ret ⟨rfl, rfl⟩))) ?_
  refine js_S rfl rfl (.inr ⟨_, _, rfl, rfl⟩) (xv_eqA (b := true) fq33 rfl eg33 rfl rfl rfl rfl (by ((repeat' first | assumption | exact numNil | refine numCons ?_ | refine numApp ?_ ?_); done)) (by ((repeat' first | assumption | exact numNil | refine numCons ?_ | refine numApp ?_ ?_); done)) (eqc_self (by ((repeat' first | assumption | exact numNil | refine numCons ?_ | refine numApp ?_ ?_); done))) ⟨rfl, rfl⟩) ?_
  refine js_S rfl rfl (.inl rfl) (xv_pick rfl rfl ⟨rfl, rfl⟩) ?_
  refine js_S rfl rfl (.inl rfl) (xv_move rfl ⟨rfl, rfl⟩) ?_
  refine js_S rfl rfl (.inr ⟨_, _, rfl, rfl⟩) (xv_move rfl ⟨rfl, rfl⟩) ?_
  refine js_S rfl rfl (.inr ⟨_, _, rfl, rfl⟩) (xv_eqlT rfl rfl rfl ⟨rfl, rfl⟩) ?_
  refine js_S rfl rfl (.inl rfl) (xv_pick rfl rfl ⟨rfl, rfl⟩) ?_
  refine js_S rfl rfl (.inl rfl) (xv_move rfl ⟨rfl, rfl⟩) ?_
  refine js_R0 rfl rfl (.inr ⟨_, _, rfl, rfl⟩) (xv_loadA ty33 rfl rfl (by ((repeat first|exact z_0|assumption|refine z_1 ?_|(refine z_l ?_;(repeat first|exact z_0|assumption|refine z_1 ?_);done)|refine z_r ?_);done)) (by ((try apply evl_some rfl);(repeat (first|exact (rfl : _ = [])|apply evl_cons rfl (by (first|exact v_1|exact v_2|exact v_3|exact v_4|exact v_5|exact v_6|exact v_7|exact v_8|exact v_9|exact rfl))|exact rfl)))) (by rfl) ⟨rfl, rfl⟩) ?_
  refine js_R0 rfl rfl (.inr ⟨_, _, rfl, rfl⟩) (xv_calls rfl hb28 (span_c _ _ (up_ret ⟨rfl, rfl⟩))) ?_
  refine js_S rfl rfl (.inr ⟨_, _, rfl, rfl⟩) (xv_eqA (b := true) fq33 rfl eg33 rfl rfl rfl rfl (by ((repeat' first | assumption | exact numNil | refine numCons ?_ | refine numApp ?_ ?_); done)) (by ((repeat' first | assumption | exact numNil | refine numCons ?_ | refine numApp ?_ ?_); done)) (eqc_self (by ((repeat' first | assumption | exact numNil | refine numCons ?_ | refine numApp ?_ ?_); done))) ⟨rfl, rfl⟩) ?_
  refine js_S rfl rfl (.inl rfl) (xv_pick rfl rfl ⟨rfl, rfl⟩) ?_
  refine js_S rfl rfl (.inl rfl) (xv_move rfl ⟨rfl, rfl⟩) ?_
  refine js_S rfl rfl (.inr ⟨_, _, rfl, rfl⟩) (xv_move rfl ⟨rfl, rfl⟩) ?_
  refine js_S rfl rfl (.inr ⟨_, _, rfl, rfl⟩) (xv_eqlT rfl rfl rfl ⟨rfl, rfl⟩) ?_
  refine js_S rfl rfl (.inl rfl) (xv_pick rfl rfl ⟨rfl, rfl⟩) ?_
  refine js_S rfl rfl (.inl rfl) (xv_move rfl ⟨rfl, rfl⟩) ?_
  refine js_S rfl rfl (.inr ⟨_, _, rfl, rfl⟩) (xv_move rfl ⟨rfl, rfl⟩) ?_
  refine js_S rfl rfl (.inl rfl) (xv_pick rfl rfl ⟨rfl, rfl⟩) ?_
  refine js_S rfl rfl (.inl rfl) (xv_move rfl ⟨rfl, rfl⟩) ?_
  refine js_S rfl rfl (.inr ⟨_, _, rfl, rfl⟩) (xv_move rfl ⟨rfl, rfl⟩) ?_
  refine js_S rfl rfl (.inr ⟨_, _, rfl, rfl⟩) (xv_eqlT rfl rfl rfl ⟨rfl, rfl⟩) ?_
  refine js_S rfl rfl (.inl rfl) (xv_pick rfl rfl ⟨rfl, rfl⟩) ?_
  refine js_S rfl rfl (.inl rfl) (xv_assign rfl ⟨rfl, rfl⟩) ?_
  refine j_end0 ?_
  refine th_n ?_
  refine xc_ret ?_
  refine body_ret (h' := h) rfl (ro_tmp rfl ro_nil) (by (first|((repeat first|exact s_0|exact s_1|exact s_3|refine s_4 ?_|refine s_5 ?_|refine s_6 ?_|refine s_7 ?_);done)|((repeat first|exact s_0|exact s_1|exact s_3|refine s_4 ?_|refine s_5 ?_|refine s_6 ?_|refine s_8 ?_);done))) ?_
  exact H

end Go.Proofs.Ytpefpafijadfmaa

/-
  Walks.
-/
namespace Go.Proofs.Ytpefpafijadfmaa
open Go Go.H
set_option maxRecDepth 100000
set_option maxHeartbeats 8000000
set_option linter.all false
theorem endsV_of {y : Yard} {vs : List (List Int)} {v : List Int} {i : Nat} (hg : GoodYard y) (h : vecsR y = some vs) (hv : vs[i]? = some v) : EndsV y v (nzF (fun i => v.getD i 0) (opn y.moves).1) ∧ 1 ≤ sumI v := by
  obtain ⟨hP, hs⟩ := parts_all hg.2.1 y.moves.length vs (Nat.le_refl _) h
  have hm := List.mem_of_getElem? hv
  refine ⟨⟨hg, rfl, hP.bd v hm, fun j => ?_⟩, hs v hm⟩
  have h1 := room_nn hP j
  have h2 := (taken_part hP.bd i 1 j).2
  rw [drop_one hv, taken_one] at h2
  unfold roomR at h1
  unfold contE
  dsimp only at h2
  omega
end Go.Proofs.Ytpefpafijadfmaa

/-
  Walks.
-/
namespace Go.Proofs.Ytpefpafijadfmaa
open Go Go.H
set_option maxRecDepth 100000
set_option maxHeartbeats 8000000
set_option linter.all false
theorem RCan_c {y : Yard} {h : Hp} {R : Ending → Hp → Prop} (hy : YardV h y) (hs : Small y) {draw : Int} {ta : Option Addr} {tc : Nat} {ts : List Int} (ht : SlV h 1 eI ta ts) (htb : ∀ x ∈ ts, x ≤ 9223372036854775807) (H : R (.returned (.tuple ⟨[.bool (canA y draw ts).1, I (canA y draw ts).2]⟩)) h) : ACalls Try.prog 18 ⟨[.agg ⟨eYard y⟩, I draw, .slice ta ts.length tc]⟩ h R := by
  refine calls_of_xc (N := 39) Try.func18 rfl (by rfl) ?_
  obtain ⟨hs1, hs2⟩ := id hs
  refine xc_seq (xc_region ?_)
  refine xr_op rfl rfl (xv_box rfl (fun b3 hb3 => ?_))
  refine xr_op rfl rfl (xv_assign rfl ?_)
  refine xr_op rfl rfl (xv_assign rfl ?_)
  refine xr_end rfl ?_
  refine th_n ?_
  refine xc_seq (xc_region ?_)
  refine xr_op rfl rfl (xv_loadA ty25 rfl rfl (by ((repeat first|exact z_0|assumption|refine z_1 ?_|(refine z_l ?_;(repeat first|exact z_0|assumption|refine z_1 ?_);done)|refine z_r ?_);done)) (by ((try apply evl_some rfl);(repeat (first|exact (rfl : _ = [])|apply evl_cons rfl (by (first|exact v_1|exact v_2|exact v_3|exact v_4|exact v_5|exact v_6|exact v_7|exact v_8|exact v_9|exact rfl))|exact rfl)))) (by rfl) ?_)
  refine xr_op rfl rfl (xv_calls rfl hb36 (start_c (hy.sub (by intro z hz; ((repeat first|exact z_0|assumption|refine z_1 ?_|(refine z_l ?_;(repeat first|exact z_0|assumption|refine z_1 ?_);done)|refine z_r ?_);done))) hs (fun hng => up_ret ?_) (fun hgy hpn => up_ret ?_) (fun hds V P hgy hP hV hS => up_ret ?_)))
  · refine xr_op rfl rfl (xv_move rfl ?_)
    refine xr_op rfl rfl (xv_extract rfl rfl ?_)
    refine xr_op rfl rfl (xv_extract rfl rfl ?_)
    refine xr_op rfl rfl (xv_assign rfl ?_)
    refine xr_op rfl rfl (xv_assign rfl ?_)
    refine xr_end rfl ?_
    refine th_n ?_
    refine xc_seq ?_
    refine xc_seq (xc_region ?_)
    refine xr_op rfl rfl (xv_move rfl ?_)
    refine xr_op rfl rfl (xv_neqT rfl rfl (by decide) ?_)
    refine xr_end rfl ?_
    refine th_n ?_
    refine xc_true rfl ?_
    refine xc_seq (xc_region ?_)
    refine xr_op rfl rfl (xv_move rfl ?_)
    refine xr_op rfl rfl (xv_assign rfl ?_)
    refine xr_op rfl rfl (xv_assign rfl ?_)
    refine xr_end rfl ?_
    refine th_n ?_
    refine xc_ret ?_
    refine th_r ?_
    refine body_ret (h' := h) rfl (ro_tmp rfl (ro_tmp rfl ro_nil)) (by (first|((repeat first|exact s_0|exact s_1|exact s_3|refine s_4 ?_|refine s_5 ?_|refine s_6 ?_|refine s_7 ?_);done)|((repeat first|exact s_0|exact s_1|exact s_3|refine s_4 ?_|refine s_5 ?_|refine s_6 ?_|refine s_8 ?_);done))) ?_
    first | (rw [canA_1 hng] at H; exact H) | (rw [canA_10 hgy hpn] at H; exact H) | (rw [canA_2 hgy hP.is (by rw [List.length_map]; (first|omega|(dsimp only at *;omega)|(simp at *;omega)))] at H; exact H) | (rw [eans, (can_dv hE htl).2 hdv] at H; exact H) | (rw [eans, Bool.eq_false_iff.2 (fun q9 => hdv ((can_dv hE htl).1 q9))] at H; exact H)
  · refine xr_op rfl rfl (xv_move rfl ?_)
    refine xr_op rfl rfl (xv_extract rfl rfl ?_)
    refine xr_op rfl rfl (xv_extract rfl rfl ?_)
    refine xr_op rfl rfl (xv_assign rfl ?_)
    refine xr_op rfl rfl (xv_assign rfl ?_)
    refine xr_end rfl ?_
    refine th_n ?_
    refine xc_seq ?_
    refine xc_seq (xc_region ?_)
    refine xr_op rfl rfl (xv_move rfl ?_)
    refine xr_op rfl rfl (xv_neqT rfl rfl (by decide) ?_)
    refine xr_end rfl ?_
    refine th_n ?_
    refine xc_true rfl ?_
    refine xc_seq (xc_region ?_)
    refine xr_op rfl rfl (xv_move rfl ?_)
    refine xr_op rfl rfl (xv_assign rfl ?_)
    refine xr_op rfl rfl (xv_assign rfl ?_)
    refine xr_end rfl ?_
    refine th_n ?_
    refine xc_ret ?_
    refine th_r ?_
    refine body_ret (h' := h) rfl (ro_tmp rfl (ro_tmp rfl ro_nil)) (by (first|((repeat first|exact s_0|exact s_1|exact s_3|refine s_4 ?_|refine s_5 ?_|refine s_6 ?_|refine s_7 ?_);done)|((repeat first|exact s_0|exact s_1|exact s_3|refine s_4 ?_|refine s_5 ?_|refine s_6 ?_|refine s_8 ?_);done))) ?_
    first | (rw [canA_1 hng] at H; exact H) | (rw [canA_10 hgy hpn] at H; exact H) | (rw [canA_2 hgy hP.is (by rw [List.length_map]; (first|omega|(dsimp only at *;omega)|(simp at *;omega)))] at H; exact H) | (rw [eans, (can_dv hE htl).2 hdv] at H; exact H) | (rw [eans, Bool.eq_false_iff.2 (fun q9 => hdv ((can_dv hE htl).1 q9))] at H; exact H)
  · refine xr_op rfl rfl (xv_move rfl ?_)
    refine xr_op rfl rfl (xv_extract rfl rfl ?_)
    refine xr_op rfl rfl (xv_extract rfl rfl ?_)
    refine xr_op rfl rfl (xv_assign rfl ?_)
    refine xr_op rfl rfl (xv_assign rfl ?_)
    refine xr_end rfl ?_
    refine th_n ?_
    refine xc_seq ?_
    refine xc_seq (xc_region ?_)
    refine xr_op rfl rfl (xv_move rfl ?_)
    refine xr_op rfl rfl (xv_neqF rfl rfl rfl ?_)
    refine xr_end rfl ?_
    refine th_n ?_
    refine xc_false rfl ?_
    refine xc_skip ?_
    refine th_n ?_
    refine xc_seq ?_
    refine xc_seq (xc_region ?_)
    refine xr_op rfl rfl (xv_move rfl ?_)
    refine xr_op rfl rfl (xv_move rfl ?_)
    obtain ⟨qa, qc, hqv, hqs⟩ := Vec.slv (enc := eHd) (t := 38) (h := V.hp 38 (hds.flatMap eHd)) eHd_len hV (fun _ hz => hz)
    rw [hqv]
    have hfew := hP.few
    rw [List.length_map] at hfew
    refine xr_op rfl rfl (xv_len sl53 rfl ?_)
    refine xr_op rfl rfl (xv_sub rfl rfl (wrap_i64 (by (first|omega|(dsimp only at *;omega)|(simp at *;omega))) (by (first|omega|(dsimp only at *;omega)|(simp at *;omega)))) ?_)
    refine xr_op rfl rfl (xv_calls rfl hb37 (in_c _ _ _ (fun hl1 hu2 => up_ret ?_) (fun hn3 => up_ret ?_)))
    · refine xr_op rfl rfl (xv_not rfl ?_)
      refine xr_op rfl rfl (xv_move rfl ?_)
      refine xr_gd rfl rfl rfl (xv_move rfl ?_)
      refine xr_gd rfl rfl rfl (xv_len sl38 rfl ?_)
      refine xr_gd rfl rfl rfl (xv_faddr fl25_0 rfl ?_)
      refine xr_gd rfl rfl rfl (xv_load1 ty22 rfl rfl (by ((repeat first|exact z_0|assumption|refine z_1 ?_|(refine z_l ?_;(repeat first|exact z_0|assumption|refine z_1 ?_);done)|refine z_r ?_);done)) (by rfl) ?_)
      refine xr_gd rfl rfl rfl (xv_len sl22 rfl ?_)
      refine xr_gd rfl rfl rfl (xv_neq2 rfl rfl (fun q4 => ?_) (fun q4 => ?_))
      · refine xr_op rfl rfl (xv_pick rfl rfl ?_)
        refine xr_end rfl ?_
        refine th_n ?_
        refine xc_true rfl ?_
        refine xc_seq (xc_region ?_)
        refine xr_op rfl rfl (xv_assign rfl ?_)
        refine xr_op rfl rfl (xv_assign rfl ?_)
        refine xr_end rfl ?_
        refine th_n ?_
        refine xc_ret ?_
        refine th_r ?_
        refine body_ret (h' := h) rfl (ro_tmp rfl (ro_tmp rfl ro_nil)) (by (first|((repeat first|exact s_0|exact s_1|exact s_3|refine s_4 ?_|refine s_5 ?_|refine s_6 ?_|refine s_7 ?_);done)|((repeat first|exact s_0|exact s_1|exact s_3|refine s_4 ?_|refine s_5 ?_|refine s_6 ?_|refine s_8 ?_);done))) ?_
        first | (rw [canA_1 hng] at H; exact H) | (rw [canA_10 hgy hpn] at H; exact H) | (rw [canA_2 hgy hP.is (by rw [List.length_map]; (first|omega|(dsimp only at *;omega)|(simp at *;omega)))] at H; exact H) | (rw [eans, (can_dv hE htl).2 hdv] at H; exact H) | (rw [eans, Bool.eq_false_iff.2 (fun q9 => hdv ((can_dv hE htl).1 q9))] at H; exact H)
      · refine xr_op rfl rfl (xv_pick rfl rfl ?_)
        refine xr_end rfl ?_
        refine th_n ?_
        refine xc_false rfl ?_
        refine xc_skip ?_
        refine th_n ?_
        refine xc_seq ?_
        refine xc_draw0 [(0, .R), (1, .S), (2, .S), (3, .S), (4, .R), (5, .S), (6, .O), (7, .S), (8, .S)] mixed (by kernel_rfl) ?_
        have hdn : draw.toNat < hds.length := by (first|omega|(dsimp only at *;omega)|(simp at *;omega))
        have htl : ts.length = y.coals.length := by (first|omega|(dsimp only at *;omega)|(simp at *;omega))
        have hltw : draw.toNat < hds.length := hdn
        obtain ⟨bw, ow, lw, tw, fzw, haw, hmw, hxw⟩ := ((hqs.sub (by intro z hz; ((repeat first|exact z_0|assumption|refine z_1 ?_|(refine z_l ?_;(repeat first|exact z_0|assumption|refine z_1 ?_);done)|refine z_r ?_);done)) : SlV (V.hp 38 (hds.flatMap eHd) ++ (P ++ (b3, .cells ⟨eYard y⟩ 25) :: h)) 1 eHd qa hds)).at hltw
        obtain ⟨xw, hkw⟩ : ∃ qq_, hds[draw.toNat]? = some qq_ := ⟨_, List.getElem?_eq_getElem hltw⟩
        have hxw9 := List.mem_of_getElem? hkw
        have hvb9 := hP.bd xw.m (List.mem_map.2 ⟨xw, hxw9, rfl⟩)
        have hwl := hP.len xw.m (List.mem_map.2 ⟨xw, hxw9, rfl⟩)
        have hsw : SlV (V.hp 38 (hds.flatMap eHd) ++ (P ++ (b3, .cells ⟨eYard y⟩ 25) :: h)) 1 eI xw.a xw.m := (hS xw hxw9).sub (by intro z hz; ((repeat first|exact z_0|assumption|refine z_1 ?_|(refine z_l ?_;(repeat first|exact z_0|assumption|refine z_1 ?_);done)|refine z_r ?_);done))
        have hop := opn_le y.moves
        have hm32 := hgy.2.2.2
        have hvd : (hds.map Hd.m)[draw.toNat]? = some xw.m := by rw [List.getElem?_map, hkw]; rfl
        have eans := canA_0 (draw := draw) (ts := ts) hgy (vs := hds.map Hd.m) hP.is (by rw [List.length_map]; omega) htl hvd
        obtain ⟨hE, _⟩ := endsV_of hgy hP.is hvd
        refine js_R0 rfl rfl (.inl rfl) (xv_loadA ty25 rfl rfl (by ((repeat first|exact z_0|assumption|refine z_1 ?_|(refine z_l ?_;(repeat first|exact z_0|assumption|refine z_1 ?_);done)|refine z_r ?_);done)) (by ((try apply evl_some rfl);(repeat (first|exact (rfl : _ = [])|apply evl_cons rfl (by (first|exact v_1|exact v_2|exact v_3|exact v_4|exact v_5|exact v_6|exact v_7|exact v_8|exact v_9|exact rfl))|exact rfl)))) (by rfl) ⟨rfl, rfl⟩) ?_
        refine js_S rfl rfl (.inl rfl) (xv_move rfl ⟨rfl, rfl⟩) ?_
        refine js_S rfl rfl (.inl rfl) (xv_move rfl ⟨rfl, rfl⟩) ?_
        refine js_S rfl rfl (.inl rfl) (xv_ia (sz := 1) (j := draw.toNat) sl53 ty38 rfl (by rw [haw]; rfl) rfl (by (first | assumption | with_reducible exact Int.toNat_natCast _ | with_reducible rfl | rfl)) (by (first|omega|(dsimp only at *;omega)|(simp at *;omega))) (by (first|omega|(dsimp only at *;omega)|(simp at *;omega))) ⟨rfl, rfl⟩) ?_
        refine js_R0 rfl rfl (.inl rfl) (xv_load1 ty38 rfl rfl (by ((repeat first|exact z_0|assumption|refine z_1 ?_|(refine z_l ?_;(repeat first|exact z_0|assumption|refine z_1 ?_);done)|refine z_r ?_);done)) (take_get (hxw (draw.toNat) xw hkw) (j := 0) rfl) ⟨rfl, rfl⟩) ?_
        refine js_S rfl rfl (.inl rfl) (xv_move rfl ⟨rfl, rfl⟩) ?_
        refine js_O0 rfl rfl (.inl rfl) (xv_calls rfl hb49 (div_all hgy (by omega) hvb9 (opn y.moves).1 (k := 0) (hy.sub (by intro z hz; ((repeat first|exact z_0|assumption|refine z_1 ?_|(refine z_l ?_;(repeat first|exact z_0|assumption|refine z_1 ?_);done)|refine z_r ?_);done))) (hsw.sub (by intro z hz; ((repeat first|exact z_0|assumption|refine z_1 ?_|(refine z_l ?_;(repeat first|exact z_0|assumption|refine z_1 ?_);done)|refine z_r ?_);done))) (ht.sub (by intro z hz; ((repeat first|exact z_0|assumption|refine z_1 ?_|(refine z_l ?_;(repeat first|exact z_0|assumption|refine z_1 ?_);done)|refine z_r ?_);done))) (by omega) rfl rfl rfl htl htb (fun hdv => up_ret ?_) (fun hdv => up_ret ?_)))
        · refine js_S rfl rfl (.inl rfl) (xv_assign rfl ⟨rfl, rfl⟩) ?_
          refine js_S rfl rfl (.inl rfl) (xv_assign rfl ⟨rfl, rfl⟩) ?_
          refine j_end0 ?_
          refine th_n ?_
          refine xc_ret ?_
          refine body_ret (h' := h) rfl (ro_tmp rfl (ro_tmp rfl ro_nil)) (by (first|((repeat first|exact s_0|exact s_1|exact s_3|refine s_4 ?_|refine s_5 ?_|refine s_6 ?_|refine s_7 ?_);done)|((repeat first|exact s_0|exact s_1|exact s_3|refine s_4 ?_|refine s_5 ?_|refine s_6 ?_|refine s_8 ?_);done))) ?_
          first | (rw [canA_1 hng] at H; exact H) | (rw [canA_10 hgy hpn] at H; exact H) | (rw [canA_2 hgy hP.is (by rw [List.length_map]; (first|omega|(dsimp only at *;omega)|(simp at *;omega)))] at H; exact H) | (rw [eans, (can_dv hE htl).2 hdv] at H; exact H) | (rw [eans, Bool.eq_false_iff.2 (fun q9 => hdv ((can_dv hE htl).1 q9))] at H; exact H)
        · refine js_S rfl rfl (.inl rfl) (xv_assign rfl ⟨rfl, rfl⟩) ?_
          refine js_S rfl rfl (.inl rfl) (xv_assign rfl ⟨rfl, rfl⟩) ?_
          refine j_end0 ?_
          refine th_n ?_
          refine xc_ret ?_
          refine body_ret (h' := h) rfl (ro_tmp rfl (ro_tmp rfl ro_nil)) (by (first|((repeat first|exact s_0|exact s_1|exact s_3|refine s_4 ?_|refine s_5 ?_|refine s_6 ?_|refine s_7 ?_);done)|((repeat first|exact s_0|exact s_1|exact s_3|refine s_4 ?_|refine s_5 ?_|refine s_6 ?_|refine s_8 ?_);done))) ?_
          first | (rw [canA_1 hng] at H; exact H) | (rw [canA_10 hgy hpn] at H; exact H) | (rw [canA_2 hgy hP.is (by rw [List.length_map]; (first|omega|(dsimp only at *;omega)|(simp at *;omega)))] at H; exact H) | (rw [eans, (can_dv hE htl).2 hdv] at H; exact H) | (rw [eans, Bool.eq_false_iff.2 (fun q9 => hdv ((can_dv hE htl).1 q9))] at H; exact H)
    · refine xr_op rfl rfl (xv_not rfl ?_)
      refine xr_op rfl rfl (xv_move rfl ?_)
      refine xr_no rfl rfl rfl rfl ?_
      refine xr_no rfl rfl rfl rfl ?_
      refine xr_no rfl rfl rfl rfl ?_
      refine xr_no rfl rfl rfl rfl ?_
      refine xr_no rfl rfl rfl rfl ?_
      refine xr_no rfl rfl rfl rfl ?_
      refine xr_op rfl rfl (xv_pick rfl rfl ?_)
      refine xr_end rfl ?_
      refine th_n ?_
      refine xc_true rfl ?_
      refine xc_seq (xc_region ?_)
      refine xr_op rfl rfl (xv_assign rfl ?_)
      refine xr_op rfl rfl (xv_assign rfl ?_)
      refine xr_end rfl ?_
      refine th_n ?_
      refine xc_ret ?_
      refine th_r ?_
      refine body_ret (h' := h) rfl (ro_tmp rfl (ro_tmp rfl ro_nil)) (by (first|((repeat first|exact s_0|exact s_1|exact s_3|refine s_4 ?_|refine s_5 ?_|refine s_6 ?_|refine s_7 ?_);done)|((repeat first|exact s_0|exact s_1|exact s_3|refine s_4 ?_|refine s_5 ?_|refine s_6 ?_|refine s_8 ?_);done))) ?_
      first | (rw [canA_1 hng] at H; exact H) | (rw [canA_10 hgy hpn] at H; exact H) | (rw [canA_2 hgy hP.is (by rw [List.length_map]; (first|omega|(dsimp only at *;omega)|(simp at *;omega)))] at H; exact H) | (rw [eans, (can_dv hE htl).2 hdv] at H; exact H) | (rw [eans, Bool.eq_false_iff.2 (fun q9 => hdv ((can_dv hE htl).1 q9))] at H; exact H)

end Go.Proofs.Ytpefpafijadfmaa

/-
  Walks.
-/
namespace Go.Proofs.Ytpefpafijadfmaa
open Go Go.H
set_option maxRecDepth 100000
set_option maxHeartbeats 8000000
set_option linter.all false
end Go.Proofs.Ytpefpafijadfmaa

/-
  Walks.
-/
namespace Go.Proofs.Ytpefpafijadfmaa
open Go Go.H
set_option maxRecDepth 100000
set_option maxHeartbeats 8000000
set_option linter.all false
end Go.Proofs.Ytpefpafijadfmaa
