/-
  Walks.
-/
import Derived.Test.YtckaaaebegemoaaDoorW28
import Derived.Test.YtckaaaebegemoaaDoorP7
import Derived.Test.YtckaaaebegemoaaDoorP10
namespace Go.Proofs.YtckaaaebegemoaaDoor
open Go Go.H
set_option maxRecDepth 100000
set_option maxHeartbeats 8000000
set_option linter.all false
theorem ReadE_c {r : Rnd} {house : Int} {l : List Card} {h : Hp} {R : Ending → Hp → Prop} (hv : RndV h r) (hcl : r.cards.length ≤ 1000) (hrs : readL r.cards house = some l)
    (H : ∀ a c q, SlV q 3 eCard a l → R (.returned (.tuple ⟨[.slice a l.length c, .bool true]⟩)) (q ++ h)) : ACalls Tryd.prog 27 ⟨[.agg ⟨eRnd r⟩, I house]⟩ h R :=
  Readings_c hv hcl (fun hn => by rw [hrs] at hn; cases hn) fun l2 V h2 hV => by
    rw [hrs] at h2
    cases h2
    obtain ⟨a, c, hv, hs⟩ := Vec.slv (enc := eCard) (t := 59) (h := V.hp 59 (l.flatMap eCard)) eCard_len hV (fun _ hz => hz)
    rw [hv]
    exact H a c _ hs
theorem RoundT_c {r : Rnd} {h : Hp} {R : Ending → Hp → Prop} (hv : RndV h r) (hs : Small r) (hg : GoodRnd r) (H : R (.returned (.bool true)) h) : ACalls Tryd.prog 28 ⟨[.agg ⟨eRnd r⟩]⟩ h R := Round_c hv hs (fun _ => H) (fun h => absurd hg h)
theorem FitsT_c {d : Dial} {a b : Card} {gas : Int} {h : Hp} {R : Ending → Hp → Prop} (hd : dialOk d) (ha : ReadOk d a) (hb : ReadOk d b) (hab : a.hour ≤ b.hour) (hf : fitsP d a b gas) (H : R (.returned (.bool true)) h) :
    ACalls Tryd.prog 29 ⟨[.agg ⟨eDial d⟩, .agg ⟨eCard a⟩, .agg ⟨eCard b⟩, I gas]⟩ h R := Fits_c hd ha hb hab (fun _ => H) (fun h => absurd hf h)
theorem FitsF_c {d : Dial} {a b : Card} {gas : Int} {h : Hp} {R : Ending → Hp → Prop} (hd : dialOk d) (ha : ReadOk d a) (hb : ReadOk d b) (hab : a.hour ≤ b.hour) (hf : ¬ fitsP d a b gas) (H : R (.returned (.bool false)) h) :
    ACalls Tryd.prog 29 ⟨[.agg ⟨eDial d⟩, .agg ⟨eCard a⟩, .agg ⟨eCard b⟩, I gas]⟩ h R := Fits_c hd ha hb hab (fun h => absurd h hf) (fun _ => H)

theorem DialEnds_c {r : Rnd} {house f t : Int} {nw : Nat} {h : Hp} {R : Ending → Hp → Prop} (hv : RndV h r) (hnw : nw ≤ 255) (hT : TurnsV h) (H : R (.returned (.bool true)) h) :
    ACalls Tryd.prog 6 ⟨[.agg ⟨eRnd r⟩, I house, I f, I t, .int .u8 nw]⟩ h R := by
  refine calls_of_xc (N := 456) Tryd.func6 rfl (by rfl) ?_
  refine xc_seq (xc_region ?_)
  refine xr_op rfl rfl (xv_box rfl (fun b5 hb5 => ?_))
  refine xr_op rfl rfl (xv_assign rfl ?_)
  refine xr_end rfl ?_
  refine th_n ?_
  refine xc_seq ?_
  refine xc_seq (xc_region ?_)
  refine xr_op rfl rfl (xv_faddr fl25_0 rfl ?_)
  refine xr_op rfl rfl (xv_load1 ty22 rfl rfl (by ((repeat first|exact z_0|assumption|refine z_1 ?_|(refine z_l ?_;(repeat first|exact z_0|assumption|refine z_1 ?_);done)|refine z_r ?_);done)) (by rfl) ?_)
  refine xr_op rfl rfl (xv_len sl22 rfl ?_)
  refine xr_op rfl rfl (xv_gtr2 rfl rfl (fun q1 => ?_) (fun q1 => ?_))
  · refine xr_op rfl rfl (xv_move rfl ?_)
    refine xr_no rfl rfl rfl rfl ?_
    refine xr_no rfl rfl rfl rfl ?_
    refine xr_no rfl rfl rfl rfl ?_
    refine xr_no rfl rfl rfl rfl ?_
    refine xr_op rfl rfl (xv_pick rfl rfl ?_)
    refine xr_end rfl ?_
    refine th_n ?_
    refine xc_true rfl ?_
    refine xc_seq (xc_region ?_)
    refine xr_op rfl rfl (xv_calls rfl hb10 (awake_c (hT.sub (by intro z hz; ((repeat first|exact z_0|assumption|refine z_1 ?_|(refine z_l ?_;(repeat first|exact z_0|assumption|refine z_1 ?_);done)|refine z_r ?_);done))) (up_ret ?_)))
    refine xr_op rfl rfl (xv_assign rfl ?_)
    refine xr_end rfl ?_
    refine th_n ?_
    refine xc_ret ?_
    refine th_r ?_
    refine body_ret (h' := h) rfl (ro_tmp rfl ro_nil) (by (first|((repeat first|exact s_0|exact s_1|exact s_3|refine s_4 ?_|refine s_5 ?_|refine s_6 ?_|refine s_7 ?_);done)|((repeat first|exact s_0|exact s_1|exact s_3|refine s_4 ?_|refine s_5 ?_|refine s_6 ?_|refine s_8 ?_);done))) ?_
    first | exact H | (exfalso; (first | omega | (dsimp only at *; omega) | (simp at *; omega)))
  · refine xr_op rfl rfl (xv_move rfl ?_)
    refine xr_gd rfl rfl rfl (xv_faddr fl25_1 rfl ?_)
    refine xr_gd rfl rfl rfl (xv_load1 ty23 rfl rfl (by ((repeat first|exact z_0|assumption|refine z_1 ?_|(refine z_l ?_;(repeat first|exact z_0|assumption|refine z_1 ?_);done)|refine z_r ?_);done)) (by rfl) ?_)
    refine xr_gd rfl rfl rfl (xv_len sl23 rfl ?_)
    refine xr_gd rfl rfl rfl (xv_gtr2 rfl rfl (fun q2 => ?_) (fun q2 => ?_))
    · refine xr_op rfl rfl (xv_pick rfl rfl ?_)
      refine xr_end rfl ?_
      refine th_n ?_
      refine xc_true rfl ?_
      refine xc_seq (xc_region ?_)
      refine xr_op rfl rfl (xv_calls rfl hb10 (awake_c (hT.sub (by intro z hz; ((repeat first|exact z_0|assumption|refine z_1 ?_|(refine z_l ?_;(repeat first|exact z_0|assumption|refine z_1 ?_);done)|refine z_r ?_);done))) (up_ret ?_)))
      refine xr_op rfl rfl (xv_assign rfl ?_)
      refine xr_end rfl ?_
      refine th_n ?_
      refine xc_ret ?_
      refine th_r ?_
      refine body_ret (h' := h) rfl (ro_tmp rfl ro_nil) (by (first|((repeat first|exact s_0|exact s_1|exact s_3|refine s_4 ?_|refine s_5 ?_|refine s_6 ?_|refine s_7 ?_);done)|((repeat first|exact s_0|exact s_1|exact s_3|refine s_4 ?_|refine s_5 ?_|refine s_6 ?_|refine s_8 ?_);done))) ?_
      first | exact H | (exfalso; (first | omega | (dsimp only at *; omega) | (simp at *; omega)))
    · refine xr_op rfl rfl (xv_pick rfl rfl ?_)
      refine xr_end rfl ?_
      refine th_n ?_
      refine xc_false rfl ?_
      refine xc_skip ?_
      refine th_n ?_
      refine xc_seq (xc_region ?_)
      rcases ends_cases2 (r := r) (house := house) (f := f) (t := t) with ⟨e1, e2, he1, he2, hpa, hga⟩ | ⟨l, out, gs, ee, hgood, hho, hrs, hps, hpa, hga, hg9⟩
      · have hs : Small r := ⟨by omega, by omega⟩
        refine xr_op rfl rfl (xv_loadA ty25 rfl rfl (by ((repeat first|exact z_0|assumption|refine z_1 ?_|(refine z_l ?_;(repeat first|exact z_0|assumption|refine z_1 ?_);done)|refine z_r ?_);done)) (by ((try apply evl_some rfl);(repeat (first|exact (rfl : _ = [])|apply evl_cons rfl (by (first|exact v_1|exact v_2|exact v_3|exact v_4|exact v_5|exact v_6|exact v_7|exact v_8|exact v_9|exact rfl))|exact rfl)))) (by rfl) ?_)
        refine xr_op rfl rfl (xv_move rfl ?_)
        refine xr_op rfl rfl (xv_calls rfl hb11 (PairsE_c (hv.sub (by intro z hz; ((repeat first|exact z_0|assumption|refine z_1 ?_|(refine z_l ?_;(repeat first|exact z_0|assumption|refine z_1 ?_);done)|refine z_r ?_);done))) hs (hT.sub (by intro z hz; ((repeat first|exact z_0|assumption|refine z_1 ?_|(refine z_l ?_;(repeat first|exact z_0|assumption|refine z_1 ?_);done)|refine z_r ?_);done))) hpa (fun oa oc qo so => up_ret ?_)))
        refine xr_op rfl rfl (xv_move rfl ?_)
        refine xr_op rfl rfl (xv_extract rfl rfl ?_)
        refine xr_op rfl rfl (xv_extract rfl rfl ?_)
        refine xr_op rfl rfl (xv_assign rfl ?_)
        refine xr_op rfl rfl (xv_assign rfl ?_)
        refine xr_end rfl ?_
        refine th_n ?_
        refine xc_seq (xc_region ?_)
        refine xr_op rfl rfl (xv_loadA ty25 rfl rfl (by ((repeat first|exact z_0|assumption|refine z_1 ?_|(refine z_l ?_;(repeat first|exact z_0|assumption|refine z_1 ?_);done)|refine z_r ?_);done)) (by ((try apply evl_some rfl);(repeat (first|exact (rfl : _ = [])|apply evl_cons rfl (by (first|exact v_1|exact v_2|exact v_3|exact v_4|exact v_5|exact v_6|exact v_7|exact v_8|exact v_9|exact rfl))|exact rfl)))) (by rfl) ?_)
        refine xr_op rfl rfl (xv_move rfl ?_)
        refine xr_op rfl rfl (xv_move rfl ?_)
        refine xr_op rfl rfl (xv_move rfl ?_)
        refine xr_op rfl rfl (xv_calls rfl hb17 (GasE_c (hv.sub (by intro z hz; ((repeat first|exact z_0|assumption|refine z_1 ?_|(refine z_l ?_;(repeat first|exact z_0|assumption|refine z_1 ?_);done)|refine z_r ?_);done))) hs (hT.sub (by intro z hz; ((repeat first|exact z_0|assumption|refine z_1 ?_|(refine z_l ?_;(repeat first|exact z_0|assumption|refine z_1 ?_);done)|refine z_r ?_);done))) hga (up_ret ?_)))
        refine xr_op rfl rfl (xv_move rfl ?_)
        refine xr_op rfl rfl (xv_extract rfl rfl ?_)
        refine xr_op rfl rfl (xv_extract rfl rfl ?_)
        refine xr_op rfl rfl (xv_alloc ty38 (fun bg hbg => ?_))
        refine xr_op rfl rfl (xv_s ty38 rfl rfl (by (first|(apply u_3;(repeat first|exact u_0|assumption|apply u_1|apply u_2);done)|((repeat first|exact u_0|assumption|apply u_1|apply u_2);done)|(apply u_3;apply u_3;(repeat first|exact u_0|assumption|apply u_1|apply u_2);done)|((repeat first|exact u_0|assumption|apply u_3|apply u_1);done))) (by ((try apply evl_some rfl);(repeat (first|exact (rfl : _ = [])|apply evl_cons rfl (by (first|exact v_1|exact v_2|exact v_3|exact v_4|exact v_5|exact v_6|exact v_7|exact v_8|exact v_9|exact rfl))|exact rfl)))) (by rfl) (by rfl) (by rfl) (by ((try apply evl_some rfl);(repeat (first|exact (rfl : _ = [])|apply evl_cons rfl (by (first|exact v_1|exact v_2|exact v_3|exact v_4|exact v_5|exact v_6|exact v_7|exact v_8|exact v_9|exact rfl))|exact rfl)))) ?_)
        refine xr_op rfl rfl (xv_assign rfl ?_)
        refine xr_end rfl ?_
        refine th_n ?_
        refine xc_seq ?_
        refine xc_seq (xc_region ?_)
        refine xr_op rfl rfl (xv_move rfl ?_)
        refine xr_op rfl rfl (xv_neqT rfl rfl he1 ?_)
        refine xr_end rfl ?_
        refine th_n ?_
        refine xc_true rfl ?_
        refine xc_seq (xc_region ?_)
        refine xr_op rfl rfl (xv_move rfl ?_)
        refine xr_op rfl rfl (xv_len sl28 rfl ?_)
        refine xr_op rfl rfl (xv_eqlT rfl rfl rfl ?_)
        refine xr_op rfl rfl (xv_move rfl ?_)
        refine xr_gd rfl rfl rfl (xv_loadA ty38 rfl rfl (by ((repeat first|exact z_0|assumption|refine z_1 ?_|(refine z_l ?_;(repeat first|exact z_0|assumption|refine z_1 ?_);done)|refine z_r ?_);done)) (by ((try apply evl_some rfl);(repeat (first|exact (rfl : _ = [])|apply evl_cons rfl (by (first|exact v_1|exact v_2|exact v_3|exact v_4|exact v_5|exact v_6|exact v_7|exact v_8|exact v_9|exact rfl))|exact rfl)))) (by rfl) ?_)
        refine xr_gd rfl rfl rfl (xv_build bt38 rfl (by ((try apply evl_some rfl);(repeat (first|exact (rfl : _ = [])|apply evl_cons rfl (by (first|exact v_1|exact v_2|exact v_3|exact v_4|exact v_5|exact v_6|exact v_7|exact v_8|exact v_9|exact rfl))|exact rfl)))) ?_)
        refine xr_gd rfl rfl rfl (xv_eqA (b := true) fq38 rfl eg38 rfl rfl rfl rfl (by ((repeat' first | assumption | exact numNil | refine numCons ?_ | refine numApp ?_ ?_); done)) (by ((repeat' first | assumption | exact numNil | refine numCons ?_ | refine numApp ?_ ?_); done)) (rfl) ?_)
        refine xr_op rfl rfl (xv_pick rfl rfl ?_)
        refine xr_op rfl rfl (xv_move rfl ?_)
        refine xr_gd rfl rfl rfl (xv_move rfl ?_)
        refine xr_gd rfl rfl rfl (xv_neqT rfl rfl he2 ?_)
        refine xr_op rfl rfl (xv_pick rfl rfl ?_)
        refine xr_op rfl rfl (xv_move rfl ?_)
        refine xr_gd rfl rfl rfl (xv_calls rfl hb10 (awake_c (hT.sub (by intro z hz; ((repeat first|exact z_0|assumption|refine z_1 ?_|(refine z_l ?_;(repeat first|exact z_0|assumption|refine z_1 ?_);done)|refine z_r ?_);done))) (up_ret ?_)))
        refine xr_op rfl rfl (xv_pick rfl rfl ?_)
        refine xr_op rfl rfl (xv_assign rfl ?_)
        refine xr_end rfl ?_
        refine th_n ?_
        refine xc_ret ?_
        refine th_r ?_
        refine body_ret (h' := h) rfl (ro_tmp rfl ro_nil) (by (first|((repeat first|exact s_0|exact s_1|exact s_3|refine s_4 ?_|refine s_5 ?_|refine s_6 ?_|refine s_7 ?_);done)|((repeat first|exact s_0|exact s_1|exact s_3|refine s_4 ?_|refine s_5 ?_|refine s_6 ?_|refine s_8 ?_);done))) ?_
        first | exact H | (exfalso; (first | omega | (dsimp only at *; omega) | (simp at *; omega)))
      · have hs : Small r := ⟨by omega, by omega⟩
        refine xr_op rfl rfl (xv_loadA ty25 rfl rfl (by ((repeat first|exact z_0|assumption|refine z_1 ?_|(refine z_l ?_;(repeat first|exact z_0|assumption|refine z_1 ?_);done)|refine z_r ?_);done)) (by ((try apply evl_some rfl);(repeat (first|exact (rfl : _ = [])|apply evl_cons rfl (by (first|exact v_1|exact v_2|exact v_3|exact v_4|exact v_5|exact v_6|exact v_7|exact v_8|exact v_9|exact rfl))|exact rfl)))) (by rfl) ?_)
        refine xr_op rfl rfl (xv_move rfl ?_)
        refine xr_op rfl rfl (xv_calls rfl hb11 (PairsE_c (hv.sub (by intro z hz; ((repeat first|exact z_0|assumption|refine z_1 ?_|(refine z_l ?_;(repeat first|exact z_0|assumption|refine z_1 ?_);done)|refine z_r ?_);done))) hs (hT.sub (by intro z hz; ((repeat first|exact z_0|assumption|refine z_1 ?_|(refine z_l ?_;(repeat first|exact z_0|assumption|refine z_1 ?_);done)|refine z_r ?_);done))) hpa (fun oa oc qo so => up_ret ?_)))
        refine xr_op rfl rfl (xv_move rfl ?_)
        refine xr_op rfl rfl (xv_extract rfl rfl ?_)
        refine xr_op rfl rfl (xv_extract rfl rfl ?_)
        refine xr_op rfl rfl (xv_assign rfl ?_)
        refine xr_op rfl rfl (xv_assign rfl ?_)
        refine xr_end rfl ?_
        refine th_n ?_
        refine xc_seq (xc_region ?_)
        refine xr_op rfl rfl (xv_loadA ty25 rfl rfl (by ((repeat first|exact z_0|assumption|refine z_1 ?_|(refine z_l ?_;(repeat first|exact z_0|assumption|refine z_1 ?_);done)|refine z_r ?_);done)) (by ((try apply evl_some rfl);(repeat (first|exact (rfl : _ = [])|apply evl_cons rfl (by (first|exact v_1|exact v_2|exact v_3|exact v_4|exact v_5|exact v_6|exact v_7|exact v_8|exact v_9|exact rfl))|exact rfl)))) (by rfl) ?_)
        refine xr_op rfl rfl (xv_move rfl ?_)
        refine xr_op rfl rfl (xv_move rfl ?_)
        refine xr_op rfl rfl (xv_move rfl ?_)
        refine xr_op rfl rfl (xv_calls rfl hb17 (GasE_c (hv.sub (by intro z hz; ((repeat first|exact z_0|assumption|refine z_1 ?_|(refine z_l ?_;(repeat first|exact z_0|assumption|refine z_1 ?_);done)|refine z_r ?_);done))) hs (hT.sub (by intro z hz; ((repeat first|exact z_0|assumption|refine z_1 ?_|(refine z_l ?_;(repeat first|exact z_0|assumption|refine z_1 ?_);done)|refine z_r ?_);done))) hga (up_ret ?_)))
        refine xr_op rfl rfl (xv_move rfl ?_)
        refine xr_op rfl rfl (xv_extract rfl rfl ?_)
        refine xr_op rfl rfl (xv_extract rfl rfl ?_)
        refine xr_op rfl rfl (xv_alloc ty38 (fun bg hbg => ?_))
        refine xr_op rfl rfl (xv_s ty38 rfl rfl (by (first|(apply u_3;(repeat first|exact u_0|assumption|apply u_1|apply u_2);done)|((repeat first|exact u_0|assumption|apply u_1|apply u_2);done)|(apply u_3;apply u_3;(repeat first|exact u_0|assumption|apply u_1|apply u_2);done)|((repeat first|exact u_0|assumption|apply u_3|apply u_1);done))) (by ((try apply evl_some rfl);(repeat (first|exact (rfl : _ = [])|apply evl_cons rfl (by (first|exact v_1|exact v_2|exact v_3|exact v_4|exact v_5|exact v_6|exact v_7|exact v_8|exact v_9|exact rfl))|exact rfl)))) (by rfl) (by rfl) (by rfl) (by ((try apply evl_some rfl);(repeat (first|exact (rfl : _ = [])|apply evl_cons rfl (by (first|exact v_1|exact v_2|exact v_3|exact v_4|exact v_5|exact v_6|exact v_7|exact v_8|exact v_9|exact rfl))|exact rfl)))) ?_)
        refine xr_op rfl rfl (xv_assign rfl ?_)
        refine xr_end rfl ?_
        refine th_n ?_
        refine xc_seq ?_
        refine xc_seq (xc_region ?_)
        refine xr_op rfl rfl (xv_move rfl ?_)
        refine xr_op rfl rfl (xv_neqF rfl rfl rfl ?_)
        refine xr_end rfl ?_
        refine th_n ?_
        refine xc_false rfl ?_
        refine xc_skip ?_
        refine th_n ?_
        refine xc_seq (xc_region ?_)
        obtain ⟨hdo, hri, hll, hro⟩ := reads_ok hgood hho hrs
        have hol := pairs_len hps
        obtain ⟨g1, g2, g3, g4, g5⟩ := id hdo
        have htb := turn_bd g1 g2
        have hhb1 := hho.1
        have hhb2 := hho.2
        refine xr_op rfl rfl (xv_loadA ty25 rfl rfl (by ((repeat first|exact z_0|assumption|refine z_1 ?_|(refine z_l ?_;(repeat first|exact z_0|assumption|refine z_1 ?_);done)|refine z_r ?_);done)) (by ((try apply evl_some rfl);(repeat (first|exact (rfl : _ = [])|apply evl_cons rfl (by (first|exact v_1|exact v_2|exact v_3|exact v_4|exact v_5|exact v_6|exact v_7|exact v_8|exact v_9|exact rfl))|exact rfl)))) (by rfl) ?_)
        refine xr_op rfl rfl (xv_move rfl ?_)
        refine xr_op rfl rfl (xv_calls rfl hb27 (ReadE_c (hv.sub (by intro z hz; ((repeat first|exact z_0|assumption|refine z_1 ?_|(refine z_l ?_;(repeat first|exact z_0|assumption|refine z_1 ?_);done)|refine z_r ?_);done))) (by have := hs.cards; omega) hrs (fun la lc ql hG => up_ret ?_)))
        refine xr_op rfl rfl (xv_move rfl ?_)
        refine xr_op rfl rfl (xv_extract rfl rfl ?_)
        refine xr_op rfl rfl (xv_extract rfl rfl ?_)
        refine xr_op rfl rfl (xv_assign rfl ?_)
        refine xr_op rfl rfl (xv_assign rfl ?_)
        refine xr_end rfl ?_
        refine th_n ?_
        refine xc_seq ?_
        refine xc_seq (xc_region ?_)
        refine xr_op rfl rfl (xv_move rfl ?_)
        refine xr_op rfl rfl (xv_not rfl ?_)
        refine xr_op rfl rfl (xv_move rfl ?_)
        refine xr_gd rfl rfl rfl (xv_loadA ty25 rfl rfl (by ((repeat first|exact z_0|assumption|refine z_1 ?_|(refine z_l ?_;(repeat first|exact z_0|assumption|refine z_1 ?_);done)|refine z_r ?_);done)) (by ((try apply evl_some rfl);(repeat (first|exact (rfl : _ = [])|apply evl_cons rfl (by (first|exact v_1|exact v_2|exact v_3|exact v_4|exact v_5|exact v_6|exact v_7|exact v_8|exact v_9|exact rfl))|exact rfl)))) (by rfl) ?_)
        refine xr_gd rfl rfl rfl (xv_calls rfl hb28 (RoundT_c (hv.sub (by intro z hz; ((repeat first|exact z_0|assumption|refine z_1 ?_|(refine z_l ?_;(repeat first|exact z_0|assumption|refine z_1 ?_);done)|refine z_r ?_);done))) hs hgood (up_ret ?_)))
        refine xr_gd rfl rfl rfl (xv_not rfl ?_)
        refine xr_op rfl rfl (xv_pick rfl rfl ?_)
        refine xr_op rfl rfl (xv_move rfl ?_)
        refine xr_gd rfl rfl rfl (xv_move rfl ?_)
        refine xr_gd rfl rfl rfl (xv_len sl28 rfl ?_)
        refine xr_gd rfl rfl rfl (xv_move rfl ?_)
        refine xr_gd rfl rfl rfl (xv_len sl23 rfl ?_)
        refine xr_gd rfl rfl rfl (xv_sub rfl rfl (wrap_i64 (by (first | omega | (dsimp only at *; omega) | (simp at *; omega))) (by (first | omega | (dsimp only at *; omega) | (simp at *; omega)))) ?_)
        refine xr_gd rfl rfl rfl (xv_max rfl rfl rfl ?_)
        refine xr_gd rfl rfl rfl (xv_neqF rfl rfl (by (first | omega | (dsimp only at *; omega) | (simp at *; omega))) ?_)
        refine xr_op rfl rfl (xv_pick rfl rfl ?_)
        refine xr_end rfl ?_
        refine th_n ?_
        refine xc_false rfl ?_
        refine xc_skip ?_
        refine th_n ?_
        refine xc_seq (xc_region ?_)
        refine xr_op rfl rfl (xv_faddr fl25_0 rfl ?_)
        refine xr_op rfl rfl (xv_load1 ty22 rfl rfl (by ((repeat first|exact z_0|assumption|refine z_1 ?_|(refine z_l ?_;(repeat first|exact z_0|assumption|refine z_1 ?_);done)|refine z_r ?_);done)) (by rfl) ?_)
        refine xr_op rfl rfl (xv_move rfl ?_)
        have hltd : house.toNat < r.dials.length := by (first | omega | (dsimp only at *; omega) | (simp at *; omega))
        obtain ⟨bd, od, ld, td, fzd, had, hmd, hxd⟩ := (hv.dials).at hltd
        obtain ⟨xd, hkd⟩ : ∃ qq_, r.dials[house.toNat]? = some qq_ := ⟨_, List.getElem?_eq_getElem hltd⟩
        have hda : dialAt r.dials house = xd := by unfold dialAt; rw [hkd]; rfl
        refine xr_op rfl rfl (xv_ia (sz := 4) (j := house.toNat) sl22 ty45 rfl (by rw [had]; rfl) rfl rfl (by (first | omega | (dsimp only at *; omega) | (simp at *; omega))) (by (first | omega | (dsimp only at *; omega) | (simp at *; omega))) ?_)
        refine xr_op rfl rfl (xv_loadA ty45 rfl rfl (by ((repeat first|exact z_0|assumption|refine z_1 ?_|(refine z_l ?_;(repeat first|exact z_0|assumption|refine z_1 ?_);done)|refine z_r ?_);done)) (hxd (house.toNat) xd hkd) rfl ?_)
        subst hda
        refine xr_op rfl rfl (xv_alloc ty45 (fun bd hbd => ?_))
        refine xr_op rfl rfl (xv_s ty45 rfl rfl (by (first|(apply u_3;(repeat first|exact u_0|assumption|apply u_1|apply u_2);done)|((repeat first|exact u_0|assumption|apply u_1|apply u_2);done)|(apply u_3;apply u_3;(repeat first|exact u_0|assumption|apply u_1|apply u_2);done)|((repeat first|exact u_0|assumption|apply u_3|apply u_1);done))) (by ((try apply evl_some rfl);(repeat (first|exact (rfl : _ = [])|apply evl_cons rfl (by (first|exact v_1|exact v_2|exact v_3|exact v_4|exact v_5|exact v_6|exact v_7|exact v_8|exact v_9|exact rfl))|exact rfl)))) (by rfl) (by rfl) (by rfl) (by ((try apply evl_some rfl);(repeat (first|exact (rfl : _ = [])|apply evl_cons rfl (by (first|exact v_1|exact v_2|exact v_3|exact v_4|exact v_5|exact v_6|exact v_7|exact v_8|exact v_9|exact rfl))|exact rfl)))) ?_)
        refine xr_end rfl ?_
        refine th_n ?_
        refine xc_seq (xc_region ?_)
        refine xr_op rfl rfl (xv_faddr fl45_0 rfl ?_)
        refine xr_op rfl rfl (xv_load1 ty3 rfl rfl (by ((repeat first|exact z_0|assumption|refine z_1 ?_|(refine z_l ?_;(repeat first|exact z_0|assumption|refine z_1 ?_);done)|refine z_r ?_);done)) (by rfl) ?_)
        refine xr_op rfl rfl (xv_calls rfl hb26 (Turn_c (by omega) (by omega) (up_ret ?_)))
        refine xr_op rfl rfl (xv_assign rfl ?_)
        refine xr_end rfl ?_
        refine th_n ?_
        refine xc_join (σ := Unit) (fun _u => True) (fun _u => (((((((((emp.put (some 1) (I house)).put (some 2) (I f)).put (some 3) (I t)).put (some 5) (.pointer (some ⟨b5, 0, none⟩))).put (some 11) (.slice oa out.length oc)).put (some 13) (.pointer (some ⟨bg, 0, none⟩))).put (some 15) (.slice la l.length lc)).put (some 17) (.pointer (some ⟨bd, 0, none⟩))).put (some 14) (I ee))) (fun _u => ((bd, .cells ⟨eDial (dialAt r.dials house)⟩ 45) :: (ql ++ (bg, .cells ⟨eSpan gs⟩ 38) :: (qo ++ (b5, .cells ⟨eRnd r⟩ 25) :: h)))) ?_ ?_
        · refine xc_seq (xc_region ?_)
          refine xr_op rfl rfl (xv_move rfl ?_)
          refine xr_op rfl rfl (xv_len sl28 rfl ?_)
          refine xr_op rfl rfl (xv_gtr2 rfl rfl (fun q3 => ?_) (fun q3 => ?_))
          · refine xr_end rfl ?_
            refine th_n ?_
            refine xc_true rfl ?_
            refine xc_seq (xc_region ?_)
            refine xr_op rfl rfl (xv_move rfl ?_)
            refine xr_op rfl rfl (xv_convI Tryd.underlying5 Tryd.underlying3 rfl (wrap_i64 (by (first | omega | (dsimp only at *; omega) | (simp at *; omega))) (by (first | omega | (dsimp only at *; omega) | (simp at *; omega)))) ?_)
            refine xr_op rfl rfl (xv_move rfl ?_)
            refine xr_op rfl rfl (xv_len sl28 rfl ?_)
            obtain ⟨k, hk9⟩ : ∃ k : Nat, k = nw % out.length := ⟨_, rfl⟩
            have hkl : k < out.length := by rw [hk9]; exact Nat.mod_lt _ (by (first | omega | (dsimp only at *; omega) | (simp at *; omega)))
            have hltp : k < l.length := by (first | omega | (dsimp only at *; omega) | (simp at *; omega))
            obtain ⟨bp, op, lp, tp, fzp, hap, hmp, hxp⟩ := (hG).at hltp
            obtain ⟨xp, hkp⟩ : ∃ qq_, l[k]? = some qq_ := ⟨_, List.getElem?_eq_getElem hltp⟩
            have hltq : (k + 1) < l.length := by (first | omega | (dsimp only at *; omega) | (simp at *; omega))
            obtain ⟨bq, oq, lq, tq, fzq, haq, hmq, hxq⟩ := (hG).at hltq
            obtain ⟨xq, hkq⟩ : ∃ qq_, l[(k + 1)]? = some qq_ := ⟨_, List.getElem?_eq_getElem hltq⟩
            have hlto : k < out.length := by (first | omega | (dsimp only at *; omega) | (simp at *; omega))
            obtain ⟨bo, oo, lo, to, fzo, hao, hmo, hxo⟩ := (so).at hlto
            obtain ⟨xo, hko⟩ : ∃ qq_, out[k]? = some qq_ := ⟨_, List.getElem?_eq_getElem hlto⟩
            have hop := hro xp (List.mem_of_getElem? hkp)
            have hoq := hro xq (List.mem_of_getElem? hkq)
            have hpq := hri.get (Nat.lt_succ_self k) hkp hkq
            have hbt := pairs_get hps hkp hkq hko
            have hE := btw_ends hdo (Int.le_of_lt hpq) hbt
            have hob := out_at hdo hri hro hps hko
            have hop1 := hop.1
            have hoq1 := hoq.1
            unfold hourOk at hop1 hoq1
            refine xr_op rfl rfl (xv_rem (c := (k : Int)) rfl rfl (by (first | omega | (dsimp only at *; omega) | (simp at *; omega))) (by rw [hk9]; rfl) ?_)
            refine xr_op rfl rfl (xv_assign rfl ?_)
            refine xr_end rfl ?_
            refine th_n ?_
            refine xc_seq ?_
            refine xc_drawL (L := [(bq, fun o => o = .cells ⟨lq⟩ tq fzq)]) [(0, .S), (1, .S), (2, .S), (3, .R), (4, .S), (5, .S), (6, .S), (7, .S), (8, .S), (9, .P), (10, .P), (9, .A), (10, .A), (11, .O), (12, .O)] [] _ mixed (by kernel_rfl) (by rw [List.append_nil]) (holds1 (by ((repeat first|exact z_0|assumption|refine z_1 ?_|(refine z_l ?_;(repeat first|exact z_0|assumption|refine z_1 ?_);done)|refine z_r ?_);done)) rfl) ?_
            refine js_S rfl rfl (.inl rfl) (xv_move rfl ⟨rfl, rfl⟩) ?_
            refine js_S rfl rfl (.inl rfl) (xv_move rfl ⟨rfl, rfl⟩) ?_
            refine js_S rfl rfl (.inl rfl) (xv_ia (sz := 3) (j := k) sl23 ty59 rfl (by rw [hap]; rfl) rfl (by (first | omega | (dsimp only at *; omega) | (simp at *; omega))) (by (first | omega | (dsimp only at *; omega) | (simp at *; omega))) (by (first | omega | (dsimp only at *; omega) | (simp at *; omega))) ⟨rfl, rfl⟩) ?_
            refine js_R0 rfl rfl (.inl rfl) (xv_loadA ty59 rfl rfl (by ((repeat first|exact z_0|assumption|refine z_1 ?_|(refine z_l ?_;(repeat first|exact z_0|assumption|refine z_1 ?_);done)|refine z_r ?_);done)) (hxp (k) xp hkp) rfl ⟨rfl, rfl⟩) ?_
            refine js_S rfl rfl (.inl rfl) (xv_move rfl ⟨rfl, rfl⟩) ?_
            refine js_S rfl rfl (.inl rfl) (xv_move rfl ⟨rfl, rfl⟩) ?_
            refine js_S rfl rfl (.inl rfl) (xv_add rfl rfl (wrap_i64 (by (first | omega | (dsimp only at *; omega) | (simp at *; omega))) (by (first | omega | (dsimp only at *; omega) | (simp at *; omega)))) ⟨rfl, rfl⟩) ?_
            refine js_S rfl rfl (.inl rfl) (xv_ia (sz := 3) (j := k + 1) sl23 ty59 rfl (by rw [haq]; rfl) rfl (by (first | omega | (dsimp only at *; omega) | (simp at *; omega))) (by (first | omega | (dsimp only at *; omega) | (simp at *; omega))) (by (first | omega | (dsimp only at *; omega) | (simp at *; omega))) ⟨rfl, rfl⟩) ?_
            refine js_I rfl rfl (.inl rfl) (fun hh hv => by obtain ⟨o9, hm, rfl⟩ := hv bq _ List.mem_cons_self; exact xv_loadA ty59 rfl rfl (List.mem_append_left _ hm) (hxq (k + 1) xq hkq) rfl ⟨rfl, rfl⟩) ?_
            refine js_P rfl rfl rfl (al_alloc ty59) ?_
            refine js_P rfl rfl rfl (al_alloc ty59) ?_
            refine js_A0 rfl rfl rfl rfl rfl trivial (fun ba hba => ?_)
            refine js_A0 rfl rfl rfl rfl rfl trivial (fun bb hbb => ?_)
            refine js_OL0 rfl rfl (.inl rfl) (xv_s ty59 rfl rfl (by (first|(apply u_3;(repeat first|exact u_0|assumption|apply u_1|apply u_2);done)|((repeat first|exact u_0|assumption|apply u_1|apply u_2);done)|(apply u_3;apply u_3;(repeat first|exact u_0|assumption|apply u_1|apply u_2);done)|((repeat first|exact u_0|assumption|apply u_3|apply u_1);done))) (by ((try apply evl_some rfl);(repeat (first|exact (rfl : _ = [])|apply evl_cons rfl (by (first|exact v_1|exact v_2|exact v_3|exact v_4|exact v_5|exact v_6|exact v_7|exact v_8|exact v_9|exact rfl))|exact rfl)))) (by rfl) (by rfl) (by rfl) (by ((try apply evl_some rfl);(repeat (first|exact (rfl : _ = [])|apply evl_cons rfl (by (first|exact v_1|exact v_2|exact v_3|exact v_4|exact v_5|exact v_6|exact v_7|exact v_8|exact v_9|exact rfl))|exact rfl)))) ?_)
            refine ⟨holds1 (by ((repeat first|exact z_0|assumption|refine z_1 ?_|(refine z_l ?_;(repeat first|exact z_0|assumption|refine z_1 ?_);done)|refine z_r ?_);done)) rfl, ?_⟩
            refine js_OL0 rfl rfl (.inl rfl) (xv_s ty59 rfl rfl (by (first|(apply u_3;(repeat first|exact u_0|assumption|apply u_1|apply u_2);done)|((repeat first|exact u_0|assumption|apply u_1|apply u_2);done)|(apply u_3;apply u_3;(repeat first|exact u_0|assumption|apply u_1|apply u_2);done)|((repeat first|exact u_0|assumption|apply u_3|apply u_1);done))) (by ((try apply evl_some rfl);(repeat (first|exact (rfl : _ = [])|apply evl_cons rfl (by (first|exact v_1|exact v_2|exact v_3|exact v_4|exact v_5|exact v_6|exact v_7|exact v_8|exact v_9|exact rfl))|exact rfl)))) (by rfl) (by rfl) (by rfl) (by ((try apply evl_some rfl);(repeat (first|exact (rfl : _ = [])|apply evl_cons rfl (by (first|exact v_1|exact v_2|exact v_3|exact v_4|exact v_5|exact v_6|exact v_7|exact v_8|exact v_9|exact rfl))|exact rfl)))) ?_)
            refine ⟨holds1 (by ((repeat first|exact z_0|assumption|refine z_1 ?_|(refine z_l ?_;(repeat first|exact z_0|assumption|refine z_1 ?_);done)|refine z_r ?_);done)) rfl, ?_⟩
            refine j_end0 ?_
            refine th_n ?_
            refine xc_seq (xc_region ?_)
            refine xr_op rfl rfl (xv_faddr fl59_1 rfl ?_)
            refine xr_op rfl rfl (xv_load1 ty3 rfl rfl (by ((repeat first|exact z_0|assumption|refine z_1 ?_|(refine z_l ?_;(repeat first|exact z_0|assumption|refine z_1 ?_);done)|refine z_r ?_);done)) (by rfl) ?_)
            refine xr_op rfl rfl (xv_faddr fl59_1 rfl ?_)
            refine xr_op rfl rfl (xv_load1 ty3 rfl rfl (by ((repeat first|exact z_0|assumption|refine z_1 ?_|(refine z_l ?_;(repeat first|exact z_0|assumption|refine z_1 ?_);done)|refine z_r ?_);done)) (by rfl) ?_)
            refine xr_op rfl rfl (xv_sub rfl rfl (wrap_i64 (by (first | omega | (dsimp only at *; omega) | (simp at *; omega))) (by (first | omega | (dsimp only at *; omega) | (simp at *; omega)))) ?_)
            refine xr_op rfl rfl (xv_assign rfl ?_)
            refine xr_end rfl ?_
            refine th_n ?_
            refine xc_seq ?_
            refine xc_seq ?_
            refine xc_draw0 [(0, .R), (1, .R), (2, .R), (3, .S), (4, .S), (5, .S), (6, .S), (7, .R), (8, .O), (9, .S), (10, .S), (11, .R), (12, .R), (13, .R), (14, .S), (15, .S), (16, .S), (17, .S), (18, .R), (19, .O), (20, .S), (21, .S), (22, .S), (23, .S), (24, .S), (25, .S), (26, .S), (27, .R), (28, .S), (29, .S), (30, .S), (31, .S), (32, .R), (33, .S), (34, .S)] mixed (by kernel_rfl) ?_
            refine js_R0 rfl rfl (.inl rfl) (xv_loadA ty45 rfl rfl (by ((repeat first|exact z_0|assumption|refine z_1 ?_|(refine z_l ?_;(repeat first|exact z_0|assumption|refine z_1 ?_);done)|refine z_r ?_);done)) (by ((try apply evl_some rfl);(repeat (first|exact (rfl : _ = [])|apply evl_cons rfl (by (first|exact v_1|exact v_2|exact v_3|exact v_4|exact v_5|exact v_6|exact v_7|exact v_8|exact v_9|exact rfl))|exact rfl)))) (by rfl) ⟨rfl, rfl⟩) ?_
            refine js_R0 rfl rfl (.inl rfl) (xv_loadA ty59 rfl rfl (by ((repeat first|exact z_0|assumption|refine z_1 ?_|(refine z_l ?_;(repeat first|exact z_0|assumption|refine z_1 ?_);done)|refine z_r ?_);done)) (by ((try apply evl_some rfl);(repeat (first|exact (rfl : _ = [])|apply evl_cons rfl (by (first|exact v_1|exact v_2|exact v_3|exact v_4|exact v_5|exact v_6|exact v_7|exact v_8|exact v_9|exact rfl))|exact rfl)))) (by rfl) ⟨rfl, rfl⟩) ?_
            refine js_R0 rfl rfl (.inl rfl) (xv_loadA ty59 rfl rfl (by ((repeat first|exact z_0|assumption|refine z_1 ?_|(refine z_l ?_;(repeat first|exact z_0|assumption|refine z_1 ?_);done)|refine z_r ?_);done)) (by ((try apply evl_some rfl);(repeat (first|exact (rfl : _ = [])|apply evl_cons rfl (by (first|exact v_1|exact v_2|exact v_3|exact v_4|exact v_5|exact v_6|exact v_7|exact v_8|exact v_9|exact rfl))|exact rfl)))) (by rfl) ⟨rfl, rfl⟩) ?_
            refine js_S rfl rfl (.inl rfl) (xv_move rfl ⟨rfl, rfl⟩) ?_
            refine js_S rfl rfl (.inl rfl) (xv_move rfl ⟨rfl, rfl⟩) ?_
            refine js_S rfl rfl (.inl rfl) (xv_ia (sz := 2) (j := k) sl28 ty38 rfl (by rw [hao]; rfl) rfl (by (first | assumption | with_reducible exact Int.toNat_natCast _ | with_reducible rfl | rfl)) (by (first | omega | (dsimp only at *; omega) | (simp at *; omega))) (by (first | omega | (dsimp only at *; omega) | (simp at *; omega))) ⟨rfl, rfl⟩) ?_
            refine js_S rfl rfl (.inl rfl) (xv_faddr fl38_0 rfl ⟨rfl, rfl⟩) ?_
            refine js_R0 rfl rfl (.inl rfl) (xv_load1 ty3 rfl rfl (by ((repeat first|exact z_0|assumption|refine z_1 ?_|(refine z_l ?_;(repeat first|exact z_0|assumption|refine z_1 ?_);done)|refine z_r ?_);done)) (take_get (hxo (k) xo hko) (j := 0) rfl) ⟨rfl, rfl⟩) ?_
            refine js_O0 rfl rfl (.inl rfl) (xv_calls rfl hb29 (FitsT_c hdo hop hoq (Int.le_of_lt hpq) hE.lo (up_ret ?_)))
            refine js_S rfl rfl (.inl rfl) (xv_not rfl ⟨rfl, rfl⟩) ?_
            refine js_S rfl rfl (.inl rfl) (xv_move rfl ⟨rfl, rfl⟩) ?_
            refine js_R0 rfl rfl (.inr ⟨_, _, rfl, rfl⟩) (xv_loadA ty45 rfl rfl (by ((repeat first|exact z_0|assumption|refine z_1 ?_|(refine z_l ?_;(repeat first|exact z_0|assumption|refine z_1 ?_);done)|refine z_r ?_);done)) (by ((try apply evl_some rfl);(repeat (first|exact (rfl : _ = [])|apply evl_cons rfl (by (first|exact v_1|exact v_2|exact v_3|exact v_4|exact v_5|exact v_6|exact v_7|exact v_8|exact v_9|exact rfl))|exact rfl)))) (by rfl) ⟨rfl, rfl⟩) ?_
            refine js_R0 rfl rfl (.inr ⟨_, _, rfl, rfl⟩) (xv_loadA ty59 rfl rfl (by ((repeat first|exact z_0|assumption|refine z_1 ?_|(refine z_l ?_;(repeat first|exact z_0|assumption|refine z_1 ?_);done)|refine z_r ?_);done)) (by ((try apply evl_some rfl);(repeat (first|exact (rfl : _ = [])|apply evl_cons rfl (by (first|exact v_1|exact v_2|exact v_3|exact v_4|exact v_5|exact v_6|exact v_7|exact v_8|exact v_9|exact rfl))|exact rfl)))) (by rfl) ⟨rfl, rfl⟩) ?_
            refine js_R0 rfl rfl (.inr ⟨_, _, rfl, rfl⟩) (xv_loadA ty59 rfl rfl (by ((repeat first|exact z_0|assumption|refine z_1 ?_|(refine z_l ?_;(repeat first|exact z_0|assumption|refine z_1 ?_);done)|refine z_r ?_);done)) (by ((try apply evl_some rfl);(repeat (first|exact (rfl : _ = [])|apply evl_cons rfl (by (first|exact v_1|exact v_2|exact v_3|exact v_4|exact v_5|exact v_6|exact v_7|exact v_8|exact v_9|exact rfl))|exact rfl)))) (by rfl) ⟨rfl, rfl⟩) ?_
            refine js_S rfl rfl (.inr ⟨_, _, rfl, rfl⟩) (xv_move rfl ⟨rfl, rfl⟩) ?_
            refine js_S rfl rfl (.inr ⟨_, _, rfl, rfl⟩) (xv_move rfl ⟨rfl, rfl⟩) ?_
            refine js_S rfl rfl (.inr ⟨_, _, rfl, rfl⟩) (xv_ia (sz := 2) (j := k) sl28 ty38 rfl (by rw [hao]; rfl) rfl (by (first | assumption | with_reducible exact Int.toNat_natCast _ | with_reducible rfl | rfl)) (by (first | omega | (dsimp only at *; omega) | (simp at *; omega))) (by (first | omega | (dsimp only at *; omega) | (simp at *; omega))) ⟨rfl, rfl⟩) ?_
            refine js_S rfl rfl (.inr ⟨_, _, rfl, rfl⟩) (xv_faddr fl38_1 rfl ⟨rfl, rfl⟩) ?_
            refine js_R0 rfl rfl (.inr ⟨_, _, rfl, rfl⟩) (xv_load1 ty3 rfl rfl (by ((repeat first|exact z_0|assumption|refine z_1 ?_|(refine z_l ?_;(repeat first|exact z_0|assumption|refine z_1 ?_);done)|refine z_r ?_);done)) (take_get (hxo (k) xo hko) (j := 1) rfl) ⟨rfl, rfl⟩) ?_
            refine js_O0 rfl rfl (.inr ⟨_, _, rfl, rfl⟩) (xv_calls rfl hb29 (FitsT_c hdo hop hoq (Int.le_of_lt hpq) hE.hi (up_ret ?_)))
            refine js_S rfl rfl (.inr ⟨_, _, rfl, rfl⟩) (xv_not rfl ⟨rfl, rfl⟩) ?_
            refine js_S rfl rfl (.inl rfl) (xv_pick rfl rfl ⟨rfl, rfl⟩) ?_
            refine js_S rfl rfl (.inl rfl) (xv_move rfl ⟨rfl, rfl⟩) ?_
            refine js_S rfl rfl (.inr ⟨_, _, rfl, rfl⟩) (xv_move rfl ⟨rfl, rfl⟩) ?_
            refine js_S rfl rfl (.inr ⟨_, _, rfl, rfl⟩) (xv_move rfl ⟨rfl, rfl⟩) ?_
            refine js_S rfl rfl (.inr ⟨_, _, rfl, rfl⟩) (xv_ia (sz := 2) (j := k) sl28 ty38 rfl (by rw [hao]; rfl) rfl (by (first | assumption | with_reducible exact Int.toNat_natCast _ | with_reducible rfl | rfl)) (by (first | omega | (dsimp only at *; omega) | (simp at *; omega))) (by (first | omega | (dsimp only at *; omega) | (simp at *; omega))) ⟨rfl, rfl⟩) ?_
            refine js_S rfl rfl (.inr ⟨_, _, rfl, rfl⟩) (xv_faddr fl38_0 rfl ⟨rfl, rfl⟩) ?_
            refine js_R0 rfl rfl (.inr ⟨_, _, rfl, rfl⟩) (xv_load1 ty3 rfl rfl (by ((repeat first|exact z_0|assumption|refine z_1 ?_|(refine z_l ?_;(repeat first|exact z_0|assumption|refine z_1 ?_);done)|refine z_r ?_);done)) (take_get (hxo (k) xo hko) (j := 0) rfl) ⟨rfl, rfl⟩) ?_
            refine js_S rfl rfl (.inr ⟨_, _, rfl, rfl⟩) (xv_move rfl ⟨rfl, rfl⟩) ?_
            refine js_S rfl rfl (.inr ⟨_, _, rfl, rfl⟩) (xv_move rfl ⟨rfl, rfl⟩) ?_
            refine js_S rfl rfl (.inr ⟨_, _, rfl, rfl⟩) (xv_ia (sz := 2) (j := k) sl28 ty38 rfl (by rw [hao]; rfl) rfl (by (first | assumption | with_reducible exact Int.toNat_natCast _ | with_reducible rfl | rfl)) (by (first | omega | (dsimp only at *; omega) | (simp at *; omega))) (by (first | omega | (dsimp only at *; omega) | (simp at *; omega))) ⟨rfl, rfl⟩) ?_
            refine js_S rfl rfl (.inr ⟨_, _, rfl, rfl⟩) (xv_faddr fl38_1 rfl ⟨rfl, rfl⟩) ?_
            refine js_R0 rfl rfl (.inr ⟨_, _, rfl, rfl⟩) (xv_load1 ty3 rfl rfl (by ((repeat first|exact z_0|assumption|refine z_1 ?_|(refine z_l ?_;(repeat first|exact z_0|assumption|refine z_1 ?_);done)|refine z_r ?_);done)) (take_get (hxo (k) xo hko) (j := 1) rfl) ⟨rfl, rfl⟩) ?_
            refine js_S rfl rfl (.inr ⟨_, _, rfl, rfl⟩) (xv_cmpK rfl rfl (cmpF rfl (by simp only [cmpP]; (first | omega | (dsimp only at *; omega) | (simp at *; omega)))) ⟨rfl, rfl⟩) ?_
            refine js_S rfl rfl (.inl rfl) (xv_pick rfl rfl ⟨rfl, rfl⟩) ?_
            refine j_end0 ?_
            refine th_n ?_
            refine xc_false rfl ?_
            refine xc_skip ?_
            refine th_n ?_
            refine xc_seq ?_
            rcases Bool.eq_false_or_eq_true (dialAt r.dials house).sticks with hst | hst
            · refine xc_draw0 [(0, .S), (1, .R), (2, .S), (3, .S), (4, .S), (5, .S), (6, .S), (7, .S), (8, .R), (9, .S), (10, .S), (11, .S), (12, .R), (13, .S), (14, .R), (15, .S), (16, .S), (17, .S), (18, .S), (19, .S), (20, .S), (21, .S), (22, .R), (23, .S), (24, .S), (25, .S), (26, .S), (27, .S), (28, .S), (29, .S), (30, .S), (31, .S), (32, .R), (33, .S), (34, .S), (35, .S), (36, .S), (37, .R), (38, .S), (39, .S), (40, .S), (41, .S), (42, .S), (43, .S), (44, .S), (45, .R), (46, .S), (47, .R), (48, .R), (49, .R), (50, .S), (51, .S), (52, .S), (53, .S), (54, .R), (55, .S), (56, .O), (57, .S), (58, .R), (59, .R), (60, .R), (61, .S), (62, .S), (63, .S), (64, .S), (65, .R), (66, .S), (67, .O), (68, .S), (69, .S), (70, .S)] mixed (by kernel_rfl) ?_
              refine js_S rfl rfl (.inl rfl) (xv_faddr fl45_2 rfl ⟨rfl, rfl⟩) ?_
              have hopq := hop.2
              have hoqq := hoq.2
              have m1 := mul_bdI (a := (dialAt r.dials house).rate.lo) (A := 10000) (x := xq.hour - xp.hour) (B := 1048576) (by have := hdo.2.2.1; have := hdo.2.2.2.1; omega) (by have := hdo.2.2.2.1; have := hdo.2.2.2.2; omega) (by omega) (by omega) (by omega)
              have m2 := mul_bdI (a := (dialAt r.dials house).rate.hi) (A := 10000) (x := xq.hour - xp.hour) (B := 1048576) (by have := hdo.2.2.1; have := hdo.2.2.2.1; omega) (by have := hdo.2.2.2.1; have := hdo.2.2.2.2; omega) (by omega) (by omega) (by omega)
              obtain ⟨l0, l1⟩ := least_bd (a := xp) (b := xq) hdo
              refine js_R0 rfl rfl (.inl rfl) (xv_load1 (v := .bool true) ty4 rfl rfl (by ((repeat first|exact z_0|assumption|refine z_1 ?_|(refine z_l ?_;(repeat first|exact z_0|assumption|refine z_1 ?_);done)|refine z_r ?_);done)) (by first | exact congrArg (fun x => some (Value.bool x)) hst | rfl) ⟨rfl, rfl⟩) ?_
              refine js_S rfl rfl (.inl rfl) (xv_not rfl ⟨rfl, rfl⟩) ?_
              refine js_S rfl rfl (.inl rfl) (xv_move rfl ⟨rfl, rfl⟩) ?_
              refine js_Ss rfl rfl ⟨_, _, _, rfl, rfl, rfl⟩ ?_
              refine js_Ss rfl rfl ⟨_, _, _, rfl, rfl, rfl⟩ ?_
              refine js_Ss rfl rfl ⟨_, _, _, rfl, rfl, rfl⟩ ?_
              refine js_Ss rfl rfl ⟨_, _, _, rfl, rfl, rfl⟩ ?_
              refine js_Rs rfl rfl ⟨_, _, _, rfl, rfl, rfl⟩ ?_
              refine js_Ss rfl rfl ⟨_, _, _, rfl, rfl, rfl⟩ ?_
              refine js_Ss rfl rfl ⟨_, _, _, rfl, rfl, rfl⟩ ?_
              refine js_Ss rfl rfl ⟨_, _, _, rfl, rfl, rfl⟩ ?_
              refine js_Rs rfl rfl ⟨_, _, _, rfl, rfl, rfl⟩ ?_
              refine js_Ss rfl rfl ⟨_, _, _, rfl, rfl, rfl⟩ ?_
              refine js_Rs rfl rfl ⟨_, _, _, rfl, rfl, rfl⟩ ?_
              refine js_Ss rfl rfl ⟨_, _, _, rfl, rfl, rfl⟩ ?_
              refine js_Ss rfl rfl ⟨_, _, _, rfl, rfl, rfl⟩ ?_
              refine js_Ss rfl rfl ⟨_, _, _, rfl, rfl, rfl⟩ ?_
              refine js_Ss rfl rfl ⟨_, _, _, rfl, rfl, rfl⟩ ?_
              refine js_Ss rfl rfl ⟨_, _, _, rfl, rfl, rfl⟩ ?_
              refine js_Ss rfl rfl ⟨_, _, _, rfl, rfl, rfl⟩ ?_
              refine js_Ss rfl rfl ⟨_, _, _, rfl, rfl, rfl⟩ ?_
              refine js_Rs rfl rfl ⟨_, _, _, rfl, rfl, rfl⟩ ?_
              refine js_Ss rfl rfl ⟨_, _, _, rfl, rfl, rfl⟩ ?_
              refine js_Ss rfl rfl ⟨_, _, _, rfl, rfl, rfl⟩ ?_
              refine js_Ss rfl rfl ⟨_, _, _, rfl, rfl, rfl⟩ ?_
              refine js_Ss rfl rfl ⟨_, _, _, rfl, rfl, rfl⟩ ?_
              refine js_Ss rfl rfl ⟨_, _, _, rfl, rfl, rfl⟩ ?_
              refine js_Ss rfl rfl ⟨_, _, _, rfl, rfl, rfl⟩ ?_
              refine js_Ss rfl rfl ⟨_, _, _, rfl, rfl, rfl⟩ ?_
              refine js_Ss rfl rfl ⟨_, _, _, rfl, rfl, rfl⟩ ?_
              refine js_Ss rfl rfl ⟨_, _, _, rfl, rfl, rfl⟩ ?_
              refine js_Rs rfl rfl ⟨_, _, _, rfl, rfl, rfl⟩ ?_
              refine js_Ss rfl rfl ⟨_, _, _, rfl, rfl, rfl⟩ ?_
              refine js_Ss rfl rfl ⟨_, _, _, rfl, rfl, rfl⟩ ?_
              refine js_Ss rfl rfl ⟨_, _, _, rfl, rfl, rfl⟩ ?_
              refine js_Ss rfl rfl ⟨_, _, _, rfl, rfl, rfl⟩ ?_
              refine js_Rs rfl rfl ⟨_, _, _, rfl, rfl, rfl⟩ ?_
              refine js_Ss rfl rfl ⟨_, _, _, rfl, rfl, rfl⟩ ?_
              refine js_Ss rfl rfl ⟨_, _, _, rfl, rfl, rfl⟩ ?_
              refine js_Ss rfl rfl ⟨_, _, _, rfl, rfl, rfl⟩ ?_
              refine js_Ss rfl rfl ⟨_, _, _, rfl, rfl, rfl⟩ ?_
              refine js_S rfl rfl (.inl rfl) (xv_pick rfl rfl ⟨rfl, rfl⟩) ?_
              refine js_S rfl rfl (.inl rfl) (xv_move rfl ⟨rfl, rfl⟩) ?_
              refine js_S rfl rfl (.inr ⟨_, _, rfl, rfl⟩) (xv_faddr fl45_2 rfl ⟨rfl, rfl⟩) ?_
              refine js_R0 rfl rfl (.inr ⟨_, _, rfl, rfl⟩) (xv_load1 (v := .bool true) ty4 rfl rfl (by ((repeat first|exact z_0|assumption|refine z_1 ?_|(refine z_l ?_;(repeat first|exact z_0|assumption|refine z_1 ?_);done)|refine z_r ?_);done)) (by first | exact congrArg (fun x => some (Value.bool x)) hst | rfl) ⟨rfl, rfl⟩) ?_
              refine js_S rfl rfl (.inr ⟨_, _, rfl, rfl⟩) (xv_move rfl ⟨rfl, rfl⟩) ?_
              refine js_R0 rfl rfl (.inr ⟨_, _, rfl, rfl⟩) (xv_loadA ty45 rfl rfl (by ((repeat first|exact z_0|assumption|refine z_1 ?_|(refine z_l ?_;(repeat first|exact z_0|assumption|refine z_1 ?_);done)|refine z_r ?_);done)) (by ((try apply evl_some rfl);(repeat (first|exact (rfl : _ = [])|apply evl_cons rfl (by (first|exact v_1|exact v_2|exact v_3|exact v_4|exact v_5|exact v_6|exact v_7|exact v_8|exact v_9|exact rfl))|exact rfl)))) (by rfl) ⟨rfl, rfl⟩) ?_
              refine js_R0 rfl rfl (.inr ⟨_, _, rfl, rfl⟩) (xv_loadA ty59 rfl rfl (by ((repeat first|exact z_0|assumption|refine z_1 ?_|(refine z_l ?_;(repeat first|exact z_0|assumption|refine z_1 ?_);done)|refine z_r ?_);done)) (by ((try apply evl_some rfl);(repeat (first|exact (rfl : _ = [])|apply evl_cons rfl (by (first|exact v_1|exact v_2|exact v_3|exact v_4|exact v_5|exact v_6|exact v_7|exact v_8|exact v_9|exact rfl))|exact rfl)))) (by rfl) ⟨rfl, rfl⟩) ?_
              refine js_R0 rfl rfl (.inr ⟨_, _, rfl, rfl⟩) (xv_loadA ty59 rfl rfl (by ((repeat first|exact z_0|assumption|refine z_1 ?_|(refine z_l ?_;(repeat first|exact z_0|assumption|refine z_1 ?_);done)|refine z_r ?_);done)) (by ((try apply evl_some rfl);(repeat (first|exact (rfl : _ = [])|apply evl_cons rfl (by (first|exact v_1|exact v_2|exact v_3|exact v_4|exact v_5|exact v_6|exact v_7|exact v_8|exact v_9|exact rfl))|exact rfl)))) (by rfl) ⟨rfl, rfl⟩) ?_
              refine js_S rfl rfl (.inr ⟨_, _, rfl, rfl⟩) (xv_move rfl ⟨rfl, rfl⟩) ?_
              refine js_S rfl rfl (.inr ⟨_, _, rfl, rfl⟩) (xv_move rfl ⟨rfl, rfl⟩) ?_
              refine js_S rfl rfl (.inr ⟨_, _, rfl, rfl⟩) (xv_ia (sz := 2) (j := k) sl28 ty38 rfl (by rw [hao]; rfl) rfl (by (first | assumption | with_reducible exact Int.toNat_natCast _ | with_reducible rfl | rfl)) (by (first | omega | (dsimp only at *; omega) | (simp at *; omega))) (by (first | omega | (dsimp only at *; omega) | (simp at *; omega))) ⟨rfl, rfl⟩) ?_
              refine js_S rfl rfl (.inr ⟨_, _, rfl, rfl⟩) (xv_faddr fl38_0 rfl ⟨rfl, rfl⟩) ?_
              refine js_R0 rfl rfl (.inr ⟨_, _, rfl, rfl⟩) (xv_load1 ty3 rfl rfl (by ((repeat first|exact z_0|assumption|refine z_1 ?_|(refine z_l ?_;(repeat first|exact z_0|assumption|refine z_1 ?_);done)|refine z_r ?_);done)) (take_get (hxo (k) xo hko) (j := 0) rfl) ⟨rfl, rfl⟩) ?_
              refine js_S rfl rfl (.inr ⟨_, _, rfl, rfl⟩) (xv_sub rfl rfl (wrap_i64 (by (first | omega | (dsimp only at *; omega) | (simp at *; omega))) (by (first | omega | (dsimp only at *; omega) | (simp at *; omega)))) ⟨rfl, rfl⟩) ?_
              refine js_O0 rfl rfl (.inr ⟨_, _, rfl, rfl⟩) (xv_calls rfl hb29 (FitsF_c hdo hop hoq (Int.le_of_lt hpq) (hE.tlo hst) (up_ret ?_)))
              refine js_S rfl rfl (.inr ⟨_, _, rfl, rfl⟩) (xv_move rfl ⟨rfl, rfl⟩) ?_
              refine js_R0 rfl rfl (.inr ⟨_, _, rfl, rfl⟩) (xv_loadA ty45 rfl rfl (by ((repeat first|exact z_0|assumption|refine z_1 ?_|(refine z_l ?_;(repeat first|exact z_0|assumption|refine z_1 ?_);done)|refine z_r ?_);done)) (by ((try apply evl_some rfl);(repeat (first|exact (rfl : _ = [])|apply evl_cons rfl (by (first|exact v_1|exact v_2|exact v_3|exact v_4|exact v_5|exact v_6|exact v_7|exact v_8|exact v_9|exact rfl))|exact rfl)))) (by rfl) ⟨rfl, rfl⟩) ?_
              refine js_R0 rfl rfl (.inr ⟨_, _, rfl, rfl⟩) (xv_loadA ty59 rfl rfl (by ((repeat first|exact z_0|assumption|refine z_1 ?_|(refine z_l ?_;(repeat first|exact z_0|assumption|refine z_1 ?_);done)|refine z_r ?_);done)) (by ((try apply evl_some rfl);(repeat (first|exact (rfl : _ = [])|apply evl_cons rfl (by (first|exact v_1|exact v_2|exact v_3|exact v_4|exact v_5|exact v_6|exact v_7|exact v_8|exact v_9|exact rfl))|exact rfl)))) (by rfl) ⟨rfl, rfl⟩) ?_
              refine js_R0 rfl rfl (.inr ⟨_, _, rfl, rfl⟩) (xv_loadA ty59 rfl rfl (by ((repeat first|exact z_0|assumption|refine z_1 ?_|(refine z_l ?_;(repeat first|exact z_0|assumption|refine z_1 ?_);done)|refine z_r ?_);done)) (by ((try apply evl_some rfl);(repeat (first|exact (rfl : _ = [])|apply evl_cons rfl (by (first|exact v_1|exact v_2|exact v_3|exact v_4|exact v_5|exact v_6|exact v_7|exact v_8|exact v_9|exact rfl))|exact rfl)))) (by rfl) ⟨rfl, rfl⟩) ?_
              refine js_S rfl rfl (.inr ⟨_, _, rfl, rfl⟩) (xv_move rfl ⟨rfl, rfl⟩) ?_
              refine js_S rfl rfl (.inr ⟨_, _, rfl, rfl⟩) (xv_move rfl ⟨rfl, rfl⟩) ?_
              refine js_S rfl rfl (.inr ⟨_, _, rfl, rfl⟩) (xv_ia (sz := 2) (j := k) sl28 ty38 rfl (by rw [hao]; rfl) rfl (by (first | assumption | with_reducible exact Int.toNat_natCast _ | with_reducible rfl | rfl)) (by (first | omega | (dsimp only at *; omega) | (simp at *; omega))) (by (first | omega | (dsimp only at *; omega) | (simp at *; omega))) ⟨rfl, rfl⟩) ?_
              refine js_S rfl rfl (.inr ⟨_, _, rfl, rfl⟩) (xv_faddr fl38_1 rfl ⟨rfl, rfl⟩) ?_
              refine js_R0 rfl rfl (.inr ⟨_, _, rfl, rfl⟩) (xv_load1 ty3 rfl rfl (by ((repeat first|exact z_0|assumption|refine z_1 ?_|(refine z_l ?_;(repeat first|exact z_0|assumption|refine z_1 ?_);done)|refine z_r ?_);done)) (take_get (hxo (k) xo hko) (j := 1) rfl) ⟨rfl, rfl⟩) ?_
              refine js_S rfl rfl (.inr ⟨_, _, rfl, rfl⟩) (xv_add rfl rfl (wrap_i64 (by (first | omega | (dsimp only at *; omega) | (simp at *; omega))) (by (first | omega | (dsimp only at *; omega) | (simp at *; omega)))) ⟨rfl, rfl⟩) ?_
              refine js_O0 rfl rfl (.inr ⟨_, _, rfl, rfl⟩) (xv_calls rfl hb29 (FitsF_c hdo hop hoq (Int.le_of_lt hpq) (hE.thi hst) (up_ret ?_)))
              refine js_S rfl rfl (.inr ⟨_, _, rfl, rfl⟩) (xv_pick rfl rfl ⟨rfl, rfl⟩) ?_
              refine js_S rfl rfl (.inr ⟨_, _, rfl, rfl⟩) (xv_pick rfl rfl ⟨rfl, rfl⟩) ?_
              refine js_S rfl rfl (.inl rfl) (xv_pick rfl rfl ⟨rfl, rfl⟩) ?_
              refine j_end0 ?_
              refine th_n ?_
              refine xc_false rfl ?_
              refine xc_skip ?_
              exact jn_n () trivial (le_put (le_put (le_put (le_put (le_put (le_put (le_put (le_put (le_put (le_emp _) rfl) rfl) rfl) rfl) rfl) rfl) rfl) rfl) rfl) (by (first|((repeat first|exact s_0|exact s_1|exact s_3|refine s_4 ?_|refine s_5 ?_|refine s_6 ?_|refine s_7 ?_);done)|((repeat first|exact s_0|exact s_1|exact s_3|refine s_4 ?_|refine s_5 ?_|refine s_6 ?_|refine s_8 ?_);done)))
            · refine xc_draw0 [(0, .S), (1, .R), (2, .S), (3, .S), (4, .S), (5, .S), (6, .S), (7, .S), (8, .R), (9, .S), (10, .S), (11, .S), (12, .R), (13, .S), (14, .R), (15, .S), (16, .S), (17, .S), (18, .S), (19, .S), (20, .S), (21, .S), (22, .R), (23, .S), (24, .S), (25, .S), (26, .S), (27, .S), (28, .S), (29, .S), (30, .S), (31, .S), (32, .R), (33, .S), (34, .S), (35, .S), (36, .S), (37, .R), (38, .S), (39, .S), (40, .S), (41, .S), (42, .S), (43, .S), (44, .S), (45, .R), (46, .S), (47, .R), (48, .R), (49, .R), (50, .S), (51, .S), (52, .S), (53, .S), (54, .R), (55, .S), (56, .O), (57, .S), (58, .R), (59, .R), (60, .R), (61, .S), (62, .S), (63, .S), (64, .S), (65, .R), (66, .S), (67, .O), (68, .S), (69, .S), (70, .S)] mixed (by kernel_rfl) ?_
              refine js_S rfl rfl (.inl rfl) (xv_faddr fl45_2 rfl ⟨rfl, rfl⟩) ?_
              have hopq := hop.2
              have hoqq := hoq.2
              have m1 := mul_bdI (a := (dialAt r.dials house).rate.lo) (A := 10000) (x := xq.hour - xp.hour) (B := 1048576) (by have := hdo.2.2.1; have := hdo.2.2.2.1; omega) (by have := hdo.2.2.2.1; have := hdo.2.2.2.2; omega) (by omega) (by omega) (by omega)
              have m2 := mul_bdI (a := (dialAt r.dials house).rate.hi) (A := 10000) (x := xq.hour - xp.hour) (B := 1048576) (by have := hdo.2.2.1; have := hdo.2.2.2.1; omega) (by have := hdo.2.2.2.1; have := hdo.2.2.2.2; omega) (by omega) (by omega) (by omega)
              obtain ⟨l0, l1⟩ := least_bd (a := xp) (b := xq) hdo
              refine js_R0 rfl rfl (.inl rfl) (xv_load1 (v := .bool false) ty4 rfl rfl (by ((repeat first|exact z_0|assumption|refine z_1 ?_|(refine z_l ?_;(repeat first|exact z_0|assumption|refine z_1 ?_);done)|refine z_r ?_);done)) (by first | exact congrArg (fun x => some (Value.bool x)) hst | rfl) ⟨rfl, rfl⟩) ?_
              refine js_S rfl rfl (.inl rfl) (xv_not rfl ⟨rfl, rfl⟩) ?_
              refine js_S rfl rfl (.inl rfl) (xv_move rfl ⟨rfl, rfl⟩) ?_
              refine js_S rfl rfl (.inr ⟨_, _, rfl, rfl⟩) (xv_move rfl ⟨rfl, rfl⟩) ?_
              refine js_S rfl rfl (.inr ⟨_, _, rfl, rfl⟩) (xv_move rfl ⟨rfl, rfl⟩) ?_
              refine js_S rfl rfl (.inr ⟨_, _, rfl, rfl⟩) (xv_ia (sz := 2) (j := k) sl28 ty38 rfl (by rw [hao]; rfl) rfl (by (first | assumption | with_reducible exact Int.toNat_natCast _ | with_reducible rfl | rfl)) (by (first | omega | (dsimp only at *; omega) | (simp at *; omega))) (by (first | omega | (dsimp only at *; omega) | (simp at *; omega))) ⟨rfl, rfl⟩) ?_
              refine js_S rfl rfl (.inr ⟨_, _, rfl, rfl⟩) (xv_faddr fl38_0 rfl ⟨rfl, rfl⟩) ?_
              refine js_R0 rfl rfl (.inr ⟨_, _, rfl, rfl⟩) (xv_load1 ty3 rfl rfl (by ((repeat first|exact z_0|assumption|refine z_1 ?_|(refine z_l ?_;(repeat first|exact z_0|assumption|refine z_1 ?_);done)|refine z_r ?_);done)) (take_get (hxo (k) xo hko) (j := 0) rfl) ⟨rfl, rfl⟩) ?_
              refine js_S rfl rfl (.inr ⟨_, _, rfl, rfl⟩) (xv_move rfl ⟨rfl, rfl⟩) ?_
              refine js_S rfl rfl (.inr ⟨_, _, rfl, rfl⟩) (xv_sub rfl rfl (wrap_i64 (by (first | omega | (dsimp only at *; omega) | (simp at *; omega))) (by (first | omega | (dsimp only at *; omega) | (simp at *; omega)))) ⟨rfl, rfl⟩) ?_
              refine js_S rfl rfl (.inr ⟨_, _, rfl, rfl⟩) (xv_faddr fl59_2 rfl ⟨rfl, rfl⟩) ?_
              refine js_R0 rfl rfl (.inr ⟨_, _, rfl, rfl⟩) (xv_load1 ty3 rfl rfl (by ((repeat first|exact z_0|assumption|refine z_1 ?_|(refine z_l ?_;(repeat first|exact z_0|assumption|refine z_1 ?_);done)|refine z_r ?_);done)) (by rfl) ⟨rfl, rfl⟩) ?_
              refine js_S rfl rfl (.inr ⟨_, _, rfl, rfl⟩) (xv_faddr fl59_2 rfl ⟨rfl, rfl⟩) ?_
              refine js_R0 rfl rfl (.inr ⟨_, _, rfl, rfl⟩) (xv_load1 ty3 rfl rfl (by ((repeat first|exact z_0|assumption|refine z_1 ?_|(refine z_l ?_;(repeat first|exact z_0|assumption|refine z_1 ?_);done)|refine z_r ?_);done)) (by rfl) ⟨rfl, rfl⟩) ?_
              refine js_S rfl rfl (.inr ⟨_, _, rfl, rfl⟩) (xv_sub rfl rfl (wrap_i64 (by (first | omega | (dsimp only at *; omega) | (simp at *; omega))) (by (first | omega | (dsimp only at *; omega) | (simp at *; omega)))) ⟨rfl, rfl⟩) ?_
              refine js_S rfl rfl (.inr ⟨_, _, rfl, rfl⟩) (xv_move rfl ⟨rfl, rfl⟩) ?_
              refine js_S rfl rfl (.inr ⟨_, _, rfl, rfl⟩) (xv_add rfl rfl (wrap_i64 (by (first | omega | (dsimp only at *; omega) | (simp at *; omega))) (by (first | omega | (dsimp only at *; omega) | (simp at *; omega)))) ⟨rfl, rfl⟩) ?_
              refine js_S rfl rfl (.inr ⟨_, _, rfl, rfl⟩) (xv_move rfl ⟨rfl, rfl⟩) ?_
              refine js_S rfl rfl (.inr ⟨_, _, rfl, rfl⟩) (xv_rem (c := leastF (dialAt r.dials house) xp xq) rfl rfl (by omega) (Int.tmod_eq_emod_of_nonneg (by omega)) ⟨rfl, rfl⟩) ?_
              refine js_S rfl rfl (.inr ⟨_, _, rfl, rfl⟩) (xv_faddr fl45_1 rfl ⟨rfl, rfl⟩) ?_
              refine js_S rfl rfl (.inr ⟨_, _, rfl, rfl⟩) (xv_faddr fl38_0 rfl ⟨rfl, rfl⟩) ?_
              refine js_R0 rfl rfl (.inr ⟨_, _, rfl, rfl⟩) (xv_load1 ty3 rfl rfl (by ((repeat first|exact z_0|assumption|refine z_1 ?_|(refine z_l ?_;(repeat first|exact z_0|assumption|refine z_1 ?_);done)|refine z_r ?_);done)) (by rfl) ⟨rfl, rfl⟩) ?_
              refine js_S rfl rfl (.inr ⟨_, _, rfl, rfl⟩) (xv_move rfl ⟨rfl, rfl⟩) ?_
              refine js_S rfl rfl (.inr ⟨_, _, rfl, rfl⟩) (xv_mul rfl rfl (wrap_i64 (by (first | omega | (dsimp only at *; omega) | (simp at *; omega))) (by (first | omega | (dsimp only at *; omega) | (simp at *; omega)))) ⟨rfl, rfl⟩) ?_
              have hxlo := hE.xlo hst
              have hxhi := hE.xhi hst
              refine js_S rfl rfl (.inr ⟨_, _, rfl, rfl⟩) (xv_max rfl rfl rfl ⟨rfl, rfl⟩) ?_
              refine js_S rfl rfl (.inr ⟨_, _, rfl, rfl⟩) (xv_cmpK rfl rfl (cmpF rfl (by simp only [cmpP]; (first | omega | (dsimp only at *; omega) | (simp at *; omega)))) ⟨rfl, rfl⟩) ?_
              refine js_S rfl rfl (.inr ⟨_, _, rfl, rfl⟩) (xv_move rfl ⟨rfl, rfl⟩) ?_
              refine js_S rfl rfl (.inr ⟨_, _, rfl, rfl⟩) (xv_move rfl ⟨rfl, rfl⟩) ?_
              refine js_S rfl rfl (.inr ⟨_, _, rfl, rfl⟩) (xv_move rfl ⟨rfl, rfl⟩) ?_
              refine js_S rfl rfl (.inr ⟨_, _, rfl, rfl⟩) (xv_ia (sz := 2) (j := k) sl28 ty38 rfl (by rw [hao]; rfl) rfl (by (first | assumption | with_reducible exact Int.toNat_natCast _ | with_reducible rfl | rfl)) (by (first | omega | (dsimp only at *; omega) | (simp at *; omega))) (by (first | omega | (dsimp only at *; omega) | (simp at *; omega))) ⟨rfl, rfl⟩) ?_
              refine js_S rfl rfl (.inr ⟨_, _, rfl, rfl⟩) (xv_faddr fl38_1 rfl ⟨rfl, rfl⟩) ?_
              refine js_R0 rfl rfl (.inr ⟨_, _, rfl, rfl⟩) (xv_load1 ty3 rfl rfl (by ((repeat first|exact z_0|assumption|refine z_1 ?_|(refine z_l ?_;(repeat first|exact z_0|assumption|refine z_1 ?_);done)|refine z_r ?_);done)) (take_get (hxo (k) xo hko) (j := 1) rfl) ⟨rfl, rfl⟩) ?_
              refine js_S rfl rfl (.inr ⟨_, _, rfl, rfl⟩) (xv_move rfl ⟨rfl, rfl⟩) ?_
              refine js_S rfl rfl (.inr ⟨_, _, rfl, rfl⟩) (xv_add rfl rfl (wrap_i64 (by (first | omega | (dsimp only at *; omega) | (simp at *; omega))) (by (first | omega | (dsimp only at *; omega) | (simp at *; omega)))) ⟨rfl, rfl⟩) ?_
              refine js_S rfl rfl (.inr ⟨_, _, rfl, rfl⟩) (xv_faddr fl45_1 rfl ⟨rfl, rfl⟩) ?_
              refine js_S rfl rfl (.inr ⟨_, _, rfl, rfl⟩) (xv_faddr fl38_1 rfl ⟨rfl, rfl⟩) ?_
              refine js_R0 rfl rfl (.inr ⟨_, _, rfl, rfl⟩) (xv_load1 ty3 rfl rfl (by ((repeat first|exact z_0|assumption|refine z_1 ?_|(refine z_l ?_;(repeat first|exact z_0|assumption|refine z_1 ?_);done)|refine z_r ?_);done)) (by rfl) ⟨rfl, rfl⟩) ?_
              refine js_S rfl rfl (.inr ⟨_, _, rfl, rfl⟩) (xv_move rfl ⟨rfl, rfl⟩) ?_
              refine js_S rfl rfl (.inr ⟨_, _, rfl, rfl⟩) (xv_mul rfl rfl (wrap_i64 (by (first | omega | (dsimp only at *; omega) | (simp at *; omega))) (by (first | omega | (dsimp only at *; omega) | (simp at *; omega)))) ⟨rfl, rfl⟩) ?_
              refine js_S rfl rfl (.inr ⟨_, _, rfl, rfl⟩) (xv_cmpK rfl rfl (cmpF rfl (by simp only [cmpP]; (first | omega | (dsimp only at *; omega) | (simp at *; omega)))) ⟨rfl, rfl⟩) ?_
              refine js_S rfl rfl (.inr ⟨_, _, rfl, rfl⟩) (xv_pick rfl rfl ⟨rfl, rfl⟩) ?_
              refine js_S rfl rfl (.inl rfl) (xv_pick rfl rfl ⟨rfl, rfl⟩) ?_
              refine js_S rfl rfl (.inl rfl) (xv_move rfl ⟨rfl, rfl⟩) ?_
              refine js_S rfl rfl (.inr ⟨_, _, rfl, rfl⟩) (xv_faddr fl45_2 rfl ⟨rfl, rfl⟩) ?_
              refine js_R0 rfl rfl (.inr ⟨_, _, rfl, rfl⟩) (xv_load1 (v := .bool false) ty4 rfl rfl (by ((repeat first|exact z_0|assumption|refine z_1 ?_|(refine z_l ?_;(repeat first|exact z_0|assumption|refine z_1 ?_);done)|refine z_r ?_);done)) (by first | exact congrArg (fun x => some (Value.bool x)) hst | rfl) ⟨rfl, rfl⟩) ?_
              refine js_S rfl rfl (.inr ⟨_, _, rfl, rfl⟩) (xv_move rfl ⟨rfl, rfl⟩) ?_
              refine js_Rs rfl rfl ⟨_, _, _, rfl, rfl, rfl⟩ ?_
              refine js_Rs rfl rfl ⟨_, _, _, rfl, rfl, rfl⟩ ?_
              refine js_Rs rfl rfl ⟨_, _, _, rfl, rfl, rfl⟩ ?_
              refine js_Ss rfl rfl ⟨_, _, _, rfl, rfl, rfl⟩ ?_
              refine js_Ss rfl rfl ⟨_, _, _, rfl, rfl, rfl⟩ ?_
              refine js_Ss rfl rfl ⟨_, _, _, rfl, rfl, rfl⟩ ?_
              refine js_Ss rfl rfl ⟨_, _, _, rfl, rfl, rfl⟩ ?_
              refine js_Rs rfl rfl ⟨_, _, _, rfl, rfl, rfl⟩ ?_
              refine js_Ss rfl rfl ⟨_, _, _, rfl, rfl, rfl⟩ ?_
              refine js_Os rfl rfl ⟨_, _, _, rfl, rfl, rfl⟩ ?_
              refine js_Ss rfl rfl ⟨_, _, _, rfl, rfl, rfl⟩ ?_
              refine js_Rs rfl rfl ⟨_, _, _, rfl, rfl, rfl⟩ ?_
              refine js_Rs rfl rfl ⟨_, _, _, rfl, rfl, rfl⟩ ?_
              refine js_Rs rfl rfl ⟨_, _, _, rfl, rfl, rfl⟩ ?_
              refine js_Ss rfl rfl ⟨_, _, _, rfl, rfl, rfl⟩ ?_
              refine js_Ss rfl rfl ⟨_, _, _, rfl, rfl, rfl⟩ ?_
              refine js_Ss rfl rfl ⟨_, _, _, rfl, rfl, rfl⟩ ?_
              refine js_Ss rfl rfl ⟨_, _, _, rfl, rfl, rfl⟩ ?_
              refine js_Rs rfl rfl ⟨_, _, _, rfl, rfl, rfl⟩ ?_
              refine js_Ss rfl rfl ⟨_, _, _, rfl, rfl, rfl⟩ ?_
              refine js_Os rfl rfl ⟨_, _, _, rfl, rfl, rfl⟩ ?_
              refine js_Ss rfl rfl ⟨_, _, _, rfl, rfl, rfl⟩ ?_
              refine js_S rfl rfl (.inr ⟨_, _, rfl, rfl⟩) (xv_pick rfl rfl ⟨rfl, rfl⟩) ?_
              refine js_S rfl rfl (.inl rfl) (xv_pick rfl rfl ⟨rfl, rfl⟩) ?_
              refine j_end0 ?_
              refine th_n ?_
              refine xc_false rfl ?_
              refine xc_skip ?_
              exact jn_n () trivial (le_put (le_put (le_put (le_put (le_put (le_put (le_put (le_put (le_put (le_emp _) rfl) rfl) rfl) rfl) rfl) rfl) rfl) rfl) rfl) (by (first|((repeat first|exact s_0|exact s_1|exact s_3|refine s_4 ?_|refine s_5 ?_|refine s_6 ?_|refine s_7 ?_);done)|((repeat first|exact s_0|exact s_1|exact s_3|refine s_4 ?_|refine s_5 ?_|refine s_6 ?_|refine s_8 ?_);done)))
          · refine xr_end rfl ?_
            refine th_n ?_
            refine xc_false rfl ?_
            refine xc_skip ?_
            exact jn_n () trivial (le_put (le_put (le_put (le_put (le_put (le_put (le_put (le_put (le_put (le_emp _) rfl) rfl) rfl) rfl) rfl) rfl) rfl) rfl) rfl) (by (first|((repeat first|exact s_0|exact s_1|exact s_3|refine s_4 ?_|refine s_5 ?_|refine s_6 ?_|refine s_7 ?_);done)|((repeat first|exact s_0|exact s_1|exact s_3|refine s_4 ?_|refine s_5 ?_|refine s_6 ?_|refine s_8 ?_);done)))
        · rintro _u _i
          refine xc_seq ?_
          refine xc_seq (xc_region ?_)
          rcases hg9 with ⟨hee, hgs, hbad⟩ | ⟨hee, hf0, hft, ht1, hgs⟩
          · refine xr_op rfl rfl (xv_move rfl ?_)
            refine xr_op rfl rfl (xv_neqT rfl rfl hee ?_)
            refine xr_end rfl ?_
            refine th_n ?_
            refine xc_true rfl ?_
            refine xc_seq (xc_region ?_)
            refine xr_op rfl rfl (xv_loadA ty38 rfl rfl (by ((repeat first|exact z_0|assumption|refine z_1 ?_|(refine z_l ?_;(repeat first|exact z_0|assumption|refine z_1 ?_);done)|refine z_r ?_);done)) (by ((try apply evl_some rfl);(repeat (first|exact (rfl : _ = [])|apply evl_cons rfl (by (first|exact v_1|exact v_2|exact v_3|exact v_4|exact v_5|exact v_6|exact v_7|exact v_8|exact v_9|exact rfl))|exact rfl)))) (by rfl) ?_)
            refine xr_op rfl rfl (xv_build bt38 rfl (by ((try apply evl_some rfl);(repeat (first|exact (rfl : _ = [])|apply evl_cons rfl (by (first|exact v_1|exact v_2|exact v_3|exact v_4|exact v_5|exact v_6|exact v_7|exact v_8|exact v_9|exact rfl))|exact rfl)))) ?_)
            refine xr_op rfl rfl (xv_eqA (b := true) fq38 rfl eg38 rfl rfl rfl rfl (by ((repeat' first | assumption | exact numNil | refine numCons ?_ | refine numApp ?_ ?_); done)) (by ((repeat' first | assumption | exact numNil | refine numCons ?_ | refine numApp ?_ ?_); done)) (by rw [hgs]; rfl) ?_)
            refine xr_op rfl rfl (xv_move rfl ?_)
            refine xr_gd rfl rfl rfl (xv_move rfl ?_)
            refine xr_gd rfl rfl rfl (xv_lss2 rfl rfl (fun q7 => ?_) (fun q7 => ?_))
            · refine xr_gd rfl rfl rfl (xv_move rfl ?_)
              refine xr_no rfl rfl rfl rfl ?_
              refine xr_no rfl rfl rfl rfl ?_
              refine xr_no rfl rfl rfl rfl ?_
              refine xr_gd rfl rfl rfl (xv_pick rfl rfl ?_)
              refine xr_gd rfl rfl rfl (xv_move rfl ?_)
              refine xr_no rfl rfl rfl rfl ?_
              refine xr_no rfl rfl rfl rfl ?_
              refine xr_gd rfl rfl rfl (xv_pick rfl rfl ?_)
              refine xr_op rfl rfl (xv_pick rfl rfl ?_)
              refine xr_op rfl rfl (xv_move rfl ?_)
              refine xr_gd rfl rfl rfl (xv_calls rfl hb10 (awake_c (hT.sub (by intro z hz; ((repeat first|exact z_0|assumption|refine z_1 ?_|(refine z_l ?_;(repeat first|exact z_0|assumption|refine z_1 ?_);done)|refine z_r ?_);done))) (up_ret ?_)))
              refine xr_op rfl rfl (xv_pick rfl rfl ?_)
              refine xr_op rfl rfl (xv_assign rfl ?_)
              refine xr_end rfl ?_
              refine th_n ?_
              refine xc_ret ?_
              refine th_r ?_
              refine body_ret (h' := h) rfl (ro_tmp rfl ro_nil) (by (first|((repeat first|exact s_0|exact s_1|exact s_3|refine s_4 ?_|refine s_5 ?_|refine s_6 ?_|refine s_7 ?_);done)|((repeat first|exact s_0|exact s_1|exact s_3|refine s_4 ?_|refine s_5 ?_|refine s_6 ?_|refine s_8 ?_);done))) ?_
              first | exact H | (exfalso; (first | omega | (dsimp only at *; omega) | (simp at *; omega)))
            · refine xr_gd rfl rfl rfl (xv_move rfl ?_)
              refine xr_gd rfl rfl rfl (xv_move rfl ?_)
              refine xr_gd rfl rfl rfl (xv_move rfl ?_)
              refine xr_gd rfl rfl rfl (xv_gtr2 rfl rfl (fun q8 => ?_) (fun q8 => ?_))
              · refine xr_gd rfl rfl rfl (xv_pick rfl rfl ?_)
                refine xr_gd rfl rfl rfl (xv_move rfl ?_)
                refine xr_no rfl rfl rfl rfl ?_
                refine xr_no rfl rfl rfl rfl ?_
                refine xr_gd rfl rfl rfl (xv_pick rfl rfl ?_)
                refine xr_op rfl rfl (xv_pick rfl rfl ?_)
                refine xr_op rfl rfl (xv_move rfl ?_)
                refine xr_gd rfl rfl rfl (xv_calls rfl hb10 (awake_c (hT.sub (by intro z hz; ((repeat first|exact z_0|assumption|refine z_1 ?_|(refine z_l ?_;(repeat first|exact z_0|assumption|refine z_1 ?_);done)|refine z_r ?_);done))) (up_ret ?_)))
                refine xr_op rfl rfl (xv_pick rfl rfl ?_)
                refine xr_op rfl rfl (xv_assign rfl ?_)
                refine xr_end rfl ?_
                refine th_n ?_
                refine xc_ret ?_
                refine th_r ?_
                refine body_ret (h' := h) rfl (ro_tmp rfl ro_nil) (by (first|((repeat first|exact s_0|exact s_1|exact s_3|refine s_4 ?_|refine s_5 ?_|refine s_6 ?_|refine s_7 ?_);done)|((repeat first|exact s_0|exact s_1|exact s_3|refine s_4 ?_|refine s_5 ?_|refine s_6 ?_|refine s_8 ?_);done))) ?_
                first | exact H | (exfalso; (first | omega | (dsimp only at *; omega) | (simp at *; omega)))
              · refine xr_gd rfl rfl rfl (xv_pick rfl rfl ?_)
                refine xr_gd rfl rfl rfl (xv_move rfl ?_)
                refine xr_gd rfl rfl rfl (xv_move rfl ?_)
                refine xr_gd rfl rfl rfl (xv_gtr2 rfl rfl (fun q9 => ?_) (fun q9 => ?_))
                · refine xr_gd rfl rfl rfl (xv_pick rfl rfl ?_)
                  refine xr_op rfl rfl (xv_pick rfl rfl ?_)
                  refine xr_op rfl rfl (xv_move rfl ?_)
                  refine xr_gd rfl rfl rfl (xv_calls rfl hb10 (awake_c (hT.sub (by intro z hz; ((repeat first|exact z_0|assumption|refine z_1 ?_|(refine z_l ?_;(repeat first|exact z_0|assumption|refine z_1 ?_);done)|refine z_r ?_);done))) (up_ret ?_)))
                  refine xr_op rfl rfl (xv_pick rfl rfl ?_)
                  refine xr_op rfl rfl (xv_assign rfl ?_)
                  refine xr_end rfl ?_
                  refine th_n ?_
                  refine xc_ret ?_
                  refine th_r ?_
                  refine body_ret (h' := h) rfl (ro_tmp rfl ro_nil) (by (first|((repeat first|exact s_0|exact s_1|exact s_3|refine s_4 ?_|refine s_5 ?_|refine s_6 ?_|refine s_7 ?_);done)|((repeat first|exact s_0|exact s_1|exact s_3|refine s_4 ?_|refine s_5 ?_|refine s_6 ?_|refine s_8 ?_);done))) ?_
                  first | exact H | (exfalso; (first | omega | (dsimp only at *; omega) | (simp at *; omega)))
                · refine xr_gd rfl rfl rfl (xv_pick rfl rfl ?_)
                  refine xr_op rfl rfl (xv_pick rfl rfl ?_)
                  refine xr_op rfl rfl (xv_move rfl ?_)
                  refine xr_no rfl rfl rfl rfl ?_
                  refine xr_op rfl rfl (xv_pick rfl rfl ?_)
                  refine xr_op rfl rfl (xv_assign rfl ?_)
                  refine xr_end rfl ?_
                  refine th_n ?_
                  refine xc_ret ?_
                  refine th_r ?_
                  refine body_ret (h' := h) rfl (ro_tmp rfl ro_nil) (by (first|((repeat first|exact s_0|exact s_1|exact s_3|refine s_4 ?_|refine s_5 ?_|refine s_6 ?_|refine s_7 ?_);done)|((repeat first|exact s_0|exact s_1|exact s_3|refine s_4 ?_|refine s_5 ?_|refine s_6 ?_|refine s_8 ?_);done))) ?_
                  first | exact H | (exfalso; (first | omega | (dsimp only at *; omega) | (simp at *; omega)))
          · refine xr_op rfl rfl (xv_move rfl ?_)
            refine xr_op rfl rfl (xv_neqF rfl rfl hee ?_)
            refine xr_end rfl ?_
            refine th_n ?_
            refine xc_false rfl ?_
            refine xc_skip ?_
            refine th_n ?_
            refine xc_seq (xc_region ?_)
            refine xr_op rfl rfl (xv_build bt38 rfl (by ((try apply evl_some rfl);(repeat (first|exact (rfl : _ = [])|apply evl_cons rfl (by (first|exact v_1|exact v_2|exact v_3|exact v_4|exact v_5|exact v_6|exact v_7|exact v_8|exact v_9|exact rfl))|exact rfl)))) ?_)
            refine xr_op rfl rfl (xv_alloc ty38 (fun bw hbw => ?_))
            refine xr_op rfl rfl (xv_s ty38 rfl rfl (by (first|(apply u_3;(repeat first|exact u_0|assumption|apply u_1|apply u_2);done)|((repeat first|exact u_0|assumption|apply u_1|apply u_2);done)|(apply u_3;apply u_3;(repeat first|exact u_0|assumption|apply u_1|apply u_2);done)|((repeat first|exact u_0|assumption|apply u_3|apply u_1);done))) (by ((try apply evl_some rfl);(repeat (first|exact (rfl : _ = [])|apply evl_cons rfl (by (first|exact v_1|exact v_2|exact v_3|exact v_4|exact v_5|exact v_6|exact v_7|exact v_8|exact v_9|exact rfl))|exact rfl)))) (by rfl) (by rfl) (by rfl) (by ((try apply evl_some rfl);(repeat (first|exact (rfl : _ = [])|apply evl_cons rfl (by (first|exact v_1|exact v_2|exact v_3|exact v_4|exact v_5|exact v_6|exact v_7|exact v_8|exact v_9|exact rfl))|exact rfl)))) ?_)
            refine xr_end rfl ?_
            refine th_n ?_
            refine xc_seq ?_
            refine xc_seq (xc_region ?_)
            refine xr_op rfl rfl (xv_assign rfl ?_)
            refine xr_end rfl ?_
            refine th_n ?_
            refine xc_block ?_
            refine xc_loop (σ := Nat) (fun k => k ≤ out.length) (fun k => ((((((((((emp.put (some 1) (I house)).put (some 2) (I f)).put (some 3) (I t)).put (some 5) (.pointer (some ⟨b5, 0, none⟩))).put (some 11) (.slice oa out.length oc)).put (some 13) (.pointer (some ⟨bg, 0, none⟩))).put (some 15) (.slice la l.length lc)).put (some 17) (.pointer (some ⟨bd, 0, none⟩))).put (some 23) (.pointer (some ⟨bw, 0, none⟩))).put (some 24) (I k))) (fun k => ((bw, .cells ⟨eSpan (sumS (out.take k))⟩ 38) :: ((bd, .cells ⟨eDial (dialAt r.dials house)⟩ 45) :: (ql ++ (bg, .cells ⟨eSpan gs⟩ 38) :: (qo ++ (b5, .cells ⟨eRnd r⟩ 25) :: h))))) (fun k => out.length - k) 0 (Nat.zero_le _) (le_put (le_put (le_put (le_put (le_put (le_put (le_put (le_put (le_put (le_put (le_emp _) rfl) rfl) rfl) rfl) rfl) rfl) rfl) rfl) rfl) rfl) (by (first|((repeat first|exact s_0|exact s_1|exact s_3|refine s_4 ?_|refine s_5 ?_|refine s_6 ?_|refine s_7 ?_);done)|((repeat first|exact s_0|exact s_1|exact s_3|refine s_4 ?_|refine s_5 ?_|refine s_6 ?_|refine s_8 ?_);done))) ?_
            rintro k hk
            refine xc_seq ?_
            refine xc_seq (xc_region ?_)
            refine xr_op rfl rfl (xv_move rfl ?_)
            refine xr_op rfl rfl (xv_move rfl ?_)
            refine xr_op rfl rfl (xv_len sl28 rfl ?_)
            refine xr_op rfl rfl (xv_lss2 rfl rfl (fun q10 => ?_) (fun q10 => ?_))
            · refine xr_end rfl ?_
              refine th_n ?_
              refine xc_true rfl ?_
              refine xc_skip ?_
              refine th_n ?_
              refine xc_seq ?_
              refine xc_block ?_
              refine xc_draw0 [(0, .S), (1, .R), (2, .S), (3, .S), (4, .S), (5, .S), (6, .R), (7, .S), (8, .S), (9, .R), (10, .S), (11, .S), (12, .S), (13, .S), (14, .R), (15, .S), (16, .O), (17, .O)] mixed (by kernel_rfl) ?_
              refine js_S rfl rfl (.inl rfl) (xv_faddr fl38_0 rfl ⟨rfl, rfl⟩) ?_
              refine js_R0 rfl rfl (.inl rfl) (xv_load1 ty3 rfl rfl (by ((repeat first|exact z_0|assumption|refine z_1 ?_|(refine z_l ?_;(repeat first|exact z_0|assumption|refine z_1 ?_);done)|refine z_r ?_);done)) (by rfl) ⟨rfl, rfl⟩) ?_
              refine js_S rfl rfl (.inl rfl) (xv_move rfl ⟨rfl, rfl⟩) ?_
              refine js_S rfl rfl (.inl rfl) (xv_move rfl ⟨rfl, rfl⟩) ?_
              have hlto : k < out.length := by (first | omega | (dsimp only at *; omega) | (simp at *; omega))
              obtain ⟨bo, oo, lo, to, fzo, hao, hmo, hxo⟩ := (so).at hlto
              obtain ⟨xo, hko⟩ : ∃ qq_, out[k]? = some qq_ := ⟨_, List.getElem?_eq_getElem hlto⟩
              have hbk := sumS_bd (B := 1000000000000) (by omega) (out.take k) (fun y hy => by have := outs_bd hdo hri hro hps y (List.mem_of_mem_take hy); omega)
              have hbx := out_at hdo hri hro hps hko
              rw [List.length_take, Nat.min_eq_left hk] at hbk
              refine js_S rfl rfl (.inl rfl) (xv_ia (sz := 2) (j := k) sl28 ty38 rfl (by rw [hao]; rfl) rfl (by (first | assumption | with_reducible exact Int.toNat_natCast _ | with_reducible rfl | rfl)) (by (first | omega | (dsimp only at *; omega) | (simp at *; omega))) (by (first | omega | (dsimp only at *; omega) | (simp at *; omega))) ⟨rfl, rfl⟩) ?_
              refine js_S rfl rfl (.inl rfl) (xv_faddr fl38_0 rfl ⟨rfl, rfl⟩) ?_
              refine js_R0 rfl rfl (.inl rfl) (xv_load1 ty3 rfl rfl (by ((repeat first|exact z_0|assumption|refine z_1 ?_|(refine z_l ?_;(repeat first|exact z_0|assumption|refine z_1 ?_);done)|refine z_r ?_);done)) (take_get (hxo (k) xo hko) (j := 0) rfl) ⟨rfl, rfl⟩) ?_
              refine js_S rfl rfl (.inl rfl) (xv_add rfl rfl (wrap_i64 (by (first | omega | (dsimp only at *; omega) | (simp at *; omega))) (by (first | omega | (dsimp only at *; omega) | (simp at *; omega)))) ⟨rfl, rfl⟩) ?_
              refine js_S rfl rfl (.inl rfl) (xv_faddr fl38_1 rfl ⟨rfl, rfl⟩) ?_
              refine js_R0 rfl rfl (.inl rfl) (xv_load1 ty3 rfl rfl (by ((repeat first|exact z_0|assumption|refine z_1 ?_|(refine z_l ?_;(repeat first|exact z_0|assumption|refine z_1 ?_);done)|refine z_r ?_);done)) (by rfl) ⟨rfl, rfl⟩) ?_
              refine js_S rfl rfl (.inl rfl) (xv_move rfl ⟨rfl, rfl⟩) ?_
              refine js_S rfl rfl (.inl rfl) (xv_move rfl ⟨rfl, rfl⟩) ?_
              refine js_S rfl rfl (.inl rfl) (xv_ia (sz := 2) (j := k) sl28 ty38 rfl (by rw [hao]; rfl) rfl (by (first | assumption | with_reducible exact Int.toNat_natCast _ | with_reducible rfl | rfl)) (by (first | omega | (dsimp only at *; omega) | (simp at *; omega))) (by (first | omega | (dsimp only at *; omega) | (simp at *; omega))) ⟨rfl, rfl⟩) ?_
              refine js_S rfl rfl (.inl rfl) (xv_faddr fl38_1 rfl ⟨rfl, rfl⟩) ?_
              refine js_R0 rfl rfl (.inl rfl) (xv_load1 ty3 rfl rfl (by ((repeat first|exact z_0|assumption|refine z_1 ?_|(refine z_l ?_;(repeat first|exact z_0|assumption|refine z_1 ?_);done)|refine z_r ?_);done)) (take_get (hxo (k) xo hko) (j := 1) rfl) ⟨rfl, rfl⟩) ?_
              refine js_S rfl rfl (.inl rfl) (xv_add rfl rfl (wrap_i64 (by (first | omega | (dsimp only at *; omega) | (simp at *; omega))) (by (first | omega | (dsimp only at *; omega) | (simp at *; omega)))) ⟨rfl, rfl⟩) ?_
              refine js_O0 rfl rfl (.inl rfl) (xv_calls rfl hb30 (span_c _ _ (up_ret ?_)))
              refine js_O0 rfl rfl (.inl rfl) (xv_s ty38 rfl rfl (by (first|(apply u_3;(repeat first|exact u_0|assumption|apply u_1|apply u_2);done)|((repeat first|exact u_0|assumption|apply u_1|apply u_2);done)|(apply u_3;apply u_3;(repeat first|exact u_0|assumption|apply u_1|apply u_2);done)|((repeat first|exact u_0|assumption|apply u_3|apply u_1);done))) (by ((try apply evl_some rfl);(repeat (first|exact (rfl : _ = [])|apply evl_cons rfl (by (first|exact v_1|exact v_2|exact v_3|exact v_4|exact v_5|exact v_6|exact v_7|exact v_8|exact v_9|exact rfl))|exact rfl)))) (by rfl) (by rfl) (by rfl) (by ((try apply evl_some rfl);(repeat (first|exact (rfl : _ = [])|apply evl_cons rfl (by (first|exact v_1|exact v_2|exact v_3|exact v_4|exact v_5|exact v_6|exact v_7|exact v_8|exact v_9|exact rfl))|exact rfl)))) ?_)
              refine j_end0 ?_
              refine bk_n ?_
              refine th_n ?_
              refine xc_region ?_
              refine xr_op rfl rfl (xv_move rfl ?_)
              refine xr_op rfl rfl (xv_add rfl rfl (wrap_i64 (by (first | omega | (dsimp only at *; omega) | (simp at *; omega))) (by (first | omega | (dsimp only at *; omega) | (simp at *; omega)))) ?_)
              refine xr_op rfl rfl (xv_assign rfl ?_)
              refine xr_end rfl ?_
              have es : eSpan (sumS (out.take (k + 1))) = [I ((sumS (out.take k)).lo + xo.lo), I ((sumS (out.take k)).hi + xo.hi)] := by rw [List.take_add_one, hko, show (some xo).toList = [xo] from rfl, sumS_snoc]; rfl
              exact rnd (k + 1) (by (first | omega | (dsimp only at *; omega) | (simp at *; omega))) (by (first | omega | (dsimp only at *; omega) | (simp at *; omega))) (le_put (le_put (le_put (le_put (le_put (le_put (le_put (le_put (le_put (le_put (le_emp _) rfl) rfl) rfl) rfl) rfl) rfl) rfl) rfl) rfl) rfl) (by rw [es]; (first|((repeat first|exact s_0|exact s_1|exact s_3|refine s_4 ?_|refine s_5 ?_|refine s_6 ?_|refine s_7 ?_);done)|((repeat first|exact s_0|exact s_1|exact s_3|refine s_4 ?_|refine s_5 ?_|refine s_6 ?_|refine s_8 ?_);done)))
            · refine xr_end rfl ?_
              refine th_n ?_
              refine xc_false rfl ?_
              refine xc_exit ?_
              refine th_x ?_
              refine th_x ?_
              refine bk_same ?_
              refine th_n ?_
              refine xc_join (σ := Unit) (fun _u => True) (fun _u => ((((((((emp.put (some 1) (I house)).put (some 2) (I f)).put (some 3) (I t)).put (some 5) (.pointer (some ⟨b5, 0, none⟩))).put (some 11) (.slice oa out.length oc)).put (some 13) (.pointer (some ⟨bg, 0, none⟩))).put (some 15) (.slice la l.length lc)).put (some 17) (.pointer (some ⟨bd, 0, none⟩)))) (fun _u => ((bd, .cells ⟨eDial (dialAt r.dials house)⟩ 45) :: (ql ++ (bg, .cells ⟨eSpan gs⟩ 38) :: (qo ++ (b5, .cells ⟨eRnd r⟩ 25) :: h)))) ?_ ?_
              · refine xc_seq (xc_region ?_)
                obtain rfl : k = out.length := by (first | omega | (dsimp only at *; omega) | (simp at *; omega))
                rw [List.take_length]
                refine xr_op rfl rfl (xv_move rfl ?_)
                refine xr_op rfl rfl (xv_len sl23 rfl ?_)
                refine xr_op rfl rfl (xv_gtr2 rfl rfl (fun q11 => ?_) (fun q11 => ?_))
                · refine xr_end rfl ?_
                  refine th_n ?_
                  refine xc_true rfl ?_
                  refine xc_seq ?_
                  refine xc_draw0 [(0, .R), (1, .S), (2, .S), (3, .S), (4, .S), (5, .R), (6, .S), (7, .S), (8, .S), (9, .S), (10, .S), (11, .S), (12, .R), (17, .P), (13, .O), (14, .S), (15, .S), (16, .S), (17, .A), (18, .O), (19, .S)] mixed (by kernel_rfl) ?_
                  refine js_R0 rfl rfl (.inl rfl) (xv_loadA ty25 rfl rfl (by ((repeat first|exact z_0|assumption|refine z_1 ?_|(refine z_l ?_;(repeat first|exact z_0|assumption|refine z_1 ?_);done)|refine z_r ?_);done)) (by ((try apply evl_some rfl);(repeat (first|exact (rfl : _ = [])|apply evl_cons rfl (by (first|exact v_1|exact v_2|exact v_3|exact v_4|exact v_5|exact v_6|exact v_7|exact v_8|exact v_9|exact rfl))|exact rfl)))) (by rfl) ⟨rfl, rfl⟩) ?_
                  refine js_S rfl rfl (.inl rfl) (xv_move rfl ⟨rfl, rfl⟩) ?_
                  refine js_S rfl rfl (.inl rfl) (xv_move rfl ⟨rfl, rfl⟩) ?_
                  have hltp : 0 < l.length := by (first | omega | (dsimp only at *; omega) | (simp at *; omega))
                  obtain ⟨bp, op, lp, tp, fzp, hap, hmp, hxp⟩ := (hG).at hltp
                  obtain ⟨xp, hkp⟩ : ∃ qq_, l[0]? = some qq_ := ⟨_, List.getElem?_eq_getElem hltp⟩
                  have hltq : (l.length - 1) < l.length := by (first | omega | (dsimp only at *; omega) | (simp at *; omega))
                  obtain ⟨bq, oq, lq, tq, fzq, haq, hmq, hxq⟩ := (hG).at hltq
                  obtain ⟨xq, hkq⟩ : ∃ qq_, l[(l.length - 1)]? = some qq_ := ⟨_, List.getElem?_eq_getElem hltq⟩
                  have hgz : gasAns r house xp.hour xq.hour = (sumS out, 0) := by
                    have hop1 := (hro xp (List.mem_of_getElem? hkp)).1
                    have hoq1 := (hro xq (List.mem_of_getElem? hkq)).1
                    unfold hourOk at hop1 hoq1
                    have hpq := hri.get (show 0 < l.length - 1 by (first | omega | (dsimp only at *; omega) | (simp at *; omega))) hkp hkq
                    rw [gas_ok hgood hho hrs hps hop1.1 (Int.le_of_lt hpq) hoq1.2, gas_full hdo hri hps hkp hkq]
                  refine js_S rfl rfl (.inl rfl) (xv_ia (sz := 3) (j := 0) sl23 ty59 rfl (by rw [hap]; rfl) rfl (by (first | omega | (dsimp only at *; omega) | (simp at *; omega))) (by (first | omega | (dsimp only at *; omega) | (simp at *; omega))) (by (first | omega | (dsimp only at *; omega) | (simp at *; omega))) ⟨rfl, rfl⟩) ?_
                  refine js_S rfl rfl (.inl rfl) (xv_faddr fl59_1 rfl ⟨rfl, rfl⟩) ?_
                  refine js_R0 rfl rfl (.inl rfl) (xv_load1 ty3 rfl rfl (by ((repeat first|exact z_0|assumption|refine z_1 ?_|(refine z_l ?_;(repeat first|exact z_0|assumption|refine z_1 ?_);done)|refine z_r ?_);done)) (take_get (hxp (0) xp hkp) (j := 1) rfl) ⟨rfl, rfl⟩) ?_
                  refine js_S rfl rfl (.inl rfl) (xv_move rfl ⟨rfl, rfl⟩) ?_
                  refine js_S rfl rfl (.inl rfl) (xv_move rfl ⟨rfl, rfl⟩) ?_
                  refine js_S rfl rfl (.inl rfl) (xv_len sl23 rfl ⟨rfl, rfl⟩) ?_
                  refine js_S rfl rfl (.inl rfl) (xv_sub rfl rfl (wrap_i64 (by (first | omega | (dsimp only at *; omega) | (simp at *; omega))) (by (first | omega | (dsimp only at *; omega) | (simp at *; omega)))) ⟨rfl, rfl⟩) ?_
                  refine js_S rfl rfl (.inl rfl) (xv_ia (sz := 3) (j := l.length - 1) sl23 ty59 rfl (by rw [haq]; rfl) rfl (by (first | omega | (dsimp only at *; omega) | (simp at *; omega))) (by (first | omega | (dsimp only at *; omega) | (simp at *; omega))) (by (first | omega | (dsimp only at *; omega) | (simp at *; omega))) ⟨rfl, rfl⟩) ?_
                  refine js_S rfl rfl (.inl rfl) (xv_faddr fl59_1 rfl ⟨rfl, rfl⟩) ?_
                  refine js_R0 rfl rfl (.inl rfl) (xv_load1 ty3 rfl rfl (by ((repeat first|exact z_0|assumption|refine z_1 ?_|(refine z_l ?_;(repeat first|exact z_0|assumption|refine z_1 ?_);done)|refine z_r ?_);done)) (take_get (hxq (l.length - 1) xq hkq) (j := 1) rfl) ⟨rfl, rfl⟩) ?_
                  refine js_P rfl rfl rfl (al_alloc ty38) ?_
                  refine js_O0 rfl rfl (.inl rfl) (xv_calls rfl hb17 (GasE_c (hv.sub (by intro z hz; ((repeat first|exact z_0|assumption|refine z_1 ?_|(refine z_l ?_;(repeat first|exact z_0|assumption|refine z_1 ?_);done)|refine z_r ?_);done))) hs (hT.sub (by intro z hz; ((repeat first|exact z_0|assumption|refine z_1 ?_|(refine z_l ?_;(repeat first|exact z_0|assumption|refine z_1 ?_);done)|refine z_r ?_);done))) hgz (up_ret ?_)))
                  refine js_S rfl rfl (.inl rfl) (xv_move rfl ⟨rfl, rfl⟩) ?_
                  refine js_S rfl rfl (.inl rfl) (xv_extract rfl rfl ⟨rfl, rfl⟩) ?_
                  refine js_S rfl rfl (.inl rfl) (xv_extract rfl rfl ⟨rfl, rfl⟩) ?_
                  refine js_A0 rfl rfl rfl rfl rfl trivial (fun bz hbz => ?_)
                  refine js_O0 rfl rfl (.inl rfl) (xv_s ty38 rfl rfl (by (first|(apply u_3;(repeat first|exact u_0|assumption|apply u_1|apply u_2);done)|((repeat first|exact u_0|assumption|apply u_1|apply u_2);done)|(apply u_3;apply u_3;(repeat first|exact u_0|assumption|apply u_1|apply u_2);done)|((repeat first|exact u_0|assumption|apply u_3|apply u_1);done))) (by ((try apply evl_some rfl);(repeat (first|exact (rfl : _ = [])|apply evl_cons rfl (by (first|exact v_1|exact v_2|exact v_3|exact v_4|exact v_5|exact v_6|exact v_7|exact v_8|exact v_9|exact rfl))|exact rfl)))) (by rfl) (by rfl) (by rfl) (by ((try apply evl_some rfl);(repeat (first|exact (rfl : _ = [])|apply evl_cons rfl (by (first|exact v_1|exact v_2|exact v_3|exact v_4|exact v_5|exact v_6|exact v_7|exact v_8|exact v_9|exact rfl))|exact rfl)))) ?_)
                  refine js_S rfl rfl (.inl rfl) (xv_assign rfl ⟨rfl, rfl⟩) ?_
                  refine j_end0 ?_
                  refine th_n ?_
                  refine xc_seq (xc_region ?_)
                  refine xr_op rfl rfl (xv_move rfl ?_)
                  refine xr_op rfl rfl (xv_neqF rfl rfl rfl ?_)
                  refine xr_op rfl rfl (xv_move rfl ?_)
                  refine xr_gd rfl rfl rfl (xv_loadA ty38 rfl rfl (by ((repeat first|exact z_0|assumption|refine z_1 ?_|(refine z_l ?_;(repeat first|exact z_0|assumption|refine z_1 ?_);done)|refine z_r ?_);done)) (by ((try apply evl_some rfl);(repeat (first|exact (rfl : _ = [])|apply evl_cons rfl (by (first|exact v_1|exact v_2|exact v_3|exact v_4|exact v_5|exact v_6|exact v_7|exact v_8|exact v_9|exact rfl))|exact rfl)))) (by rfl) ?_)
                  refine xr_gd rfl rfl rfl (xv_loadA ty38 rfl rfl (by ((repeat first|exact z_0|assumption|refine z_1 ?_|(refine z_l ?_;(repeat first|exact z_0|assumption|refine z_1 ?_);done)|refine z_r ?_);done)) (by ((try apply evl_some rfl);(repeat (first|exact (rfl : _ = [])|apply evl_cons rfl (by (first|exact v_1|exact v_2|exact v_3|exact v_4|exact v_5|exact v_6|exact v_7|exact v_8|exact v_9|exact rfl))|exact rfl)))) (by rfl) ?_)
                  refine xr_gd rfl rfl rfl (xv_neA (b := false) fq38 rfl eg38 rfl rfl rfl rfl (by ((repeat' first | assumption | exact numNil | refine numCons ?_ | refine numApp ?_ ?_); done)) (by ((repeat' first | assumption | exact numNil | refine numCons ?_ | refine numApp ?_ ?_); done)) (by rw [eqc_self (by ((repeat' first | assumption | exact numNil | refine numCons ?_ | refine numApp ?_ ?_); done))]; rfl) ?_)
                  refine xr_op rfl rfl (xv_pick rfl rfl ?_)
                  refine xr_end rfl ?_
                  refine th_n ?_
                  refine xc_false rfl ?_
                  refine xc_skip ?_
                  exact jn_n () trivial (le_put (le_put (le_put (le_put (le_put (le_put (le_put (le_put (le_emp _) rfl) rfl) rfl) rfl) rfl) rfl) rfl) rfl) (by (first|((repeat first|exact s_0|exact s_1|exact s_3|refine s_4 ?_|refine s_5 ?_|refine s_6 ?_|refine s_7 ?_);done)|((repeat first|exact s_0|exact s_1|exact s_3|refine s_4 ?_|refine s_5 ?_|refine s_6 ?_|refine s_8 ?_);done)))
                · refine xr_end rfl ?_
                  refine th_n ?_
                  refine xc_false rfl ?_
                  refine xc_skip ?_
                  exact jn_n () trivial (le_put (le_put (le_put (le_put (le_put (le_put (le_put (le_put (le_emp _) rfl) rfl) rfl) rfl) rfl) rfl) rfl) rfl) (by (first|((repeat first|exact s_0|exact s_1|exact s_3|refine s_4 ?_|refine s_5 ?_|refine s_6 ?_|refine s_7 ?_);done)|((repeat first|exact s_0|exact s_1|exact s_3|refine s_4 ?_|refine s_5 ?_|refine s_6 ?_|refine s_8 ?_);done)))
              · rintro _u _i
                refine xc_seq (xc_region ?_)
                refine xr_op rfl rfl (xv_move rfl ?_)
                refine xr_op rfl rfl (xv_move rfl ?_)
                refine xr_op rfl rfl (xv_sub rfl rfl (wrap_i64 (by (first | omega | (dsimp only at *; omega) | (simp at *; omega))) (by (first | omega | (dsimp only at *; omega) | (simp at *; omega)))) ?_)
                refine xr_op rfl rfl (xv_assign rfl ?_)
                refine xr_end rfl ?_
                refine th_n ?_
                refine xc_seq ?_
                refine xc_seq (xc_region ?_)
                refine xr_op rfl rfl (xv_faddr fl38_0 rfl ?_)
                obtain ⟨y1, y2, y3⟩ := gas_in hdo hri hft hps
                rw [← hgs] at y1 y2 y3
                have m1 := mul_bdI (a := (dialAt r.dials house).rate.lo) (A := 10000) (x := t - f) (B := 1048576) (by have := hdo.2.2.1; have := hdo.2.2.2.1; omega) (by have := hdo.2.2.2.1; have := hdo.2.2.2.2; omega) (by omega) (by omega) (by omega)
                have m2 := mul_bdI (a := (dialAt r.dials house).rate.hi) (A := 10000) (x := t - f) (B := 1048576) (by have := hdo.2.2.1; have := hdo.2.2.2.1; omega) (by have := hdo.2.2.2.1; have := hdo.2.2.2.2; omega) (by omega) (by omega) (by omega)
                refine xr_op rfl rfl (xv_load1 ty3 rfl rfl (by ((repeat first|exact z_0|assumption|refine z_1 ?_|(refine z_l ?_;(repeat first|exact z_0|assumption|refine z_1 ?_);done)|refine z_r ?_);done)) (by rfl) ?_)
                refine xr_op rfl rfl (xv_faddr fl45_1 rfl ?_)
                refine xr_op rfl rfl (xv_faddr fl38_0 rfl ?_)
                refine xr_op rfl rfl (xv_load1 ty3 rfl rfl (by ((repeat first|exact z_0|assumption|refine z_1 ?_|(refine z_l ?_;(repeat first|exact z_0|assumption|refine z_1 ?_);done)|refine z_r ?_);done)) (by rfl) ?_)
                refine xr_op rfl rfl (xv_move rfl ?_)
                refine xr_op rfl rfl (xv_mul rfl rfl (wrap_i64 (by (first | omega | (dsimp only at *; omega) | (simp at *; omega))) (by (first | omega | (dsimp only at *; omega) | (simp at *; omega)))) ?_)
                refine xr_op rfl rfl (xv_cmpK rfl rfl (cmpF rfl (by simp only [cmpP]; (first | omega | (dsimp only at *; omega) | (simp at *; omega)))) ?_)
                refine xr_op rfl rfl (xv_move rfl ?_)
                refine xr_gd rfl rfl rfl (xv_faddr fl38_1 rfl ?_)
                refine xr_gd rfl rfl rfl (xv_load1 ty3 rfl rfl (by ((repeat first|exact z_0|assumption|refine z_1 ?_|(refine z_l ?_;(repeat first|exact z_0|assumption|refine z_1 ?_);done)|refine z_r ?_);done)) (by rfl) ?_)
                refine xr_gd rfl rfl rfl (xv_faddr fl45_1 rfl ?_)
                refine xr_gd rfl rfl rfl (xv_faddr fl38_1 rfl ?_)
                refine xr_gd rfl rfl rfl (xv_load1 ty3 rfl rfl (by ((repeat first|exact z_0|assumption|refine z_1 ?_|(refine z_l ?_;(repeat first|exact z_0|assumption|refine z_1 ?_);done)|refine z_r ?_);done)) (by rfl) ?_)
                refine xr_gd rfl rfl rfl (xv_move rfl ?_)
                refine xr_gd rfl rfl rfl (xv_mul rfl rfl (wrap_i64 (by (first | omega | (dsimp only at *; omega) | (simp at *; omega))) (by (first | omega | (dsimp only at *; omega) | (simp at *; omega)))) ?_)
                refine xr_gd rfl rfl rfl (xv_cmpK rfl rfl (cmpF rfl (by simp only [cmpP]; (first | omega | (dsimp only at *; omega) | (simp at *; omega)))) ?_)
                refine xr_op rfl rfl (xv_pick rfl rfl ?_)
                refine xr_op rfl rfl (xv_move rfl ?_)
                refine xr_gd rfl rfl rfl (xv_faddr fl38_0 rfl ?_)
                refine xr_gd rfl rfl rfl (xv_load1 ty3 rfl rfl (by ((repeat first|exact z_0|assumption|refine z_1 ?_|(refine z_l ?_;(repeat first|exact z_0|assumption|refine z_1 ?_);done)|refine z_r ?_);done)) (by rfl) ?_)
                refine xr_gd rfl rfl rfl (xv_faddr fl38_1 rfl ?_)
                refine xr_gd rfl rfl rfl (xv_load1 ty3 rfl rfl (by ((repeat first|exact z_0|assumption|refine z_1 ?_|(refine z_l ?_;(repeat first|exact z_0|assumption|refine z_1 ?_);done)|refine z_r ?_);done)) (by rfl) ?_)
                refine xr_gd rfl rfl rfl (xv_cmpK rfl rfl (cmpF rfl (by simp only [cmpP]; (first | omega | (dsimp only at *; omega) | (simp at *; omega)))) ?_)
                refine xr_op rfl rfl (xv_pick rfl rfl ?_)
                refine xr_op rfl rfl (xv_move rfl ?_)
                refine xr_gd rfl rfl rfl (xv_move rfl ?_)
                refine xr_gd rfl rfl rfl (xv_eql2 rfl rfl (fun q54 => ?_) (fun q54 => ?_))
                · refine xr_gd rfl rfl rfl (xv_move rfl ?_)
                  have hgz0 : gs = ⟨0, 0⟩ := by
                    have h9 : t = f := by (first | omega | (dsimp only at *; omega) | (simp at *; omega))
                    rw [hgs, h9]; exact gas_self hdo hri hps
                  refine xr_gd rfl rfl rfl (xv_loadA ty38 rfl rfl (by ((repeat first|exact z_0|assumption|refine z_1 ?_|(refine z_l ?_;(repeat first|exact z_0|assumption|refine z_1 ?_);done)|refine z_r ?_);done)) (by ((try apply evl_some rfl);(repeat (first|exact (rfl : _ = [])|apply evl_cons rfl (by (first|exact v_1|exact v_2|exact v_3|exact v_4|exact v_5|exact v_6|exact v_7|exact v_8|exact v_9|exact rfl))|exact rfl)))) (by rfl) ?_)
                  refine xr_gd rfl rfl rfl (xv_build bt38 rfl (by ((try apply evl_some rfl);(repeat (first|exact (rfl : _ = [])|apply evl_cons rfl (by (first|exact v_1|exact v_2|exact v_3|exact v_4|exact v_5|exact v_6|exact v_7|exact v_8|exact v_9|exact rfl))|exact rfl)))) ?_)
                  refine xr_gd rfl rfl rfl (xv_neA (b := false) fq38 rfl eg38 rfl rfl rfl rfl (by ((repeat' first | assumption | exact numNil | refine numCons ?_ | refine numApp ?_ ?_); done)) (by ((repeat' first | assumption | exact numNil | refine numCons ?_ | refine numApp ?_ ?_); done)) (by rw [hgz0]; rfl) ?_)
                  refine xr_gd rfl rfl rfl (xv_pick rfl rfl ?_)
                  refine xr_op rfl rfl (xv_pick rfl rfl ?_)
                  refine xr_end rfl ?_
                  refine th_n ?_
                  refine xc_false rfl ?_
                  refine xc_skip ?_
                  refine th_n ?_
                  refine xc_seq ?_
                  refine xc_seq (xc_region ?_)
                  refine xr_op rfl rfl (xv_assign rfl ?_)
                  refine xr_end rfl ?_
                  refine th_n ?_
                  refine xc_block ?_
                  refine xc_loop (σ := Nat) (fun i => i ≤ out.length) (fun i => ((((((((((emp.put (some 1) (I house)).put (some 2) (I f)).put (some 3) (I t)).put (some 5) (.pointer (some ⟨b5, 0, none⟩))).put (some 11) (.slice oa out.length oc)).put (some 13) (.pointer (some ⟨bg, 0, none⟩))).put (some 15) (.slice la l.length lc)).put (some 17) (.pointer (some ⟨bd, 0, none⟩))).put (some 27) (I (t - f))).put (some 28) (I i))) (fun i => ((bd, .cells ⟨eDial (dialAt r.dials house)⟩ 45) :: (ql ++ (bg, .cells ⟨eSpan gs⟩ 38) :: (qo ++ (b5, .cells ⟨eRnd r⟩ 25) :: h)))) (fun i => out.length - i) 0 (Nat.zero_le _) (le_put (le_put (le_put (le_put (le_put (le_put (le_put (le_put (le_put (le_put (le_emp _) rfl) rfl) rfl) rfl) rfl) rfl) rfl) rfl) rfl) rfl) (by (first|((repeat first|exact s_0|exact s_1|exact s_3|refine s_4 ?_|refine s_5 ?_|refine s_6 ?_|refine s_7 ?_);done)|((repeat first|exact s_0|exact s_1|exact s_3|refine s_4 ?_|refine s_5 ?_|refine s_6 ?_|refine s_8 ?_);done))) ?_
                  rintro i hi
                  refine xc_seq ?_
                  refine xc_seq (xc_region ?_)
                  refine xr_op rfl rfl (xv_move rfl ?_)
                  refine xr_op rfl rfl (xv_move rfl ?_)
                  refine xr_op rfl rfl (xv_len sl28 rfl ?_)
                  refine xr_op rfl rfl (xv_lss2 rfl rfl (fun q55 => ?_) (fun q55 => ?_))
                  · refine xr_end rfl ?_
                    refine th_n ?_
                    refine xc_true rfl ?_
                    refine xc_skip ?_
                    refine th_n ?_
                    refine xc_seq ?_
                    refine xc_block ?_
                    refine xc_seq ?_
                    refine xc_draw0 [(0, .S), (1, .S), (2, .S), (3, .S), (4, .R), (5, .S), (6, .S), (7, .S), (8, .S), (9, .S), (10, .R), (11, .S), (12, .S)] mixed (by kernel_rfl) ?_
                    have hltp : i < l.length := by (first | omega | (dsimp only at *; omega) | (simp at *; omega))
                    obtain ⟨bp, op, lp, tp, fzp, hap, hmp, hxp⟩ := (hG).at hltp
                    obtain ⟨xp, hkp⟩ : ∃ qq_, l[i]? = some qq_ := ⟨_, List.getElem?_eq_getElem hltp⟩
                    have hltq : (i + 1) < l.length := by (first | omega | (dsimp only at *; omega) | (simp at *; omega))
                    obtain ⟨bq, oq, lq, tq, fzq, haq, hmq, hxq⟩ := (hG).at hltq
                    obtain ⟨xq, hkq⟩ : ∃ qq_, l[(i + 1)]? = some qq_ := ⟨_, List.getElem?_eq_getElem hltq⟩
                    refine js_S rfl rfl (.inl rfl) (xv_move rfl ⟨rfl, rfl⟩) ?_
                    refine js_S rfl rfl (.inl rfl) (xv_move rfl ⟨rfl, rfl⟩) ?_
                    refine js_S rfl rfl (.inl rfl) (xv_ia (sz := 3) (j := i) sl23 ty59 rfl (by rw [hap]; rfl) rfl (by (first | omega | (dsimp only at *; omega) | (simp at *; omega))) (by (first | omega | (dsimp only at *; omega) | (simp at *; omega))) (by (first | omega | (dsimp only at *; omega) | (simp at *; omega))) ⟨rfl, rfl⟩) ?_
                    refine js_S rfl rfl (.inl rfl) (xv_faddr fl59_1 rfl ⟨rfl, rfl⟩) ?_
                    refine js_R0 rfl rfl (.inl rfl) (xv_load1 ty3 rfl rfl (by ((repeat first|exact z_0|assumption|refine z_1 ?_|(refine z_l ?_;(repeat first|exact z_0|assumption|refine z_1 ?_);done)|refine z_r ?_);done)) (take_get (hxp (i) xp hkp) (j := 1) rfl) ⟨rfl, rfl⟩) ?_
                    refine js_S rfl rfl (.inl rfl) (xv_move rfl ⟨rfl, rfl⟩) ?_
                    refine js_S rfl rfl (.inl rfl) (xv_move rfl ⟨rfl, rfl⟩) ?_
                    refine js_S rfl rfl (.inl rfl) (xv_add rfl rfl (wrap_i64 (by (first | omega | (dsimp only at *; omega) | (simp at *; omega))) (by (first | omega | (dsimp only at *; omega) | (simp at *; omega)))) ⟨rfl, rfl⟩) ?_
                    refine js_S rfl rfl (.inl rfl) (xv_ia (sz := 3) (j := i + 1) sl23 ty59 rfl (by rw [haq]; rfl) rfl (by (first | omega | (dsimp only at *; omega) | (simp at *; omega))) (by (first | omega | (dsimp only at *; omega) | (simp at *; omega))) (by (first | omega | (dsimp only at *; omega) | (simp at *; omega))) ⟨rfl, rfl⟩) ?_
                    refine js_S rfl rfl (.inl rfl) (xv_faddr fl59_1 rfl ⟨rfl, rfl⟩) ?_
                    refine js_R0 rfl rfl (.inl rfl) (xv_load1 ty3 rfl rfl (by ((repeat first|exact z_0|assumption|refine z_1 ?_|(refine z_l ?_;(repeat first|exact z_0|assumption|refine z_1 ?_);done)|refine z_r ?_);done)) (take_get (hxq (i + 1) xq hkq) (j := 1) rfl) ⟨rfl, rfl⟩) ?_
                    refine js_S rfl rfl (.inl rfl) (xv_assign rfl ⟨rfl, rfl⟩) ?_
                    refine js_S rfl rfl (.inl rfl) (xv_assign rfl ⟨rfl, rfl⟩) ?_
                    refine j_end0 ?_
                    refine th_n ?_
                    refine xc_seq ?_
                    refine xc_seq (xc_region ?_)
                    refine xr_op rfl rfl (xv_move rfl ?_)
                    refine xr_op rfl rfl (xv_move rfl ?_)
                    refine xr_op rfl rfl (xv_lss2 rfl rfl (fun q56 => ?_) (fun q56 => ?_))
                    · refine xr_op rfl rfl (xv_move rfl ?_)
                      refine xr_no rfl rfl rfl rfl ?_
                      refine xr_no rfl rfl rfl rfl ?_
                      refine xr_no rfl rfl rfl rfl ?_
                      refine xr_op rfl rfl (xv_pick rfl rfl ?_)
                      refine xr_end rfl ?_
                      refine th_n ?_
                      refine xc_true rfl ?_
                      refine xc_exit ?_
                      refine th_x ?_
                      refine bk_same ?_
                      refine th_n ?_
                      refine xc_region ?_
                      refine xr_op rfl rfl (xv_move rfl ?_)
                      refine xr_op rfl rfl (xv_add rfl rfl (wrap_i64 (by (first | omega | (dsimp only at *; omega) | (simp at *; omega))) (by (first | omega | (dsimp only at *; omega) | (simp at *; omega)))) ?_)
                      refine xr_op rfl rfl (xv_assign rfl ?_)
                      refine xr_end rfl ?_
                      exact rnd (i + 1) (by (first | omega | (dsimp only at *; omega) | (simp at *; omega))) (by (first | omega | (dsimp only at *; omega) | (simp at *; omega))) (le_put (le_put (le_put (le_put (le_put (le_put (le_put (le_put (le_put (le_put (le_emp _) rfl) rfl) rfl) rfl) rfl) rfl) rfl) rfl) rfl) rfl) (by (first|((repeat first|exact s_0|exact s_1|exact s_3|refine s_4 ?_|refine s_5 ?_|refine s_6 ?_|refine s_7 ?_);done)|((repeat first|exact s_0|exact s_1|exact s_3|refine s_4 ?_|refine s_5 ?_|refine s_6 ?_|refine s_8 ?_);done)))
                    · refine xr_op rfl rfl (xv_move rfl ?_)
                      refine xr_gd rfl rfl rfl (xv_move rfl ?_)
                      refine xr_gd rfl rfl rfl (xv_move rfl ?_)
                      refine xr_gd rfl rfl rfl (xv_gtr2 rfl rfl (fun q57 => ?_) (fun q57 => ?_))
                      · refine xr_op rfl rfl (xv_pick rfl rfl ?_)
                        refine xr_end rfl ?_
                        refine th_n ?_
                        refine xc_true rfl ?_
                        refine xc_exit ?_
                        refine th_x ?_
                        refine bk_same ?_
                        refine th_n ?_
                        refine xc_region ?_
                        refine xr_op rfl rfl (xv_move rfl ?_)
                        refine xr_op rfl rfl (xv_add rfl rfl (wrap_i64 (by (first | omega | (dsimp only at *; omega) | (simp at *; omega))) (by (first | omega | (dsimp only at *; omega) | (simp at *; omega)))) ?_)
                        refine xr_op rfl rfl (xv_assign rfl ?_)
                        refine xr_end rfl ?_
                        exact rnd (i + 1) (by (first | omega | (dsimp only at *; omega) | (simp at *; omega))) (by (first | omega | (dsimp only at *; omega) | (simp at *; omega))) (le_put (le_put (le_put (le_put (le_put (le_put (le_put (le_put (le_put (le_put (le_emp _) rfl) rfl) rfl) rfl) rfl) rfl) rfl) rfl) rfl) rfl) (by (first|((repeat first|exact s_0|exact s_1|exact s_3|refine s_4 ?_|refine s_5 ?_|refine s_6 ?_|refine s_7 ?_);done)|((repeat first|exact s_0|exact s_1|exact s_3|refine s_4 ?_|refine s_5 ?_|refine s_6 ?_|refine s_8 ?_);done)))
                      · refine xr_op rfl rfl (xv_pick rfl rfl ?_)
                        refine xr_end rfl ?_
                        refine th_n ?_
                        refine xc_false rfl ?_
                        refine xc_skip ?_
                        refine th_n ?_
                        refine xc_seq (xc_region ?_)
                        have hlto : i < out.length := by (first | omega | (dsimp only at *; omega) | (simp at *; omega))
                        obtain ⟨bo, oo, lo, to, fzo, hao, hmo, hxo⟩ := (so).at hlto
                        obtain ⟨xo, hko⟩ : ∃ qq_, out[i]? = some qq_ := ⟨_, List.getElem?_eq_getElem hlto⟩
                        have hop1 := (hro xp (List.mem_of_getElem? hkp)).1
                        have hoq1 := (hro xq (List.mem_of_getElem? hkq)).1
                        unfold hourOk at hop1 hoq1
                        have hpq := hri.get (Nat.lt_succ_self i) hkp hkq
                        obtain ⟨z1, z2, z3, z4⟩ := one_bd hdo hri hps hft hkp hkq hko (by (first | omega | (dsimp only at *; omega) | (simp at *; omega))) (by (first | omega | (dsimp only at *; omega) | (simp at *; omega)))
                        rw [← hgs] at z1 z2 z3 z4
                        have hob := out_at hdo hri hro hps hko
                        have m3 := mul_bdI (a := (dialAt r.dials house).rate.lo) (A := 10000) (x := xq.hour - xp.hour - (t - f)) (B := 1048576) (by have := hdo.2.2.1; have := hdo.2.2.2.1; omega) (by have := hdo.2.2.2.1; have := hdo.2.2.2.2; omega) (by omega) (by omega) (by omega)
                        have m4 := mul_bdI (a := (dialAt r.dials house).rate.hi) (A := 10000) (x := xq.hour - xp.hour - (t - f)) (B := 1048576) (by have := hdo.2.2.1; have := hdo.2.2.2.1; omega) (by have := hdo.2.2.2.1; have := hdo.2.2.2.2; omega) (by omega) (by omega) (by omega)
                        obtain ⟨y1, y2, y3⟩ := gas_in hdo hri hft hps
                        rw [← hgs] at y1 y2 y3
                        have m1 := mul_bdI (a := (dialAt r.dials house).rate.lo) (A := 10000) (x := t - f) (B := 1048576) (by have := hdo.2.2.1; have := hdo.2.2.2.1; omega) (by have := hdo.2.2.2.1; have := hdo.2.2.2.2; omega) (by omega) (by omega) (by omega)
                        have m2 := mul_bdI (a := (dialAt r.dials house).rate.hi) (A := 10000) (x := t - f) (B := 1048576) (by have := hdo.2.2.1; have := hdo.2.2.2.1; omega) (by have := hdo.2.2.2.1; have := hdo.2.2.2.2; omega) (by omega) (by omega) (by omega)
                        refine xr_op rfl rfl (xv_move rfl ?_)
                        refine xr_op rfl rfl (xv_move rfl ?_)
                        refine xr_op rfl rfl (xv_sub rfl rfl (wrap_i64 (by (first | omega | (dsimp only at *; omega) | (simp at *; omega))) (by (first | omega | (dsimp only at *; omega) | (simp at *; omega)))) ?_)
                        refine xr_op rfl rfl (xv_move rfl ?_)
                        refine xr_op rfl rfl (xv_sub rfl rfl (wrap_i64 (by (first | omega | (dsimp only at *; omega) | (simp at *; omega))) (by (first | omega | (dsimp only at *; omega) | (simp at *; omega)))) ?_)
                        refine xr_op rfl rfl (xv_assign rfl ?_)
                        refine xr_end rfl ?_
                        refine th_n ?_
                        refine xc_seq ?_
                        refine xc_draw0 [(0, .S), (1, .R), (2, .S), (3, .S), (4, .R), (5, .S), (6, .S), (7, .S), (8, .S), (9, .S), (10, .S), (11, .S), (12, .R), (13, .S), (14, .S), (15, .S), (16, .R), (17, .S), (18, .S), (19, .R), (20, .S), (21, .S), (22, .S), (23, .S), (24, .S), (25, .S), (26, .S), (27, .R), (28, .S), (29, .S), (30, .S), (31, .S), (32, .R), (33, .S), (34, .S), (35, .R), (36, .S), (37, .S), (38, .O), (39, .S), (40, .S), (41, .R), (42, .S), (43, .S), (44, .S), (45, .R), (46, .S), (47, .S), (48, .S), (49, .S), (50, .S), (51, .S), (52, .S), (53, .R), (54, .S), (55, .S), (56, .S), (57, .S), (58, .S), (59, .R), (60, .S), (61, .S), (62, .R), (63, .S), (64, .S), (65, .O), (66, .S), (67, .S), (68, .R), (69, .S), (70, .S), (71, .S), (72, .R), (73, .S), (74, .S), (75, .S), (76, .S), (77, .S), (78, .S), (79, .S), (80, .R), (81, .S), (82, .S), (83, .S)] mixed (by kernel_rfl) ?_
                        refine js_S rfl rfl (.inl rfl) (xv_faddr fl38_0 rfl ⟨rfl, rfl⟩) ?_
                        refine js_R0 rfl rfl (.inl rfl) (xv_load1 ty3 rfl rfl (by ((repeat first|exact z_0|assumption|refine z_1 ?_|(refine z_l ?_;(repeat first|exact z_0|assumption|refine z_1 ?_);done)|refine z_r ?_);done)) (by rfl) ⟨rfl, rfl⟩) ?_
                        refine js_S rfl rfl (.inl rfl) (xv_faddr fl45_1 rfl ⟨rfl, rfl⟩) ?_
                        refine js_S rfl rfl (.inl rfl) (xv_faddr fl38_1 rfl ⟨rfl, rfl⟩) ?_
                        refine js_R0 rfl rfl (.inl rfl) (xv_load1 ty3 rfl rfl (by ((repeat first|exact z_0|assumption|refine z_1 ?_|(refine z_l ?_;(repeat first|exact z_0|assumption|refine z_1 ?_);done)|refine z_r ?_);done)) (by rfl) ⟨rfl, rfl⟩) ?_
                        refine js_S rfl rfl (.inl rfl) (xv_move rfl ⟨rfl, rfl⟩) ?_
                        refine js_S rfl rfl (.inl rfl) (xv_mul rfl rfl (wrap_i64 (by (first | omega | (dsimp only at *; omega) | (simp at *; omega))) (by (first | omega | (dsimp only at *; omega) | (simp at *; omega)))) ⟨rfl, rfl⟩) ?_
                        refine js_S rfl rfl (.inl rfl) (xv_add rfl rfl (wrap_i64 (by (first | omega | (dsimp only at *; omega) | (simp at *; omega))) (by (first | omega | (dsimp only at *; omega) | (simp at *; omega)))) ⟨rfl, rfl⟩) ?_
                        refine js_S rfl rfl (.inl rfl) (xv_move rfl ⟨rfl, rfl⟩) ?_
                        refine js_S rfl rfl (.inl rfl) (xv_move rfl ⟨rfl, rfl⟩) ?_
                        refine js_S rfl rfl (.inl rfl) (xv_ia (sz := 2) (j := i) sl28 ty38 rfl (by rw [hao]; rfl) rfl (by (first | assumption | with_reducible exact Int.toNat_natCast _ | with_reducible rfl | rfl)) (by (first | omega | (dsimp only at *; omega) | (simp at *; omega))) (by (first | omega | (dsimp only at *; omega) | (simp at *; omega))) ⟨rfl, rfl⟩) ?_
                        refine js_S rfl rfl (.inl rfl) (xv_faddr fl38_0 rfl ⟨rfl, rfl⟩) ?_
                        refine js_R0 rfl rfl (.inl rfl) (xv_load1 ty3 rfl rfl (by ((repeat first|exact z_0|assumption|refine z_1 ?_|(refine z_l ?_;(repeat first|exact z_0|assumption|refine z_1 ?_);done)|refine z_r ?_);done)) (take_get (hxo (i) xo hko) (j := 0) rfl) ⟨rfl, rfl⟩) ?_
                        refine js_S rfl rfl (.inl rfl) (xv_cmpK rfl rfl (cmpF rfl (by simp only [cmpP]; (first | omega | (dsimp only at *; omega) | (simp at *; omega)))) ⟨rfl, rfl⟩) ?_
                        refine js_S rfl rfl (.inl rfl) (xv_move rfl ⟨rfl, rfl⟩) ?_
                        refine js_S rfl rfl (.inr ⟨_, _, rfl, rfl⟩) (xv_faddr fl38_1 rfl ⟨rfl, rfl⟩) ?_
                        refine js_R0 rfl rfl (.inr ⟨_, _, rfl, rfl⟩) (xv_load1 ty3 rfl rfl (by ((repeat first|exact z_0|assumption|refine z_1 ?_|(refine z_l ?_;(repeat first|exact z_0|assumption|refine z_1 ?_);done)|refine z_r ?_);done)) (by rfl) ⟨rfl, rfl⟩) ?_
                        refine js_S rfl rfl (.inr ⟨_, _, rfl, rfl⟩) (xv_faddr fl45_1 rfl ⟨rfl, rfl⟩) ?_
                        refine js_S rfl rfl (.inr ⟨_, _, rfl, rfl⟩) (xv_faddr fl38_0 rfl ⟨rfl, rfl⟩) ?_
                        refine js_R0 rfl rfl (.inr ⟨_, _, rfl, rfl⟩) (xv_load1 ty3 rfl rfl (by ((repeat first|exact z_0|assumption|refine z_1 ?_|(refine z_l ?_;(repeat first|exact z_0|assumption|refine z_1 ?_);done)|refine z_r ?_);done)) (by rfl) ⟨rfl, rfl⟩) ?_
                        refine js_S rfl rfl (.inr ⟨_, _, rfl, rfl⟩) (xv_move rfl ⟨rfl, rfl⟩) ?_
                        refine js_S rfl rfl (.inr ⟨_, _, rfl, rfl⟩) (xv_mul rfl rfl (wrap_i64 (by (first | omega | (dsimp only at *; omega) | (simp at *; omega))) (by (first | omega | (dsimp only at *; omega) | (simp at *; omega)))) ⟨rfl, rfl⟩) ?_
                        refine js_S rfl rfl (.inr ⟨_, _, rfl, rfl⟩) (xv_add rfl rfl (wrap_i64 (by (first | omega | (dsimp only at *; omega) | (simp at *; omega))) (by (first | omega | (dsimp only at *; omega) | (simp at *; omega)))) ⟨rfl, rfl⟩) ?_
                        refine js_S rfl rfl (.inr ⟨_, _, rfl, rfl⟩) (xv_move rfl ⟨rfl, rfl⟩) ?_
                        refine js_S rfl rfl (.inr ⟨_, _, rfl, rfl⟩) (xv_move rfl ⟨rfl, rfl⟩) ?_
                        refine js_S rfl rfl (.inr ⟨_, _, rfl, rfl⟩) (xv_ia (sz := 2) (j := i) sl28 ty38 rfl (by rw [hao]; rfl) rfl (by (first | assumption | with_reducible exact Int.toNat_natCast _ | with_reducible rfl | rfl)) (by (first | omega | (dsimp only at *; omega) | (simp at *; omega))) (by (first | omega | (dsimp only at *; omega) | (simp at *; omega))) ⟨rfl, rfl⟩) ?_
                        refine js_S rfl rfl (.inr ⟨_, _, rfl, rfl⟩) (xv_faddr fl38_1 rfl ⟨rfl, rfl⟩) ?_
                        refine js_R0 rfl rfl (.inr ⟨_, _, rfl, rfl⟩) (xv_load1 ty3 rfl rfl (by ((repeat first|exact z_0|assumption|refine z_1 ?_|(refine z_l ?_;(repeat first|exact z_0|assumption|refine z_1 ?_);done)|refine z_r ?_);done)) (take_get (hxo (i) xo hko) (j := 1) rfl) ⟨rfl, rfl⟩) ?_
                        refine js_S rfl rfl (.inr ⟨_, _, rfl, rfl⟩) (xv_cmpK rfl rfl (cmpF rfl (by simp only [cmpP]; (first | omega | (dsimp only at *; omega) | (simp at *; omega)))) ⟨rfl, rfl⟩) ?_
                        refine js_S rfl rfl (.inl rfl) (xv_pick rfl rfl ⟨rfl, rfl⟩) ?_
                        refine js_S rfl rfl (.inl rfl) (xv_move rfl ⟨rfl, rfl⟩) ?_
                        refine js_S rfl rfl (.inr ⟨_, _, rfl, rfl⟩) (xv_faddr fl38_0 rfl ⟨rfl, rfl⟩) ?_
                        refine js_R0 rfl rfl (.inr ⟨_, _, rfl, rfl⟩) (xv_load1 ty3 rfl rfl (by ((repeat first|exact z_0|assumption|refine z_1 ?_|(refine z_l ?_;(repeat first|exact z_0|assumption|refine z_1 ?_);done)|refine z_r ?_);done)) (by rfl) ⟨rfl, rfl⟩) ?_
                        refine js_S rfl rfl (.inr ⟨_, _, rfl, rfl⟩) (xv_faddr fl45_1 rfl ⟨rfl, rfl⟩) ?_
                        refine js_S rfl rfl (.inr ⟨_, _, rfl, rfl⟩) (xv_faddr fl38_0 rfl ⟨rfl, rfl⟩) ?_
                        refine js_R0 rfl rfl (.inr ⟨_, _, rfl, rfl⟩) (xv_load1 ty3 rfl rfl (by ((repeat first|exact z_0|assumption|refine z_1 ?_|(refine z_l ?_;(repeat first|exact z_0|assumption|refine z_1 ?_);done)|refine z_r ?_);done)) (by rfl) ⟨rfl, rfl⟩) ?_
                        refine js_S rfl rfl (.inr ⟨_, _, rfl, rfl⟩) (xv_move rfl ⟨rfl, rfl⟩) ?_
                        refine js_S rfl rfl (.inr ⟨_, _, rfl, rfl⟩) (xv_mul rfl rfl (wrap_i64 (by (first | omega | (dsimp only at *; omega) | (simp at *; omega))) (by (first | omega | (dsimp only at *; omega) | (simp at *; omega)))) ⟨rfl, rfl⟩) ?_
                        refine js_O0 rfl rfl (.inr ⟨_, _, rfl, rfl⟩) (xv_gtr2 rfl rfl (fun hq => ?_) (fun hq => ?_))
                        · refine js_S rfl rfl (.inr ⟨_, _, rfl, rfl⟩) (xv_move rfl ⟨rfl, rfl⟩) ?_
                          refine js_S rfl rfl (.inr ⟨_, _, rfl, rfl⟩) (xv_faddr fl38_0 rfl ⟨rfl, rfl⟩) ?_
                          refine js_R0 rfl rfl (.inr ⟨_, _, rfl, rfl⟩) (xv_load1 ty3 rfl rfl (by ((repeat first|exact z_0|assumption|refine z_1 ?_|(refine z_l ?_;(repeat first|exact z_0|assumption|refine z_1 ?_);done)|refine z_r ?_);done)) (by rfl) ⟨rfl, rfl⟩) ?_
                          refine js_S rfl rfl (.inr ⟨_, _, rfl, rfl⟩) (xv_sub rfl rfl (wrap_i64 (by (first | omega | (dsimp only at *; omega) | (simp at *; omega))) (by (first | omega | (dsimp only at *; omega) | (simp at *; omega)))) ⟨rfl, rfl⟩) ?_
                          refine js_S rfl rfl (.inr ⟨_, _, rfl, rfl⟩) (xv_faddr fl45_1 rfl ⟨rfl, rfl⟩) ?_
                          refine js_S rfl rfl (.inr ⟨_, _, rfl, rfl⟩) (xv_faddr fl38_1 rfl ⟨rfl, rfl⟩) ?_
                          refine js_R0 rfl rfl (.inr ⟨_, _, rfl, rfl⟩) (xv_load1 ty3 rfl rfl (by ((repeat first|exact z_0|assumption|refine z_1 ?_|(refine z_l ?_;(repeat first|exact z_0|assumption|refine z_1 ?_);done)|refine z_r ?_);done)) (by rfl) ⟨rfl, rfl⟩) ?_
                          refine js_S rfl rfl (.inr ⟨_, _, rfl, rfl⟩) (xv_move rfl ⟨rfl, rfl⟩) ?_
                          refine js_S rfl rfl (.inr ⟨_, _, rfl, rfl⟩) (xv_mul rfl rfl (wrap_i64 (by (first | omega | (dsimp only at *; omega) | (simp at *; omega))) (by (first | omega | (dsimp only at *; omega) | (simp at *; omega)))) ⟨rfl, rfl⟩) ?_
                          refine js_S rfl rfl (.inr ⟨_, _, rfl, rfl⟩) (xv_add rfl rfl (wrap_i64 (by (first | omega | (dsimp only at *; omega) | (simp at *; omega))) (by (first | omega | (dsimp only at *; omega) | (simp at *; omega)))) ⟨rfl, rfl⟩) ?_
                          refine js_S rfl rfl (.inr ⟨_, _, rfl, rfl⟩) (xv_move rfl ⟨rfl, rfl⟩) ?_
                          refine js_S rfl rfl (.inr ⟨_, _, rfl, rfl⟩) (xv_move rfl ⟨rfl, rfl⟩) ?_
                          refine js_S rfl rfl (.inr ⟨_, _, rfl, rfl⟩) (xv_ia (sz := 2) (j := i) sl28 ty38 rfl (by rw [hao]; rfl) rfl (by (first | assumption | with_reducible exact Int.toNat_natCast _ | with_reducible rfl | rfl)) (by (first | omega | (dsimp only at *; omega) | (simp at *; omega))) (by (first | omega | (dsimp only at *; omega) | (simp at *; omega))) ⟨rfl, rfl⟩) ?_
                          refine js_S rfl rfl (.inr ⟨_, _, rfl, rfl⟩) (xv_faddr fl38_0 rfl ⟨rfl, rfl⟩) ?_
                          refine js_R0 rfl rfl (.inr ⟨_, _, rfl, rfl⟩) (xv_load1 ty3 rfl rfl (by ((repeat first|exact z_0|assumption|refine z_1 ?_|(refine z_l ?_;(repeat first|exact z_0|assumption|refine z_1 ?_);done)|refine z_r ?_);done)) (take_get (hxo (i) xo hko) (j := 0) rfl) ⟨rfl, rfl⟩) ?_
                          refine js_S rfl rfl (.inr ⟨_, _, rfl, rfl⟩) (xv_cmpK rfl rfl (cmpF rfl (by simp only [cmpP]; (first | omega | (dsimp only at *; omega) | (simp at *; omega)))) ⟨rfl, rfl⟩) ?_
                          refine js_S rfl rfl (.inr ⟨_, _, rfl, rfl⟩) (xv_pick rfl rfl ⟨rfl, rfl⟩) ?_
                          refine js_S rfl rfl (.inl rfl) (xv_pick rfl rfl ⟨rfl, rfl⟩) ?_
                          refine js_S rfl rfl (.inl rfl) (xv_move rfl ⟨rfl, rfl⟩) ?_
                          refine js_S rfl rfl (.inr ⟨_, _, rfl, rfl⟩) (xv_faddr fl38_1 rfl ⟨rfl, rfl⟩) ?_
                          refine js_R0 rfl rfl (.inr ⟨_, _, rfl, rfl⟩) (xv_load1 ty3 rfl rfl (by ((repeat first|exact z_0|assumption|refine z_1 ?_|(refine z_l ?_;(repeat first|exact z_0|assumption|refine z_1 ?_);done)|refine z_r ?_);done)) (by rfl) ⟨rfl, rfl⟩) ?_
                          refine js_S rfl rfl (.inr ⟨_, _, rfl, rfl⟩) (xv_faddr fl45_1 rfl ⟨rfl, rfl⟩) ?_
                          refine js_S rfl rfl (.inr ⟨_, _, rfl, rfl⟩) (xv_faddr fl38_1 rfl ⟨rfl, rfl⟩) ?_
                          refine js_R0 rfl rfl (.inr ⟨_, _, rfl, rfl⟩) (xv_load1 ty3 rfl rfl (by ((repeat first|exact z_0|assumption|refine z_1 ?_|(refine z_l ?_;(repeat first|exact z_0|assumption|refine z_1 ?_);done)|refine z_r ?_);done)) (by rfl) ⟨rfl, rfl⟩) ?_
                          refine js_S rfl rfl (.inr ⟨_, _, rfl, rfl⟩) (xv_move rfl ⟨rfl, rfl⟩) ?_
                          refine js_S rfl rfl (.inr ⟨_, _, rfl, rfl⟩) (xv_mul rfl rfl (wrap_i64 (by (first | omega | (dsimp only at *; omega) | (simp at *; omega))) (by (first | omega | (dsimp only at *; omega) | (simp at *; omega)))) ⟨rfl, rfl⟩) ?_
                          refine js_O0 rfl rfl (.inr ⟨_, _, rfl, rfl⟩) (xv_lss2 rfl rfl (fun hq => ?_) (fun hq => ?_))
                          · refine js_S rfl rfl (.inr ⟨_, _, rfl, rfl⟩) (xv_move rfl ⟨rfl, rfl⟩) ?_
                            refine js_S rfl rfl (.inr ⟨_, _, rfl, rfl⟩) (xv_faddr fl38_1 rfl ⟨rfl, rfl⟩) ?_
                            refine js_R0 rfl rfl (.inr ⟨_, _, rfl, rfl⟩) (xv_load1 ty3 rfl rfl (by ((repeat first|exact z_0|assumption|refine z_1 ?_|(refine z_l ?_;(repeat first|exact z_0|assumption|refine z_1 ?_);done)|refine z_r ?_);done)) (by rfl) ⟨rfl, rfl⟩) ?_
                            refine js_S rfl rfl (.inr ⟨_, _, rfl, rfl⟩) (xv_add rfl rfl (wrap_i64 (by (first | omega | (dsimp only at *; omega) | (simp at *; omega))) (by (first | omega | (dsimp only at *; omega) | (simp at *; omega)))) ⟨rfl, rfl⟩) ?_
                            refine js_S rfl rfl (.inr ⟨_, _, rfl, rfl⟩) (xv_faddr fl45_1 rfl ⟨rfl, rfl⟩) ?_
                            refine js_S rfl rfl (.inr ⟨_, _, rfl, rfl⟩) (xv_faddr fl38_0 rfl ⟨rfl, rfl⟩) ?_
                            refine js_R0 rfl rfl (.inr ⟨_, _, rfl, rfl⟩) (xv_load1 ty3 rfl rfl (by ((repeat first|exact z_0|assumption|refine z_1 ?_|(refine z_l ?_;(repeat first|exact z_0|assumption|refine z_1 ?_);done)|refine z_r ?_);done)) (by rfl) ⟨rfl, rfl⟩) ?_
                            refine js_S rfl rfl (.inr ⟨_, _, rfl, rfl⟩) (xv_move rfl ⟨rfl, rfl⟩) ?_
                            refine js_S rfl rfl (.inr ⟨_, _, rfl, rfl⟩) (xv_mul rfl rfl (wrap_i64 (by (first | omega | (dsimp only at *; omega) | (simp at *; omega))) (by (first | omega | (dsimp only at *; omega) | (simp at *; omega)))) ⟨rfl, rfl⟩) ?_
                            refine js_S rfl rfl (.inr ⟨_, _, rfl, rfl⟩) (xv_add rfl rfl (wrap_i64 (by (first | omega | (dsimp only at *; omega) | (simp at *; omega))) (by (first | omega | (dsimp only at *; omega) | (simp at *; omega)))) ⟨rfl, rfl⟩) ?_
                            refine js_S rfl rfl (.inr ⟨_, _, rfl, rfl⟩) (xv_move rfl ⟨rfl, rfl⟩) ?_
                            refine js_S rfl rfl (.inr ⟨_, _, rfl, rfl⟩) (xv_move rfl ⟨rfl, rfl⟩) ?_
                            refine js_S rfl rfl (.inr ⟨_, _, rfl, rfl⟩) (xv_ia (sz := 2) (j := i) sl28 ty38 rfl (by rw [hao]; rfl) rfl (by (first | assumption | with_reducible exact Int.toNat_natCast _ | with_reducible rfl | rfl)) (by (first | omega | (dsimp only at *; omega) | (simp at *; omega))) (by (first | omega | (dsimp only at *; omega) | (simp at *; omega))) ⟨rfl, rfl⟩) ?_
                            refine js_S rfl rfl (.inr ⟨_, _, rfl, rfl⟩) (xv_faddr fl38_1 rfl ⟨rfl, rfl⟩) ?_
                            refine js_R0 rfl rfl (.inr ⟨_, _, rfl, rfl⟩) (xv_load1 ty3 rfl rfl (by ((repeat first|exact z_0|assumption|refine z_1 ?_|(refine z_l ?_;(repeat first|exact z_0|assumption|refine z_1 ?_);done)|refine z_r ?_);done)) (take_get (hxo (i) xo hko) (j := 1) rfl) ⟨rfl, rfl⟩) ?_
                            refine js_S rfl rfl (.inr ⟨_, _, rfl, rfl⟩) (xv_cmpK rfl rfl (cmpF rfl (by simp only [cmpP]; (first | omega | (dsimp only at *; omega) | (simp at *; omega)))) ⟨rfl, rfl⟩) ?_
                            refine js_S rfl rfl (.inr ⟨_, _, rfl, rfl⟩) (xv_pick rfl rfl ⟨rfl, rfl⟩) ?_
                            refine js_S rfl rfl (.inl rfl) (xv_pick rfl rfl ⟨rfl, rfl⟩) ?_
                            refine j_end0 ?_
                            refine th_n ?_
                            refine xc_false rfl ?_
                            refine xc_skip ?_
                            refine bk_n ?_
                            refine th_n ?_
                            refine xc_region ?_
                            refine xr_op rfl rfl (xv_move rfl ?_)
                            refine xr_op rfl rfl (xv_add rfl rfl (wrap_i64 (by (first | omega | (dsimp only at *; omega) | (simp at *; omega))) (by (first | omega | (dsimp only at *; omega) | (simp at *; omega)))) ?_)
                            refine xr_op rfl rfl (xv_assign rfl ?_)
                            refine xr_end rfl ?_
                            exact rnd (i + 1) (by (first | omega | (dsimp only at *; omega) | (simp at *; omega))) (by (first | omega | (dsimp only at *; omega) | (simp at *; omega))) (le_put (le_put (le_put (le_put (le_put (le_put (le_put (le_put (le_put (le_put (le_emp _) rfl) rfl) rfl) rfl) rfl) rfl) rfl) rfl) rfl) rfl) (by (first|((repeat first|exact s_0|exact s_1|exact s_3|refine s_4 ?_|refine s_5 ?_|refine s_6 ?_|refine s_7 ?_);done)|((repeat first|exact s_0|exact s_1|exact s_3|refine s_4 ?_|refine s_5 ?_|refine s_6 ?_|refine s_8 ?_);done)))
                          · refine js_S rfl rfl (.inr ⟨_, _, rfl, rfl⟩) (xv_move rfl ⟨rfl, rfl⟩) ?_
                            refine js_Ss rfl rfl ⟨_, _, _, rfl, rfl, rfl⟩ ?_
                            refine js_Rs rfl rfl ⟨_, _, _, rfl, rfl, rfl⟩ ?_
                            refine js_Ss rfl rfl ⟨_, _, _, rfl, rfl, rfl⟩ ?_
                            refine js_Ss rfl rfl ⟨_, _, _, rfl, rfl, rfl⟩ ?_
                            refine js_Ss rfl rfl ⟨_, _, _, rfl, rfl, rfl⟩ ?_
                            refine js_Rs rfl rfl ⟨_, _, _, rfl, rfl, rfl⟩ ?_
                            refine js_Ss rfl rfl ⟨_, _, _, rfl, rfl, rfl⟩ ?_
                            refine js_Ss rfl rfl ⟨_, _, _, rfl, rfl, rfl⟩ ?_
                            refine js_Ss rfl rfl ⟨_, _, _, rfl, rfl, rfl⟩ ?_
                            refine js_Ss rfl rfl ⟨_, _, _, rfl, rfl, rfl⟩ ?_
                            refine js_Ss rfl rfl ⟨_, _, _, rfl, rfl, rfl⟩ ?_
                            refine js_Ss rfl rfl ⟨_, _, _, rfl, rfl, rfl⟩ ?_
                            refine js_Ss rfl rfl ⟨_, _, _, rfl, rfl, rfl⟩ ?_
                            refine js_Rs rfl rfl ⟨_, _, _, rfl, rfl, rfl⟩ ?_
                            refine js_Ss rfl rfl ⟨_, _, _, rfl, rfl, rfl⟩ ?_
                            refine js_S rfl rfl (.inr ⟨_, _, rfl, rfl⟩) (xv_pick rfl rfl ⟨rfl, rfl⟩) ?_
                            refine js_S rfl rfl (.inl rfl) (xv_pick rfl rfl ⟨rfl, rfl⟩) ?_
                            refine j_end0 ?_
                            refine th_n ?_
                            refine xc_false rfl ?_
                            refine xc_skip ?_
                            refine bk_n ?_
                            refine th_n ?_
                            refine xc_region ?_
                            refine xr_op rfl rfl (xv_move rfl ?_)
                            refine xr_op rfl rfl (xv_add rfl rfl (wrap_i64 (by (first | omega | (dsimp only at *; omega) | (simp at *; omega))) (by (first | omega | (dsimp only at *; omega) | (simp at *; omega)))) ?_)
                            refine xr_op rfl rfl (xv_assign rfl ?_)
                            refine xr_end rfl ?_
                            exact rnd (i + 1) (by (first | omega | (dsimp only at *; omega) | (simp at *; omega))) (by (first | omega | (dsimp only at *; omega) | (simp at *; omega))) (le_put (le_put (le_put (le_put (le_put (le_put (le_put (le_put (le_put (le_put (le_emp _) rfl) rfl) rfl) rfl) rfl) rfl) rfl) rfl) rfl) rfl) (by (first|((repeat first|exact s_0|exact s_1|exact s_3|refine s_4 ?_|refine s_5 ?_|refine s_6 ?_|refine s_7 ?_);done)|((repeat first|exact s_0|exact s_1|exact s_3|refine s_4 ?_|refine s_5 ?_|refine s_6 ?_|refine s_8 ?_);done)))
                        · refine js_S rfl rfl (.inr ⟨_, _, rfl, rfl⟩) (xv_move rfl ⟨rfl, rfl⟩) ?_
                          refine js_Ss rfl rfl ⟨_, _, _, rfl, rfl, rfl⟩ ?_
                          refine js_Rs rfl rfl ⟨_, _, _, rfl, rfl, rfl⟩ ?_
                          refine js_Ss rfl rfl ⟨_, _, _, rfl, rfl, rfl⟩ ?_
                          refine js_Ss rfl rfl ⟨_, _, _, rfl, rfl, rfl⟩ ?_
                          refine js_Ss rfl rfl ⟨_, _, _, rfl, rfl, rfl⟩ ?_
                          refine js_Rs rfl rfl ⟨_, _, _, rfl, rfl, rfl⟩ ?_
                          refine js_Ss rfl rfl ⟨_, _, _, rfl, rfl, rfl⟩ ?_
                          refine js_Ss rfl rfl ⟨_, _, _, rfl, rfl, rfl⟩ ?_
                          refine js_Ss rfl rfl ⟨_, _, _, rfl, rfl, rfl⟩ ?_
                          refine js_Ss rfl rfl ⟨_, _, _, rfl, rfl, rfl⟩ ?_
                          refine js_Ss rfl rfl ⟨_, _, _, rfl, rfl, rfl⟩ ?_
                          refine js_Ss rfl rfl ⟨_, _, _, rfl, rfl, rfl⟩ ?_
                          refine js_Ss rfl rfl ⟨_, _, _, rfl, rfl, rfl⟩ ?_
                          refine js_Rs rfl rfl ⟨_, _, _, rfl, rfl, rfl⟩ ?_
                          refine js_Ss rfl rfl ⟨_, _, _, rfl, rfl, rfl⟩ ?_
                          refine js_S rfl rfl (.inr ⟨_, _, rfl, rfl⟩) (xv_pick rfl rfl ⟨rfl, rfl⟩) ?_
                          refine js_S rfl rfl (.inl rfl) (xv_pick rfl rfl ⟨rfl, rfl⟩) ?_
                          refine js_S rfl rfl (.inl rfl) (xv_move rfl ⟨rfl, rfl⟩) ?_
                          refine js_S rfl rfl (.inr ⟨_, _, rfl, rfl⟩) (xv_faddr fl38_1 rfl ⟨rfl, rfl⟩) ?_
                          refine js_R0 rfl rfl (.inr ⟨_, _, rfl, rfl⟩) (xv_load1 ty3 rfl rfl (by ((repeat first|exact z_0|assumption|refine z_1 ?_|(refine z_l ?_;(repeat first|exact z_0|assumption|refine z_1 ?_);done)|refine z_r ?_);done)) (by rfl) ⟨rfl, rfl⟩) ?_
                          refine js_S rfl rfl (.inr ⟨_, _, rfl, rfl⟩) (xv_faddr fl45_1 rfl ⟨rfl, rfl⟩) ?_
                          refine js_S rfl rfl (.inr ⟨_, _, rfl, rfl⟩) (xv_faddr fl38_1 rfl ⟨rfl, rfl⟩) ?_
                          refine js_R0 rfl rfl (.inr ⟨_, _, rfl, rfl⟩) (xv_load1 ty3 rfl rfl (by ((repeat first|exact z_0|assumption|refine z_1 ?_|(refine z_l ?_;(repeat first|exact z_0|assumption|refine z_1 ?_);done)|refine z_r ?_);done)) (by rfl) ⟨rfl, rfl⟩) ?_
                          refine js_S rfl rfl (.inr ⟨_, _, rfl, rfl⟩) (xv_move rfl ⟨rfl, rfl⟩) ?_
                          refine js_S rfl rfl (.inr ⟨_, _, rfl, rfl⟩) (xv_mul rfl rfl (wrap_i64 (by (first | omega | (dsimp only at *; omega) | (simp at *; omega))) (by (first | omega | (dsimp only at *; omega) | (simp at *; omega)))) ⟨rfl, rfl⟩) ?_
                          refine js_O0 rfl rfl (.inr ⟨_, _, rfl, rfl⟩) (xv_lss2 rfl rfl (fun hq => ?_) (fun hq => ?_))
                          · refine js_S rfl rfl (.inr ⟨_, _, rfl, rfl⟩) (xv_move rfl ⟨rfl, rfl⟩) ?_
                            refine js_S rfl rfl (.inr ⟨_, _, rfl, rfl⟩) (xv_faddr fl38_1 rfl ⟨rfl, rfl⟩) ?_
                            refine js_R0 rfl rfl (.inr ⟨_, _, rfl, rfl⟩) (xv_load1 ty3 rfl rfl (by ((repeat first|exact z_0|assumption|refine z_1 ?_|(refine z_l ?_;(repeat first|exact z_0|assumption|refine z_1 ?_);done)|refine z_r ?_);done)) (by rfl) ⟨rfl, rfl⟩) ?_
                            refine js_S rfl rfl (.inr ⟨_, _, rfl, rfl⟩) (xv_add rfl rfl (wrap_i64 (by (first | omega | (dsimp only at *; omega) | (simp at *; omega))) (by (first | omega | (dsimp only at *; omega) | (simp at *; omega)))) ⟨rfl, rfl⟩) ?_
                            refine js_S rfl rfl (.inr ⟨_, _, rfl, rfl⟩) (xv_faddr fl45_1 rfl ⟨rfl, rfl⟩) ?_
                            refine js_S rfl rfl (.inr ⟨_, _, rfl, rfl⟩) (xv_faddr fl38_0 rfl ⟨rfl, rfl⟩) ?_
                            refine js_R0 rfl rfl (.inr ⟨_, _, rfl, rfl⟩) (xv_load1 ty3 rfl rfl (by ((repeat first|exact z_0|assumption|refine z_1 ?_|(refine z_l ?_;(repeat first|exact z_0|assumption|refine z_1 ?_);done)|refine z_r ?_);done)) (by rfl) ⟨rfl, rfl⟩) ?_
                            refine js_S rfl rfl (.inr ⟨_, _, rfl, rfl⟩) (xv_move rfl ⟨rfl, rfl⟩) ?_
                            refine js_S rfl rfl (.inr ⟨_, _, rfl, rfl⟩) (xv_mul rfl rfl (wrap_i64 (by (first | omega | (dsimp only at *; omega) | (simp at *; omega))) (by (first | omega | (dsimp only at *; omega) | (simp at *; omega)))) ⟨rfl, rfl⟩) ?_
                            refine js_S rfl rfl (.inr ⟨_, _, rfl, rfl⟩) (xv_add rfl rfl (wrap_i64 (by (first | omega | (dsimp only at *; omega) | (simp at *; omega))) (by (first | omega | (dsimp only at *; omega) | (simp at *; omega)))) ⟨rfl, rfl⟩) ?_
                            refine js_S rfl rfl (.inr ⟨_, _, rfl, rfl⟩) (xv_move rfl ⟨rfl, rfl⟩) ?_
                            refine js_S rfl rfl (.inr ⟨_, _, rfl, rfl⟩) (xv_move rfl ⟨rfl, rfl⟩) ?_
                            refine js_S rfl rfl (.inr ⟨_, _, rfl, rfl⟩) (xv_ia (sz := 2) (j := i) sl28 ty38 rfl (by rw [hao]; rfl) rfl (by (first | assumption | with_reducible exact Int.toNat_natCast _ | with_reducible rfl | rfl)) (by (first | omega | (dsimp only at *; omega) | (simp at *; omega))) (by (first | omega | (dsimp only at *; omega) | (simp at *; omega))) ⟨rfl, rfl⟩) ?_
                            refine js_S rfl rfl (.inr ⟨_, _, rfl, rfl⟩) (xv_faddr fl38_1 rfl ⟨rfl, rfl⟩) ?_
                            refine js_R0 rfl rfl (.inr ⟨_, _, rfl, rfl⟩) (xv_load1 ty3 rfl rfl (by ((repeat first|exact z_0|assumption|refine z_1 ?_|(refine z_l ?_;(repeat first|exact z_0|assumption|refine z_1 ?_);done)|refine z_r ?_);done)) (take_get (hxo (i) xo hko) (j := 1) rfl) ⟨rfl, rfl⟩) ?_
                            refine js_S rfl rfl (.inr ⟨_, _, rfl, rfl⟩) (xv_cmpK rfl rfl (cmpF rfl (by simp only [cmpP]; (first | omega | (dsimp only at *; omega) | (simp at *; omega)))) ⟨rfl, rfl⟩) ?_
                            refine js_S rfl rfl (.inr ⟨_, _, rfl, rfl⟩) (xv_pick rfl rfl ⟨rfl, rfl⟩) ?_
                            refine js_S rfl rfl (.inl rfl) (xv_pick rfl rfl ⟨rfl, rfl⟩) ?_
                            refine j_end0 ?_
                            refine th_n ?_
                            refine xc_false rfl ?_
                            refine xc_skip ?_
                            refine bk_n ?_
                            refine th_n ?_
                            refine xc_region ?_
                            refine xr_op rfl rfl (xv_move rfl ?_)
                            refine xr_op rfl rfl (xv_add rfl rfl (wrap_i64 (by (first | omega | (dsimp only at *; omega) | (simp at *; omega))) (by (first | omega | (dsimp only at *; omega) | (simp at *; omega)))) ?_)
                            refine xr_op rfl rfl (xv_assign rfl ?_)
                            refine xr_end rfl ?_
                            exact rnd (i + 1) (by (first | omega | (dsimp only at *; omega) | (simp at *; omega))) (by (first | omega | (dsimp only at *; omega) | (simp at *; omega))) (le_put (le_put (le_put (le_put (le_put (le_put (le_put (le_put (le_put (le_put (le_emp _) rfl) rfl) rfl) rfl) rfl) rfl) rfl) rfl) rfl) rfl) (by (first|((repeat first|exact s_0|exact s_1|exact s_3|refine s_4 ?_|refine s_5 ?_|refine s_6 ?_|refine s_7 ?_);done)|((repeat first|exact s_0|exact s_1|exact s_3|refine s_4 ?_|refine s_5 ?_|refine s_6 ?_|refine s_8 ?_);done)))
                          · refine js_S rfl rfl (.inr ⟨_, _, rfl, rfl⟩) (xv_move rfl ⟨rfl, rfl⟩) ?_
                            refine js_Ss rfl rfl ⟨_, _, _, rfl, rfl, rfl⟩ ?_
                            refine js_Rs rfl rfl ⟨_, _, _, rfl, rfl, rfl⟩ ?_
                            refine js_Ss rfl rfl ⟨_, _, _, rfl, rfl, rfl⟩ ?_
                            refine js_Ss rfl rfl ⟨_, _, _, rfl, rfl, rfl⟩ ?_
                            refine js_Ss rfl rfl ⟨_, _, _, rfl, rfl, rfl⟩ ?_
                            refine js_Rs rfl rfl ⟨_, _, _, rfl, rfl, rfl⟩ ?_
                            refine js_Ss rfl rfl ⟨_, _, _, rfl, rfl, rfl⟩ ?_
                            refine js_Ss rfl rfl ⟨_, _, _, rfl, rfl, rfl⟩ ?_
                            refine js_Ss rfl rfl ⟨_, _, _, rfl, rfl, rfl⟩ ?_
                            refine js_Ss rfl rfl ⟨_, _, _, rfl, rfl, rfl⟩ ?_
                            refine js_Ss rfl rfl ⟨_, _, _, rfl, rfl, rfl⟩ ?_
                            refine js_Ss rfl rfl ⟨_, _, _, rfl, rfl, rfl⟩ ?_
                            refine js_Ss rfl rfl ⟨_, _, _, rfl, rfl, rfl⟩ ?_
                            refine js_Rs rfl rfl ⟨_, _, _, rfl, rfl, rfl⟩ ?_
                            refine js_Ss rfl rfl ⟨_, _, _, rfl, rfl, rfl⟩ ?_
                            refine js_S rfl rfl (.inr ⟨_, _, rfl, rfl⟩) (xv_pick rfl rfl ⟨rfl, rfl⟩) ?_
                            refine js_S rfl rfl (.inl rfl) (xv_pick rfl rfl ⟨rfl, rfl⟩) ?_
                            refine j_end0 ?_
                            refine th_n ?_
                            refine xc_false rfl ?_
                            refine xc_skip ?_
                            refine bk_n ?_
                            refine th_n ?_
                            refine xc_region ?_
                            refine xr_op rfl rfl (xv_move rfl ?_)
                            refine xr_op rfl rfl (xv_add rfl rfl (wrap_i64 (by (first | omega | (dsimp only at *; omega) | (simp at *; omega))) (by (first | omega | (dsimp only at *; omega) | (simp at *; omega)))) ?_)
                            refine xr_op rfl rfl (xv_assign rfl ?_)
                            refine xr_end rfl ?_
                            exact rnd (i + 1) (by (first | omega | (dsimp only at *; omega) | (simp at *; omega))) (by (first | omega | (dsimp only at *; omega) | (simp at *; omega))) (le_put (le_put (le_put (le_put (le_put (le_put (le_put (le_put (le_put (le_put (le_emp _) rfl) rfl) rfl) rfl) rfl) rfl) rfl) rfl) rfl) rfl) (by (first|((repeat first|exact s_0|exact s_1|exact s_3|refine s_4 ?_|refine s_5 ?_|refine s_6 ?_|refine s_7 ?_);done)|((repeat first|exact s_0|exact s_1|exact s_3|refine s_4 ?_|refine s_5 ?_|refine s_6 ?_|refine s_8 ?_);done)))
                  · refine xr_end rfl ?_
                    refine th_n ?_
                    refine xc_false rfl ?_
                    refine xc_exit ?_
                    refine th_x ?_
                    refine th_x ?_
                    refine bk_same ?_
                    refine th_n ?_
                    refine xc_seq (xc_region ?_)
                    refine xr_op rfl rfl (xv_calls rfl hb10 (awake_c (hT.sub (by intro z hz; ((repeat first|exact z_0|assumption|refine z_1 ?_|(refine z_l ?_;(repeat first|exact z_0|assumption|refine z_1 ?_);done)|refine z_r ?_);done))) (up_ret ?_)))
                    refine xr_op rfl rfl (xv_assign rfl ?_)
                    refine xr_end rfl ?_
                    refine th_n ?_
                    refine xc_ret ?_
                    refine body_ret (h' := h) rfl (ro_tmp rfl ro_nil) (by (first|((repeat first|exact s_0|exact s_1|exact s_3|refine s_4 ?_|refine s_5 ?_|refine s_6 ?_|refine s_7 ?_);done)|((repeat first|exact s_0|exact s_1|exact s_3|refine s_4 ?_|refine s_5 ?_|refine s_6 ?_|refine s_8 ?_);done))) ?_
                    first | exact H | (exfalso; (first | omega | (dsimp only at *; omega) | (simp at *; omega)))
                · refine xr_gd rfl rfl rfl (xv_move rfl ?_)
                  refine xr_no rfl rfl rfl rfl ?_
                  refine xr_no rfl rfl rfl rfl ?_
                  refine xr_no rfl rfl rfl rfl ?_
                  refine xr_gd rfl rfl rfl (xv_pick rfl rfl ?_)
                  refine xr_op rfl rfl (xv_pick rfl rfl ?_)
                  refine xr_end rfl ?_
                  refine th_n ?_
                  refine xc_false rfl ?_
                  refine xc_skip ?_
                  refine th_n ?_
                  refine xc_seq ?_
                  refine xc_seq (xc_region ?_)
                  refine xr_op rfl rfl (xv_assign rfl ?_)
                  refine xr_end rfl ?_
                  refine th_n ?_
                  refine xc_block ?_
                  refine xc_loop (σ := Nat) (fun i => i ≤ out.length) (fun i => ((((((((((emp.put (some 1) (I house)).put (some 2) (I f)).put (some 3) (I t)).put (some 5) (.pointer (some ⟨b5, 0, none⟩))).put (some 11) (.slice oa out.length oc)).put (some 13) (.pointer (some ⟨bg, 0, none⟩))).put (some 15) (.slice la l.length lc)).put (some 17) (.pointer (some ⟨bd, 0, none⟩))).put (some 27) (I (t - f))).put (some 28) (I i))) (fun i => ((bd, .cells ⟨eDial (dialAt r.dials house)⟩ 45) :: (ql ++ (bg, .cells ⟨eSpan gs⟩ 38) :: (qo ++ (b5, .cells ⟨eRnd r⟩ 25) :: h)))) (fun i => out.length - i) 0 (Nat.zero_le _) (le_put (le_put (le_put (le_put (le_put (le_put (le_put (le_put (le_put (le_put (le_emp _) rfl) rfl) rfl) rfl) rfl) rfl) rfl) rfl) rfl) rfl) (by (first|((repeat first|exact s_0|exact s_1|exact s_3|refine s_4 ?_|refine s_5 ?_|refine s_6 ?_|refine s_7 ?_);done)|((repeat first|exact s_0|exact s_1|exact s_3|refine s_4 ?_|refine s_5 ?_|refine s_6 ?_|refine s_8 ?_);done))) ?_
                  rintro i hi
                  refine xc_seq ?_
                  refine xc_seq (xc_region ?_)
                  refine xr_op rfl rfl (xv_move rfl ?_)
                  refine xr_op rfl rfl (xv_move rfl ?_)
                  refine xr_op rfl rfl (xv_len sl28 rfl ?_)
                  refine xr_op rfl rfl (xv_lss2 rfl rfl (fun q58 => ?_) (fun q58 => ?_))
                  · refine xr_end rfl ?_
                    refine th_n ?_
                    refine xc_true rfl ?_
                    refine xc_skip ?_
                    refine th_n ?_
                    refine xc_seq ?_
                    refine xc_block ?_
                    refine xc_seq ?_
                    refine xc_draw0 [(0, .S), (1, .S), (2, .S), (3, .S), (4, .R), (5, .S), (6, .S), (7, .S), (8, .S), (9, .S), (10, .R), (11, .S), (12, .S)] mixed (by kernel_rfl) ?_
                    have hltp : i < l.length := by (first | omega | (dsimp only at *; omega) | (simp at *; omega))
                    obtain ⟨bp, op, lp, tp, fzp, hap, hmp, hxp⟩ := (hG).at hltp
                    obtain ⟨xp, hkp⟩ : ∃ qq_, l[i]? = some qq_ := ⟨_, List.getElem?_eq_getElem hltp⟩
                    have hltq : (i + 1) < l.length := by (first | omega | (dsimp only at *; omega) | (simp at *; omega))
                    obtain ⟨bq, oq, lq, tq, fzq, haq, hmq, hxq⟩ := (hG).at hltq
                    obtain ⟨xq, hkq⟩ : ∃ qq_, l[(i + 1)]? = some qq_ := ⟨_, List.getElem?_eq_getElem hltq⟩
                    refine js_S rfl rfl (.inl rfl) (xv_move rfl ⟨rfl, rfl⟩) ?_
                    refine js_S rfl rfl (.inl rfl) (xv_move rfl ⟨rfl, rfl⟩) ?_
                    refine js_S rfl rfl (.inl rfl) (xv_ia (sz := 3) (j := i) sl23 ty59 rfl (by rw [hap]; rfl) rfl (by (first | omega | (dsimp only at *; omega) | (simp at *; omega))) (by (first | omega | (dsimp only at *; omega) | (simp at *; omega))) (by (first | omega | (dsimp only at *; omega) | (simp at *; omega))) ⟨rfl, rfl⟩) ?_
                    refine js_S rfl rfl (.inl rfl) (xv_faddr fl59_1 rfl ⟨rfl, rfl⟩) ?_
                    refine js_R0 rfl rfl (.inl rfl) (xv_load1 ty3 rfl rfl (by ((repeat first|exact z_0|assumption|refine z_1 ?_|(refine z_l ?_;(repeat first|exact z_0|assumption|refine z_1 ?_);done)|refine z_r ?_);done)) (take_get (hxp (i) xp hkp) (j := 1) rfl) ⟨rfl, rfl⟩) ?_
                    refine js_S rfl rfl (.inl rfl) (xv_move rfl ⟨rfl, rfl⟩) ?_
                    refine js_S rfl rfl (.inl rfl) (xv_move rfl ⟨rfl, rfl⟩) ?_
                    refine js_S rfl rfl (.inl rfl) (xv_add rfl rfl (wrap_i64 (by (first | omega | (dsimp only at *; omega) | (simp at *; omega))) (by (first | omega | (dsimp only at *; omega) | (simp at *; omega)))) ⟨rfl, rfl⟩) ?_
                    refine js_S rfl rfl (.inl rfl) (xv_ia (sz := 3) (j := i + 1) sl23 ty59 rfl (by rw [haq]; rfl) rfl (by (first | omega | (dsimp only at *; omega) | (simp at *; omega))) (by (first | omega | (dsimp only at *; omega) | (simp at *; omega))) (by (first | omega | (dsimp only at *; omega) | (simp at *; omega))) ⟨rfl, rfl⟩) ?_
                    refine js_S rfl rfl (.inl rfl) (xv_faddr fl59_1 rfl ⟨rfl, rfl⟩) ?_
                    refine js_R0 rfl rfl (.inl rfl) (xv_load1 ty3 rfl rfl (by ((repeat first|exact z_0|assumption|refine z_1 ?_|(refine z_l ?_;(repeat first|exact z_0|assumption|refine z_1 ?_);done)|refine z_r ?_);done)) (take_get (hxq (i + 1) xq hkq) (j := 1) rfl) ⟨rfl, rfl⟩) ?_
                    refine js_S rfl rfl (.inl rfl) (xv_assign rfl ⟨rfl, rfl⟩) ?_
                    refine js_S rfl rfl (.inl rfl) (xv_assign rfl ⟨rfl, rfl⟩) ?_
                    refine j_end0 ?_
                    refine th_n ?_
                    refine xc_seq ?_
                    refine xc_seq (xc_region ?_)
                    refine xr_op rfl rfl (xv_move rfl ?_)
                    refine xr_op rfl rfl (xv_move rfl ?_)
                    refine xr_op rfl rfl (xv_lss2 rfl rfl (fun q59 => ?_) (fun q59 => ?_))
                    · refine xr_op rfl rfl (xv_move rfl ?_)
                      refine xr_no rfl rfl rfl rfl ?_
                      refine xr_no rfl rfl rfl rfl ?_
                      refine xr_no rfl rfl rfl rfl ?_
                      refine xr_op rfl rfl (xv_pick rfl rfl ?_)
                      refine xr_end rfl ?_
                      refine th_n ?_
                      refine xc_true rfl ?_
                      refine xc_exit ?_
                      refine th_x ?_
                      refine bk_same ?_
                      refine th_n ?_
                      refine xc_region ?_
                      refine xr_op rfl rfl (xv_move rfl ?_)
                      refine xr_op rfl rfl (xv_add rfl rfl (wrap_i64 (by (first | omega | (dsimp only at *; omega) | (simp at *; omega))) (by (first | omega | (dsimp only at *; omega) | (simp at *; omega)))) ?_)
                      refine xr_op rfl rfl (xv_assign rfl ?_)
                      refine xr_end rfl ?_
                      exact rnd (i + 1) (by (first | omega | (dsimp only at *; omega) | (simp at *; omega))) (by (first | omega | (dsimp only at *; omega) | (simp at *; omega))) (le_put (le_put (le_put (le_put (le_put (le_put (le_put (le_put (le_put (le_put (le_emp _) rfl) rfl) rfl) rfl) rfl) rfl) rfl) rfl) rfl) rfl) (by (first|((repeat first|exact s_0|exact s_1|exact s_3|refine s_4 ?_|refine s_5 ?_|refine s_6 ?_|refine s_7 ?_);done)|((repeat first|exact s_0|exact s_1|exact s_3|refine s_4 ?_|refine s_5 ?_|refine s_6 ?_|refine s_8 ?_);done)))
                    · refine xr_op rfl rfl (xv_move rfl ?_)
                      refine xr_gd rfl rfl rfl (xv_move rfl ?_)
                      refine xr_gd rfl rfl rfl (xv_move rfl ?_)
                      refine xr_gd rfl rfl rfl (xv_gtr2 rfl rfl (fun q60 => ?_) (fun q60 => ?_))
                      · refine xr_op rfl rfl (xv_pick rfl rfl ?_)
                        refine xr_end rfl ?_
                        refine th_n ?_
                        refine xc_true rfl ?_
                        refine xc_exit ?_
                        refine th_x ?_
                        refine bk_same ?_
                        refine th_n ?_
                        refine xc_region ?_
                        refine xr_op rfl rfl (xv_move rfl ?_)
                        refine xr_op rfl rfl (xv_add rfl rfl (wrap_i64 (by (first | omega | (dsimp only at *; omega) | (simp at *; omega))) (by (first | omega | (dsimp only at *; omega) | (simp at *; omega)))) ?_)
                        refine xr_op rfl rfl (xv_assign rfl ?_)
                        refine xr_end rfl ?_
                        exact rnd (i + 1) (by (first | omega | (dsimp only at *; omega) | (simp at *; omega))) (by (first | omega | (dsimp only at *; omega) | (simp at *; omega))) (le_put (le_put (le_put (le_put (le_put (le_put (le_put (le_put (le_put (le_put (le_emp _) rfl) rfl) rfl) rfl) rfl) rfl) rfl) rfl) rfl) rfl) (by (first|((repeat first|exact s_0|exact s_1|exact s_3|refine s_4 ?_|refine s_5 ?_|refine s_6 ?_|refine s_7 ?_);done)|((repeat first|exact s_0|exact s_1|exact s_3|refine s_4 ?_|refine s_5 ?_|refine s_6 ?_|refine s_8 ?_);done)))
                      · refine xr_op rfl rfl (xv_pick rfl rfl ?_)
                        refine xr_end rfl ?_
                        refine th_n ?_
                        refine xc_false rfl ?_
                        refine xc_skip ?_
                        refine th_n ?_
                        refine xc_seq (xc_region ?_)
                        have hlto : i < out.length := by (first | omega | (dsimp only at *; omega) | (simp at *; omega))
                        obtain ⟨bo, oo, lo, to, fzo, hao, hmo, hxo⟩ := (so).at hlto
                        obtain ⟨xo, hko⟩ : ∃ qq_, out[i]? = some qq_ := ⟨_, List.getElem?_eq_getElem hlto⟩
                        have hop1 := (hro xp (List.mem_of_getElem? hkp)).1
                        have hoq1 := (hro xq (List.mem_of_getElem? hkq)).1
                        unfold hourOk at hop1 hoq1
                        have hpq := hri.get (Nat.lt_succ_self i) hkp hkq
                        obtain ⟨z1, z2, z3, z4⟩ := one_bd hdo hri hps hft hkp hkq hko (by (first | omega | (dsimp only at *; omega) | (simp at *; omega))) (by (first | omega | (dsimp only at *; omega) | (simp at *; omega)))
                        rw [← hgs] at z1 z2 z3 z4
                        have hob := out_at hdo hri hro hps hko
                        have m3 := mul_bdI (a := (dialAt r.dials house).rate.lo) (A := 10000) (x := xq.hour - xp.hour - (t - f)) (B := 1048576) (by have := hdo.2.2.1; have := hdo.2.2.2.1; omega) (by have := hdo.2.2.2.1; have := hdo.2.2.2.2; omega) (by omega) (by omega) (by omega)
                        have m4 := mul_bdI (a := (dialAt r.dials house).rate.hi) (A := 10000) (x := xq.hour - xp.hour - (t - f)) (B := 1048576) (by have := hdo.2.2.1; have := hdo.2.2.2.1; omega) (by have := hdo.2.2.2.1; have := hdo.2.2.2.2; omega) (by omega) (by omega) (by omega)
                        obtain ⟨y1, y2, y3⟩ := gas_in hdo hri hft hps
                        rw [← hgs] at y1 y2 y3
                        have m1 := mul_bdI (a := (dialAt r.dials house).rate.lo) (A := 10000) (x := t - f) (B := 1048576) (by have := hdo.2.2.1; have := hdo.2.2.2.1; omega) (by have := hdo.2.2.2.1; have := hdo.2.2.2.2; omega) (by omega) (by omega) (by omega)
                        have m2 := mul_bdI (a := (dialAt r.dials house).rate.hi) (A := 10000) (x := t - f) (B := 1048576) (by have := hdo.2.2.1; have := hdo.2.2.2.1; omega) (by have := hdo.2.2.2.1; have := hdo.2.2.2.2; omega) (by omega) (by omega) (by omega)
                        refine xr_op rfl rfl (xv_move rfl ?_)
                        refine xr_op rfl rfl (xv_move rfl ?_)
                        refine xr_op rfl rfl (xv_sub rfl rfl (wrap_i64 (by (first | omega | (dsimp only at *; omega) | (simp at *; omega))) (by (first | omega | (dsimp only at *; omega) | (simp at *; omega)))) ?_)
                        refine xr_op rfl rfl (xv_move rfl ?_)
                        refine xr_op rfl rfl (xv_sub rfl rfl (wrap_i64 (by (first | omega | (dsimp only at *; omega) | (simp at *; omega))) (by (first | omega | (dsimp only at *; omega) | (simp at *; omega)))) ?_)
                        refine xr_op rfl rfl (xv_assign rfl ?_)
                        refine xr_end rfl ?_
                        refine th_n ?_
                        refine xc_seq ?_
                        refine xc_draw0 [(0, .S), (1, .R), (2, .S), (3, .S), (4, .R), (5, .S), (6, .S), (7, .S), (8, .S), (9, .S), (10, .S), (11, .S), (12, .R), (13, .S), (14, .S), (15, .S), (16, .R), (17, .S), (18, .S), (19, .R), (20, .S), (21, .S), (22, .S), (23, .S), (24, .S), (25, .S), (26, .S), (27, .R), (28, .S), (29, .S), (30, .S), (31, .S), (32, .R), (33, .S), (34, .S), (35, .R), (36, .S), (37, .S), (38, .O), (39, .S), (40, .S), (41, .R), (42, .S), (43, .S), (44, .S), (45, .R), (46, .S), (47, .S), (48, .S), (49, .S), (50, .S), (51, .S), (52, .S), (53, .R), (54, .S), (55, .S), (56, .S), (57, .S), (58, .S), (59, .R), (60, .S), (61, .S), (62, .R), (63, .S), (64, .S), (65, .O), (66, .S), (67, .S), (68, .R), (69, .S), (70, .S), (71, .S), (72, .R), (73, .S), (74, .S), (75, .S), (76, .S), (77, .S), (78, .S), (79, .S), (80, .R), (81, .S), (82, .S), (83, .S)] mixed (by kernel_rfl) ?_
                        refine js_S rfl rfl (.inl rfl) (xv_faddr fl38_0 rfl ⟨rfl, rfl⟩) ?_
                        refine js_R0 rfl rfl (.inl rfl) (xv_load1 ty3 rfl rfl (by ((repeat first|exact z_0|assumption|refine z_1 ?_|(refine z_l ?_;(repeat first|exact z_0|assumption|refine z_1 ?_);done)|refine z_r ?_);done)) (by rfl) ⟨rfl, rfl⟩) ?_
                        refine js_S rfl rfl (.inl rfl) (xv_faddr fl45_1 rfl ⟨rfl, rfl⟩) ?_
                        refine js_S rfl rfl (.inl rfl) (xv_faddr fl38_1 rfl ⟨rfl, rfl⟩) ?_
                        refine js_R0 rfl rfl (.inl rfl) (xv_load1 ty3 rfl rfl (by ((repeat first|exact z_0|assumption|refine z_1 ?_|(refine z_l ?_;(repeat first|exact z_0|assumption|refine z_1 ?_);done)|refine z_r ?_);done)) (by rfl) ⟨rfl, rfl⟩) ?_
                        refine js_S rfl rfl (.inl rfl) (xv_move rfl ⟨rfl, rfl⟩) ?_
                        refine js_S rfl rfl (.inl rfl) (xv_mul rfl rfl (wrap_i64 (by (first | omega | (dsimp only at *; omega) | (simp at *; omega))) (by (first | omega | (dsimp only at *; omega) | (simp at *; omega)))) ⟨rfl, rfl⟩) ?_
                        refine js_S rfl rfl (.inl rfl) (xv_add rfl rfl (wrap_i64 (by (first | omega | (dsimp only at *; omega) | (simp at *; omega))) (by (first | omega | (dsimp only at *; omega) | (simp at *; omega)))) ⟨rfl, rfl⟩) ?_
                        refine js_S rfl rfl (.inl rfl) (xv_move rfl ⟨rfl, rfl⟩) ?_
                        refine js_S rfl rfl (.inl rfl) (xv_move rfl ⟨rfl, rfl⟩) ?_
                        refine js_S rfl rfl (.inl rfl) (xv_ia (sz := 2) (j := i) sl28 ty38 rfl (by rw [hao]; rfl) rfl (by (first | assumption | with_reducible exact Int.toNat_natCast _ | with_reducible rfl | rfl)) (by (first | omega | (dsimp only at *; omega) | (simp at *; omega))) (by (first | omega | (dsimp only at *; omega) | (simp at *; omega))) ⟨rfl, rfl⟩) ?_
                        refine js_S rfl rfl (.inl rfl) (xv_faddr fl38_0 rfl ⟨rfl, rfl⟩) ?_
                        refine js_R0 rfl rfl (.inl rfl) (xv_load1 ty3 rfl rfl (by ((repeat first|exact z_0|assumption|refine z_1 ?_|(refine z_l ?_;(repeat first|exact z_0|assumption|refine z_1 ?_);done)|refine z_r ?_);done)) (take_get (hxo (i) xo hko) (j := 0) rfl) ⟨rfl, rfl⟩) ?_
                        refine js_S rfl rfl (.inl rfl) (xv_cmpK rfl rfl (cmpF rfl (by simp only [cmpP]; (first | omega | (dsimp only at *; omega) | (simp at *; omega)))) ⟨rfl, rfl⟩) ?_
                        refine js_S rfl rfl (.inl rfl) (xv_move rfl ⟨rfl, rfl⟩) ?_
                        refine js_S rfl rfl (.inr ⟨_, _, rfl, rfl⟩) (xv_faddr fl38_1 rfl ⟨rfl, rfl⟩) ?_
                        refine js_R0 rfl rfl (.inr ⟨_, _, rfl, rfl⟩) (xv_load1 ty3 rfl rfl (by ((repeat first|exact z_0|assumption|refine z_1 ?_|(refine z_l ?_;(repeat first|exact z_0|assumption|refine z_1 ?_);done)|refine z_r ?_);done)) (by rfl) ⟨rfl, rfl⟩) ?_
                        refine js_S rfl rfl (.inr ⟨_, _, rfl, rfl⟩) (xv_faddr fl45_1 rfl ⟨rfl, rfl⟩) ?_
                        refine js_S rfl rfl (.inr ⟨_, _, rfl, rfl⟩) (xv_faddr fl38_0 rfl ⟨rfl, rfl⟩) ?_
                        refine js_R0 rfl rfl (.inr ⟨_, _, rfl, rfl⟩) (xv_load1 ty3 rfl rfl (by ((repeat first|exact z_0|assumption|refine z_1 ?_|(refine z_l ?_;(repeat first|exact z_0|assumption|refine z_1 ?_);done)|refine z_r ?_);done)) (by rfl) ⟨rfl, rfl⟩) ?_
                        refine js_S rfl rfl (.inr ⟨_, _, rfl, rfl⟩) (xv_move rfl ⟨rfl, rfl⟩) ?_
                        refine js_S rfl rfl (.inr ⟨_, _, rfl, rfl⟩) (xv_mul rfl rfl (wrap_i64 (by (first | omega | (dsimp only at *; omega) | (simp at *; omega))) (by (first | omega | (dsimp only at *; omega) | (simp at *; omega)))) ⟨rfl, rfl⟩) ?_
                        refine js_S rfl rfl (.inr ⟨_, _, rfl, rfl⟩) (xv_add rfl rfl (wrap_i64 (by (first | omega | (dsimp only at *; omega) | (simp at *; omega))) (by (first | omega | (dsimp only at *; omega) | (simp at *; omega)))) ⟨rfl, rfl⟩) ?_
                        refine js_S rfl rfl (.inr ⟨_, _, rfl, rfl⟩) (xv_move rfl ⟨rfl, rfl⟩) ?_
                        refine js_S rfl rfl (.inr ⟨_, _, rfl, rfl⟩) (xv_move rfl ⟨rfl, rfl⟩) ?_
                        refine js_S rfl rfl (.inr ⟨_, _, rfl, rfl⟩) (xv_ia (sz := 2) (j := i) sl28 ty38 rfl (by rw [hao]; rfl) rfl (by (first | assumption | with_reducible exact Int.toNat_natCast _ | with_reducible rfl | rfl)) (by (first | omega | (dsimp only at *; omega) | (simp at *; omega))) (by (first | omega | (dsimp only at *; omega) | (simp at *; omega))) ⟨rfl, rfl⟩) ?_
                        refine js_S rfl rfl (.inr ⟨_, _, rfl, rfl⟩) (xv_faddr fl38_1 rfl ⟨rfl, rfl⟩) ?_
                        refine js_R0 rfl rfl (.inr ⟨_, _, rfl, rfl⟩) (xv_load1 ty3 rfl rfl (by ((repeat first|exact z_0|assumption|refine z_1 ?_|(refine z_l ?_;(repeat first|exact z_0|assumption|refine z_1 ?_);done)|refine z_r ?_);done)) (take_get (hxo (i) xo hko) (j := 1) rfl) ⟨rfl, rfl⟩) ?_
                        refine js_S rfl rfl (.inr ⟨_, _, rfl, rfl⟩) (xv_cmpK rfl rfl (cmpF rfl (by simp only [cmpP]; (first | omega | (dsimp only at *; omega) | (simp at *; omega)))) ⟨rfl, rfl⟩) ?_
                        refine js_S rfl rfl (.inl rfl) (xv_pick rfl rfl ⟨rfl, rfl⟩) ?_
                        refine js_S rfl rfl (.inl rfl) (xv_move rfl ⟨rfl, rfl⟩) ?_
                        refine js_S rfl rfl (.inr ⟨_, _, rfl, rfl⟩) (xv_faddr fl38_0 rfl ⟨rfl, rfl⟩) ?_
                        refine js_R0 rfl rfl (.inr ⟨_, _, rfl, rfl⟩) (xv_load1 ty3 rfl rfl (by ((repeat first|exact z_0|assumption|refine z_1 ?_|(refine z_l ?_;(repeat first|exact z_0|assumption|refine z_1 ?_);done)|refine z_r ?_);done)) (by rfl) ⟨rfl, rfl⟩) ?_
                        refine js_S rfl rfl (.inr ⟨_, _, rfl, rfl⟩) (xv_faddr fl45_1 rfl ⟨rfl, rfl⟩) ?_
                        refine js_S rfl rfl (.inr ⟨_, _, rfl, rfl⟩) (xv_faddr fl38_0 rfl ⟨rfl, rfl⟩) ?_
                        refine js_R0 rfl rfl (.inr ⟨_, _, rfl, rfl⟩) (xv_load1 ty3 rfl rfl (by ((repeat first|exact z_0|assumption|refine z_1 ?_|(refine z_l ?_;(repeat first|exact z_0|assumption|refine z_1 ?_);done)|refine z_r ?_);done)) (by rfl) ⟨rfl, rfl⟩) ?_
                        refine js_S rfl rfl (.inr ⟨_, _, rfl, rfl⟩) (xv_move rfl ⟨rfl, rfl⟩) ?_
                        refine js_S rfl rfl (.inr ⟨_, _, rfl, rfl⟩) (xv_mul rfl rfl (wrap_i64 (by (first | omega | (dsimp only at *; omega) | (simp at *; omega))) (by (first | omega | (dsimp only at *; omega) | (simp at *; omega)))) ⟨rfl, rfl⟩) ?_
                        refine js_O0 rfl rfl (.inr ⟨_, _, rfl, rfl⟩) (xv_gtr2 rfl rfl (fun hq => ?_) (fun hq => ?_))
                        · refine js_S rfl rfl (.inr ⟨_, _, rfl, rfl⟩) (xv_move rfl ⟨rfl, rfl⟩) ?_
                          refine js_S rfl rfl (.inr ⟨_, _, rfl, rfl⟩) (xv_faddr fl38_0 rfl ⟨rfl, rfl⟩) ?_
                          refine js_R0 rfl rfl (.inr ⟨_, _, rfl, rfl⟩) (xv_load1 ty3 rfl rfl (by ((repeat first|exact z_0|assumption|refine z_1 ?_|(refine z_l ?_;(repeat first|exact z_0|assumption|refine z_1 ?_);done)|refine z_r ?_);done)) (by rfl) ⟨rfl, rfl⟩) ?_
                          refine js_S rfl rfl (.inr ⟨_, _, rfl, rfl⟩) (xv_sub rfl rfl (wrap_i64 (by (first | omega | (dsimp only at *; omega) | (simp at *; omega))) (by (first | omega | (dsimp only at *; omega) | (simp at *; omega)))) ⟨rfl, rfl⟩) ?_
                          refine js_S rfl rfl (.inr ⟨_, _, rfl, rfl⟩) (xv_faddr fl45_1 rfl ⟨rfl, rfl⟩) ?_
                          refine js_S rfl rfl (.inr ⟨_, _, rfl, rfl⟩) (xv_faddr fl38_1 rfl ⟨rfl, rfl⟩) ?_
                          refine js_R0 rfl rfl (.inr ⟨_, _, rfl, rfl⟩) (xv_load1 ty3 rfl rfl (by ((repeat first|exact z_0|assumption|refine z_1 ?_|(refine z_l ?_;(repeat first|exact z_0|assumption|refine z_1 ?_);done)|refine z_r ?_);done)) (by rfl) ⟨rfl, rfl⟩) ?_
                          refine js_S rfl rfl (.inr ⟨_, _, rfl, rfl⟩) (xv_move rfl ⟨rfl, rfl⟩) ?_
                          refine js_S rfl rfl (.inr ⟨_, _, rfl, rfl⟩) (xv_mul rfl rfl (wrap_i64 (by (first | omega | (dsimp only at *; omega) | (simp at *; omega))) (by (first | omega | (dsimp only at *; omega) | (simp at *; omega)))) ⟨rfl, rfl⟩) ?_
                          refine js_S rfl rfl (.inr ⟨_, _, rfl, rfl⟩) (xv_add rfl rfl (wrap_i64 (by (first | omega | (dsimp only at *; omega) | (simp at *; omega))) (by (first | omega | (dsimp only at *; omega) | (simp at *; omega)))) ⟨rfl, rfl⟩) ?_
                          refine js_S rfl rfl (.inr ⟨_, _, rfl, rfl⟩) (xv_move rfl ⟨rfl, rfl⟩) ?_
                          refine js_S rfl rfl (.inr ⟨_, _, rfl, rfl⟩) (xv_move rfl ⟨rfl, rfl⟩) ?_
                          refine js_S rfl rfl (.inr ⟨_, _, rfl, rfl⟩) (xv_ia (sz := 2) (j := i) sl28 ty38 rfl (by rw [hao]; rfl) rfl (by (first | assumption | with_reducible exact Int.toNat_natCast _ | with_reducible rfl | rfl)) (by (first | omega | (dsimp only at *; omega) | (simp at *; omega))) (by (first | omega | (dsimp only at *; omega) | (simp at *; omega))) ⟨rfl, rfl⟩) ?_
                          refine js_S rfl rfl (.inr ⟨_, _, rfl, rfl⟩) (xv_faddr fl38_0 rfl ⟨rfl, rfl⟩) ?_
                          refine js_R0 rfl rfl (.inr ⟨_, _, rfl, rfl⟩) (xv_load1 ty3 rfl rfl (by ((repeat first|exact z_0|assumption|refine z_1 ?_|(refine z_l ?_;(repeat first|exact z_0|assumption|refine z_1 ?_);done)|refine z_r ?_);done)) (take_get (hxo (i) xo hko) (j := 0) rfl) ⟨rfl, rfl⟩) ?_
                          refine js_S rfl rfl (.inr ⟨_, _, rfl, rfl⟩) (xv_cmpK rfl rfl (cmpF rfl (by simp only [cmpP]; (first | omega | (dsimp only at *; omega) | (simp at *; omega)))) ⟨rfl, rfl⟩) ?_
                          refine js_S rfl rfl (.inr ⟨_, _, rfl, rfl⟩) (xv_pick rfl rfl ⟨rfl, rfl⟩) ?_
                          refine js_S rfl rfl (.inl rfl) (xv_pick rfl rfl ⟨rfl, rfl⟩) ?_
                          refine js_S rfl rfl (.inl rfl) (xv_move rfl ⟨rfl, rfl⟩) ?_
                          refine js_S rfl rfl (.inr ⟨_, _, rfl, rfl⟩) (xv_faddr fl38_1 rfl ⟨rfl, rfl⟩) ?_
                          refine js_R0 rfl rfl (.inr ⟨_, _, rfl, rfl⟩) (xv_load1 ty3 rfl rfl (by ((repeat first|exact z_0|assumption|refine z_1 ?_|(refine z_l ?_;(repeat first|exact z_0|assumption|refine z_1 ?_);done)|refine z_r ?_);done)) (by rfl) ⟨rfl, rfl⟩) ?_
                          refine js_S rfl rfl (.inr ⟨_, _, rfl, rfl⟩) (xv_faddr fl45_1 rfl ⟨rfl, rfl⟩) ?_
                          refine js_S rfl rfl (.inr ⟨_, _, rfl, rfl⟩) (xv_faddr fl38_1 rfl ⟨rfl, rfl⟩) ?_
                          refine js_R0 rfl rfl (.inr ⟨_, _, rfl, rfl⟩) (xv_load1 ty3 rfl rfl (by ((repeat first|exact z_0|assumption|refine z_1 ?_|(refine z_l ?_;(repeat first|exact z_0|assumption|refine z_1 ?_);done)|refine z_r ?_);done)) (by rfl) ⟨rfl, rfl⟩) ?_
                          refine js_S rfl rfl (.inr ⟨_, _, rfl, rfl⟩) (xv_move rfl ⟨rfl, rfl⟩) ?_
                          refine js_S rfl rfl (.inr ⟨_, _, rfl, rfl⟩) (xv_mul rfl rfl (wrap_i64 (by (first | omega | (dsimp only at *; omega) | (simp at *; omega))) (by (first | omega | (dsimp only at *; omega) | (simp at *; omega)))) ⟨rfl, rfl⟩) ?_
                          refine js_O0 rfl rfl (.inr ⟨_, _, rfl, rfl⟩) (xv_lss2 rfl rfl (fun hq => ?_) (fun hq => ?_))
                          · refine js_S rfl rfl (.inr ⟨_, _, rfl, rfl⟩) (xv_move rfl ⟨rfl, rfl⟩) ?_
                            refine js_S rfl rfl (.inr ⟨_, _, rfl, rfl⟩) (xv_faddr fl38_1 rfl ⟨rfl, rfl⟩) ?_
                            refine js_R0 rfl rfl (.inr ⟨_, _, rfl, rfl⟩) (xv_load1 ty3 rfl rfl (by ((repeat first|exact z_0|assumption|refine z_1 ?_|(refine z_l ?_;(repeat first|exact z_0|assumption|refine z_1 ?_);done)|refine z_r ?_);done)) (by rfl) ⟨rfl, rfl⟩) ?_
                            refine js_S rfl rfl (.inr ⟨_, _, rfl, rfl⟩) (xv_add rfl rfl (wrap_i64 (by (first | omega | (dsimp only at *; omega) | (simp at *; omega))) (by (first | omega | (dsimp only at *; omega) | (simp at *; omega)))) ⟨rfl, rfl⟩) ?_
                            refine js_S rfl rfl (.inr ⟨_, _, rfl, rfl⟩) (xv_faddr fl45_1 rfl ⟨rfl, rfl⟩) ?_
                            refine js_S rfl rfl (.inr ⟨_, _, rfl, rfl⟩) (xv_faddr fl38_0 rfl ⟨rfl, rfl⟩) ?_
                            refine js_R0 rfl rfl (.inr ⟨_, _, rfl, rfl⟩) (xv_load1 ty3 rfl rfl (by ((repeat first|exact z_0|assumption|refine z_1 ?_|(refine z_l ?_;(repeat first|exact z_0|assumption|refine z_1 ?_);done)|refine z_r ?_);done)) (by rfl) ⟨rfl, rfl⟩) ?_
                            refine js_S rfl rfl (.inr ⟨_, _, rfl, rfl⟩) (xv_move rfl ⟨rfl, rfl⟩) ?_
                            refine js_S rfl rfl (.inr ⟨_, _, rfl, rfl⟩) (xv_mul rfl rfl (wrap_i64 (by (first | omega | (dsimp only at *; omega) | (simp at *; omega))) (by (first | omega | (dsimp only at *; omega) | (simp at *; omega)))) ⟨rfl, rfl⟩) ?_
                            refine js_S rfl rfl (.inr ⟨_, _, rfl, rfl⟩) (xv_add rfl rfl (wrap_i64 (by (first | omega | (dsimp only at *; omega) | (simp at *; omega))) (by (first | omega | (dsimp only at *; omega) | (simp at *; omega)))) ⟨rfl, rfl⟩) ?_
                            refine js_S rfl rfl (.inr ⟨_, _, rfl, rfl⟩) (xv_move rfl ⟨rfl, rfl⟩) ?_
                            refine js_S rfl rfl (.inr ⟨_, _, rfl, rfl⟩) (xv_move rfl ⟨rfl, rfl⟩) ?_
                            refine js_S rfl rfl (.inr ⟨_, _, rfl, rfl⟩) (xv_ia (sz := 2) (j := i) sl28 ty38 rfl (by rw [hao]; rfl) rfl (by (first | assumption | with_reducible exact Int.toNat_natCast _ | with_reducible rfl | rfl)) (by (first | omega | (dsimp only at *; omega) | (simp at *; omega))) (by (first | omega | (dsimp only at *; omega) | (simp at *; omega))) ⟨rfl, rfl⟩) ?_
                            refine js_S rfl rfl (.inr ⟨_, _, rfl, rfl⟩) (xv_faddr fl38_1 rfl ⟨rfl, rfl⟩) ?_
                            refine js_R0 rfl rfl (.inr ⟨_, _, rfl, rfl⟩) (xv_load1 ty3 rfl rfl (by ((repeat first|exact z_0|assumption|refine z_1 ?_|(refine z_l ?_;(repeat first|exact z_0|assumption|refine z_1 ?_);done)|refine z_r ?_);done)) (take_get (hxo (i) xo hko) (j := 1) rfl) ⟨rfl, rfl⟩) ?_
                            refine js_S rfl rfl (.inr ⟨_, _, rfl, rfl⟩) (xv_cmpK rfl rfl (cmpF rfl (by simp only [cmpP]; (first | omega | (dsimp only at *; omega) | (simp at *; omega)))) ⟨rfl, rfl⟩) ?_
                            refine js_S rfl rfl (.inr ⟨_, _, rfl, rfl⟩) (xv_pick rfl rfl ⟨rfl, rfl⟩) ?_
                            refine js_S rfl rfl (.inl rfl) (xv_pick rfl rfl ⟨rfl, rfl⟩) ?_
                            refine j_end0 ?_
                            refine th_n ?_
                            refine xc_false rfl ?_
                            refine xc_skip ?_
                            refine bk_n ?_
                            refine th_n ?_
                            refine xc_region ?_
                            refine xr_op rfl rfl (xv_move rfl ?_)
                            refine xr_op rfl rfl (xv_add rfl rfl (wrap_i64 (by (first | omega | (dsimp only at *; omega) | (simp at *; omega))) (by (first | omega | (dsimp only at *; omega) | (simp at *; omega)))) ?_)
                            refine xr_op rfl rfl (xv_assign rfl ?_)
                            refine xr_end rfl ?_
                            exact rnd (i + 1) (by (first | omega | (dsimp only at *; omega) | (simp at *; omega))) (by (first | omega | (dsimp only at *; omega) | (simp at *; omega))) (le_put (le_put (le_put (le_put (le_put (le_put (le_put (le_put (le_put (le_put (le_emp _) rfl) rfl) rfl) rfl) rfl) rfl) rfl) rfl) rfl) rfl) (by (first|((repeat first|exact s_0|exact s_1|exact s_3|refine s_4 ?_|refine s_5 ?_|refine s_6 ?_|refine s_7 ?_);done)|((repeat first|exact s_0|exact s_1|exact s_3|refine s_4 ?_|refine s_5 ?_|refine s_6 ?_|refine s_8 ?_);done)))
                          · refine js_S rfl rfl (.inr ⟨_, _, rfl, rfl⟩) (xv_move rfl ⟨rfl, rfl⟩) ?_
                            refine js_Ss rfl rfl ⟨_, _, _, rfl, rfl, rfl⟩ ?_
                            refine js_Rs rfl rfl ⟨_, _, _, rfl, rfl, rfl⟩ ?_
                            refine js_Ss rfl rfl ⟨_, _, _, rfl, rfl, rfl⟩ ?_
                            refine js_Ss rfl rfl ⟨_, _, _, rfl, rfl, rfl⟩ ?_
                            refine js_Ss rfl rfl ⟨_, _, _, rfl, rfl, rfl⟩ ?_
                            refine js_Rs rfl rfl ⟨_, _, _, rfl, rfl, rfl⟩ ?_
                            refine js_Ss rfl rfl ⟨_, _, _, rfl, rfl, rfl⟩ ?_
                            refine js_Ss rfl rfl ⟨_, _, _, rfl, rfl, rfl⟩ ?_
                            refine js_Ss rfl rfl ⟨_, _, _, rfl, rfl, rfl⟩ ?_
                            refine js_Ss rfl rfl ⟨_, _, _, rfl, rfl, rfl⟩ ?_
                            refine js_Ss rfl rfl ⟨_, _, _, rfl, rfl, rfl⟩ ?_
                            refine js_Ss rfl rfl ⟨_, _, _, rfl, rfl, rfl⟩ ?_
                            refine js_Ss rfl rfl ⟨_, _, _, rfl, rfl, rfl⟩ ?_
                            refine js_Rs rfl rfl ⟨_, _, _, rfl, rfl, rfl⟩ ?_
                            refine js_Ss rfl rfl ⟨_, _, _, rfl, rfl, rfl⟩ ?_
                            refine js_S rfl rfl (.inr ⟨_, _, rfl, rfl⟩) (xv_pick rfl rfl ⟨rfl, rfl⟩) ?_
                            refine js_S rfl rfl (.inl rfl) (xv_pick rfl rfl ⟨rfl, rfl⟩) ?_
                            refine j_end0 ?_
                            refine th_n ?_
                            refine xc_false rfl ?_
                            refine xc_skip ?_
                            refine bk_n ?_
                            refine th_n ?_
                            refine xc_region ?_
                            refine xr_op rfl rfl (xv_move rfl ?_)
                            refine xr_op rfl rfl (xv_add rfl rfl (wrap_i64 (by (first | omega | (dsimp only at *; omega) | (simp at *; omega))) (by (first | omega | (dsimp only at *; omega) | (simp at *; omega)))) ?_)
                            refine xr_op rfl rfl (xv_assign rfl ?_)
                            refine xr_end rfl ?_
                            exact rnd (i + 1) (by (first | omega | (dsimp only at *; omega) | (simp at *; omega))) (by (first | omega | (dsimp only at *; omega) | (simp at *; omega))) (le_put (le_put (le_put (le_put (le_put (le_put (le_put (le_put (le_put (le_put (le_emp _) rfl) rfl) rfl) rfl) rfl) rfl) rfl) rfl) rfl) rfl) (by (first|((repeat first|exact s_0|exact s_1|exact s_3|refine s_4 ?_|refine s_5 ?_|refine s_6 ?_|refine s_7 ?_);done)|((repeat first|exact s_0|exact s_1|exact s_3|refine s_4 ?_|refine s_5 ?_|refine s_6 ?_|refine s_8 ?_);done)))
                        · refine js_S rfl rfl (.inr ⟨_, _, rfl, rfl⟩) (xv_move rfl ⟨rfl, rfl⟩) ?_
                          refine js_Ss rfl rfl ⟨_, _, _, rfl, rfl, rfl⟩ ?_
                          refine js_Rs rfl rfl ⟨_, _, _, rfl, rfl, rfl⟩ ?_
                          refine js_Ss rfl rfl ⟨_, _, _, rfl, rfl, rfl⟩ ?_
                          refine js_Ss rfl rfl ⟨_, _, _, rfl, rfl, rfl⟩ ?_
                          refine js_Ss rfl rfl ⟨_, _, _, rfl, rfl, rfl⟩ ?_
                          refine js_Rs rfl rfl ⟨_, _, _, rfl, rfl, rfl⟩ ?_
                          refine js_Ss rfl rfl ⟨_, _, _, rfl, rfl, rfl⟩ ?_
                          refine js_Ss rfl rfl ⟨_, _, _, rfl, rfl, rfl⟩ ?_
                          refine js_Ss rfl rfl ⟨_, _, _, rfl, rfl, rfl⟩ ?_
                          refine js_Ss rfl rfl ⟨_, _, _, rfl, rfl, rfl⟩ ?_
                          refine js_Ss rfl rfl ⟨_, _, _, rfl, rfl, rfl⟩ ?_
                          refine js_Ss rfl rfl ⟨_, _, _, rfl, rfl, rfl⟩ ?_
                          refine js_Ss rfl rfl ⟨_, _, _, rfl, rfl, rfl⟩ ?_
                          refine js_Rs rfl rfl ⟨_, _, _, rfl, rfl, rfl⟩ ?_
                          refine js_Ss rfl rfl ⟨_, _, _, rfl, rfl, rfl⟩ ?_
                          refine js_S rfl rfl (.inr ⟨_, _, rfl, rfl⟩) (xv_pick rfl rfl ⟨rfl, rfl⟩) ?_
                          refine js_S rfl rfl (.inl rfl) (xv_pick rfl rfl ⟨rfl, rfl⟩) ?_
                          refine js_S rfl rfl (.inl rfl) (xv_move rfl ⟨rfl, rfl⟩) ?_
                          refine js_S rfl rfl (.inr ⟨_, _, rfl, rfl⟩) (xv_faddr fl38_1 rfl ⟨rfl, rfl⟩) ?_
                          refine js_R0 rfl rfl (.inr ⟨_, _, rfl, rfl⟩) (xv_load1 ty3 rfl rfl (by ((repeat first|exact z_0|assumption|refine z_1 ?_|(refine z_l ?_;(repeat first|exact z_0|assumption|refine z_1 ?_);done)|refine z_r ?_);done)) (by rfl) ⟨rfl, rfl⟩) ?_
                          refine js_S rfl rfl (.inr ⟨_, _, rfl, rfl⟩) (xv_faddr fl45_1 rfl ⟨rfl, rfl⟩) ?_
                          refine js_S rfl rfl (.inr ⟨_, _, rfl, rfl⟩) (xv_faddr fl38_1 rfl ⟨rfl, rfl⟩) ?_
                          refine js_R0 rfl rfl (.inr ⟨_, _, rfl, rfl⟩) (xv_load1 ty3 rfl rfl (by ((repeat first|exact z_0|assumption|refine z_1 ?_|(refine z_l ?_;(repeat first|exact z_0|assumption|refine z_1 ?_);done)|refine z_r ?_);done)) (by rfl) ⟨rfl, rfl⟩) ?_
                          refine js_S rfl rfl (.inr ⟨_, _, rfl, rfl⟩) (xv_move rfl ⟨rfl, rfl⟩) ?_
                          refine js_S rfl rfl (.inr ⟨_, _, rfl, rfl⟩) (xv_mul rfl rfl (wrap_i64 (by (first | omega | (dsimp only at *; omega) | (simp at *; omega))) (by (first | omega | (dsimp only at *; omega) | (simp at *; omega)))) ⟨rfl, rfl⟩) ?_
                          refine js_O0 rfl rfl (.inr ⟨_, _, rfl, rfl⟩) (xv_lss2 rfl rfl (fun hq => ?_) (fun hq => ?_))
                          · refine js_S rfl rfl (.inr ⟨_, _, rfl, rfl⟩) (xv_move rfl ⟨rfl, rfl⟩) ?_
                            refine js_S rfl rfl (.inr ⟨_, _, rfl, rfl⟩) (xv_faddr fl38_1 rfl ⟨rfl, rfl⟩) ?_
                            refine js_R0 rfl rfl (.inr ⟨_, _, rfl, rfl⟩) (xv_load1 ty3 rfl rfl (by ((repeat first|exact z_0|assumption|refine z_1 ?_|(refine z_l ?_;(repeat first|exact z_0|assumption|refine z_1 ?_);done)|refine z_r ?_);done)) (by rfl) ⟨rfl, rfl⟩) ?_
                            refine js_S rfl rfl (.inr ⟨_, _, rfl, rfl⟩) (xv_add rfl rfl (wrap_i64 (by (first | omega | (dsimp only at *; omega) | (simp at *; omega))) (by (first | omega | (dsimp only at *; omega) | (simp at *; omega)))) ⟨rfl, rfl⟩) ?_
                            refine js_S rfl rfl (.inr ⟨_, _, rfl, rfl⟩) (xv_faddr fl45_1 rfl ⟨rfl, rfl⟩) ?_
                            refine js_S rfl rfl (.inr ⟨_, _, rfl, rfl⟩) (xv_faddr fl38_0 rfl ⟨rfl, rfl⟩) ?_
                            refine js_R0 rfl rfl (.inr ⟨_, _, rfl, rfl⟩) (xv_load1 ty3 rfl rfl (by ((repeat first|exact z_0|assumption|refine z_1 ?_|(refine z_l ?_;(repeat first|exact z_0|assumption|refine z_1 ?_);done)|refine z_r ?_);done)) (by rfl) ⟨rfl, rfl⟩) ?_
                            refine js_S rfl rfl (.inr ⟨_, _, rfl, rfl⟩) (xv_move rfl ⟨rfl, rfl⟩) ?_
                            refine js_S rfl rfl (.inr ⟨_, _, rfl, rfl⟩) (xv_mul rfl rfl (wrap_i64 (by (first | omega | (dsimp only at *; omega) | (simp at *; omega))) (by (first | omega | (dsimp only at *; omega) | (simp at *; omega)))) ⟨rfl, rfl⟩) ?_
                            refine js_S rfl rfl (.inr ⟨_, _, rfl, rfl⟩) (xv_add rfl rfl (wrap_i64 (by (first | omega | (dsimp only at *; omega) | (simp at *; omega))) (by (first | omega | (dsimp only at *; omega) | (simp at *; omega)))) ⟨rfl, rfl⟩) ?_
                            refine js_S rfl rfl (.inr ⟨_, _, rfl, rfl⟩) (xv_move rfl ⟨rfl, rfl⟩) ?_
                            refine js_S rfl rfl (.inr ⟨_, _, rfl, rfl⟩) (xv_move rfl ⟨rfl, rfl⟩) ?_
                            refine js_S rfl rfl (.inr ⟨_, _, rfl, rfl⟩) (xv_ia (sz := 2) (j := i) sl28 ty38 rfl (by rw [hao]; rfl) rfl (by (first | assumption | with_reducible exact Int.toNat_natCast _ | with_reducible rfl | rfl)) (by (first | omega | (dsimp only at *; omega) | (simp at *; omega))) (by (first | omega | (dsimp only at *; omega) | (simp at *; omega))) ⟨rfl, rfl⟩) ?_
                            refine js_S rfl rfl (.inr ⟨_, _, rfl, rfl⟩) (xv_faddr fl38_1 rfl ⟨rfl, rfl⟩) ?_
                            refine js_R0 rfl rfl (.inr ⟨_, _, rfl, rfl⟩) (xv_load1 ty3 rfl rfl (by ((repeat first|exact z_0|assumption|refine z_1 ?_|(refine z_l ?_;(repeat first|exact z_0|assumption|refine z_1 ?_);done)|refine z_r ?_);done)) (take_get (hxo (i) xo hko) (j := 1) rfl) ⟨rfl, rfl⟩) ?_
                            refine js_S rfl rfl (.inr ⟨_, _, rfl, rfl⟩) (xv_cmpK rfl rfl (cmpF rfl (by simp only [cmpP]; (first | omega | (dsimp only at *; omega) | (simp at *; omega)))) ⟨rfl, rfl⟩) ?_
                            refine js_S rfl rfl (.inr ⟨_, _, rfl, rfl⟩) (xv_pick rfl rfl ⟨rfl, rfl⟩) ?_
                            refine js_S rfl rfl (.inl rfl) (xv_pick rfl rfl ⟨rfl, rfl⟩) ?_
                            refine j_end0 ?_
                            refine th_n ?_
                            refine xc_false rfl ?_
                            refine xc_skip ?_
                            refine bk_n ?_
                            refine th_n ?_
                            refine xc_region ?_
                            refine xr_op rfl rfl (xv_move rfl ?_)
                            refine xr_op rfl rfl (xv_add rfl rfl (wrap_i64 (by (first | omega | (dsimp only at *; omega) | (simp at *; omega))) (by (first | omega | (dsimp only at *; omega) | (simp at *; omega)))) ?_)
                            refine xr_op rfl rfl (xv_assign rfl ?_)
                            refine xr_end rfl ?_
                            exact rnd (i + 1) (by (first | omega | (dsimp only at *; omega) | (simp at *; omega))) (by (first | omega | (dsimp only at *; omega) | (simp at *; omega))) (le_put (le_put (le_put (le_put (le_put (le_put (le_put (le_put (le_put (le_put (le_emp _) rfl) rfl) rfl) rfl) rfl) rfl) rfl) rfl) rfl) rfl) (by (first|((repeat first|exact s_0|exact s_1|exact s_3|refine s_4 ?_|refine s_5 ?_|refine s_6 ?_|refine s_7 ?_);done)|((repeat first|exact s_0|exact s_1|exact s_3|refine s_4 ?_|refine s_5 ?_|refine s_6 ?_|refine s_8 ?_);done)))
                          · refine js_S rfl rfl (.inr ⟨_, _, rfl, rfl⟩) (xv_move rfl ⟨rfl, rfl⟩) ?_
                            refine js_Ss rfl rfl ⟨_, _, _, rfl, rfl, rfl⟩ ?_
                            refine js_Rs rfl rfl ⟨_, _, _, rfl, rfl, rfl⟩ ?_
                            refine js_Ss rfl rfl ⟨_, _, _, rfl, rfl, rfl⟩ ?_
                            refine js_Ss rfl rfl ⟨_, _, _, rfl, rfl, rfl⟩ ?_
                            refine js_Ss rfl rfl ⟨_, _, _, rfl, rfl, rfl⟩ ?_
                            refine js_Rs rfl rfl ⟨_, _, _, rfl, rfl, rfl⟩ ?_
                            refine js_Ss rfl rfl ⟨_, _, _, rfl, rfl, rfl⟩ ?_
                            refine js_Ss rfl rfl ⟨_, _, _, rfl, rfl, rfl⟩ ?_
                            refine js_Ss rfl rfl ⟨_, _, _, rfl, rfl, rfl⟩ ?_
                            refine js_Ss rfl rfl ⟨_, _, _, rfl, rfl, rfl⟩ ?_
                            refine js_Ss rfl rfl ⟨_, _, _, rfl, rfl, rfl⟩ ?_
                            refine js_Ss rfl rfl ⟨_, _, _, rfl, rfl, rfl⟩ ?_
                            refine js_Ss rfl rfl ⟨_, _, _, rfl, rfl, rfl⟩ ?_
                            refine js_Rs rfl rfl ⟨_, _, _, rfl, rfl, rfl⟩ ?_
                            refine js_Ss rfl rfl ⟨_, _, _, rfl, rfl, rfl⟩ ?_
                            refine js_S rfl rfl (.inr ⟨_, _, rfl, rfl⟩) (xv_pick rfl rfl ⟨rfl, rfl⟩) ?_
                            refine js_S rfl rfl (.inl rfl) (xv_pick rfl rfl ⟨rfl, rfl⟩) ?_
                            refine j_end0 ?_
                            refine th_n ?_
                            refine xc_false rfl ?_
                            refine xc_skip ?_
                            refine bk_n ?_
                            refine th_n ?_
                            refine xc_region ?_
                            refine xr_op rfl rfl (xv_move rfl ?_)
                            refine xr_op rfl rfl (xv_add rfl rfl (wrap_i64 (by (first | omega | (dsimp only at *; omega) | (simp at *; omega))) (by (first | omega | (dsimp only at *; omega) | (simp at *; omega)))) ?_)
                            refine xr_op rfl rfl (xv_assign rfl ?_)
                            refine xr_end rfl ?_
                            exact rnd (i + 1) (by (first | omega | (dsimp only at *; omega) | (simp at *; omega))) (by (first | omega | (dsimp only at *; omega) | (simp at *; omega))) (le_put (le_put (le_put (le_put (le_put (le_put (le_put (le_put (le_put (le_put (le_emp _) rfl) rfl) rfl) rfl) rfl) rfl) rfl) rfl) rfl) rfl) (by (first|((repeat first|exact s_0|exact s_1|exact s_3|refine s_4 ?_|refine s_5 ?_|refine s_6 ?_|refine s_7 ?_);done)|((repeat first|exact s_0|exact s_1|exact s_3|refine s_4 ?_|refine s_5 ?_|refine s_6 ?_|refine s_8 ?_);done)))
                  · refine xr_end rfl ?_
                    refine th_n ?_
                    refine xc_false rfl ?_
                    refine xc_exit ?_
                    refine th_x ?_
                    refine th_x ?_
                    refine bk_same ?_
                    refine th_n ?_
                    refine xc_seq (xc_region ?_)
                    refine xr_op rfl rfl (xv_calls rfl hb10 (awake_c (hT.sub (by intro z hz; ((repeat first|exact z_0|assumption|refine z_1 ?_|(refine z_l ?_;(repeat first|exact z_0|assumption|refine z_1 ?_);done)|refine z_r ?_);done))) (up_ret ?_)))
                    refine xr_op rfl rfl (xv_assign rfl ?_)
                    refine xr_end rfl ?_
                    refine th_n ?_
                    refine xc_ret ?_
                    refine body_ret (h' := h) rfl (ro_tmp rfl ro_nil) (by (first|((repeat first|exact s_0|exact s_1|exact s_3|refine s_4 ?_|refine s_5 ?_|refine s_6 ?_|refine s_7 ?_);done)|((repeat first|exact s_0|exact s_1|exact s_3|refine s_4 ?_|refine s_5 ?_|refine s_6 ?_|refine s_8 ?_);done))) ?_
                    first | exact H | (exfalso; (first | omega | (dsimp only at *; omega) | (simp at *; omega)))

end Go.Proofs.YtckaaaebegemoaaDoor
