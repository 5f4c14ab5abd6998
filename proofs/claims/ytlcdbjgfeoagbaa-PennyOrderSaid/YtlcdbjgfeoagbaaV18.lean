/-
  Walks.
-/
import Derived.Test.YtlcdbjgfeoagbaaP22
namespace Go.Proofs.Ytlcdbjgfeoagbaa
open Go Go.H
set_option maxRecDepth 100000
set_option maxHeartbeats 8000000
set_option linter.all false
theorem Coins5_c {f : FuncId} {s : Slot} {h : Hp} {R : Ending → Hp → Prop} (hs : SlotV h s) (hsm : Small s) (hf : f = 15 ∨ f = 19) {l : List Span} {e : Int} (E1 : coS s = l) (E2 : errD s = e) (H : ∀ (V : Vec), l.length ≤ 1000 → V.ok 2 l.length (l.flatMap eSpan) → R (.returned (.tuple ⟨[.slice V.ad l.length V.cp, I e]⟩)) (V.hp 30 (l.flatMap eSpan) ++ h)) : ACalls Try.prog f ⟨[.agg ⟨eSlot s⟩]⟩ h R := by
  subst E1 E2
  refine Coins4_c hs hsm hf (fun V l e1 h1 hV => ?_)
  have e2 : l = coS s := e1
  subst e2
  exact H V h1 hV
theorem Left3_c {f : FuncId} {s : Slot} {h : Hp} {R : Ending → Hp → Prop} (hs : SlotV h s) (hsm : Small s) (hf : f = 16 ∨ f = 22) {x : Span} {e : Int} (E1 : leS s = x) (E2 : errD s = e) (H : R (.returned (.tuple ⟨[.agg ⟨eSpan x⟩, I e]⟩)) h) : ACalls Try.prog f ⟨[.agg ⟨eSlot s⟩]⟩ h R := by
  subst E1 E2; exact Left2_c hs hsm hf H
theorem co_M {s : Slot} {ma : Option Addr} {mc : Nat} {ms : List Mark} (hg : GoodSlot s) (hl : ms.length ≤ 12) (h : ∀ x, x ∈ ms ↔ x ∈ s.marks) : coS (withM s ma mc ms) = coS s := by
  have e := errD_M (ma := ma) (mc := mc) hg hl h
  unfold coS
  rw [e]
  by_cases hd : errD s = 0
  · rw [if_pos hd, if_pos hd, coins_M hg (errD_errS hd) hl h]
  · rw [if_neg hd, if_neg hd]
theorem le_M {s : Slot} {ma : Option Addr} {mc : Nat} {ms : List Mark} (hg : GoodSlot s) (hl : ms.length ≤ 12) (h : ∀ x, x ∈ ms ↔ x ∈ s.marks) : leS (withM s ma mc ms) = leS s := by
  have e := errD_M (ma := ma) (mc := mc) hg hl h
  unfold leS
  rw [e]
  by_cases hd : errD s = 0
  · rw [if_pos hd, if_pos hd, left_M hg (errD_errS hd) hl h]
  · rw [if_neg hd, if_neg hd]
def eSl (s : Slot) (ma : Option Addr) (n mc : Nat) : List Value := [I s.start, I s.hold, I s.coins, I s.now, .slice s.ta s.tars.length s.tc, .slice ma n mc]
theorem PPlayM_c {s : Slot} {h : Hp} {R : Ending → Hp → Prop} (hs : SlotV h s) (hsm : Small s) {ha : Option Addr} {hc n : Nat} {hours q : List Int} (hn : n = q.length) (hh : SlV h 1 eI ha q) (hhl : q.length ≤ 1000) {ma : Option Addr} {mc nm : Nat} {ms : List Mark} (hnm : nm = ms.length) (hms : SlV h 2 eMark ma ms) (hml : ms.length ≤ 1000) (E : playA (withM s ma mc ms) q = playA s hours)
    (H : R (.returned (.tuple ⟨[I (playA s hours).1, .agg ⟨eSpan (playA s hours).2.1⟩, I (playA s hours).2.2.1, I (playA s hours).2.2.2]⟩)) h) : ACalls Try.prog 13 ⟨[.agg ⟨eSl s ma nm mc⟩, .slice ha n hc]⟩ h R := by
  subst hn hnm
  exact PPlay_c (s := withM s ma mc ms) ⟨hs.tars, hms⟩ ⟨hsm.tars, hml⟩ hh hhl (by rw [E]; exact H)
theorem CoinsM_c {f : FuncId} {s : Slot} {h : Hp} {R : Ending → Hp → Prop} (hs : SlotV h s) (hsm : Small s) (hf : f = 15 ∨ f = 19) {ma : Option Addr} {mc nm : Nat} {ms : List Mark} (hnm : nm = ms.length) (hms : SlV h 2 eMark ma ms) (hml : ms.length ≤ 1000) {l : List Span} {e : Int} (E1 : coS (withM s ma mc ms) = l) (E2 : errD (withM s ma mc ms) = e)
    (H : ∀ (V : Vec), l.length ≤ 1000 → V.ok 2 l.length (l.flatMap eSpan) → R (.returned (.tuple ⟨[.slice V.ad l.length V.cp, I e]⟩)) (V.hp 30 (l.flatMap eSpan) ++ h)) : ACalls Try.prog f ⟨[.agg ⟨eSl s ma nm mc⟩]⟩ h R := by
  subst hnm
  exact Coins5_c (s := withM s ma mc ms) ⟨hs.tars, hms⟩ ⟨hsm.tars, hml⟩ hf E1 E2 H
theorem LeftM_c {f : FuncId} {s : Slot} {h : Hp} {R : Ending → Hp → Prop} (hs : SlotV h s) (hsm : Small s) (hf : f = 16 ∨ f = 22) {ma : Option Addr} {mc nm : Nat} {ms : List Mark} (hnm : nm = ms.length) (hms : SlV h 2 eMark ma ms) (hml : ms.length ≤ 1000) {x : Span} {e : Int} (E1 : leS (withM s ma mc ms) = x) (E2 : errD (withM s ma mc ms) = e)
    (H : R (.returned (.tuple ⟨[.agg ⟨eSpan x⟩, I e]⟩)) h) : ACalls Try.prog f ⟨[.agg ⟨eSl s ma nm mc⟩]⟩ h R := by
  subst hnm
  exact Left3_c (s := withM s ma mc ms) ⟨hs.tars, hms⟩ ⟨hsm.tars, hml⟩ hf E1 E2 H
theorem PennyOrder_c {s : Slot} {h : Hp} {R : Ending → Hp → Prop} (hs : SlotV h s) {ha : Option Addr} {hc : Nat} {hours : List Int} (hh : SlV h 1 eI ha hours) {nt : Nat} (hnt : nt ≤ 255) (H : R (.returned (.bool true)) h) : ACalls Try.prog 4 ⟨[.agg ⟨eSlot s⟩, .slice ha hours.length hc, .int .u8 (nt : Int)]⟩ h R := by
  refine calls_of_xc (N := 199) Try.func4 rfl (by rfl) ?_
  refine xc_seq (xc_region ?_)
  refine xr_op rfl rfl (xv_box rfl (fun c3 hc3 => ?_))
  refine xr_op rfl rfl (xv_assign rfl ?_)
  refine xr_end rfl ?_
  refine th_n ?_
  refine xc_seq ?_
  refine xc_seq (xc_region ?_)
  refine xr_op rfl rfl (xv_loadA ty25 rfl rfl (by ((repeat first|exact z_0|assumption|refine z_1 ?_|(refine z_l ?_;(repeat first|exact z_0|assumption|refine z_1 ?_);done)|refine z_r ?_);done)) (by ((try apply evl_some rfl);(repeat (first|exact (rfl : _ = [])|apply evl_cons rfl (by (first|exact v_1|exact v_2|exact v_3|exact v_4|exact v_5|exact v_6|exact v_7|exact v_8|exact v_9|exact rfl))|exact rfl)))) (by rfl) ?_)
  refine xr_op rfl rfl (xv_calls rfl hb11 (great_c (up_ret ?_) (fun hg1 hg2 hg3 => up_ret ?_)))
  · refine xr_op rfl rfl (xv_move rfl ?_)
    refine xr_no rfl rfl rfl rfl ?_
    refine xr_no rfl rfl rfl rfl ?_
    refine xr_no rfl rfl rfl rfl ?_
    refine xr_op rfl rfl (xv_pick rfl rfl ?_)
    refine xr_end rfl ?_
    refine th_n ?_
    refine xc_true rfl ?_
    refine xc_seq (xc_region ?_)
    refine xr_op rfl rfl (xv_calls rfl hb12 (alive_c (up_ret ?_)))
    refine xr_op rfl rfl (xv_assign rfl ?_)
    refine xr_end rfl ?_
    refine th_n ?_
    refine xc_ret ?_
    refine th_r ?_
    refine body_ret (h' := h) rfl (ro_tmp rfl ro_nil) (by (first|((repeat first|exact s_0|exact s_1|exact s_3|refine s_4 ?_|refine s_5 ?_|refine s_6 ?_|refine s_7 ?_);done)|((repeat first|exact s_0|exact s_1|exact s_3|refine s_4 ?_|refine s_5 ?_|refine s_6 ?_|refine s_8 ?_);done))) ?_
    exact H
  · refine xr_op rfl rfl (xv_move rfl ?_)
    refine xr_gd rfl rfl rfl (xv_move rfl ?_)
    refine xr_gd rfl rfl rfl (xv_len sl26 rfl ?_)
    refine xr_gd rfl rfl rfl (xv_gtr2 rfl rfl (fun q1 => ?_) (fun q1 => ?_))
    · refine xr_op rfl rfl (xv_pick rfl rfl ?_)
      refine xr_end rfl ?_
      refine th_n ?_
      refine xc_true rfl ?_
      refine xc_seq (xc_region ?_)
      refine xr_op rfl rfl (xv_calls rfl hb12 (alive_c (up_ret ?_)))
      refine xr_op rfl rfl (xv_assign rfl ?_)
      refine xr_end rfl ?_
      refine th_n ?_
      refine xc_ret ?_
      refine th_r ?_
      refine body_ret (h' := h) rfl (ro_tmp rfl ro_nil) (by (first|((repeat first|exact s_0|exact s_1|exact s_3|refine s_4 ?_|refine s_5 ?_|refine s_6 ?_|refine s_7 ?_);done)|((repeat first|exact s_0|exact s_1|exact s_3|refine s_4 ?_|refine s_5 ?_|refine s_6 ?_|refine s_8 ?_);done))) ?_
      exact H
    · refine xr_op rfl rfl (xv_pick rfl rfl ?_)
      refine xr_end rfl ?_
      refine th_n ?_
      refine xc_false rfl ?_
      refine xc_skip ?_
      refine th_n ?_
      refine xc_seq (xc_region ?_)
      refine xr_op rfl rfl (xv_loadA ty25 rfl rfl (by ((repeat first|exact z_0|assumption|refine z_1 ?_|(refine z_l ?_;(repeat first|exact z_0|assumption|refine z_1 ?_);done)|refine z_r ?_);done)) (by ((try apply evl_some rfl);(repeat (first|exact (rfl : _ = [])|apply evl_cons rfl (by (first|exact v_1|exact v_2|exact v_3|exact v_4|exact v_5|exact v_6|exact v_7|exact v_8|exact v_9|exact rfl))|exact rfl)))) (by rfl) ?_)
      refine xr_op rfl rfl (xv_move rfl ?_)
      refine xr_op rfl rfl (xv_calls rfl hb13 (PPlay_c (hs.sub (by intro z hz; ((repeat first|exact z_0|assumption|refine z_1 ?_|(refine z_l ?_;(repeat first|exact z_0|assumption|refine z_1 ?_);done)|refine z_r ?_);done))) ⟨by omega, by omega⟩ (hh.sub (by intro z hz; ((repeat first|exact z_0|assumption|refine z_1 ?_|(refine z_l ?_;(repeat first|exact z_0|assumption|refine z_1 ?_);done)|refine z_r ?_);done))) (by (first|omega|(dsimp only at *;omega)|(simp at *;omega))) (up_ret ?_)))
      refine xr_op rfl rfl (xv_move rfl ?_)
      refine xr_op rfl rfl (xv_extract rfl rfl ?_)
      refine xr_op rfl rfl (xv_extract rfl rfl ?_)
      refine xr_op rfl rfl (xv_extract rfl rfl ?_)
      refine xr_op rfl rfl (xv_extract rfl rfl ?_)
      refine xr_op rfl rfl (xv_alloc ty30 (fun c8 hc8 => ?_))
      refine xr_op rfl rfl (xv_assign rfl ?_)
      refine xr_op rfl rfl (xv_s ty30 rfl rfl (by (first|(apply u_3;(repeat first|exact u_0|assumption|apply u_1|apply u_2);done)|((repeat first|exact u_0|assumption|apply u_1|apply u_2);done)|(apply u_3;apply u_3;(repeat first|exact u_0|assumption|apply u_1|apply u_2);done)|((repeat first|exact u_0|assumption|apply u_3|apply u_1);done))) (by ((try apply evl_some rfl);(repeat (first|exact (rfl : _ = [])|apply evl_cons rfl (by (first|exact v_1|exact v_2|exact v_3|exact v_4|exact v_5|exact v_6|exact v_7|exact v_8|exact v_9|exact rfl))|exact rfl)))) (by rfl) (by rfl) (by rfl) (by ((try apply evl_some rfl);(repeat (first|exact (rfl : _ = [])|apply evl_cons rfl (by (first|exact v_1|exact v_2|exact v_3|exact v_4|exact v_5|exact v_6|exact v_7|exact v_8|exact v_9|exact rfl))|exact rfl)))) ?_)
      refine xr_op rfl rfl (xv_assign rfl ?_)
      refine xr_op rfl rfl (xv_assign rfl ?_)
      refine xr_end rfl ?_
      refine th_n ?_
      refine xc_seq (xc_region ?_)
      refine xr_op rfl rfl (xv_loadA ty25 rfl rfl (by ((repeat first|exact z_0|assumption|refine z_1 ?_|(refine z_l ?_;(repeat first|exact z_0|assumption|refine z_1 ?_);done)|refine z_r ?_);done)) (by ((try apply evl_some rfl);(repeat (first|exact (rfl : _ = [])|apply evl_cons rfl (by (first|exact v_1|exact v_2|exact v_3|exact v_4|exact v_5|exact v_6|exact v_7|exact v_8|exact v_9|exact rfl))|exact rfl)))) (by rfl) ?_)
      refine xr_op rfl rfl (xv_calls rfl hb15 (Coins5_c (hs.sub (by intro z hz; ((repeat first|exact z_0|assumption|refine z_1 ?_|(refine z_l ?_;(repeat first|exact z_0|assumption|refine z_1 ?_);done)|refine z_r ?_);done))) ⟨by omega, by omega⟩ (.inl rfl) rfl rfl (fun V1 hl1 hV1 => up_ret ?_)))
      refine xr_op rfl rfl (xv_move rfl ?_)
      refine xr_op rfl rfl (xv_extract rfl rfl ?_)
      refine xr_op rfl rfl (xv_extract rfl rfl ?_)
      refine xr_op rfl rfl (xv_assign rfl ?_)
      refine xr_op rfl rfl (xv_assign rfl ?_)
      refine xr_end rfl ?_
      refine th_n ?_
      refine xc_seq (xc_region ?_)
      refine xr_op rfl rfl (xv_loadA ty25 rfl rfl (by ((repeat first|exact z_0|assumption|refine z_1 ?_|(refine z_l ?_;(repeat first|exact z_0|assumption|refine z_1 ?_);done)|refine z_r ?_);done)) (by ((try apply evl_some rfl);(repeat (first|exact (rfl : _ = [])|apply evl_cons rfl (by (first|exact v_1|exact v_2|exact v_3|exact v_4|exact v_5|exact v_6|exact v_7|exact v_8|exact v_9|exact rfl))|exact rfl)))) (by rfl) ?_)
      refine xr_op rfl rfl (xv_calls rfl hb16 (Left3_c (hs.sub (by intro z hz; ((repeat first|exact z_0|assumption|refine z_1 ?_|(refine z_l ?_;(repeat first|exact z_0|assumption|refine z_1 ?_);done)|refine z_r ?_);done))) ⟨by omega, by omega⟩ (.inl rfl) rfl rfl (up_ret ?_)))
      refine xr_op rfl rfl (xv_move rfl ?_)
      refine xr_op rfl rfl (xv_extract rfl rfl ?_)
      refine xr_op rfl rfl (xv_extract rfl rfl ?_)
      refine xr_op rfl rfl (xv_alloc ty30 (fun c13 hc13 => ?_))
      refine xr_op rfl rfl (xv_s ty30 rfl rfl (by (first|(apply u_3;(repeat first|exact u_0|assumption|apply u_1|apply u_2);done)|((repeat first|exact u_0|assumption|apply u_1|apply u_2);done)|(apply u_3;apply u_3;(repeat first|exact u_0|assumption|apply u_1|apply u_2);done)|((repeat first|exact u_0|assumption|apply u_3|apply u_1);done))) (by ((try apply evl_some rfl);(repeat (first|exact (rfl : _ = [])|apply evl_cons rfl (by (first|exact v_1|exact v_2|exact v_3|exact v_4|exact v_5|exact v_6|exact v_7|exact v_8|exact v_9|exact rfl))|exact rfl)))) (by rfl) (by rfl) (by rfl) (by ((try apply evl_some rfl);(repeat (first|exact (rfl : _ = [])|apply evl_cons rfl (by (first|exact v_1|exact v_2|exact v_3|exact v_4|exact v_5|exact v_6|exact v_7|exact v_8|exact v_9|exact rfl))|exact rfl)))) ?_)
      refine xr_op rfl rfl (xv_assign rfl ?_)
      refine xr_end rfl ?_
      refine th_n ?_
      refine xc_seq ?_
      refine xc_seq (xc_region ?_)
      refine xr_op rfl rfl (xv_move rfl ?_)
      refine xr_op rfl rfl (xv_eql2 rfl rfl (fun hq => ?_) (fun hq => ?_))
      · refine xr_end rfl ?_
        refine th_n ?_
        refine xc_true rfl ?_
        refine xc_seq (xc_region ?_)
        have h1e : errS s = 1 := (play_err hours).1 (by (first|omega|(dsimp only at *;omega)|(simp at *;omega)))
        have h1d : errD s = 1 := by rw [errD_e (by omega)]; exact h1e
        have hng := errS_1'.1 h1e
        refine xr_op rfl rfl (xv_move rfl ?_)
        refine xr_op rfl rfl (xv_move rfl ?_)
        refine xr_op rfl rfl (xv_eqlT rfl rfl (by (first|omega|(dsimp only at *;omega)|(simp at *;omega))) ?_)
        refine xr_op rfl rfl (xv_move rfl ?_)
        refine xr_gd rfl rfl rfl (xv_move rfl ?_)
        refine xr_gd rfl rfl rfl (xv_move rfl ?_)
        refine xr_gd rfl rfl rfl (xv_eqlT rfl rfl (by (first|omega|(dsimp only at *;omega)|(simp at *;omega))) ?_)
        refine xr_op rfl rfl (xv_pick rfl rfl ?_)
        refine xr_op rfl rfl (xv_move rfl ?_)
        refine xr_gd rfl rfl rfl (xv_loadA ty25 rfl rfl (by ((repeat first|exact z_0|assumption|refine z_1 ?_|(refine z_l ?_;(repeat first|exact z_0|assumption|refine z_1 ?_);done)|refine z_r ?_);done)) (by ((try apply evl_some rfl);(repeat (first|exact (rfl : _ = [])|apply evl_cons rfl (by (first|exact v_1|exact v_2|exact v_3|exact v_4|exact v_5|exact v_6|exact v_7|exact v_8|exact v_9|exact rfl))|exact rfl)))) (by rfl) ?_)
        refine xr_gd rfl rfl rfl (xv_calls rfl hb17 (Slot_c (hs.sub (by intro z hz; ((repeat first|exact z_0|assumption|refine z_1 ?_|(refine z_l ?_;(repeat first|exact z_0|assumption|refine z_1 ?_);done)|refine z_r ?_);done))) ⟨by omega, by omega⟩ (fun q9 => absurd q9 hng) (fun _ => up_ret ?_)))
        refine xr_gd rfl rfl rfl (xv_not rfl ?_)
        refine xr_op rfl rfl (xv_pick rfl rfl ?_)
        refine xr_op rfl rfl (xv_move rfl ?_)
        refine xr_gd rfl rfl rfl (xv_calls rfl hb12 (alive_c (up_ret ?_)))
        refine xr_op rfl rfl (xv_pick rfl rfl ?_)
        refine xr_op rfl rfl (xv_assign rfl ?_)
        refine xr_end rfl ?_
        refine th_n ?_
        refine xc_ret ?_
        refine th_r ?_
        refine body_ret (h' := h) rfl (ro_tmp rfl ro_nil) (by (first|((repeat first|exact s_0|exact s_1|exact s_3|refine s_4 ?_|refine s_5 ?_|refine s_6 ?_|refine s_7 ?_);done)|((repeat first|exact s_0|exact s_1|exact s_3|refine s_4 ?_|refine s_5 ?_|refine s_6 ?_|refine s_8 ?_);done))) ?_
        exact H
      · refine xr_end rfl ?_
        refine th_n ?_
        refine xc_false rfl ?_
        refine xc_skip ?_
        refine th_n ?_
        refine xc_seq (xc_region ?_)
        have hgs : GoodSlot s := Decidable.byContradiction fun q9 => absurd ((play_err hours).2 (errS_1 q9)) (by (first|omega|(dsimp only at *;omega)|(simp at *;omega)))
        refine xr_op rfl rfl (xv_loadA ty25 rfl rfl (by ((repeat first|exact z_0|assumption|refine z_1 ?_|(refine z_l ?_;(repeat first|exact z_0|assumption|refine z_1 ?_);done)|refine z_r ?_);done)) (by ((try apply evl_some rfl);(repeat (first|exact (rfl : _ = [])|apply evl_cons rfl (by (first|exact v_1|exact v_2|exact v_3|exact v_4|exact v_5|exact v_6|exact v_7|exact v_8|exact v_9|exact rfl))|exact rfl)))) (by rfl) ?_)
        refine xr_op rfl rfl (xv_alloc ty25 (fun c15 hc15 => ?_))
        refine xr_op rfl rfl (xv_s (l' := eSlot s) ty25 rfl rfl (by (first|(apply u_3;(repeat first|exact u_0|assumption|apply u_1|apply u_2);done)|((repeat first|exact u_0|assumption|apply u_1|apply u_2);done)|(apply u_3;apply u_3;(repeat first|exact u_0|assumption|apply u_1|apply u_2);done)|((repeat first|exact u_0|assumption|apply u_3|apply u_1);done))) rfl rfl rfl rfl rfl ?_)
        refine xr_end rfl ?_
        refine th_n ?_
        refine xc_seq (xc_region ?_)
        refine xr_op rfl rfl (xv_faddr fl25_5 rfl ?_)
        refine xr_op rfl rfl (xv_s1 (l' := eSl s none 0 0) ty23 rfl rfl rfl (by (first|(apply u_3;(repeat first|exact u_0|assumption|apply u_1|apply u_2);done)|((repeat first|exact u_0|assumption|apply u_1|apply u_2);done)|(apply u_3;apply u_3;(repeat first|exact u_0|assumption|apply u_1|apply u_2);done)|((repeat first|exact u_0|assumption|apply u_3|apply u_1);done))) rfl (by (first | decide | exact Nat.le_of_ble_eq_true rfl | (simp only [List.length_cons, List.length_nil]; omega) | (simp; done))) rfl ?_)
        refine xr_end rfl ?_
        refine th_n ?_
        refine xc_seq ?_
        refine xc_seq (xc_region ?_)
        refine xr_op rfl rfl (xv_faddr fl25_5 rfl ?_)
        refine xr_op rfl rfl (xv_load1 ty23 rfl rfl (by ((repeat first|exact z_0|assumption|refine z_1 ?_|(refine z_l ?_;(repeat first|exact z_0|assumption|refine z_1 ?_);done)|refine z_r ?_);done)) (by rfl) ?_)
        refine xr_op rfl rfl (xv_len sl23 rfl ?_)
        refine xr_op rfl rfl (xv_move rfl ?_)
        refine xr_end rfl ?_
        refine th_n ?_
        refine xc_block ?_
        refine xc_loop (σ := Nat × Vec) (fun z => z.1 ≤ s.marks.length ∧ z.2.ok 2 z.1 ((turnL s.marks nt z.1).flatMap eMark)) (fun z => ((((((((((((((emp.put (some 1) (.slice ha hours.length hc)).put (some 2) (.int .u8 (nt : Int))).put (some 3) (.pointer (some ⟨c3, 0, none⟩))).put (some 7) (I (playA s hours).1)).put (some 8) (.pointer (some ⟨c8, 0, none⟩))).put (some 9) (I (playA s hours).2.2.1)).put (some 10) (I (playA s hours).2.2.2)).put (some 11) (.slice V1.ad (coS s).length V1.cp)).put (some 12) (I (errD s))).put (some 13) (.pointer (some ⟨c13, 0, none⟩))).put (some 14) (I (errD s))).put (some 15) (.pointer (some ⟨c15, 0, none⟩))).put (some 76) (I s.marks.length)).put (some 77) (I z.1))) (fun z => (z.2.hp 42 ((turnL s.marks nt z.1).flatMap eMark) ++ (c15, .cells ⟨eSl s z.2.ad z.1 z.2.cp⟩ 25) :: (c13, .cells ⟨eSpan (leS s)⟩ 30) :: (V1.hp 30 ((coS s).flatMap eSpan) ++ (c8, .cells ⟨eSpan (playA s hours).2.1⟩ 30) :: (c3, .cells ⟨eSlot s⟩ 25) :: h))) (fun z => s.marks.length - z.1) ((0, .nil) : Nat × Vec) ⟨Nat.zero_le _, ⟨rfl, rfl⟩⟩ (le_put (le_put (le_put (le_put (le_put (le_put (le_put (le_put (le_put (le_put (le_put (le_put (le_put (le_put (le_emp _) rfl) rfl) rfl) rfl) rfl) rfl) rfl) rfl) rfl) rfl) rfl) rfl) rfl) rfl) (by (first|((repeat first|exact s_0|exact s_1|exact s_3|refine s_4 ?_|refine s_5 ?_|refine s_6 ?_|refine s_7 ?_);done)|((repeat first|exact s_0|exact s_1|exact s_3|refine s_4 ?_|refine s_5 ?_|refine s_6 ?_|refine s_8 ?_);done))) ?_
        rintro ⟨k, V⟩ ⟨hk, hV⟩
        dsimp only at hk hV
        refine xc_seq (xc_region ?_)
        refine xr_op rfl rfl (xv_lss2 rfl rfl (fun q2 => ?_) (fun q2 => ?_))
        · refine xr_end rfl ?_
          refine th_n ?_
          refine xc_seq ?_
          refine xc_true rfl ?_
          refine xc_skip ?_
          refine th_n ?_
          refine xc_seq ?_
          refine xc_block ?_
          refine xc_seq (xc_region ?_)
          refine xr_op rfl rfl (xv_move rfl ?_)
          refine xr_op rfl rfl (xv_assign rfl ?_)
          refine xr_end rfl ?_
          refine th_n ?_
          refine xc_draw0 [(0, .S), (1, .R), (2, .S), (3, .R), (4, .S), (5, .S), (6, .S), (7, .S), (8, .S), (9, .R), (10, .S), (11, .S), (12, .S), (13, .R), (14, .P), (14, .A), (15, .O), (16, .S), (17, .O)] mixed (by kernel_rfl) ?_
          refine js_S rfl rfl (.inl rfl) (xv_faddr fl25_5 rfl ⟨rfl, rfl⟩) ?_
          refine js_R0 rfl rfl (.inl rfl) (xv_load1 ty23 rfl rfl (by ((repeat first|exact z_0|assumption|refine z_1 ?_|(refine z_l ?_;(repeat first|exact z_0|assumption|refine z_1 ?_);done)|refine z_r ?_);done)) (by rfl) ⟨rfl, rfl⟩) ?_
          refine js_S rfl rfl (.inl rfl) (xv_faddr fl25_5 rfl ⟨rfl, rfl⟩) ?_
          refine js_R0 rfl rfl (.inl rfl) (xv_load1 ty23 rfl rfl (by ((repeat first|exact z_0|assumption|refine z_1 ?_|(refine z_l ?_;(repeat first|exact z_0|assumption|refine z_1 ?_);done)|refine z_r ?_);done)) (by rfl) ⟨rfl, rfl⟩) ?_
          refine js_S rfl rfl (.inl rfl) (xv_move rfl ⟨rfl, rfl⟩) ?_
          refine js_S rfl rfl (.inl rfl) (xv_move rfl ⟨rfl, rfl⟩) ?_
          refine js_S rfl rfl (.inl rfl) (xv_convI Try.underlying5 Try.underlying3 rfl (wrap_i64 (by (first|omega|(dsimp only at *;omega)|(simp at *;omega))) (by (first|omega|(dsimp only at *;omega)|(simp at *;omega)))) ⟨rfl, rfl⟩) ?_
          refine js_S rfl rfl (.inl rfl) (xv_add rfl rfl (wrap_i64 (by (first|omega|(dsimp only at *;omega)|(simp at *;omega))) (by (first|omega|(dsimp only at *;omega)|(simp at *;omega)))) ⟨rfl, rfl⟩) ?_
          refine js_S rfl rfl (.inl rfl) (xv_faddr fl25_5 rfl ⟨rfl, rfl⟩) ?_
          refine js_R0 rfl rfl (.inl rfl) (xv_load1 ty23 rfl rfl (by ((repeat first|exact z_0|assumption|refine z_1 ?_|(refine z_l ?_;(repeat first|exact z_0|assumption|refine z_1 ?_);done)|refine z_r ?_);done)) (by rfl) ⟨rfl, rfl⟩) ?_
          refine js_S rfl rfl (.inl rfl) (xv_len sl23 rfl ⟨rfl, rfl⟩) ?_
          refine js_S rfl rfl (.inl rfl) (xv_rem (c := (((k + nt) % s.marks.length : Nat) : Int)) rfl rfl (by (first|omega|(dsimp only at *;omega)|(simp at *;omega))) (tmod_nat (m := k + nt) (n := s.marks.length) (by push_cast; rfl) rfl) ⟨rfl, rfl⟩) ?_
          have hltz : ((k + nt) % s.marks.length) < s.marks.length := Nat.mod_lt _ (by (first|omega|(dsimp only at *;omega)|(simp at *;omega)))
          obtain ⟨bz, oz, lz, tz, fzz, haz, hmz, hxz⟩ := (hs.marks).at hltz
          obtain ⟨xz, hkz⟩ : ∃ qq_, s.marks[((k + nt) % s.marks.length)]? = some qq_ := ⟨_, List.getElem?_eq_getElem hltz⟩
          refine js_S rfl rfl (.inl rfl) (xv_ia (sz := 2) (j := ((k + nt) % s.marks.length)) sl23 ty42 rfl (by rw [haz]; rfl) rfl (by (first | assumption | with_reducible exact Int.toNat_natCast _ | with_reducible rfl | rfl)) (by (first|omega|(dsimp only at *;omega)|(simp at *;omega))) (by (first|omega|(dsimp only at *;omega)|(simp at *;omega))) ⟨rfl, rfl⟩) ?_
          refine js_R0 rfl rfl (.inl rfl) (xv_loadA ty42 rfl rfl (by ((repeat first|exact z_0|assumption|refine z_1 ?_|(refine z_l ?_;(repeat first|exact z_0|assumption|refine z_1 ?_);done)|refine z_r ?_);done)) (hxz (((k + nt) % s.marks.length)) xz hkz) rfl ⟨rfl, rfl⟩) ?_
          refine js_P rfl rfl rfl (al_buildSlice sl23 ty42 rfl rfl rfl rfl rfl (by ((try apply evl_some rfl);(repeat (first|exact (rfl : _ = [])|apply evl_cons rfl (by (first|exact v_1|exact v_2|exact v_3|exact v_4|exact v_5|exact v_6|exact v_7|exact v_8|exact v_9|exact rfl))|exact rfl))))) ?_
          refine js_A0 rfl rfl rfl rfl rfl ⟨rfl, trivial⟩ (fun d1 hd1 => ?_)
          refine js_O0 rfl rfl (.inl rfl) (xv_append (V := V) (n := k) (xs := (turnL s.marks nt k).flatMap eMark) sl23 ty42 rfl (by rw [Vec.val_ad hV]; rfl) rfl hV (.there .here) (by ((repeat first|exact z_0|assumption|refine z_1 ?_|(refine z_l ?_;(repeat first|exact z_0|assumption|refine z_1 ?_);done)|refine z_r ?_);done)) (by ((try apply evl_some rfl);(repeat (first|exact (rfl : _ = [])|apply evl_cons rfl (by (first|exact v_1|exact v_2|exact v_3|exact v_4|exact v_5|exact v_6|exact v_7|exact v_8|exact v_9|exact rfl))|exact rfl)))) rfl rfl (by omega) (by simp only []; (first|omega|(dsimp only at *;omega)|(simp at *;omega))) (by (first|omega|(dsimp only at *;omega)|(simp at *;omega))) (fun V3 hV3 => ?_))
          refine js_S rfl rfl (.inl rfl) (xv_faddr fl25_5 rfl ⟨rfl, rfl⟩) ?_
          rw [Vec.val_ad hV3]
          refine js_O0 rfl rfl (.inl rfl) (xv_s1 (l' := eSl s V3.ad (k + 1) V3.cp) ty23 rfl rfl rfl (by (first|(apply u_3;(repeat first|exact u_0|assumption|apply u_1|apply u_2);done)|((repeat first|exact u_0|assumption|apply u_1|apply u_2);done)|(apply u_3;apply u_3;(repeat first|exact u_0|assumption|apply u_1|apply u_2);done)|((repeat first|exact u_0|assumption|apply u_3|apply u_1);done))) rfl (by (first | decide | exact Nat.le_of_ble_eq_true rfl | (simp only [List.length_cons, List.length_nil]; omega) | (simp; done))) rfl ?_)
          refine j_end0 ?_
          refine bk_n ?_
          refine th_n ?_
          refine xc_region ?_
          refine xr_op rfl rfl (xv_add rfl rfl (wrap_i64 (by (first|omega|(dsimp only at *;omega)|(simp at *;omega))) (by (first|omega|(dsimp only at *;omega)|(simp at *;omega)))) ?_)
          refine xr_op rfl rfl (xv_move rfl ?_)
          refine xr_end rfl ?_
          have et : (turnL s.marks nt (k + 1)).flatMap eMark = (turnL s.marks nt k).flatMap eMark ++ eMark xz := by rw [turnL_succ hkz, List.flatMap_append]; simp
          exact rnd ((k + 1, V3) : Nat × Vec) ⟨by (first|omega|(dsimp only at *;omega)|(simp at *;omega)), by dsimp only; rw [et]; exact hV3⟩ (by (first|omega|(dsimp only at *;omega)|(simp at *;omega))) (le_put (le_put (le_put (le_put (le_put (le_put (le_put (le_put (le_put (le_put (le_put (le_put (le_put (le_put (le_emp _) rfl) rfl) rfl) rfl) rfl) rfl) rfl) rfl) rfl) rfl) rfl) rfl) rfl) rfl) (by dsimp only; rw [et]; (first|((repeat first|exact s_0|exact s_1|exact s_3|refine s_4 ?_|refine s_5 ?_|refine s_6 ?_|refine s_7 ?_);done)|((repeat first|exact s_0|exact s_1|exact s_3|refine s_4 ?_|refine s_5 ?_|refine s_6 ?_|refine s_8 ?_);done)))
        · refine xr_end rfl ?_
          refine th_n ?_
          refine xc_seq ?_
          refine xc_false rfl ?_
          refine xc_exit ?_
          refine th_x ?_
          refine th_x ?_
          refine bk_same ?_
          refine th_n ?_
          refine xc_join (σ := Vec × List Mark) (fun z => z.1.ok 2 z.2.length (z.2.flatMap eMark) ∧ (∀ x, x ∈ z.2 ↔ x ∈ s.marks) ∧ z.2.length ≤ 12) (fun z => ((((((((((((emp.put (some 1) (.slice ha hours.length hc)).put (some 2) (.int .u8 (nt : Int))).put (some 3) (.pointer (some ⟨c3, 0, none⟩))).put (some 7) (I (playA s hours).1)).put (some 8) (.pointer (some ⟨c8, 0, none⟩))).put (some 9) (I (playA s hours).2.2.1)).put (some 10) (I (playA s hours).2.2.2)).put (some 11) (.slice V1.ad (coS s).length V1.cp)).put (some 12) (I (errD s))).put (some 13) (.pointer (some ⟨c13, 0, none⟩))).put (some 14) (I (errD s))).put (some 15) (.pointer (some ⟨c15, 0, none⟩)))) (fun z => (z.1.hp 42 (z.2.flatMap eMark) ++ (c15, .cells ⟨eSl s z.1.ad z.2.length z.1.cp⟩ 25) :: (c13, .cells ⟨eSpan (leS s)⟩ 30) :: (V1.hp 30 ((coS s).flatMap eSpan) ++ (c8, .cells ⟨eSpan (playA s hours).2.1⟩ 30) :: (c3, .cells ⟨eSlot s⟩ 25) :: h))) ?_ ?_
          · refine xc_seq (xc_region ?_)
            obtain rfl : s.marks.length = k := by (first|omega|(dsimp only at *;omega)|(simp at *;omega))
            have ht9 : ∀ x, x ∈ turnL s.marks nt s.marks.length ↔ x ∈ s.marks := fun x => (turnL_perm s.marks nt).mem_iff
            refine xr_op rfl rfl (xv_faddr fl25_5 rfl ?_)
            refine xr_op rfl rfl (xv_load1 ty23 rfl rfl (by ((repeat first|exact z_0|assumption|refine z_1 ?_|(refine z_l ?_;(repeat first|exact z_0|assumption|refine z_1 ?_);done)|refine z_r ?_);done)) (by rfl) ?_)
            refine xr_op rfl rfl (xv_len sl23 rfl ?_)
            refine xr_op rfl rfl (xv_assign rfl ?_)
            refine xr_end rfl ?_
            refine th_n ?_
            refine xc_seq (xc_region ?_)
            refine xr_op rfl rfl (xv_move rfl ?_)
            refine xr_op rfl rfl (xv_gtr2 rfl rfl (fun q4 => ?_) (fun q4 => ?_))
            · refine xr_op rfl rfl (xv_move rfl ?_)
              refine xr_gd rfl rfl rfl (xv_move rfl ?_)
              refine xr_gd rfl rfl rfl (xv_lss2 rfl rfl (fun q5 => ?_) (fun q5 => ?_))
              · refine xr_op rfl rfl (xv_pick rfl rfl ?_)
                refine xr_end rfl ?_
                refine th_n ?_
                refine xc_true rfl ?_
                refine xc_draw0 [(0, .S), (1, .R), (2, .S), (3, .R), (4, .S), (5, .S), (6, .S), (7, .S), (8, .S), (9, .S), (10, .R), (11, .P), (11, .A), (12, .O), (13, .S), (14, .O)] mixed (by kernel_rfl) ?_
                refine js_S rfl rfl (.inl rfl) (xv_faddr fl25_5 rfl ⟨rfl, rfl⟩) ?_
                refine js_R0 rfl rfl (.inl rfl) (xv_load1 ty23 rfl rfl (by ((repeat first|exact z_0|assumption|refine z_1 ?_|(refine z_l ?_;(repeat first|exact z_0|assumption|refine z_1 ?_);done)|refine z_r ?_);done)) (by rfl) ⟨rfl, rfl⟩) ?_
                refine js_S rfl rfl (.inl rfl) (xv_faddr fl25_5 rfl ⟨rfl, rfl⟩) ?_
                refine js_R0 rfl rfl (.inl rfl) (xv_load1 ty23 rfl rfl (by ((repeat first|exact z_0|assumption|refine z_1 ?_|(refine z_l ?_;(repeat first|exact z_0|assumption|refine z_1 ?_);done)|refine z_r ?_);done)) (by rfl) ⟨rfl, rfl⟩) ?_
                refine js_S rfl rfl (.inl rfl) (xv_move rfl ⟨rfl, rfl⟩) ?_
                refine js_S rfl rfl (.inl rfl) (xv_convI Try.underlying5 Try.underlying3 rfl (wrap_i64 (by (first|omega|(dsimp only at *;omega)|(simp at *;omega))) (by (first|omega|(dsimp only at *;omega)|(simp at *;omega)))) ⟨rfl, rfl⟩) ?_
                refine js_S rfl rfl (.inl rfl) (xv_quo (c := ((nt / 7 : Nat) : Int)) rfl rfl (by decide) (by rw [show ((nt : Int)).tdiv 7 = ((nt / 7 : Nat) : Int) from rfl]; exact wrap_i64 (by omega) (by omega)) ⟨rfl, rfl⟩) ?_
                refine js_S rfl rfl (.inl rfl) (xv_move rfl ⟨rfl, rfl⟩) ?_
                refine js_S rfl rfl (.inl rfl) (xv_rem (c := ((nt / 7 % s.marks.length : Nat) : Int)) rfl rfl (by (first|omega|(dsimp only at *;omega)|(simp at *;omega))) (tmod_nat rfl rfl) ⟨rfl, rfl⟩) ?_
                have hlte : (nt / 7 % s.marks.length) < (turnL s.marks nt s.marks.length).length := by rw [turnL_len]; exact Nat.mod_lt _ (by (first|omega|(dsimp only at *;omega)|(simp at *;omega)))
                obtain ⟨be, oe, le, te, fze, hae, hme, hxe⟩ := (((Vec.slvA (t := 42) eMark_len turnL_len hV).sub (by intro z hz; ((repeat first|exact z_0|assumption|refine z_1 ?_|(refine z_l ?_;(repeat first|exact z_0|assumption|refine z_1 ?_);done)|refine z_r ?_);done)) : SlV (V.hp 42 ((turnL s.marks nt s.marks.length).flatMap eMark) ++ (c15, .cells ⟨eSl s V.ad s.marks.length V.cp⟩ 25) :: (c13, .cells ⟨eSpan (leS s)⟩ 30) :: (V1.hp 30 ((coS s).flatMap eSpan) ++ (c8, .cells ⟨eSpan (playA s hours).2.1⟩ 30) :: (c3, .cells ⟨eSlot s⟩ 25) :: h)) 2 eMark V.ad (turnL s.marks nt s.marks.length))).at hlte
                obtain ⟨xe, hke⟩ : ∃ qq_, (turnL s.marks nt s.marks.length)[(nt / 7 % s.marks.length)]? = some qq_ := ⟨_, List.getElem?_eq_getElem hlte⟩
                have hme : nt / 7 % s.marks.length < s.marks.length := Nat.mod_lt _ (by (first|omega|(dsimp only at *;omega)|(simp at *;omega)))
                refine js_S rfl rfl (.inl rfl) (xv_ia (sz := 2) (j := (nt / 7 % s.marks.length)) sl23 ty42 rfl (by rw [hae]; rfl) rfl (by (first | assumption | with_reducible exact Int.toNat_natCast _ | with_reducible rfl | rfl)) (by (first|omega|(dsimp only at *;omega)|(simp at *;omega))) (by (first|omega|(dsimp only at *;omega)|(simp at *;omega))) ⟨rfl, rfl⟩) ?_
                refine js_R0 rfl rfl (.inl rfl) (xv_loadA ty42 rfl rfl (by ((repeat first|exact z_0|assumption|refine z_1 ?_|(refine z_l ?_;(repeat first|exact z_0|assumption|refine z_1 ?_);done)|refine z_r ?_);done)) (hxe ((nt / 7 % s.marks.length)) xe hke) rfl ⟨rfl, rfl⟩) ?_
                refine js_P rfl rfl rfl (al_buildSlice sl23 ty42 rfl rfl rfl rfl rfl (by ((try apply evl_some rfl);(repeat (first|exact (rfl : _ = [])|apply evl_cons rfl (by (first|exact v_1|exact v_2|exact v_3|exact v_4|exact v_5|exact v_6|exact v_7|exact v_8|exact v_9|exact rfl))|exact rfl))))) ?_
                refine js_A0 rfl rfl rfl rfl rfl ⟨rfl, trivial⟩ (fun d2 hd2 => ?_)
                refine js_O0 rfl rfl (.inl rfl) (xv_append (V := V) (n := s.marks.length) (xs := (turnL s.marks nt s.marks.length).flatMap eMark) sl23 ty42 rfl (by rw [Vec.val_ad hV]; rfl) rfl hV (.there .here) (by ((repeat first|exact z_0|assumption|refine z_1 ?_|(refine z_l ?_;(repeat first|exact z_0|assumption|refine z_1 ?_);done)|refine z_r ?_);done)) (by ((try apply evl_some rfl);(repeat (first|exact (rfl : _ = [])|apply evl_cons rfl (by (first|exact v_1|exact v_2|exact v_3|exact v_4|exact v_5|exact v_6|exact v_7|exact v_8|exact v_9|exact rfl))|exact rfl)))) rfl rfl (by omega) (by simp only []; (first|omega|(dsimp only at *;omega)|(simp at *;omega))) (by (first|omega|(dsimp only at *;omega)|(simp at *;omega))) (fun V4 hV4 => ?_))
                refine js_S rfl rfl (.inl rfl) (xv_faddr fl25_5 rfl ⟨rfl, rfl⟩) ?_
                rw [Vec.val_ad hV4]
                refine js_O0 rfl rfl (.inl rfl) (xv_s1 (l' := eSl s V4.ad (s.marks.length + 1) V4.cp) ty23 rfl rfl rfl (by (first|(apply u_3;(repeat first|exact u_0|assumption|apply u_1|apply u_2);done)|((repeat first|exact u_0|assumption|apply u_1|apply u_2);done)|(apply u_3;apply u_3;(repeat first|exact u_0|assumption|apply u_1|apply u_2);done)|((repeat first|exact u_0|assumption|apply u_3|apply u_1);done))) rfl (by (first | decide | exact Nat.le_of_ble_eq_true rfl | (simp only [List.length_cons, List.length_nil]; omega) | (simp; done))) rfl ?_)
                refine j_end0 ?_
                have et9 : (turnL s.marks nt s.marks.length ++ [xe]).flatMap eMark = (turnL s.marks nt s.marks.length).flatMap eMark ++ eMark xe := by rw [List.flatMap_append]; simp
                have el9 : (turnL s.marks nt s.marks.length ++ [xe]).length = s.marks.length + 1 := by rw [List.length_append, turnL_len]; rfl
                exact jn_n ((V4, turnL s.marks nt s.marks.length ++ [xe]) : Vec × List Mark) ⟨by dsimp only; rw [el9, et9]; exact hV4, fun x => by
                  dsimp only
                  rw [List.mem_append, ht9 x]
                  exact ⟨fun q9 => q9.elim id fun q8 => by rw [List.mem_singleton.1 q8]; exact (ht9 xe).1 (List.mem_of_getElem? hke), .inl⟩, by dsimp only; rw [el9]; (first|omega|(dsimp only at *;omega)|(simp at *;omega))⟩ (le_put (le_put (le_put (le_put (le_put (le_put (le_put (le_put (le_put (le_put (le_put (le_put (le_emp _) rfl) rfl) rfl) rfl) rfl) rfl) rfl) rfl) rfl) rfl) rfl) rfl) (by dsimp only; rw [el9, et9]; (first|((repeat first|exact s_0|exact s_1|exact s_3|refine s_4 ?_|refine s_5 ?_|refine s_6 ?_|refine s_7 ?_);done)|((repeat first|exact s_0|exact s_1|exact s_3|refine s_4 ?_|refine s_5 ?_|refine s_6 ?_|refine s_8 ?_);done)))
              · refine xr_op rfl rfl (xv_pick rfl rfl ?_)
                refine xr_end rfl ?_
                refine th_n ?_
                refine xc_false rfl ?_
                refine xc_skip ?_
                exact jn_n ((V, turnL s.marks nt s.marks.length) : Vec × List Mark) ⟨by dsimp only; rw [turnL_len]; exact hV, ht9, by dsimp only; rw [turnL_len]; exact hgs.2.1.2⟩ (le_put (le_put (le_put (le_put (le_put (le_put (le_put (le_put (le_put (le_put (le_put (le_put (le_emp _) rfl) rfl) rfl) rfl) rfl) rfl) rfl) rfl) rfl) rfl) rfl) rfl) (by dsimp only; rw [turnL_len]; (first|((repeat first|exact s_0|exact s_1|exact s_3|refine s_4 ?_|refine s_5 ?_|refine s_6 ?_|refine s_7 ?_);done)|((repeat first|exact s_0|exact s_1|exact s_3|refine s_4 ?_|refine s_5 ?_|refine s_6 ?_|refine s_8 ?_);done)))
            · refine xr_op rfl rfl (xv_move rfl ?_)
              refine xr_no rfl rfl rfl rfl ?_
              refine xr_no rfl rfl rfl rfl ?_
              refine xr_op rfl rfl (xv_pick rfl rfl ?_)
              refine xr_end rfl ?_
              refine th_n ?_
              refine xc_false rfl ?_
              refine xc_skip ?_
              exact jn_n ((V, turnL s.marks nt s.marks.length) : Vec × List Mark) ⟨by dsimp only; rw [turnL_len]; exact hV, ht9, by dsimp only; rw [turnL_len]; exact hgs.2.1.2⟩ (le_put (le_put (le_put (le_put (le_put (le_put (le_put (le_put (le_put (le_put (le_put (le_put (le_emp _) rfl) rfl) rfl) rfl) rfl) rfl) rfl) rfl) rfl) rfl) rfl) rfl) (by dsimp only; rw [turnL_len]; (first|((repeat first|exact s_0|exact s_1|exact s_3|refine s_4 ?_|refine s_5 ?_|refine s_6 ?_|refine s_7 ?_);done)|((repeat first|exact s_0|exact s_1|exact s_3|refine s_4 ?_|refine s_5 ?_|refine s_6 ?_|refine s_8 ?_);done)))
          · rintro ⟨V, ms⟩ ⟨hV, hms, hm12⟩
            dsimp only at hV hms hm12
            refine xc_seq (xc_region ?_)
            refine xr_op rfl rfl (xv_assign rfl ?_)
            refine xr_end rfl ?_
            refine th_n ?_
            refine xc_seq ?_
            refine xc_seq (xc_region ?_)
            refine xr_op rfl rfl (xv_move rfl ?_)
            refine xr_op rfl rfl (xv_len sl26 rfl ?_)
            refine xr_op rfl rfl (xv_move rfl ?_)
            refine xr_end rfl ?_
            refine th_n ?_
            refine xc_block ?_
            refine xc_loop (σ := Nat × Vec) (fun z => z.1 ≤ hours.length ∧ z.2.ok 1 z.1 ((turnL hours nt z.1).flatMap eI)) (fun z => (((((((((((((((emp.put (some 1) (.slice ha hours.length hc)).put (some 2) (.int .u8 (nt : Int))).put (some 3) (.pointer (some ⟨c3, 0, none⟩))).put (some 7) (I (playA s hours).1)).put (some 8) (.pointer (some ⟨c8, 0, none⟩))).put (some 9) (I (playA s hours).2.2.1)).put (some 10) (I (playA s hours).2.2.2)).put (some 11) (.slice V1.ad (coS s).length V1.cp)).put (some 12) (I (errD s))).put (some 13) (.pointer (some ⟨c13, 0, none⟩))).put (some 14) (I (errD s))).put (some 15) (.pointer (some ⟨c15, 0, none⟩))).put (some 18) (z.2.val z.1)).put (some 122) (I hours.length)).put (some 123) (I z.1))) (fun z => (z.2.hp 3 ((turnL hours nt z.1).flatMap eI) ++ (V.hp 42 (ms.flatMap eMark) ++ (c15, .cells ⟨eSl s V.ad ms.length V.cp⟩ 25) :: (c13, .cells ⟨eSpan (leS s)⟩ 30) :: (V1.hp 30 ((coS s).flatMap eSpan) ++ (c8, .cells ⟨eSpan (playA s hours).2.1⟩ 30) :: (c3, .cells ⟨eSlot s⟩ 25) :: h)))) (fun z => hours.length - z.1) ((0, .nil) : Nat × Vec) ⟨Nat.zero_le _, ⟨rfl, rfl⟩⟩ (le_put (le_put (le_put (le_put (le_put (le_put (le_put (le_put (le_put (le_put (le_put (le_put (le_put (le_put (le_put (le_emp _) rfl) rfl) rfl) rfl) rfl) rfl) rfl) rfl) rfl) rfl) rfl) rfl) rfl) rfl) rfl) (by (first|((repeat first|exact s_0|exact s_1|exact s_3|refine s_4 ?_|refine s_5 ?_|refine s_6 ?_|refine s_7 ?_);done)|((repeat first|exact s_0|exact s_1|exact s_3|refine s_4 ?_|refine s_5 ?_|refine s_6 ?_|refine s_8 ?_);done))) ?_
            rintro ⟨k, W⟩ ⟨hk, hW⟩
            dsimp only at hk hW
            refine xc_seq (xc_region ?_)
            refine xr_op rfl rfl (xv_lss2 rfl rfl (fun q7 => ?_) (fun q7 => ?_))
            · refine xr_end rfl ?_
              refine th_n ?_
              refine xc_seq ?_
              refine xc_true rfl ?_
              refine xc_skip ?_
              refine th_n ?_
              refine xc_seq ?_
              refine xc_block ?_
              refine xc_seq (xc_region ?_)
              refine xr_op rfl rfl (xv_move rfl ?_)
              refine xr_op rfl rfl (xv_assign rfl ?_)
              refine xr_end rfl ?_
              refine th_n ?_
              refine xc_region ?_
              refine xr_op rfl rfl (xv_move rfl ?_)
              refine xr_op rfl rfl (xv_move rfl ?_)
              refine xr_op rfl rfl (xv_move rfl ?_)
              refine xr_op rfl rfl (xv_move rfl ?_)
              refine xr_op rfl rfl (xv_convI Try.underlying5 Try.underlying3 rfl (wrap_i64 (by (first|omega|(dsimp only at *;omega)|(simp at *;omega))) (by (first|omega|(dsimp only at *;omega)|(simp at *;omega)))) ?_)
              refine xr_op rfl rfl (xv_add rfl rfl (wrap_i64 (by (first|omega|(dsimp only at *;omega)|(simp at *;omega))) (by (first|omega|(dsimp only at *;omega)|(simp at *;omega)))) ?_)
              refine xr_op rfl rfl (xv_move rfl ?_)
              refine xr_op rfl rfl (xv_len sl26 rfl ?_)
              refine xr_op rfl rfl (xv_rem (c := (((k + nt) % hours.length : Nat) : Int)) rfl rfl (by (first|omega|(dsimp only at *;omega)|(simp at *;omega))) (tmod_nat (m := k + nt) (n := hours.length) (by push_cast; rfl) rfl) ?_)
              have hltz : ((k + nt) % hours.length) < hours.length := Nat.mod_lt _ (by (first|omega|(dsimp only at *;omega)|(simp at *;omega)))
              obtain ⟨bz, oz, lz, tz, fzz, haz, hmz, hxz⟩ := (hh).at hltz
              obtain ⟨xz, hkz⟩ : ∃ qq_, hours[((k + nt) % hours.length)]? = some qq_ := ⟨_, List.getElem?_eq_getElem hltz⟩
              refine xr_op rfl rfl (xv_ia (sz := 1) (j := ((k + nt) % hours.length)) sl26 ty3 rfl (by rw [haz]; rfl) rfl (by (first | assumption | with_reducible exact Int.toNat_natCast _ | with_reducible rfl | rfl)) (by (first|omega|(dsimp only at *;omega)|(simp at *;omega))) (by (first|omega|(dsimp only at *;omega)|(simp at *;omega))) ?_)
              refine xr_op rfl rfl (xv_load1 ty3 rfl rfl (by ((repeat first|exact z_0|assumption|refine z_1 ?_|(refine z_l ?_;(repeat first|exact z_0|assumption|refine z_1 ?_);done)|refine z_r ?_);done)) (take_get (hxz (((k + nt) % hours.length)) xz hkz) (j := 0) rfl) ?_)
              refine xr_op rfl rfl ((al_buildSlice sl26 ty3 rfl rfl rfl rfl rfl (by ((try apply evl_some rfl);(repeat (first|exact (rfl : _ = [])|apply evl_cons rfl (by (first|exact v_1|exact v_2|exact v_3|exact v_4|exact v_5|exact v_6|exact v_7|exact v_8|exact v_9|exact rfl))|exact rfl))))).xv (fun d3 hd3 => ?_))
              refine xr_op rfl rfl (xv_append (V := W) (n := k) (xs := (turnL hours nt k).flatMap eI) sl26 ty3 rfl rfl rfl hW (.there .here) (by ((repeat first|exact z_0|assumption|refine z_1 ?_|(refine z_l ?_;(repeat first|exact z_0|assumption|refine z_1 ?_);done)|refine z_r ?_);done)) (by ((try apply evl_some rfl);(repeat (first|exact (rfl : _ = [])|apply evl_cons rfl (by (first|exact v_1|exact v_2|exact v_3|exact v_4|exact v_5|exact v_6|exact v_7|exact v_8|exact v_9|exact rfl))|exact rfl)))) rfl rfl (by omega) (by simp only []; (first|omega|(dsimp only at *;omega)|(simp at *;omega))) (by (first|omega|(dsimp only at *;omega)|(simp at *;omega))) (fun W2 hW2 => ?_))
              refine xr_op rfl rfl (xv_assign rfl ?_)
              refine xr_end rfl ?_
              refine bk_n ?_
              refine th_n ?_
              refine xc_region ?_
              refine xr_op rfl rfl (xv_add rfl rfl (wrap_i64 (by (first|omega|(dsimp only at *;omega)|(simp at *;omega))) (by (first|omega|(dsimp only at *;omega)|(simp at *;omega)))) ?_)
              refine xr_op rfl rfl (xv_move rfl ?_)
              refine xr_end rfl ?_
              have et : (turnL hours nt (k + 1)).flatMap eI = (turnL hours nt k).flatMap eI ++ eI xz := by rw [turnL_succ hkz, List.flatMap_append]; simp
              exact rnd ((k + 1, W2) : Nat × Vec) ⟨by (first|omega|(dsimp only at *;omega)|(simp at *;omega)), by dsimp only; rw [et]; exact hW2⟩ (by (first|omega|(dsimp only at *;omega)|(simp at *;omega))) (le_put (le_put (le_put (le_put (le_put (le_put (le_put (le_put (le_put (le_put (le_put (le_put (le_put (le_put (le_put (le_emp _) rfl) rfl) rfl) rfl) rfl) rfl) rfl) rfl) rfl) rfl) rfl) rfl) rfl) rfl) rfl) (by dsimp only; rw [et]; (first|((repeat first|exact s_0|exact s_1|exact s_3|refine s_4 ?_|refine s_5 ?_|refine s_6 ?_|refine s_7 ?_);done)|((repeat first|exact s_0|exact s_1|exact s_3|refine s_4 ?_|refine s_5 ?_|refine s_6 ?_|refine s_8 ?_);done)))
            · refine xr_end rfl ?_
              refine th_n ?_
              refine xc_seq ?_
              refine xc_false rfl ?_
              refine xc_exit ?_
              refine th_x ?_
              refine th_x ?_
              refine bk_same ?_
              refine th_n ?_
              refine xc_seq (xc_region ?_)
              obtain rfl : hours.length = k := by (first|omega|(dsimp only at *;omega)|(simp at *;omega))
              rw [Vec.val_ad hW]
              refine xr_op rfl rfl (xv_loadA (l' := eSl s V.ad ms.length V.cp) ty25 rfl rfl (by ((repeat first|exact z_0|assumption|refine z_1 ?_|(refine z_l ?_;(repeat first|exact z_0|assumption|refine z_1 ?_);done)|refine z_r ?_);done)) rfl rfl ?_)
              refine xr_op rfl rfl (xv_move rfl ?_)
              refine xr_op rfl rfl (xv_calls rfl hb13 (PPlayM_c (q := (turnL hours nt hours.length)) (hours := hours) (hs.sub (by intro z hz; ((repeat first|exact z_0|assumption|refine z_1 ?_|(refine z_l ?_;(repeat first|exact z_0|assumption|refine z_1 ?_);done)|refine z_r ?_);done))) ⟨by omega, by omega⟩ turnL_len.symm ((Vec.slvA (t := 3) eI_len turnL_len hW).sub (by intro z hz; ((repeat first|exact z_0|assumption|refine z_1 ?_|(refine z_l ?_;(repeat first|exact z_0|assumption|refine z_1 ?_);done)|refine z_r ?_);done))) (by rw [turnL_len]; (first|omega|(dsimp only at *;omega)|(simp at *;omega))) rfl ((Vec.slvA (t := 42) eMark_len rfl hV).sub (by intro z hz; ((repeat first|exact z_0|assumption|refine z_1 ?_|(refine z_l ?_;(repeat first|exact z_0|assumption|refine z_1 ?_);done)|refine z_r ?_);done))) (by omega) (play_M hgs hm12 hms (turnL_perm _ _)) (up_ret ?_)))
              refine xr_op rfl rfl (xv_move rfl ?_)
              refine xr_op rfl rfl (xv_extract rfl rfl ?_)
              refine xr_op rfl rfl (xv_extract rfl rfl ?_)
              refine xr_op rfl rfl (xv_extract rfl rfl ?_)
              refine xr_op rfl rfl (xv_extract rfl rfl ?_)
              refine xr_op rfl rfl (xv_alloc ty30 (fun d4 hd4 => ?_))
              refine xr_op rfl rfl (xv_assign rfl ?_)
              refine xr_op rfl rfl (xv_s ty30 rfl rfl (by (first|(apply u_3;(repeat first|exact u_0|assumption|apply u_1|apply u_2);done)|((repeat first|exact u_0|assumption|apply u_1|apply u_2);done)|(apply u_3;apply u_3;(repeat first|exact u_0|assumption|apply u_1|apply u_2);done)|((repeat first|exact u_0|assumption|apply u_3|apply u_1);done))) (by ((try apply evl_some rfl);(repeat (first|exact (rfl : _ = [])|apply evl_cons rfl (by (first|exact v_1|exact v_2|exact v_3|exact v_4|exact v_5|exact v_6|exact v_7|exact v_8|exact v_9|exact rfl))|exact rfl)))) (by rfl) (by rfl) (by rfl) (by ((try apply evl_some rfl);(repeat (first|exact (rfl : _ = [])|apply evl_cons rfl (by (first|exact v_1|exact v_2|exact v_3|exact v_4|exact v_5|exact v_6|exact v_7|exact v_8|exact v_9|exact rfl))|exact rfl)))) ?_)
              refine xr_op rfl rfl (xv_assign rfl ?_)
              refine xr_op rfl rfl (xv_assign rfl ?_)
              refine xr_end rfl ?_
              refine th_n ?_
              refine xc_seq (xc_region ?_)
              refine xr_op rfl rfl (xv_loadA (l' := eSl s V.ad ms.length V.cp) ty25 rfl rfl (by ((repeat first|exact z_0|assumption|refine z_1 ?_|(refine z_l ?_;(repeat first|exact z_0|assumption|refine z_1 ?_);done)|refine z_r ?_);done)) rfl rfl ?_)
              refine xr_op rfl rfl (xv_calls rfl hb15 (CoinsM_c (hs.sub (by intro z hz; ((repeat first|exact z_0|assumption|refine z_1 ?_|(refine z_l ?_;(repeat first|exact z_0|assumption|refine z_1 ?_);done)|refine z_r ?_);done))) ⟨by omega, by omega⟩ (.inl rfl) rfl ((Vec.slvA (t := 42) eMark_len rfl hV).sub (by intro z hz; ((repeat first|exact z_0|assumption|refine z_1 ?_|(refine z_l ?_;(repeat first|exact z_0|assumption|refine z_1 ?_);done)|refine z_r ?_);done))) (by omega) (co_M hgs hm12 hms) (errD_M hgs hm12 hms) (fun V2 hl2 hV2 => up_ret ?_)))
              refine xr_op rfl rfl (xv_move rfl ?_)
              refine xr_op rfl rfl (xv_extract rfl rfl ?_)
              refine xr_op rfl rfl (xv_extract rfl rfl ?_)
              refine xr_op rfl rfl (xv_assign rfl ?_)
              refine xr_op rfl rfl (xv_assign rfl ?_)
              refine xr_end rfl ?_
              refine th_n ?_
              refine xc_seq (xc_region ?_)
              refine xr_op rfl rfl (xv_loadA (l' := eSl s V.ad ms.length V.cp) ty25 rfl rfl (by ((repeat first|exact z_0|assumption|refine z_1 ?_|(refine z_l ?_;(repeat first|exact z_0|assumption|refine z_1 ?_);done)|refine z_r ?_);done)) rfl rfl ?_)
              refine xr_op rfl rfl (xv_calls rfl hb16 (LeftM_c (hs.sub (by intro z hz; ((repeat first|exact z_0|assumption|refine z_1 ?_|(refine z_l ?_;(repeat first|exact z_0|assumption|refine z_1 ?_);done)|refine z_r ?_);done))) ⟨by omega, by omega⟩ (.inl rfl) rfl ((Vec.slvA (t := 42) eMark_len rfl hV).sub (by intro z hz; ((repeat first|exact z_0|assumption|refine z_1 ?_|(refine z_l ?_;(repeat first|exact z_0|assumption|refine z_1 ?_);done)|refine z_r ?_);done))) (by omega) (le_M hgs hm12 hms) (errD_M hgs hm12 hms) (up_ret ?_)))
              refine xr_op rfl rfl (xv_move rfl ?_)
              refine xr_op rfl rfl (xv_extract rfl rfl ?_)
              refine xr_op rfl rfl (xv_extract rfl rfl ?_)
              refine xr_op rfl rfl (xv_alloc ty30 (fun d5 hd5 => ?_))
              refine xr_op rfl rfl (xv_s ty30 rfl rfl (by (first|(apply u_3;(repeat first|exact u_0|assumption|apply u_1|apply u_2);done)|((repeat first|exact u_0|assumption|apply u_1|apply u_2);done)|(apply u_3;apply u_3;(repeat first|exact u_0|assumption|apply u_1|apply u_2);done)|((repeat first|exact u_0|assumption|apply u_3|apply u_1);done))) (by ((try apply evl_some rfl);(repeat (first|exact (rfl : _ = [])|apply evl_cons rfl (by (first|exact v_1|exact v_2|exact v_3|exact v_4|exact v_5|exact v_6|exact v_7|exact v_8|exact v_9|exact rfl))|exact rfl)))) (by rfl) (by rfl) (by rfl) (by ((try apply evl_some rfl);(repeat (first|exact (rfl : _ = [])|apply evl_cons rfl (by (first|exact v_1|exact v_2|exact v_3|exact v_4|exact v_5|exact v_6|exact v_7|exact v_8|exact v_9|exact rfl))|exact rfl)))) ?_)
              refine xr_op rfl rfl (xv_assign rfl ?_)
              refine xr_end rfl ?_
              refine th_n ?_
              refine xc_seq (xc_region ?_)
              refine xr_op rfl rfl (xv_move rfl ?_)
              refine xr_op rfl rfl (xv_move rfl ?_)
              refine xr_op rfl rfl (xv_eqlT rfl rfl rfl ?_)
              refine xr_op rfl rfl (xv_move rfl ?_)
              refine xr_gd rfl rfl rfl (xv_loadA ty30 rfl rfl (by ((repeat first|exact z_0|assumption|refine z_1 ?_|(refine z_l ?_;(repeat first|exact z_0|assumption|refine z_1 ?_);done)|refine z_r ?_);done)) (by ((try apply evl_some rfl);(repeat (first|exact (rfl : _ = [])|apply evl_cons rfl (by (first|exact v_1|exact v_2|exact v_3|exact v_4|exact v_5|exact v_6|exact v_7|exact v_8|exact v_9|exact rfl))|exact rfl)))) (by rfl) ?_)
              refine xr_gd rfl rfl rfl (xv_loadA ty30 rfl rfl (by ((repeat first|exact z_0|assumption|refine z_1 ?_|(refine z_l ?_;(repeat first|exact z_0|assumption|refine z_1 ?_);done)|refine z_r ?_);done)) (by ((try apply evl_some rfl);(repeat (first|exact (rfl : _ = [])|apply evl_cons rfl (by (first|exact v_1|exact v_2|exact v_3|exact v_4|exact v_5|exact v_6|exact v_7|exact v_8|exact v_9|exact rfl))|exact rfl)))) (by rfl) ?_)
              refine xr_gd rfl rfl rfl (xv_eqA (b := true) fq30 rfl eg30 rfl rfl rfl rfl (by ((repeat' first | assumption | exact numNil | refine numCons ?_ | refine numApp ?_ ?_); done)) (by ((repeat' first | assumption | exact numNil | refine numCons ?_ | refine numApp ?_ ?_); done)) (eqc_self (by ((repeat' first | assumption | exact numNil | refine numCons ?_ | refine numApp ?_ ?_); done))) ?_)
              refine xr_op rfl rfl (xv_pick rfl rfl ?_)
              refine xr_op rfl rfl (xv_move rfl ?_)
              refine xr_gd rfl rfl rfl (xv_move rfl ?_)
              refine xr_gd rfl rfl rfl (xv_move rfl ?_)
              refine xr_gd rfl rfl rfl (xv_eqlT rfl rfl rfl ?_)
              refine xr_op rfl rfl (xv_pick rfl rfl ?_)
              refine xr_op rfl rfl (xv_move rfl ?_)
              refine xr_gd rfl rfl rfl (xv_move rfl ?_)
              refine xr_gd rfl rfl rfl (xv_move rfl ?_)
              refine xr_gd rfl rfl rfl (xv_eqlT rfl rfl rfl ?_)
              refine xr_op rfl rfl (xv_pick rfl rfl ?_)
              refine xr_op rfl rfl (xv_move rfl ?_)
              refine xr_gd rfl rfl rfl (xv_move rfl ?_)
              refine xr_gd rfl rfl rfl (xv_move rfl ?_)
              refine xr_gd rfl rfl rfl (xv_calls rfl hb18 (SpansT_c (xs := coS s) rfl rfl ((Vec.slvA (t := 30) eSpan_len rfl hV2).sub (by intro z hz; ((repeat first|exact z_0|assumption|refine z_1 ?_|(refine z_l ?_;(repeat first|exact z_0|assumption|refine z_1 ?_);done)|refine z_r ?_);done))) ((Vec.slvA (t := 30) eSpan_len rfl hV1).sub (by intro z hz; ((repeat first|exact z_0|assumption|refine z_1 ?_|(refine z_l ?_;(repeat first|exact z_0|assumption|refine z_1 ?_);done)|refine z_r ?_);done))) (by omega) (up_ret ?_)))
              refine xr_op rfl rfl (xv_pick rfl rfl ?_)
              refine xr_op rfl rfl (xv_move rfl ?_)
              refine xr_gd rfl rfl rfl (xv_move rfl ?_)
              refine xr_gd rfl rfl rfl (xv_move rfl ?_)
              refine xr_gd rfl rfl rfl (xv_eqlT rfl rfl rfl ?_)
              refine xr_op rfl rfl (xv_pick rfl rfl ?_)
              refine xr_op rfl rfl (xv_move rfl ?_)
              refine xr_gd rfl rfl rfl (xv_loadA ty30 rfl rfl (by ((repeat first|exact z_0|assumption|refine z_1 ?_|(refine z_l ?_;(repeat first|exact z_0|assumption|refine z_1 ?_);done)|refine z_r ?_);done)) (by ((try apply evl_some rfl);(repeat (first|exact (rfl : _ = [])|apply evl_cons rfl (by (first|exact v_1|exact v_2|exact v_3|exact v_4|exact v_5|exact v_6|exact v_7|exact v_8|exact v_9|exact rfl))|exact rfl)))) (by rfl) ?_)
              refine xr_gd rfl rfl rfl (xv_loadA ty30 rfl rfl (by ((repeat first|exact z_0|assumption|refine z_1 ?_|(refine z_l ?_;(repeat first|exact z_0|assumption|refine z_1 ?_);done)|refine z_r ?_);done)) (by ((try apply evl_some rfl);(repeat (first|exact (rfl : _ = [])|apply evl_cons rfl (by (first|exact v_1|exact v_2|exact v_3|exact v_4|exact v_5|exact v_6|exact v_7|exact v_8|exact v_9|exact rfl))|exact rfl)))) (by rfl) ?_)
              refine xr_gd rfl rfl rfl (xv_eqA (b := true) fq30 rfl eg30 rfl rfl rfl rfl (by ((repeat' first | assumption | exact numNil | refine numCons ?_ | refine numApp ?_ ?_); done)) (by ((repeat' first | assumption | exact numNil | refine numCons ?_ | refine numApp ?_ ?_); done)) (eqc_self (by ((repeat' first | assumption | exact numNil | refine numCons ?_ | refine numApp ?_ ?_); done))) ?_)
              refine xr_op rfl rfl (xv_pick rfl rfl ?_)
              refine xr_op rfl rfl (xv_move rfl ?_)
              refine xr_gd rfl rfl rfl (xv_move rfl ?_)
              refine xr_gd rfl rfl rfl (xv_move rfl ?_)
              refine xr_gd rfl rfl rfl (xv_eqlT rfl rfl rfl ?_)
              refine xr_op rfl rfl (xv_pick rfl rfl ?_)
              refine xr_op rfl rfl (xv_move rfl ?_)
              refine xr_gd rfl rfl rfl (xv_calls rfl hb12 (alive_c (up_ret ?_)))
              refine xr_op rfl rfl (xv_pick rfl rfl ?_)
              refine xr_op rfl rfl (xv_assign rfl ?_)
              refine xr_end rfl ?_
              refine th_n ?_
              refine xc_ret ?_
              refine body_ret (h' := h) rfl (ro_tmp rfl ro_nil) (by (first|((repeat first|exact s_0|exact s_1|exact s_3|refine s_4 ?_|refine s_5 ?_|refine s_6 ?_|refine s_7 ?_);done)|((repeat first|exact s_0|exact s_1|exact s_3|refine s_4 ?_|refine s_5 ?_|refine s_6 ?_|refine s_8 ?_);done))) ?_
              exact H

end Go.Proofs.Ytlcdbjgfeoagbaa
