/-
  Walks.
-/
import Derived.Test.YtjbfdfmngampdaaW14
import Derived.Test.YtjbfdfmngampdaaP8
namespace Go.Proofs.Ytjbfdfmngampdaa
open Go Go.H
set_option maxRecDepth 100000
set_option maxHeartbeats 8000000
set_option linter.all false
theorem RightT_c {l : List Supply} {a : Option Addr} {c : Nat} {m : List Int} {am : Option Addr} {cm : Nat} {q : Ask} {h : Hp} {R : Ending → Hp → Prop} (hl : SlV h 5 eSup a l) (hm : SlV h 1 eI am m) (hs : SupsOk l) (hlen : l.length ≤ 1000) (hml : m.length = l.length) (hin : InM l m) (hq : MixB q) (hr : rightP l q m) (H : R (.returned (.bool true)) h) : ACalls Try.prog 22 ⟨[.slice a l.length c, .slice am m.length cm, I q.vol, I q.least, I q.most]⟩ h R := Right_c hl hm hs hlen hml hin hq (by rw [decide_eq_true hr]; exact H)
theorem RightF_c {l : List Supply} {a : Option Addr} {c : Nat} {m : List Int} {am : Option Addr} {cm : Nat} {q : Ask} {h : Hp} {R : Ending → Hp → Prop} (hl : SlV h 5 eSup a l) (hm : SlV h 1 eI am m) (hs : SupsOk l) (hlen : l.length ≤ 1000) (hml : m.length = l.length) (hin : InM l m) (hq : MixB q) (hr : ¬ rightP l q m) (H : R (.returned (.bool false)) h) : ACalls Try.prog 22 ⟨[.slice a l.length c, .slice am m.length cm, I q.vol, I q.least, I q.most]⟩ h R := Right_c hl hm hs hlen hml hin hq (by rw [decide_eq_false hr]; exact H)
theorem SuppliesT_c {l : List Supply} {a : Option Addr} {c : Nat} {h : Hp} {R : Ending → Hp → Prop} (hl : SlV h 5 eSup a l) (hlen : l.length ≤ 1000) (hs : SupsOk l) (H : R (.returned (.bool true)) h) : ACalls Try.prog 10 ⟨[.slice a l.length c]⟩ h R := Supplies_c hl hlen (fun _ => H) (fun hn => absurd hs hn)
theorem SuppliesF_c {l : List Supply} {a : Option Addr} {c : Nat} {h : Hp} {R : Ending → Hp → Prop} (hl : SlV h 5 eSup a l) (hlen : l.length ≤ 1000) (hs : ¬ SupsOk l) (H : R (.returned (.bool false)) h) : ACalls Try.prog 10 ⟨[.slice a l.length c]⟩ h R := Supplies_c hl hlen (fun hn => absurd hn hs) (fun _ => H)

theorem HeatTrue_c {l : List Supply} {a : Option Addr} {c : Nat} {v le mo : Int} {bs : List Int} {ab : Option Addr} {cb : Nat} {h : Hp} {R : Ending → Hp → Prop} (hl : SlV h 5 eSup a l) (hb : SlV h 1 eH ab bs) (hblen : bs.length ≤ 9223372036854775807) (hbv : ∀ x ∈ bs, 0 ≤ x ∧ x ≤ 65535) (H : R (.returned (.bool true)) h) :
    ACalls Try.prog 5 ⟨[.slice a l.length c, I v, I le, I mo, .slice ab bs.length cb]⟩ h R := by
  refine calls_of_xc (N := 271) Try.func5 rfl (by rfl) ?_
  refine xc_seq (xc_region ?_)
  refine xr_op rfl rfl (xv_assign rfl ?_)
  refine xr_end rfl ?_
  refine th_n ?_
  refine xc_seq ?_
  refine xc_seq (xc_region ?_)
  refine xr_op rfl rfl (xv_move rfl ?_)
  refine xr_op rfl rfl (xv_len sl22 rfl ?_)
  refine xr_op rfl rfl (xv_gtr2 rfl rfl (fun q1 => ?_) (fun q1 => ?_))
  · refine xr_op rfl rfl (xv_move rfl ?_)
    refine xr_no rfl rfl rfl rfl ?_
    refine xr_no rfl rfl rfl rfl ?_
    refine xr_no rfl rfl rfl rfl ?_
    refine xr_op rfl rfl (xv_pick rfl rfl ?_)
    refine xr_end rfl ?_
    refine th_n ?_
    refine xc_true rfl ?_
    refine xc_seq (xc_region ?_)
    refine xr_op rfl rfl (xv_calls rfl hb9 (awake_c (up_ret ?_)))
    refine xr_op rfl rfl (xv_assign rfl ?_)
    refine xr_end rfl ?_
    refine th_n ?_
    refine xc_ret ?_
    refine th_r ?_
    refine body_ret (h' := h) rfl (ro_tmp rfl ro_nil) (by (first|((repeat first|exact s_0|exact s_1|exact s_3|refine s_4 ?_|refine s_5 ?_|refine s_6 ?_|refine s_7 ?_);done)|((repeat first|exact s_0|exact s_1|exact s_3|refine s_4 ?_|refine s_5 ?_|refine s_6 ?_|refine s_8 ?_);done))) ?_
    first | exact H | (exfalso; exact hnb ⟨⟨(by first | omega | (dsimp only; omega)), (by first | omega | (dsimp only; omega))⟩, ⟨(by first | omega | (dsimp only; omega)), (by first | omega | (dsimp only; omega))⟩, (by first | omega | (dsimp only; omega)), (by first | omega | (dsimp only; omega))⟩) | (exfalso; (first | omega | (dsimp only at *; omega) | (simp at *; omega)))
  · refine xr_op rfl rfl (xv_move rfl ?_)
    refine xr_gd rfl rfl rfl (xv_move rfl ?_)
    refine xr_gd rfl rfl rfl (xv_len sl46 rfl ?_)
    refine xr_gd rfl rfl rfl (xv_eql2 rfl rfl (fun q2 => ?_) (fun q2 => ?_))
    · refine xr_op rfl rfl (xv_pick rfl rfl ?_)
      refine xr_end rfl ?_
      refine th_n ?_
      refine xc_true rfl ?_
      refine xc_seq (xc_region ?_)
      refine xr_op rfl rfl (xv_calls rfl hb9 (awake_c (up_ret ?_)))
      refine xr_op rfl rfl (xv_assign rfl ?_)
      refine xr_end rfl ?_
      refine th_n ?_
      refine xc_ret ?_
      refine th_r ?_
      refine body_ret (h' := h) rfl (ro_tmp rfl ro_nil) (by (first|((repeat first|exact s_0|exact s_1|exact s_3|refine s_4 ?_|refine s_5 ?_|refine s_6 ?_|refine s_7 ?_);done)|((repeat first|exact s_0|exact s_1|exact s_3|refine s_4 ?_|refine s_5 ?_|refine s_6 ?_|refine s_8 ?_);done))) ?_
      first | exact H | (exfalso; exact hnb ⟨⟨(by first | omega | (dsimp only; omega)), (by first | omega | (dsimp only; omega))⟩, ⟨(by first | omega | (dsimp only; omega)), (by first | omega | (dsimp only; omega))⟩, (by first | omega | (dsimp only; omega)), (by first | omega | (dsimp only; omega))⟩) | (exfalso; (first | omega | (dsimp only at *; omega) | (simp at *; omega)))
    · refine xr_op rfl rfl (xv_pick rfl rfl ?_)
      refine xr_end rfl ?_
      refine th_n ?_
      refine xc_false rfl ?_
      refine xc_skip ?_
      refine th_n ?_
      refine xc_seq (xc_region ?_)
      rcases mix_cases1 (l := l) (q := ⟨v, le, mo⟩) with ⟨hl5, hma⟩ | ⟨hl5, hns, hma⟩ | ⟨hl5, hsu⟩
      · refine xr_op rfl rfl (xv_move rfl ?_)
        refine xr_op rfl rfl (xv_move rfl ?_)
        refine xr_op rfl rfl (xv_move rfl ?_)
        refine xr_op rfl rfl (xv_move rfl ?_)
        refine xr_op rfl rfl (xv_calls rfl hb11 (MixE_c (q := ⟨v, le, mo⟩) (hl.sub (by intro z hz; ((repeat first|exact z_0|assumption|refine z_1 ?_|(refine z_l ?_;(repeat first|exact z_0|assumption|refine z_1 ?_);done)|refine z_r ?_);done))) (by omega) hma (fun a1 c1 q1 s1 => up_ret ?_)))
        refine xr_op rfl rfl (xv_move rfl ?_)
        refine xr_op rfl rfl (xv_extract rfl rfl ?_)
        refine xr_op rfl rfl (xv_extract rfl rfl ?_)
        refine xr_op rfl rfl (xv_extract rfl rfl ?_)
        refine xr_op rfl rfl (xv_assign rfl ?_)
        refine xr_op rfl rfl (xv_assign rfl ?_)
        refine xr_op rfl rfl (xv_assign rfl ?_)
        refine xr_end rfl ?_
        refine th_n ?_
        refine xc_seq ?_
        refine xc_seq (xc_region ?_)
        refine xr_op rfl rfl (xv_move rfl ?_)
        refine xr_op rfl rfl (xv_len sl22 rfl ?_)
        refine xr_op rfl rfl (xv_cmpK rfl rfl (cmpT (by simp only [cmpP]; (first | omega | (dsimp only at *; omega) | (simp at *; omega)))) ?_)
        refine xr_op rfl rfl (xv_move rfl ?_)
        refine xr_no rfl rfl rfl rfl ?_
        refine xr_no rfl rfl rfl rfl ?_
        refine xr_no rfl rfl rfl rfl ?_
        refine xr_op rfl rfl (xv_pick rfl rfl ?_)
        refine xr_end rfl ?_
        refine th_n ?_
        refine xc_true rfl ?_
        refine xc_seq (xc_region ?_)
        refine xr_op rfl rfl (xv_move rfl ?_)
        refine xr_op rfl rfl (xv_neqT rfl rfl (by decide) ?_)
        refine xr_op rfl rfl (xv_move rfl ?_)
        refine xr_gd rfl rfl rfl (xv_move rfl ?_)
        refine xr_gd rfl rfl rfl (xv_len sl29 rfl ?_)
        refine xr_gd rfl rfl rfl (xv_eqlT rfl rfl rfl ?_)
        refine xr_op rfl rfl (xv_pick rfl rfl ?_)
        refine xr_op rfl rfl (xv_move rfl ?_)
        refine xr_gd rfl rfl rfl (xv_move rfl ?_)
        refine xr_gd rfl rfl rfl (xv_eqlT rfl rfl rfl ?_)
        refine xr_op rfl rfl (xv_pick rfl rfl ?_)
        refine xr_op rfl rfl (xv_move rfl ?_)
        refine xr_gd rfl rfl rfl (xv_calls rfl hb9 (awake_c (up_ret ?_)))
        refine xr_op rfl rfl (xv_pick rfl rfl ?_)
        refine xr_op rfl rfl (xv_assign rfl ?_)
        refine xr_end rfl ?_
        refine th_n ?_
        refine xc_ret ?_
        refine th_r ?_
        refine body_ret (h' := h) rfl (ro_tmp rfl ro_nil) (by (first|((repeat first|exact s_0|exact s_1|exact s_3|refine s_4 ?_|refine s_5 ?_|refine s_6 ?_|refine s_7 ?_);done)|((repeat first|exact s_0|exact s_1|exact s_3|refine s_4 ?_|refine s_5 ?_|refine s_6 ?_|refine s_8 ?_);done))) ?_
        first | exact H | (exfalso; exact hnb ⟨⟨(by first | omega | (dsimp only; omega)), (by first | omega | (dsimp only; omega))⟩, ⟨(by first | omega | (dsimp only; omega)), (by first | omega | (dsimp only; omega))⟩, (by first | omega | (dsimp only; omega)), (by first | omega | (dsimp only; omega))⟩) | (exfalso; (first | omega | (dsimp only at *; omega) | (simp at *; omega)))
      · refine xr_op rfl rfl (xv_move rfl ?_)
        refine xr_op rfl rfl (xv_move rfl ?_)
        refine xr_op rfl rfl (xv_move rfl ?_)
        refine xr_op rfl rfl (xv_move rfl ?_)
        refine xr_op rfl rfl (xv_calls rfl hb11 (MixE_c (q := ⟨v, le, mo⟩) (hl.sub (by intro z hz; ((repeat first|exact z_0|assumption|refine z_1 ?_|(refine z_l ?_;(repeat first|exact z_0|assumption|refine z_1 ?_);done)|refine z_r ?_);done))) (by omega) hma (fun a1 c1 q1 s1 => up_ret ?_)))
        refine xr_op rfl rfl (xv_move rfl ?_)
        refine xr_op rfl rfl (xv_extract rfl rfl ?_)
        refine xr_op rfl rfl (xv_extract rfl rfl ?_)
        refine xr_op rfl rfl (xv_extract rfl rfl ?_)
        refine xr_op rfl rfl (xv_assign rfl ?_)
        refine xr_op rfl rfl (xv_assign rfl ?_)
        refine xr_op rfl rfl (xv_assign rfl ?_)
        refine xr_end rfl ?_
        refine th_n ?_
        refine xc_seq ?_
        refine xc_seq (xc_region ?_)
        refine xr_op rfl rfl (xv_move rfl ?_)
        refine xr_op rfl rfl (xv_len sl22 rfl ?_)
        refine xr_op rfl rfl (xv_cmpK rfl rfl (cmpF rfl (by simp only [cmpP]; (first | omega | (dsimp only at *; omega) | (simp at *; omega)))) ?_)
        refine xr_op rfl rfl (xv_move rfl ?_)
        refine xr_gd rfl rfl rfl (xv_move rfl ?_)
        refine xr_gd rfl rfl rfl (xv_calls rfl hb10 (SuppliesF_c (hl.sub (by intro z hz; ((repeat first|exact z_0|assumption|refine z_1 ?_|(refine z_l ?_;(repeat first|exact z_0|assumption|refine z_1 ?_);done)|refine z_r ?_);done))) (by omega) hns (up_ret ?_)))
        refine xr_gd rfl rfl rfl (xv_not rfl ?_)
        refine xr_op rfl rfl (xv_pick rfl rfl ?_)
        refine xr_end rfl ?_
        refine th_n ?_
        refine xc_true rfl ?_
        refine xc_seq (xc_region ?_)
        refine xr_op rfl rfl (xv_move rfl ?_)
        refine xr_op rfl rfl (xv_neqT rfl rfl (by decide) ?_)
        refine xr_op rfl rfl (xv_move rfl ?_)
        refine xr_gd rfl rfl rfl (xv_move rfl ?_)
        refine xr_gd rfl rfl rfl (xv_len sl29 rfl ?_)
        refine xr_gd rfl rfl rfl (xv_eqlT rfl rfl rfl ?_)
        refine xr_op rfl rfl (xv_pick rfl rfl ?_)
        refine xr_op rfl rfl (xv_move rfl ?_)
        refine xr_gd rfl rfl rfl (xv_move rfl ?_)
        refine xr_gd rfl rfl rfl (xv_eqlT rfl rfl rfl ?_)
        refine xr_op rfl rfl (xv_pick rfl rfl ?_)
        refine xr_op rfl rfl (xv_move rfl ?_)
        refine xr_gd rfl rfl rfl (xv_calls rfl hb9 (awake_c (up_ret ?_)))
        refine xr_op rfl rfl (xv_pick rfl rfl ?_)
        refine xr_op rfl rfl (xv_assign rfl ?_)
        refine xr_end rfl ?_
        refine th_n ?_
        refine xc_ret ?_
        refine th_r ?_
        refine body_ret (h' := h) rfl (ro_tmp rfl ro_nil) (by (first|((repeat first|exact s_0|exact s_1|exact s_3|refine s_4 ?_|refine s_5 ?_|refine s_6 ?_|refine s_7 ?_);done)|((repeat first|exact s_0|exact s_1|exact s_3|refine s_4 ?_|refine s_5 ?_|refine s_6 ?_|refine s_8 ?_);done))) ?_
        first | exact H | (exfalso; exact hnb ⟨⟨(by first | omega | (dsimp only; omega)), (by first | omega | (dsimp only; omega))⟩, ⟨(by first | omega | (dsimp only; omega)), (by first | omega | (dsimp only; omega))⟩, (by first | omega | (dsimp only; omega)), (by first | omega | (dsimp only; omega))⟩) | (exfalso; (first | omega | (dsimp only at *; omega) | (simp at *; omega)))
      · refine xr_op rfl rfl (xv_move rfl ?_)
        refine xr_op rfl rfl (xv_move rfl ?_)
        refine xr_op rfl rfl (xv_move rfl ?_)
        refine xr_op rfl rfl (xv_move rfl ?_)
        refine xr_op rfl rfl (xv_calls rfl hb11 (MixS_c (q := ⟨v, le, mo⟩) (hl.sub (by intro z hz; ((repeat first|exact z_0|assumption|refine z_1 ?_|(refine z_l ?_;(repeat first|exact z_0|assumption|refine z_1 ?_);done)|refine z_r ?_);done))) (by omega) (fun a1 c1 q1 s1 => up_ret ?_)))
        refine xr_op rfl rfl (xv_move rfl ?_)
        refine xr_op rfl rfl (xv_extract rfl rfl ?_)
        refine xr_op rfl rfl (xv_extract rfl rfl ?_)
        refine xr_op rfl rfl (xv_extract rfl rfl ?_)
        refine xr_op rfl rfl (xv_assign rfl ?_)
        refine xr_op rfl rfl (xv_assign rfl ?_)
        refine xr_op rfl rfl (xv_assign rfl ?_)
        refine xr_end rfl ?_
        refine th_n ?_
        refine xc_seq ?_
        refine xc_seq (xc_region ?_)
        refine xr_op rfl rfl (xv_move rfl ?_)
        refine xr_op rfl rfl (xv_len sl22 rfl ?_)
        refine xr_op rfl rfl (xv_cmpK rfl rfl (cmpF rfl (by simp only [cmpP]; (first | omega | (dsimp only at *; omega) | (simp at *; omega)))) ?_)
        refine xr_op rfl rfl (xv_move rfl ?_)
        refine xr_gd rfl rfl rfl (xv_move rfl ?_)
        refine xr_gd rfl rfl rfl (xv_calls rfl hb10 (SuppliesT_c (hl.sub (by intro z hz; ((repeat first|exact z_0|assumption|refine z_1 ?_|(refine z_l ?_;(repeat first|exact z_0|assumption|refine z_1 ?_);done)|refine z_r ?_);done))) (by omega) hsu (up_ret ?_)))
        refine xr_gd rfl rfl rfl (xv_not rfl ?_)
        refine xr_op rfl rfl (xv_pick rfl rfl ?_)
        refine xr_end rfl ?_
        refine th_n ?_
        refine xc_false rfl ?_
        refine xc_skip ?_
        refine th_n ?_
        refine xc_seq (xc_region ?_)
        refine xr_op rfl rfl (xv_assign rfl ?_)
        refine xr_end rfl ?_
        refine th_n ?_
        refine xc_seq ?_
        refine xc_seq (xc_region ?_)
        refine xr_op rfl rfl (xv_assign rfl ?_)
        refine xr_end rfl ?_
        refine th_n ?_
        refine xc_block ?_
        refine xc_loop (σ := Nat × List Int × Vec) (fun z => z.1 ≤ l.length ∧ z.2.1.length = z.1 ∧ InM l z.2.1 ∧ z.2.2.ok 1 z.2.1.length (z.2.1.flatMap eI)) (fun z => ((((((((((emp.put (some 0) (.slice a l.length c)).put (some 1) (I v)).put (some 2) (I le)).put (some 3) (I mo)).put (some 4) (.slice ab bs.length cb)).put (some 11) (.slice a1 (mixA l ⟨v, le, mo⟩).1.length c1)).put (some 12) (I (mixA l ⟨v, le, mo⟩).2.1)).put (some 13) (I (mixA l ⟨v, le, mo⟩).2.2)).put (some 14) (z.2.2.val z.2.1.length)).put (some 15) (I z.1))) (fun z => (z.2.2.hp 3 (z.2.1.flatMap eI) ++ (q1 ++ h))) (fun z => l.length - z.1) ((0, [], .nil) : Nat × List Int × Vec) ⟨Nat.zero_le _, rfl, inM_nil _, rfl, rfl⟩ (le_put (le_put (le_put (le_put (le_put (le_put (le_put (le_put (le_put (le_put (le_emp _) rfl) rfl) rfl) rfl) rfl) rfl) rfl) rfl) rfl) rfl) (by (first|((repeat first|exact s_0|exact s_1|exact s_3|refine s_4 ?_|refine s_5 ?_|refine s_6 ?_|refine s_7 ?_);done)|((repeat first|exact s_0|exact s_1|exact s_3|refine s_4 ?_|refine s_5 ?_|refine s_6 ?_|refine s_8 ?_);done))) ?_
        rintro ⟨k, ot, V⟩ ⟨hk, hokl, hoi, hV⟩
        dsimp only at hk hokl hoi hV
        refine xc_seq ?_
        refine xc_seq (xc_region ?_)
        refine xr_op rfl rfl (xv_move rfl ?_)
        refine xr_op rfl rfl (xv_move rfl ?_)
        refine xr_op rfl rfl (xv_len sl22 rfl ?_)
        refine xr_op rfl rfl (xv_lss2 rfl rfl (fun q3 => ?_) (fun q3 => ?_))
        · refine xr_end rfl ?_
          refine th_n ?_
          refine xc_true rfl ?_
          refine xc_skip ?_
          refine th_n ?_
          refine xc_seq ?_
          refine xc_block ?_
          refine xc_draw0 [(0, .S), (1, .S), (2, .S), (3, .S), (4, .S), (5, .S), (6, .S), (7, .R), (8, .S), (9, .S), (10, .S), (11, .S), (12, .S), (13, .R), (14, .S), (15, .S), (16, .P), (16, .A), (17, .O), (18, .S)] mixed (by kernel_rfl) ?_
          refine js_S rfl rfl (.inl rfl) (xv_move rfl ⟨rfl, rfl⟩) ?_
          refine js_S rfl rfl (.inl rfl) (xv_move rfl ⟨rfl, rfl⟩) ?_
          obtain ⟨km, hkm⟩ : ∃ km : Nat, km = (k) % bs.length := ⟨_, rfl⟩
          have hkml : km < bs.length := by rw [hkm]; exact Nat.mod_lt _ (by omega)
          have hltu : km < bs.length := hkml
          obtain ⟨bu, ou, lu, tu, fzu, hau, hmu, hxu⟩ := (hb).at hltu
          obtain ⟨xu, hku⟩ : ∃ qq_, bs[km]? = some qq_ := ⟨_, List.getElem?_eq_getElem hltu⟩
          have hxv := hbv xu (List.mem_of_getElem? hku)
          have hlto : k < l.length := by (first | omega | (dsimp only at *; omega) | (simp at *; omega))
          obtain ⟨bo, oo, lo, to, fzo, hao, hmo, hxo⟩ := (hl).at hlto
          obtain ⟨xo, hko⟩ : ∃ qq_, l[k]? = some qq_ := ⟨_, List.getElem?_eq_getElem hlto⟩
          obtain ⟨⟨q1, q2, q3⟩, ⟨q4, q5⟩, ⟨q6, q7⟩, q8, q9⟩ := hsu xo (List.mem_of_getElem? hko)
          have hr0 := Int.emod_nonneg xu (show xo.most + 1 ≠ 0 by omega)
          have hr1 := Int.emod_lt_of_pos xu (show 0 < xo.most + 1 by omega)
          refine js_S rfl rfl (.inl rfl) (xv_move rfl ⟨rfl, rfl⟩) ?_
          refine js_S rfl rfl (.inl rfl) (xv_move rfl ⟨rfl, rfl⟩) ?_
          refine js_S rfl rfl (.inl rfl) (xv_len sl46 rfl ⟨rfl, rfl⟩) ?_
          refine js_S rfl rfl (.inl rfl) (xv_rem (c := (km : Int)) rfl rfl (by (first | omega | (dsimp only at *; omega) | (simp at *; omega))) (by rw [hkm]; rfl) ⟨rfl, rfl⟩) ?_
          refine js_S rfl rfl (.inl rfl) (xv_ia (sz := 1) (j := km) sl46 ty47 rfl (by rw [hau]; rfl) rfl (by (first | assumption | with_reducible exact Int.toNat_natCast _ | with_reducible rfl | rfl)) (by (first | omega | (dsimp only at *; omega) | (simp at *; omega))) (by (first | omega | (dsimp only at *; omega) | (simp at *; omega))) ⟨rfl, rfl⟩) ?_
          refine js_R0 rfl rfl (.inl rfl) (xv_load1 ty47 rfl rfl (by ((repeat first|exact z_0|assumption|refine z_1 ?_|(refine z_l ?_;(repeat first|exact z_0|assumption|refine z_1 ?_);done)|refine z_r ?_);done)) (take_get (hxu (km) xu hku) (j := 0) rfl) ⟨rfl, rfl⟩) ?_
          refine js_S rfl rfl (.inl rfl) (xv_convI Try.underlying47 Try.underlying3 rfl (wrap_i64 (by (first | omega | (dsimp only at *; omega) | (simp at *; omega))) (by (first | omega | (dsimp only at *; omega) | (simp at *; omega)))) ⟨rfl, rfl⟩) ?_
          refine js_S rfl rfl (.inl rfl) (xv_move rfl ⟨rfl, rfl⟩) ?_
          refine js_S rfl rfl (.inl rfl) (xv_move rfl ⟨rfl, rfl⟩) ?_
          refine js_S rfl rfl (.inl rfl) (xv_ia (sz := 5) (j := k) sl22 ty28 rfl (by rw [hao]; rfl) rfl (by (first | assumption | with_reducible exact Int.toNat_natCast _ | with_reducible rfl | rfl)) (by (first | omega | (dsimp only at *; omega) | (simp at *; omega))) (by (first | omega | (dsimp only at *; omega) | (simp at *; omega))) ⟨rfl, rfl⟩) ?_
          refine js_S rfl rfl (.inl rfl) (xv_faddr fl28_2 rfl ⟨rfl, rfl⟩) ?_
          refine js_R0 rfl rfl (.inl rfl) (xv_load1 ty3 rfl rfl (by ((repeat first|exact z_0|assumption|refine z_1 ?_|(refine z_l ?_;(repeat first|exact z_0|assumption|refine z_1 ?_);done)|refine z_r ?_);done)) (take_get (hxo (k) xo hko) (j := 3) rfl) ⟨rfl, rfl⟩) ?_
          refine js_S rfl rfl (.inl rfl) (xv_add rfl rfl (wrap_i64 (by (first | omega | (dsimp only at *; omega) | (simp at *; omega))) (by (first | omega | (dsimp only at *; omega) | (simp at *; omega)))) ⟨rfl, rfl⟩) ?_
          refine js_S rfl rfl (.inl rfl) (xv_rem (c := xu % (xo.most + 1)) rfl rfl (by (first | omega | (dsimp only at *; omega) | (simp at *; omega))) (Int.tmod_eq_emod_of_nonneg (by omega)) ⟨rfl, rfl⟩) ?_
          refine js_P rfl rfl rfl (al_buildSlice sl29 ty3 rfl rfl rfl rfl rfl (by ((try apply evl_some rfl);(repeat (first|exact (rfl : _ = [])|apply evl_cons rfl (by (first|exact v_1|exact v_2|exact v_3|exact v_4|exact v_5|exact v_6|exact v_7|exact v_8|exact v_9|exact rfl))|exact rfl))))) ?_
          refine js_A0 rfl rfl rfl rfl rfl ⟨rfl, trivial⟩ (fun b86 hb86 => ?_)
          refine js_O0 rfl rfl (.inl rfl) (xv_append (V := V) (n := ot.length) (xs := ot.flatMap eI) sl29 ty3 rfl rfl rfl hV (.there .here) (by ((repeat first|exact z_0|assumption|refine z_1 ?_|(refine z_l ?_;(repeat first|exact z_0|assumption|refine z_1 ?_);done)|refine z_r ?_);done)) (by ((try apply evl_some rfl);(repeat (first|exact (rfl : _ = [])|apply evl_cons rfl (by (first|exact v_1|exact v_2|exact v_3|exact v_4|exact v_5|exact v_6|exact v_7|exact v_8|exact v_9|exact rfl))|exact rfl)))) rfl rfl (by (first | omega | (dsimp only at *; omega) | (simp at *; omega))) (by simp only []; (first | omega | (dsimp only at *; omega) | (simp at *; omega))) (by (first | omega | (dsimp only at *; omega) | (simp at *; omega))) (fun V2 hV2 => ?_))
          refine js_S rfl rfl (.inl rfl) (xv_assign rfl ⟨rfl, rfl⟩) ?_
          refine j_end0 ?_
          refine bk_n ?_
          refine th_n ?_
          refine xc_region ?_
          refine xr_op rfl rfl (xv_move rfl ?_)
          refine xr_op rfl rfl (xv_add rfl rfl (wrap_i64 (by (first | omega | (dsimp only at *; omega) | (simp at *; omega))) (by (first | omega | (dsimp only at *; omega) | (simp at *; omega)))) ?_)
          refine xr_op rfl rfl (xv_assign rfl ?_)
          refine xr_end rfl ?_
          exact rnd ((k + 1, ot ++ [xu % (xo.most + 1)], V2) : Nat × List Int × Vec) ⟨by (first | omega | (dsimp only at *; omega) | (simp at *; omega)), by dsimp only; rw [List.length_append]; simp; omega, hoi.snoc (by rw [hokl]; exact hko) hr0 (by omega), by simpa [eI] using hV2⟩ (by (first | omega | (dsimp only at *; omega) | (simp at *; omega))) (le_put (le_put (le_put (le_put (le_put (le_put (le_put (le_put (le_put (le_put (le_emp _) rfl) rfl) rfl) rfl) rfl) rfl) rfl) rfl) (by dsimp only; rw [List.length_append]; rfl)) rfl) (by simp only [List.flatMap_append, List.flatMap_cons, List.flatMap_nil, List.append_nil]; (first|((repeat first|exact s_0|exact s_1|exact s_3|refine s_4 ?_|refine s_5 ?_|refine s_6 ?_|refine s_7 ?_);done)|((repeat first|exact s_0|exact s_1|exact s_3|refine s_4 ?_|refine s_5 ?_|refine s_6 ?_|refine s_8 ?_);done)))
        · refine xr_end rfl ?_
          refine th_n ?_
          refine xc_false rfl ?_
          refine xc_exit ?_
          refine th_x ?_
          refine th_x ?_
          refine bk_same ?_
          refine th_n ?_
          refine xc_seq (xc_region ?_)
          rcases mix_cases2 (q := ⟨v, le, mo⟩) hl5 hsu with ⟨hnb, hmx⟩ | ⟨hmb, hno, hmx⟩ | ⟨m, c9, hmb, hbest, hmx⟩
          · rw [hmx] at s1 ⊢
            have hol : ot.length = l.length := by (first | omega | (dsimp only at *; omega) | (simp at *; omega))
            obtain ⟨oa, oc, hov, hos⟩ := Vec.slv (enc := eI) (t := 3) (V := V) (xs := ot) (h := V.hp 3 (ot.flatMap eI)) eI_len hV (fun _ hz => hz)
            rw [hov]
            refine xr_op rfl rfl (xv_move rfl ?_)
            refine xr_op rfl rfl (xv_gtr2 rfl rfl (fun q5 => ?_) (fun q5 => ?_))
            · refine xr_op rfl rfl (xv_move rfl ?_)
              refine xr_gd rfl rfl rfl (xv_move rfl ?_)
              refine xr_gd rfl rfl rfl (xv_leq2 rfl rfl (fun q6 => ?_) (fun q6 => ?_))
              · refine xr_op rfl rfl (xv_pick rfl rfl ?_)
                refine xr_op rfl rfl (xv_move rfl ?_)
                refine xr_gd rfl rfl rfl (xv_move rfl ?_)
                refine xr_gd rfl rfl rfl (xv_geq2 rfl rfl (fun q7 => ?_) (fun q7 => ?_))
                · refine xr_op rfl rfl (xv_pick rfl rfl ?_)
                  refine xr_op rfl rfl (xv_move rfl ?_)
                  refine xr_gd rfl rfl rfl (xv_move rfl ?_)
                  refine xr_gd rfl rfl rfl (xv_move rfl ?_)
                  refine xr_gd rfl rfl rfl (xv_leq2 rfl rfl (fun q8 => ?_) (fun q8 => ?_))
                  · refine xr_op rfl rfl (xv_pick rfl rfl ?_)
                    refine xr_op rfl rfl (xv_move rfl ?_)
                    refine xr_gd rfl rfl rfl (xv_move rfl ?_)
                    refine xr_gd rfl rfl rfl (xv_leq2 rfl rfl (fun q9 => ?_) (fun q9 => ?_))
                    · refine xr_op rfl rfl (xv_pick rfl rfl ?_)
                      refine xr_op rfl rfl (xv_move rfl ?_)
                      refine xr_gd rfl rfl rfl (xv_move rfl ?_)
                      refine xr_gd rfl rfl rfl (xv_move rfl ?_)
                      refine xr_gd rfl rfl rfl (xv_move rfl ?_)
                      refine xr_gd rfl rfl rfl (xv_move rfl ?_)
                      refine xr_gd rfl rfl rfl (xv_move rfl ?_)
                      refine xr_gd rfl rfl rfl (xv_calls rfl hb22 (RightF_c (q := ⟨v, le, mo⟩) (m := ot) (hl.sub (by intro z hz; ((repeat first|exact z_0|assumption|refine z_1 ?_|(refine z_l ?_;(repeat first|exact z_0|assumption|refine z_1 ?_);done)|refine z_r ?_);done))) (hos.sub (by intro z hz; ((repeat first|exact z_0|assumption|refine z_1 ?_|(refine z_l ?_;(repeat first|exact z_0|assumption|refine z_1 ?_);done)|refine z_r ?_);done))) hsu (by omega) hol hoi ⟨⟨(by first | omega | (dsimp only; omega)), (by first | omega | (dsimp only; omega))⟩, ⟨(by first | omega | (dsimp only; omega)), (by first | omega | (dsimp only; omega))⟩, (by first | omega | (dsimp only; omega)), (by first | omega | (dsimp only; omega))⟩ (absurd ⟨⟨(by first | omega | (dsimp only; omega)), (by first | omega | (dsimp only; omega))⟩, ⟨(by first | omega | (dsimp only; omega)), (by first | omega | (dsimp only; omega))⟩, (by first | omega | (dsimp only; omega)), (by first | omega | (dsimp only; omega))⟩ hnb) (up_ret ?_)))
                      refine xr_op rfl rfl (xv_pick rfl rfl ?_)
                      refine xr_op rfl rfl (xv_assign rfl ?_)
                      refine xr_end rfl ?_
                      refine th_n ?_
                      refine xc_seq ?_
                      refine xc_seq (xc_region ?_)
                      refine xr_op rfl rfl (xv_move rfl ?_)
                      refine xr_op rfl rfl (xv_neqT rfl rfl (by decide) ?_)
                      refine xr_end rfl ?_
                      refine th_n ?_
                      refine xc_true rfl ?_
                      refine xc_seq (xc_region ?_)
                      refine xr_op rfl rfl (xv_move rfl ?_)
                      refine xr_op rfl rfl (xv_not rfl ?_)
                      refine xr_op rfl rfl (xv_move rfl ?_)
                      refine xr_gd rfl rfl rfl (xv_move rfl ?_)
                      refine xr_gd rfl rfl rfl (xv_len sl29 rfl ?_)
                      refine xr_gd rfl rfl rfl (xv_eqlT rfl rfl rfl ?_)
                      refine xr_op rfl rfl (xv_pick rfl rfl ?_)
                      refine xr_op rfl rfl (xv_move rfl ?_)
                      refine xr_gd rfl rfl rfl (xv_move rfl ?_)
                      refine xr_gd rfl rfl rfl (xv_eqlT rfl rfl rfl ?_)
                      refine xr_op rfl rfl (xv_pick rfl rfl ?_)
                      refine xr_op rfl rfl (xv_move rfl ?_)
                      refine xr_gd rfl rfl rfl (xv_move rfl ?_)
                      refine xr_gd rfl rfl rfl (xv_eqlF rfl rfl (by decide) ?_)
                      refine xr_gd rfl rfl rfl (xv_move rfl ?_)
                      refine xr_gd rfl rfl rfl (xv_move rfl ?_)
                      refine xr_gd rfl rfl rfl (xv_eqlT rfl rfl rfl ?_)
                      refine xr_gd rfl rfl rfl (xv_pick rfl rfl ?_)
                      refine xr_op rfl rfl (xv_pick rfl rfl ?_)
                      refine xr_op rfl rfl (xv_move rfl ?_)
                      refine xr_gd rfl rfl rfl (xv_calls rfl hb9 (awake_c (up_ret ?_)))
                      refine xr_op rfl rfl (xv_pick rfl rfl ?_)
                      refine xr_op rfl rfl (xv_assign rfl ?_)
                      refine xr_end rfl ?_
                      refine th_n ?_
                      refine xc_ret ?_
                      refine th_r ?_
                      refine body_ret (h' := h) rfl (ro_tmp rfl ro_nil) (by (first|((repeat first|exact s_0|exact s_1|exact s_3|refine s_4 ?_|refine s_5 ?_|refine s_6 ?_|refine s_7 ?_);done)|((repeat first|exact s_0|exact s_1|exact s_3|refine s_4 ?_|refine s_5 ?_|refine s_6 ?_|refine s_8 ?_);done))) ?_
                      first | exact H | (exfalso; exact hnb ⟨⟨(by first | omega | (dsimp only; omega)), (by first | omega | (dsimp only; omega))⟩, ⟨(by first | omega | (dsimp only; omega)), (by first | omega | (dsimp only; omega))⟩, (by first | omega | (dsimp only; omega)), (by first | omega | (dsimp only; omega))⟩) | (exfalso; (first | omega | (dsimp only at *; omega) | (simp at *; omega)))
                    · refine xr_op rfl rfl (xv_pick rfl rfl ?_)
                      refine xr_op rfl rfl (xv_move rfl ?_)
                      refine xr_no rfl rfl rfl rfl ?_
                      refine xr_no rfl rfl rfl rfl ?_
                      refine xr_no rfl rfl rfl rfl ?_
                      refine xr_no rfl rfl rfl rfl ?_
                      refine xr_no rfl rfl rfl rfl ?_
                      refine xr_no rfl rfl rfl rfl ?_
                      refine xr_op rfl rfl (xv_pick rfl rfl ?_)
                      refine xr_op rfl rfl (xv_assign rfl ?_)
                      refine xr_end rfl ?_
                      refine th_n ?_
                      refine xc_seq ?_
                      refine xc_seq (xc_region ?_)
                      refine xr_op rfl rfl (xv_move rfl ?_)
                      refine xr_op rfl rfl (xv_neqT rfl rfl (by decide) ?_)
                      refine xr_end rfl ?_
                      refine th_n ?_
                      refine xc_true rfl ?_
                      refine xc_seq (xc_region ?_)
                      refine xr_op rfl rfl (xv_move rfl ?_)
                      refine xr_op rfl rfl (xv_not rfl ?_)
                      refine xr_op rfl rfl (xv_move rfl ?_)
                      refine xr_gd rfl rfl rfl (xv_move rfl ?_)
                      refine xr_gd rfl rfl rfl (xv_len sl29 rfl ?_)
                      refine xr_gd rfl rfl rfl (xv_eqlT rfl rfl rfl ?_)
                      refine xr_op rfl rfl (xv_pick rfl rfl ?_)
                      refine xr_op rfl rfl (xv_move rfl ?_)
                      refine xr_gd rfl rfl rfl (xv_move rfl ?_)
                      refine xr_gd rfl rfl rfl (xv_eqlT rfl rfl rfl ?_)
                      refine xr_op rfl rfl (xv_pick rfl rfl ?_)
                      refine xr_op rfl rfl (xv_move rfl ?_)
                      refine xr_gd rfl rfl rfl (xv_move rfl ?_)
                      refine xr_gd rfl rfl rfl (xv_eqlF rfl rfl (by decide) ?_)
                      refine xr_gd rfl rfl rfl (xv_move rfl ?_)
                      refine xr_gd rfl rfl rfl (xv_move rfl ?_)
                      refine xr_gd rfl rfl rfl (xv_eqlT rfl rfl rfl ?_)
                      refine xr_gd rfl rfl rfl (xv_pick rfl rfl ?_)
                      refine xr_op rfl rfl (xv_pick rfl rfl ?_)
                      refine xr_op rfl rfl (xv_move rfl ?_)
                      refine xr_gd rfl rfl rfl (xv_calls rfl hb9 (awake_c (up_ret ?_)))
                      refine xr_op rfl rfl (xv_pick rfl rfl ?_)
                      refine xr_op rfl rfl (xv_assign rfl ?_)
                      refine xr_end rfl ?_
                      refine th_n ?_
                      refine xc_ret ?_
                      refine th_r ?_
                      refine body_ret (h' := h) rfl (ro_tmp rfl ro_nil) (by (first|((repeat first|exact s_0|exact s_1|exact s_3|refine s_4 ?_|refine s_5 ?_|refine s_6 ?_|refine s_7 ?_);done)|((repeat first|exact s_0|exact s_1|exact s_3|refine s_4 ?_|refine s_5 ?_|refine s_6 ?_|refine s_8 ?_);done))) ?_
                      first | exact H | (exfalso; exact hnb ⟨⟨(by first | omega | (dsimp only; omega)), (by first | omega | (dsimp only; omega))⟩, ⟨(by first | omega | (dsimp only; omega)), (by first | omega | (dsimp only; omega))⟩, (by first | omega | (dsimp only; omega)), (by first | omega | (dsimp only; omega))⟩) | (exfalso; (first | omega | (dsimp only at *; omega) | (simp at *; omega)))
                  · refine xr_op rfl rfl (xv_pick rfl rfl ?_)
                    refine xr_op rfl rfl (xv_move rfl ?_)
                    refine xr_no rfl rfl rfl rfl ?_
                    refine xr_no rfl rfl rfl rfl ?_
                    refine xr_op rfl rfl (xv_pick rfl rfl ?_)
                    refine xr_op rfl rfl (xv_move rfl ?_)
                    refine xr_no rfl rfl rfl rfl ?_
                    refine xr_no rfl rfl rfl rfl ?_
                    refine xr_no rfl rfl rfl rfl ?_
                    refine xr_no rfl rfl rfl rfl ?_
                    refine xr_no rfl rfl rfl rfl ?_
                    refine xr_no rfl rfl rfl rfl ?_
                    refine xr_op rfl rfl (xv_pick rfl rfl ?_)
                    refine xr_op rfl rfl (xv_assign rfl ?_)
                    refine xr_end rfl ?_
                    refine th_n ?_
                    refine xc_seq ?_
                    refine xc_seq (xc_region ?_)
                    refine xr_op rfl rfl (xv_move rfl ?_)
                    refine xr_op rfl rfl (xv_neqT rfl rfl (by decide) ?_)
                    refine xr_end rfl ?_
                    refine th_n ?_
                    refine xc_true rfl ?_
                    refine xc_seq (xc_region ?_)
                    refine xr_op rfl rfl (xv_move rfl ?_)
                    refine xr_op rfl rfl (xv_not rfl ?_)
                    refine xr_op rfl rfl (xv_move rfl ?_)
                    refine xr_gd rfl rfl rfl (xv_move rfl ?_)
                    refine xr_gd rfl rfl rfl (xv_len sl29 rfl ?_)
                    refine xr_gd rfl rfl rfl (xv_eqlT rfl rfl rfl ?_)
                    refine xr_op rfl rfl (xv_pick rfl rfl ?_)
                    refine xr_op rfl rfl (xv_move rfl ?_)
                    refine xr_gd rfl rfl rfl (xv_move rfl ?_)
                    refine xr_gd rfl rfl rfl (xv_eqlT rfl rfl rfl ?_)
                    refine xr_op rfl rfl (xv_pick rfl rfl ?_)
                    refine xr_op rfl rfl (xv_move rfl ?_)
                    refine xr_gd rfl rfl rfl (xv_move rfl ?_)
                    refine xr_gd rfl rfl rfl (xv_eqlF rfl rfl (by decide) ?_)
                    refine xr_gd rfl rfl rfl (xv_move rfl ?_)
                    refine xr_gd rfl rfl rfl (xv_move rfl ?_)
                    refine xr_gd rfl rfl rfl (xv_eqlT rfl rfl rfl ?_)
                    refine xr_gd rfl rfl rfl (xv_pick rfl rfl ?_)
                    refine xr_op rfl rfl (xv_pick rfl rfl ?_)
                    refine xr_op rfl rfl (xv_move rfl ?_)
                    refine xr_gd rfl rfl rfl (xv_calls rfl hb9 (awake_c (up_ret ?_)))
                    refine xr_op rfl rfl (xv_pick rfl rfl ?_)
                    refine xr_op rfl rfl (xv_assign rfl ?_)
                    refine xr_end rfl ?_
                    refine th_n ?_
                    refine xc_ret ?_
                    refine th_r ?_
                    refine body_ret (h' := h) rfl (ro_tmp rfl ro_nil) (by (first|((repeat first|exact s_0|exact s_1|exact s_3|refine s_4 ?_|refine s_5 ?_|refine s_6 ?_|refine s_7 ?_);done)|((repeat first|exact s_0|exact s_1|exact s_3|refine s_4 ?_|refine s_5 ?_|refine s_6 ?_|refine s_8 ?_);done))) ?_
                    first | exact H | (exfalso; exact hnb ⟨⟨(by first | omega | (dsimp only; omega)), (by first | omega | (dsimp only; omega))⟩, ⟨(by first | omega | (dsimp only; omega)), (by first | omega | (dsimp only; omega))⟩, (by first | omega | (dsimp only; omega)), (by first | omega | (dsimp only; omega))⟩) | (exfalso; (first | omega | (dsimp only at *; omega) | (simp at *; omega)))
                · refine xr_op rfl rfl (xv_pick rfl rfl ?_)
                  refine xr_op rfl rfl (xv_move rfl ?_)
                  refine xr_no rfl rfl rfl rfl ?_
                  refine xr_no rfl rfl rfl rfl ?_
                  refine xr_no rfl rfl rfl rfl ?_
                  refine xr_op rfl rfl (xv_pick rfl rfl ?_)
                  refine xr_op rfl rfl (xv_move rfl ?_)
                  refine xr_no rfl rfl rfl rfl ?_
                  refine xr_no rfl rfl rfl rfl ?_
                  refine xr_op rfl rfl (xv_pick rfl rfl ?_)
                  refine xr_op rfl rfl (xv_move rfl ?_)
                  refine xr_no rfl rfl rfl rfl ?_
                  refine xr_no rfl rfl rfl rfl ?_
                  refine xr_no rfl rfl rfl rfl ?_
                  refine xr_no rfl rfl rfl rfl ?_
                  refine xr_no rfl rfl rfl rfl ?_
                  refine xr_no rfl rfl rfl rfl ?_
                  refine xr_op rfl rfl (xv_pick rfl rfl ?_)
                  refine xr_op rfl rfl (xv_assign rfl ?_)
                  refine xr_end rfl ?_
                  refine th_n ?_
                  refine xc_seq ?_
                  refine xc_seq (xc_region ?_)
                  refine xr_op rfl rfl (xv_move rfl ?_)
                  refine xr_op rfl rfl (xv_neqT rfl rfl (by decide) ?_)
                  refine xr_end rfl ?_
                  refine th_n ?_
                  refine xc_true rfl ?_
                  refine xc_seq (xc_region ?_)
                  refine xr_op rfl rfl (xv_move rfl ?_)
                  refine xr_op rfl rfl (xv_not rfl ?_)
                  refine xr_op rfl rfl (xv_move rfl ?_)
                  refine xr_gd rfl rfl rfl (xv_move rfl ?_)
                  refine xr_gd rfl rfl rfl (xv_len sl29 rfl ?_)
                  refine xr_gd rfl rfl rfl (xv_eqlT rfl rfl rfl ?_)
                  refine xr_op rfl rfl (xv_pick rfl rfl ?_)
                  refine xr_op rfl rfl (xv_move rfl ?_)
                  refine xr_gd rfl rfl rfl (xv_move rfl ?_)
                  refine xr_gd rfl rfl rfl (xv_eqlT rfl rfl rfl ?_)
                  refine xr_op rfl rfl (xv_pick rfl rfl ?_)
                  refine xr_op rfl rfl (xv_move rfl ?_)
                  refine xr_gd rfl rfl rfl (xv_move rfl ?_)
                  refine xr_gd rfl rfl rfl (xv_eqlF rfl rfl (by decide) ?_)
                  refine xr_gd rfl rfl rfl (xv_move rfl ?_)
                  refine xr_gd rfl rfl rfl (xv_move rfl ?_)
                  refine xr_gd rfl rfl rfl (xv_eqlT rfl rfl rfl ?_)
                  refine xr_gd rfl rfl rfl (xv_pick rfl rfl ?_)
                  refine xr_op rfl rfl (xv_pick rfl rfl ?_)
                  refine xr_op rfl rfl (xv_move rfl ?_)
                  refine xr_gd rfl rfl rfl (xv_calls rfl hb9 (awake_c (up_ret ?_)))
                  refine xr_op rfl rfl (xv_pick rfl rfl ?_)
                  refine xr_op rfl rfl (xv_assign rfl ?_)
                  refine xr_end rfl ?_
                  refine th_n ?_
                  refine xc_ret ?_
                  refine th_r ?_
                  refine body_ret (h' := h) rfl (ro_tmp rfl ro_nil) (by (first|((repeat first|exact s_0|exact s_1|exact s_3|refine s_4 ?_|refine s_5 ?_|refine s_6 ?_|refine s_7 ?_);done)|((repeat first|exact s_0|exact s_1|exact s_3|refine s_4 ?_|refine s_5 ?_|refine s_6 ?_|refine s_8 ?_);done))) ?_
                  first | exact H | (exfalso; exact hnb ⟨⟨(by first | omega | (dsimp only; omega)), (by first | omega | (dsimp only; omega))⟩, ⟨(by first | omega | (dsimp only; omega)), (by first | omega | (dsimp only; omega))⟩, (by first | omega | (dsimp only; omega)), (by first | omega | (dsimp only; omega))⟩) | (exfalso; (first | omega | (dsimp only at *; omega) | (simp at *; omega)))
              · refine xr_op rfl rfl (xv_pick rfl rfl ?_)
                refine xr_op rfl rfl (xv_move rfl ?_)
                refine xr_no rfl rfl rfl rfl ?_
                refine xr_no rfl rfl rfl rfl ?_
                refine xr_op rfl rfl (xv_pick rfl rfl ?_)
                refine xr_op rfl rfl (xv_move rfl ?_)
                refine xr_no rfl rfl rfl rfl ?_
                refine xr_no rfl rfl rfl rfl ?_
                refine xr_no rfl rfl rfl rfl ?_
                refine xr_op rfl rfl (xv_pick rfl rfl ?_)
                refine xr_op rfl rfl (xv_move rfl ?_)
                refine xr_no rfl rfl rfl rfl ?_
                refine xr_no rfl rfl rfl rfl ?_
                refine xr_op rfl rfl (xv_pick rfl rfl ?_)
                refine xr_op rfl rfl (xv_move rfl ?_)
                refine xr_no rfl rfl rfl rfl ?_
                refine xr_no rfl rfl rfl rfl ?_
                refine xr_no rfl rfl rfl rfl ?_
                refine xr_no rfl rfl rfl rfl ?_
                refine xr_no rfl rfl rfl rfl ?_
                refine xr_no rfl rfl rfl rfl ?_
                refine xr_op rfl rfl (xv_pick rfl rfl ?_)
                refine xr_op rfl rfl (xv_assign rfl ?_)
                refine xr_end rfl ?_
                refine th_n ?_
                refine xc_seq ?_
                refine xc_seq (xc_region ?_)
                refine xr_op rfl rfl (xv_move rfl ?_)
                refine xr_op rfl rfl (xv_neqT rfl rfl (by decide) ?_)
                refine xr_end rfl ?_
                refine th_n ?_
                refine xc_true rfl ?_
                refine xc_seq (xc_region ?_)
                refine xr_op rfl rfl (xv_move rfl ?_)
                refine xr_op rfl rfl (xv_not rfl ?_)
                refine xr_op rfl rfl (xv_move rfl ?_)
                refine xr_gd rfl rfl rfl (xv_move rfl ?_)
                refine xr_gd rfl rfl rfl (xv_len sl29 rfl ?_)
                refine xr_gd rfl rfl rfl (xv_eqlT rfl rfl rfl ?_)
                refine xr_op rfl rfl (xv_pick rfl rfl ?_)
                refine xr_op rfl rfl (xv_move rfl ?_)
                refine xr_gd rfl rfl rfl (xv_move rfl ?_)
                refine xr_gd rfl rfl rfl (xv_eqlT rfl rfl rfl ?_)
                refine xr_op rfl rfl (xv_pick rfl rfl ?_)
                refine xr_op rfl rfl (xv_move rfl ?_)
                refine xr_gd rfl rfl rfl (xv_move rfl ?_)
                refine xr_gd rfl rfl rfl (xv_eqlF rfl rfl (by decide) ?_)
                refine xr_gd rfl rfl rfl (xv_move rfl ?_)
                refine xr_gd rfl rfl rfl (xv_move rfl ?_)
                refine xr_gd rfl rfl rfl (xv_eqlT rfl rfl rfl ?_)
                refine xr_gd rfl rfl rfl (xv_pick rfl rfl ?_)
                refine xr_op rfl rfl (xv_pick rfl rfl ?_)
                refine xr_op rfl rfl (xv_move rfl ?_)
                refine xr_gd rfl rfl rfl (xv_calls rfl hb9 (awake_c (up_ret ?_)))
                refine xr_op rfl rfl (xv_pick rfl rfl ?_)
                refine xr_op rfl rfl (xv_assign rfl ?_)
                refine xr_end rfl ?_
                refine th_n ?_
                refine xc_ret ?_
                refine th_r ?_
                refine body_ret (h' := h) rfl (ro_tmp rfl ro_nil) (by (first|((repeat first|exact s_0|exact s_1|exact s_3|refine s_4 ?_|refine s_5 ?_|refine s_6 ?_|refine s_7 ?_);done)|((repeat first|exact s_0|exact s_1|exact s_3|refine s_4 ?_|refine s_5 ?_|refine s_6 ?_|refine s_8 ?_);done))) ?_
                first | exact H | (exfalso; exact hnb ⟨⟨(by first | omega | (dsimp only; omega)), (by first | omega | (dsimp only; omega))⟩, ⟨(by first | omega | (dsimp only; omega)), (by first | omega | (dsimp only; omega))⟩, (by first | omega | (dsimp only; omega)), (by first | omega | (dsimp only; omega))⟩) | (exfalso; (first | omega | (dsimp only at *; omega) | (simp at *; omega)))
            · refine xr_op rfl rfl (xv_move rfl ?_)
              refine xr_no rfl rfl rfl rfl ?_
              refine xr_no rfl rfl rfl rfl ?_
              refine xr_op rfl rfl (xv_pick rfl rfl ?_)
              refine xr_op rfl rfl (xv_move rfl ?_)
              refine xr_no rfl rfl rfl rfl ?_
              refine xr_no rfl rfl rfl rfl ?_
              refine xr_op rfl rfl (xv_pick rfl rfl ?_)
              refine xr_op rfl rfl (xv_move rfl ?_)
              refine xr_no rfl rfl rfl rfl ?_
              refine xr_no rfl rfl rfl rfl ?_
              refine xr_no rfl rfl rfl rfl ?_
              refine xr_op rfl rfl (xv_pick rfl rfl ?_)
              refine xr_op rfl rfl (xv_move rfl ?_)
              refine xr_no rfl rfl rfl rfl ?_
              refine xr_no rfl rfl rfl rfl ?_
              refine xr_op rfl rfl (xv_pick rfl rfl ?_)
              refine xr_op rfl rfl (xv_move rfl ?_)
              refine xr_no rfl rfl rfl rfl ?_
              refine xr_no rfl rfl rfl rfl ?_
              refine xr_no rfl rfl rfl rfl ?_
              refine xr_no rfl rfl rfl rfl ?_
              refine xr_no rfl rfl rfl rfl ?_
              refine xr_no rfl rfl rfl rfl ?_
              refine xr_op rfl rfl (xv_pick rfl rfl ?_)
              refine xr_op rfl rfl (xv_assign rfl ?_)
              refine xr_end rfl ?_
              refine th_n ?_
              refine xc_seq ?_
              refine xc_seq (xc_region ?_)
              refine xr_op rfl rfl (xv_move rfl ?_)
              refine xr_op rfl rfl (xv_neqT rfl rfl (by decide) ?_)
              refine xr_end rfl ?_
              refine th_n ?_
              refine xc_true rfl ?_
              refine xc_seq (xc_region ?_)
              refine xr_op rfl rfl (xv_move rfl ?_)
              refine xr_op rfl rfl (xv_not rfl ?_)
              refine xr_op rfl rfl (xv_move rfl ?_)
              refine xr_gd rfl rfl rfl (xv_move rfl ?_)
              refine xr_gd rfl rfl rfl (xv_len sl29 rfl ?_)
              refine xr_gd rfl rfl rfl (xv_eqlT rfl rfl rfl ?_)
              refine xr_op rfl rfl (xv_pick rfl rfl ?_)
              refine xr_op rfl rfl (xv_move rfl ?_)
              refine xr_gd rfl rfl rfl (xv_move rfl ?_)
              refine xr_gd rfl rfl rfl (xv_eqlT rfl rfl rfl ?_)
              refine xr_op rfl rfl (xv_pick rfl rfl ?_)
              refine xr_op rfl rfl (xv_move rfl ?_)
              refine xr_gd rfl rfl rfl (xv_move rfl ?_)
              refine xr_gd rfl rfl rfl (xv_eqlF rfl rfl (by decide) ?_)
              refine xr_gd rfl rfl rfl (xv_move rfl ?_)
              refine xr_gd rfl rfl rfl (xv_move rfl ?_)
              refine xr_gd rfl rfl rfl (xv_eqlT rfl rfl rfl ?_)
              refine xr_gd rfl rfl rfl (xv_pick rfl rfl ?_)
              refine xr_op rfl rfl (xv_pick rfl rfl ?_)
              refine xr_op rfl rfl (xv_move rfl ?_)
              refine xr_gd rfl rfl rfl (xv_calls rfl hb9 (awake_c (up_ret ?_)))
              refine xr_op rfl rfl (xv_pick rfl rfl ?_)
              refine xr_op rfl rfl (xv_assign rfl ?_)
              refine xr_end rfl ?_
              refine th_n ?_
              refine xc_ret ?_
              refine th_r ?_
              refine body_ret (h' := h) rfl (ro_tmp rfl ro_nil) (by (first|((repeat first|exact s_0|exact s_1|exact s_3|refine s_4 ?_|refine s_5 ?_|refine s_6 ?_|refine s_7 ?_);done)|((repeat first|exact s_0|exact s_1|exact s_3|refine s_4 ?_|refine s_5 ?_|refine s_6 ?_|refine s_8 ?_);done))) ?_
              first | exact H | (exfalso; exact hnb ⟨⟨(by first | omega | (dsimp only; omega)), (by first | omega | (dsimp only; omega))⟩, ⟨(by first | omega | (dsimp only; omega)), (by first | omega | (dsimp only; omega))⟩, (by first | omega | (dsimp only; omega)), (by first | omega | (dsimp only; omega))⟩) | (exfalso; (first | omega | (dsimp only at *; omega) | (simp at *; omega)))
          · obtain ⟨⟨v1, v2⟩, ⟨t1, t2⟩, l1, l2⟩ := id hmb
            dsimp only at v1 v2 t1 t2 l1 l2
            rw [hmx] at s1 ⊢
            have hol : ot.length = l.length := by (first | omega | (dsimp only at *; omega) | (simp at *; omega))
            obtain ⟨oa, oc, hov, hos⟩ := Vec.slv (enc := eI) (t := 3) (V := V) (xs := ot) (h := V.hp 3 (ot.flatMap eI)) eI_len hV (fun _ hz => hz)
            rw [hov]
            refine xr_op rfl rfl (xv_move rfl ?_)
            refine xr_op rfl rfl (xv_cmpK rfl rfl (cmpT (by simp only [cmpP]; (first | omega | (dsimp only at *; omega) | (simp at *; omega)))) ?_)
            refine xr_op rfl rfl (xv_move rfl ?_)
            refine xr_gd rfl rfl rfl (xv_move rfl ?_)
            refine xr_gd rfl rfl rfl (xv_cmpK rfl rfl (cmpT (by simp only [cmpP]; (first | omega | (dsimp only at *; omega) | (simp at *; omega)))) ?_)
            refine xr_op rfl rfl (xv_pick rfl rfl ?_)
            refine xr_op rfl rfl (xv_move rfl ?_)
            refine xr_gd rfl rfl rfl (xv_move rfl ?_)
            refine xr_gd rfl rfl rfl (xv_cmpK rfl rfl (cmpT (by simp only [cmpP]; (first | omega | (dsimp only at *; omega) | (simp at *; omega)))) ?_)
            refine xr_op rfl rfl (xv_pick rfl rfl ?_)
            refine xr_op rfl rfl (xv_move rfl ?_)
            refine xr_gd rfl rfl rfl (xv_move rfl ?_)
            refine xr_gd rfl rfl rfl (xv_move rfl ?_)
            refine xr_gd rfl rfl rfl (xv_cmpK rfl rfl (cmpT (by simp only [cmpP]; (first | omega | (dsimp only at *; omega) | (simp at *; omega)))) ?_)
            refine xr_op rfl rfl (xv_pick rfl rfl ?_)
            refine xr_op rfl rfl (xv_move rfl ?_)
            refine xr_gd rfl rfl rfl (xv_move rfl ?_)
            refine xr_gd rfl rfl rfl (xv_cmpK rfl rfl (cmpT (by simp only [cmpP]; (first | omega | (dsimp only at *; omega) | (simp at *; omega)))) ?_)
            refine xr_op rfl rfl (xv_pick rfl rfl ?_)
            refine xr_op rfl rfl (xv_move rfl ?_)
            refine xr_gd rfl rfl rfl (xv_move rfl ?_)
            refine xr_gd rfl rfl rfl (xv_move rfl ?_)
            refine xr_gd rfl rfl rfl (xv_move rfl ?_)
            refine xr_gd rfl rfl rfl (xv_move rfl ?_)
            refine xr_gd rfl rfl rfl (xv_move rfl ?_)
            refine xr_gd rfl rfl rfl (xv_calls rfl hb22 (RightF_c (q := ⟨v, le, mo⟩) (m := ot) (hl.sub (by intro z hz; ((repeat first|exact z_0|assumption|refine z_1 ?_|(refine z_l ?_;(repeat first|exact z_0|assumption|refine z_1 ?_);done)|refine z_r ?_);done))) (hos.sub (by intro z hz; ((repeat first|exact z_0|assumption|refine z_1 ?_|(refine z_l ?_;(repeat first|exact z_0|assumption|refine z_1 ?_);done)|refine z_r ?_);done))) hsu (by omega) hol hoi hmb (hno ot (allM_mem hol hoi)) (up_ret ?_)))
            refine xr_op rfl rfl (xv_pick rfl rfl ?_)
            refine xr_op rfl rfl (xv_assign rfl ?_)
            refine xr_end rfl ?_
            refine th_n ?_
            refine xc_seq ?_
            refine xc_seq (xc_region ?_)
            refine xr_op rfl rfl (xv_move rfl ?_)
            refine xr_op rfl rfl (xv_neqT rfl rfl (by decide) ?_)
            refine xr_end rfl ?_
            refine th_n ?_
            refine xc_true rfl ?_
            refine xc_seq (xc_region ?_)
            refine xr_op rfl rfl (xv_move rfl ?_)
            refine xr_op rfl rfl (xv_not rfl ?_)
            refine xr_op rfl rfl (xv_move rfl ?_)
            refine xr_gd rfl rfl rfl (xv_move rfl ?_)
            refine xr_gd rfl rfl rfl (xv_len sl29 rfl ?_)
            refine xr_gd rfl rfl rfl (xv_eqlT rfl rfl rfl ?_)
            refine xr_op rfl rfl (xv_pick rfl rfl ?_)
            refine xr_op rfl rfl (xv_move rfl ?_)
            refine xr_gd rfl rfl rfl (xv_move rfl ?_)
            refine xr_gd rfl rfl rfl (xv_eqlT rfl rfl rfl ?_)
            refine xr_op rfl rfl (xv_pick rfl rfl ?_)
            refine xr_op rfl rfl (xv_move rfl ?_)
            refine xr_gd rfl rfl rfl (xv_move rfl ?_)
            refine xr_gd rfl rfl rfl (xv_eqlT rfl rfl rfl ?_)
            refine xr_gd rfl rfl rfl (xv_move rfl ?_)
            refine xr_no rfl rfl rfl rfl ?_
            refine xr_no rfl rfl rfl rfl ?_
            refine xr_gd rfl rfl rfl (xv_pick rfl rfl ?_)
            refine xr_op rfl rfl (xv_pick rfl rfl ?_)
            refine xr_op rfl rfl (xv_move rfl ?_)
            refine xr_gd rfl rfl rfl (xv_calls rfl hb9 (awake_c (up_ret ?_)))
            refine xr_op rfl rfl (xv_pick rfl rfl ?_)
            refine xr_op rfl rfl (xv_assign rfl ?_)
            refine xr_end rfl ?_
            refine th_n ?_
            refine xc_ret ?_
            refine th_r ?_
            refine body_ret (h' := h) rfl (ro_tmp rfl ro_nil) (by (first|((repeat first|exact s_0|exact s_1|exact s_3|refine s_4 ?_|refine s_5 ?_|refine s_6 ?_|refine s_7 ?_);done)|((repeat first|exact s_0|exact s_1|exact s_3|refine s_4 ?_|refine s_5 ?_|refine s_6 ?_|refine s_8 ?_);done))) ?_
            first | exact H | (exfalso; exact hnb ⟨⟨(by first | omega | (dsimp only; omega)), (by first | omega | (dsimp only; omega))⟩, ⟨(by first | omega | (dsimp only; omega)), (by first | omega | (dsimp only; omega))⟩, (by first | omega | (dsimp only; omega)), (by first | omega | (dsimp only; omega))⟩) | (exfalso; (first | omega | (dsimp only at *; omega) | (simp at *; omega)))
          · obtain ⟨⟨v1, v2⟩, ⟨t1, t2⟩, l1, l2⟩ := id hmb
            dsimp only at v1 v2 t1 t2 l1 l2
            rw [hmx] at s1 ⊢
            have hol : ot.length = l.length := by (first | omega | (dsimp only at *; omega) | (simp at *; omega))
            obtain ⟨oa, oc, hov, hos⟩ := Vec.slv (enc := eI) (t := 3) (V := V) (xs := ot) (h := V.hp 3 (ot.flatMap eI)) eI_len hV (fun _ hz => hz)
            rw [hov]
            refine xr_op rfl rfl (xv_move rfl ?_)
            refine xr_op rfl rfl (xv_cmpK rfl rfl (cmpT (by simp only [cmpP]; (first | omega | (dsimp only at *; omega) | (simp at *; omega)))) ?_)
            refine xr_op rfl rfl (xv_move rfl ?_)
            refine xr_gd rfl rfl rfl (xv_move rfl ?_)
            refine xr_gd rfl rfl rfl (xv_cmpK rfl rfl (cmpT (by simp only [cmpP]; (first | omega | (dsimp only at *; omega) | (simp at *; omega)))) ?_)
            refine xr_op rfl rfl (xv_pick rfl rfl ?_)
            refine xr_op rfl rfl (xv_move rfl ?_)
            refine xr_gd rfl rfl rfl (xv_move rfl ?_)
            refine xr_gd rfl rfl rfl (xv_cmpK rfl rfl (cmpT (by simp only [cmpP]; (first | omega | (dsimp only at *; omega) | (simp at *; omega)))) ?_)
            refine xr_op rfl rfl (xv_pick rfl rfl ?_)
            refine xr_op rfl rfl (xv_move rfl ?_)
            refine xr_gd rfl rfl rfl (xv_move rfl ?_)
            refine xr_gd rfl rfl rfl (xv_move rfl ?_)
            refine xr_gd rfl rfl rfl (xv_cmpK rfl rfl (cmpT (by simp only [cmpP]; (first | omega | (dsimp only at *; omega) | (simp at *; omega)))) ?_)
            refine xr_op rfl rfl (xv_pick rfl rfl ?_)
            refine xr_op rfl rfl (xv_move rfl ?_)
            refine xr_gd rfl rfl rfl (xv_move rfl ?_)
            refine xr_gd rfl rfl rfl (xv_cmpK rfl rfl (cmpT (by simp only [cmpP]; (first | omega | (dsimp only at *; omega) | (simp at *; omega)))) ?_)
            refine xr_op rfl rfl (xv_pick rfl rfl ?_)
            refine xr_op rfl rfl (xv_move rfl ?_)
            refine xr_gd rfl rfl rfl (xv_move rfl ?_)
            refine xr_gd rfl rfl rfl (xv_move rfl ?_)
            refine xr_gd rfl rfl rfl (xv_move rfl ?_)
            refine xr_gd rfl rfl rfl (xv_move rfl ?_)
            refine xr_gd rfl rfl rfl (xv_move rfl ?_)
            refine xr_gd rfl rfl rfl (xv_calls rfl hb22 (Right_c (q := ⟨v, le, mo⟩) (m := ot) (hl.sub (by intro z hz; ((repeat first|exact z_0|assumption|refine z_1 ?_|(refine z_l ?_;(repeat first|exact z_0|assumption|refine z_1 ?_);done)|refine z_r ?_);done))) (hos.sub (by intro z hz; ((repeat first|exact z_0|assumption|refine z_1 ?_|(refine z_l ?_;(repeat first|exact z_0|assumption|refine z_1 ?_);done)|refine z_r ?_);done))) hsu (by omega) hol hoi hmb (up_ret ?_)))
            refine xr_op rfl rfl (xv_pick rfl rfl ?_)
            refine xr_op rfl rfl (xv_assign rfl ?_)
            refine xr_end rfl ?_
            refine th_n ?_
            refine xc_seq ?_
            refine xc_seq (xc_region ?_)
            refine xr_op rfl rfl (xv_move rfl ?_)
            refine xr_op rfl rfl (xv_neqF rfl rfl rfl ?_)
            refine xr_end rfl ?_
            refine th_n ?_
            refine xc_false rfl ?_
            refine xc_skip ?_
            refine th_n ?_
            refine xc_seq ?_
            refine xc_seq (xc_region ?_)
            have hml := (mem_allM hbest.mem).1
            have hmi := (mem_allM hbest.mem).2
            have hs := hsu
            have hin := hmi
            have hcost := hbest.cost
            obtain ⟨⟨v1, v2⟩, ⟨t1, t2⟩, l1, l2⟩ := id hmb
            have hr9 := hbest.right
            obtain ⟨hr1, hr2, hr3⟩ := hr9
            dsimp only at v1 v2 t1 t2 l1 l2 hr1 hr2 hr3
            have ml := mul_bdI (a := le) (A := 10000) (x := v) (B := 80) l1 (by omega) (by omega) v2 (by omega)
            have mm := mul_bdI (a := mo) (A := 10000) (x := v) (B := 80) t1 t2 (by omega) v2 (by omega)
            refine xr_op rfl rfl (xv_move rfl ?_)
            refine xr_op rfl rfl (xv_len sl29 rfl ?_)
            refine xr_op rfl rfl (xv_move rfl ?_)
            refine xr_op rfl rfl (xv_len sl22 rfl ?_)
            refine xr_op rfl rfl (xv_neqF rfl rfl (by (first | omega | (dsimp only at *; omega) | (simp at *; omega))) ?_)
            refine xr_op rfl rfl (xv_move rfl ?_)
            refine xr_gd rfl rfl rfl (xv_move rfl ?_)
            refine xr_gd rfl rfl rfl (xv_move rfl ?_)
            refine xr_gd rfl rfl rfl (xv_move rfl ?_)
            refine xr_gd rfl rfl rfl (xv_move rfl ?_)
            refine xr_gd rfl rfl rfl (xv_move rfl ?_)
            refine xr_gd rfl rfl rfl (xv_calls rfl hb22 (RightT_c (q := ⟨v, le, mo⟩) (m := m) (hl.sub (by intro z hz; ((repeat first|exact z_0|assumption|refine z_1 ?_|(refine z_l ?_;(repeat first|exact z_0|assumption|refine z_1 ?_);done)|refine z_r ?_);done))) (s1.sub (by intro z hz; ((repeat first|exact z_0|assumption|refine z_1 ?_|(refine z_l ?_;(repeat first|exact z_0|assumption|refine z_1 ?_);done)|refine z_r ?_);done))) hsu (by omega) hml hmi hmb hbest.right (up_ret ?_)))
            refine xr_gd rfl rfl rfl (xv_not rfl ?_)
            refine xr_op rfl rfl (xv_pick rfl rfl ?_)
            refine xr_op rfl rfl (xv_move rfl ?_)
            refine xr_gd rfl rfl rfl (xv_move rfl ?_)
            refine xr_gd rfl rfl rfl (xv_move rfl ?_)
            refine xr_gd rfl rfl rfl (xv_calls rfl hb23 (Cost_c (m := m) (hl.sub (by intro z hz; ((repeat first|exact z_0|assumption|refine z_1 ?_|(refine z_l ?_;(repeat first|exact z_0|assumption|refine z_1 ?_);done)|refine z_r ?_);done))) (s1.sub (by intro z hz; ((repeat first|exact z_0|assumption|refine z_1 ?_|(refine z_l ?_;(repeat first|exact z_0|assumption|refine z_1 ?_);done)|refine z_r ?_);done))) hsu (by omega) hml hmi (up_ret ?_)))
            refine xr_gd rfl rfl rfl (xv_move rfl ?_)
            refine xr_gd rfl rfl rfl (xv_neqF rfl rfl hcost.symm ?_)
            refine xr_op rfl rfl (xv_pick rfl rfl ?_)
            refine xr_end rfl ?_
            refine th_n ?_
            refine xc_false rfl ?_
            refine xc_skip ?_
            refine th_n ?_
            refine xc_seq (xc_region ?_)
            refine xr_op rfl rfl (xv_assign rfl ?_)
            refine xr_op rfl rfl (xv_assign rfl ?_)
            refine xr_end rfl ?_
            refine th_n ?_
            refine xc_seq ?_
            refine xc_seq (xc_region ?_)
            refine xr_op rfl rfl (xv_assign rfl ?_)
            refine xr_end rfl ?_
            refine th_n ?_
            refine xc_block ?_
            refine xc_loop (σ := Nat × Int) (fun z => z.1 ≤ l.length ∧ sumZ (·.heat.lo) l (m.take z.1) ≤ z.2 ∧ z.2 ≤ sumZ (·.heat.hi) l (m.take z.1)) (fun z => ((((((((((((emp.put (some 0) (.slice a l.length c)).put (some 1) (I v)).put (some 2) (I le)).put (some 3) (I mo)).put (some 4) (.slice ab bs.length cb)).put (some 11) (.slice a1 m.length c1)).put (some 12) (I c9)).put (some 14) (.slice oa ot.length oc)).put (some 16) (.bool (decide (rightP l ⟨v, le, mo⟩ ot)))).put (some 17) (I (sumZ (·.volume) l (m.take z.1)))).put (some 18) (I z.2)).put (some 19) (I z.1))) (fun z => (V.hp 3 (ot.flatMap eI) ++ (q1 ++ h))) (fun z => l.length - z.1) ((0, 0) : Nat × Int) ⟨Nat.zero_le _, by rw [List.take_zero, sumZ_nil]; exact Int.le_refl _, by rw [List.take_zero, sumZ_nil]; exact Int.le_refl _⟩ (le_put (le_put (le_put (le_put (le_put (le_put (le_put (le_put (le_put (le_put (le_put (le_put (le_emp _) rfl) rfl) rfl) rfl) rfl) rfl) rfl) rfl) rfl) (by rw [List.take_zero, sumZ_nil]; rfl)) rfl) rfl) (by (first|((repeat first|exact s_0|exact s_1|exact s_3|refine s_4 ?_|refine s_5 ?_|refine s_6 ?_|refine s_7 ?_);done)|((repeat first|exact s_0|exact s_1|exact s_3|refine s_4 ?_|refine s_5 ?_|refine s_6 ?_|refine s_8 ?_);done))) ?_
            rintro ⟨k, t⟩ ⟨hk, htl, hth⟩
            dsimp only at hk htl hth
            refine xc_seq ?_
            refine xc_seq (xc_region ?_)
            refine xr_op rfl rfl (xv_move rfl ?_)
            refine xr_op rfl rfl (xv_move rfl ?_)
            refine xr_op rfl rfl (xv_len sl22 rfl ?_)
            refine xr_op rfl rfl (xv_lss2 rfl rfl (fun q10 => ?_) (fun q10 => ?_))
            · refine xr_end rfl ?_
              refine th_n ?_
              refine xc_true rfl ?_
              refine xc_skip ?_
              refine th_n ?_
              refine xc_seq ?_
              refine xc_block ?_
              refine xc_seq (xc_region ?_)
              refine xr_op rfl rfl (xv_move rfl ?_)
              refine xr_op rfl rfl (xv_move rfl ?_)
              have hltn : k < m.length := by (first | omega | (dsimp only at *; omega) | (simp at *; omega))
              obtain ⟨bn, on, ln, tn, fzn, han, hmn, hxn⟩ := (s1).at hltn
              obtain ⟨xn, hkn⟩ : ∃ qq_, m[k]? = some qq_ := ⟨_, List.getElem?_eq_getElem hltn⟩
              have hlto : k < l.length := by (first | omega | (dsimp only at *; omega) | (simp at *; omega))
              obtain ⟨bo, oo, lo, to, fzo, hao, hmo, hxo⟩ := (hl).at hlto
              obtain ⟨xo, hko⟩ : ∃ qq_, l[k]? = some qq_ := ⟨_, List.getElem?_eq_getElem hlto⟩
              obtain ⟨⟨q1, q2, q3⟩, ⟨q4, q5⟩, ⟨q6, q7⟩, q8, q9⟩ := hs xo (List.mem_of_getElem? hko)
              obtain ⟨n1, n2⟩ := inM_at hin hko hkn
              have bd := mix_bd hs (inM_take k hin)
              have bd1 := bd.v0
              have bd2 := bd.v1
              have bd3 := bd.l0
              have bd4 := bd.l1
              have bd5 := bd.h0
              have bd6 := bd.h1
              have bd7 := bd.c0
              have bd8 := bd.c1
              rw [List.length_take] at bd2 bd4 bd6 bd8
              obtain ⟨wv0, wv1⟩ := mulx (n := xn) (y := xo.volume) (B := 1) n1 (by omega) q4 q5
              obtain ⟨wl0, wl1⟩ := mulx (n := xn) (y := xo.heat.lo) (B := 10000) n1 (by omega) q1 (by omega)
              obtain ⟨wh0, wh1⟩ := mulx (n := xn) (y := xo.heat.hi) (B := 10000) n1 (by omega) (by omega) (by omega)
              obtain ⟨wp0, wp1⟩ := mulx (n := xn) (y := xo.pay) (B := 1000000) n1 (by omega) q8 q9
              refine xr_op rfl rfl (xv_ia (sz := 5) (j := k) sl22 ty28 rfl (by rw [hao]; rfl) rfl (by (first | assumption | with_reducible exact Int.toNat_natCast _ | with_reducible rfl | rfl)) (by (first | omega | (dsimp only at *; omega) | (simp at *; omega))) (by (first | omega | (dsimp only at *; omega) | (simp at *; omega))) ?_)
              refine xr_op rfl rfl (xv_faddr fl28_0 rfl ?_)
              refine xr_op rfl rfl (xv_loadA (l' := eSpan xo.heat) ty26 rfl rfl (by ((repeat first|exact z_0|assumption|refine z_1 ?_|(refine z_l ?_;(repeat first|exact z_0|assumption|refine z_1 ?_);done)|refine z_r ?_);done)) (seg_sup (hxo k xo hko)) rfl ?_)
              refine xr_op rfl rfl (xv_alloc ty26 (fun c20 hc20 => ?_))
              refine xr_op rfl rfl (xv_s ty26 rfl rfl (by (first|(apply u_3;(repeat first|exact u_0|assumption|apply u_1|apply u_2);done)|((repeat first|exact u_0|assumption|apply u_1|apply u_2);done)|(apply u_3;apply u_3;(repeat first|exact u_0|assumption|apply u_1|apply u_2);done)|((repeat first|exact u_0|assumption|apply u_3|apply u_1);done))) (by ((try apply evl_some rfl);(repeat (first|exact (rfl : _ = [])|apply evl_cons rfl (by (first|exact v_1|exact v_2|exact v_3|exact v_4|exact v_5|exact v_6|exact v_7|exact v_8|exact v_9|exact rfl))|exact rfl)))) (by rfl) (by rfl) (by rfl) (by ((try apply evl_some rfl);(repeat (first|exact (rfl : _ = [])|apply evl_cons rfl (by (first|exact v_1|exact v_2|exact v_3|exact v_4|exact v_5|exact v_6|exact v_7|exact v_8|exact v_9|exact rfl))|exact rfl)))) ?_)
              refine xr_end rfl ?_
              refine th_n ?_
              refine xc_seq ?_
              refine xc_draw0 [(0, .S), (1, .S), (2, .S), (3, .S), (4, .R), (5, .S), (6, .S), (7, .S), (8, .S), (9, .R), (10, .S), (11, .S), (12, .S)] mixed (by kernel_rfl) ?_
              refine js_S rfl rfl (.inl rfl) (xv_move rfl ⟨rfl, rfl⟩) ?_
              refine js_S rfl rfl (.inl rfl) (xv_move rfl ⟨rfl, rfl⟩) ?_
              refine js_S rfl rfl (.inl rfl) (xv_move rfl ⟨rfl, rfl⟩) ?_
              refine js_S rfl rfl (.inl rfl) (xv_ia (sz := 1) (j := k) sl29 ty3 rfl (by rw [han]; rfl) rfl (by (first | assumption | with_reducible exact Int.toNat_natCast _ | with_reducible rfl | rfl)) (by (first | omega | (dsimp only at *; omega) | (simp at *; omega))) (by (first | omega | (dsimp only at *; omega) | (simp at *; omega))) ⟨rfl, rfl⟩) ?_
              refine js_R0 rfl rfl (.inl rfl) (xv_load1 ty3 rfl rfl (by ((repeat first|exact z_0|assumption|refine z_1 ?_|(refine z_l ?_;(repeat first|exact z_0|assumption|refine z_1 ?_);done)|refine z_r ?_);done)) (take_get (hxn (k) xn hkn) (j := 0) rfl) ⟨rfl, rfl⟩) ?_
              refine js_S rfl rfl (.inl rfl) (xv_move rfl ⟨rfl, rfl⟩) ?_
              refine js_S rfl rfl (.inl rfl) (xv_move rfl ⟨rfl, rfl⟩) ?_
              refine js_S rfl rfl (.inl rfl) (xv_ia (sz := 5) (j := k) sl22 ty28 rfl (by rw [hao]; rfl) rfl (by (first | assumption | with_reducible exact Int.toNat_natCast _ | with_reducible rfl | rfl)) (by (first | omega | (dsimp only at *; omega) | (simp at *; omega))) (by (first | omega | (dsimp only at *; omega) | (simp at *; omega))) ⟨rfl, rfl⟩) ?_
              refine js_S rfl rfl (.inl rfl) (xv_faddr fl28_1 rfl ⟨rfl, rfl⟩) ?_
              refine js_R0 rfl rfl (.inl rfl) (xv_load1 ty3 rfl rfl (by ((repeat first|exact z_0|assumption|refine z_1 ?_|(refine z_l ?_;(repeat first|exact z_0|assumption|refine z_1 ?_);done)|refine z_r ?_);done)) (take_get (hxo (k) xo hko) (j := 2) rfl) ⟨rfl, rfl⟩) ?_
              refine js_S rfl rfl (.inl rfl) (xv_mul rfl rfl (wrap_i64 (by (first | omega | (dsimp only at *; omega) | (simp at *; omega))) (by (first | omega | (dsimp only at *; omega) | (simp at *; omega)))) ⟨rfl, rfl⟩) ?_
              refine js_S rfl rfl (.inl rfl) (xv_add rfl rfl (wrap_i64 (by (first | omega | (dsimp only at *; omega) | (simp at *; omega))) (by (first | omega | (dsimp only at *; omega) | (simp at *; omega)))) ⟨rfl, rfl⟩) ?_
              refine js_S rfl rfl (.inl rfl) (xv_assign rfl ⟨rfl, rfl⟩) ?_
              refine j_end0 ?_
              refine th_n ?_
              refine xc_draw0 [(0, .S), (1, .S), (2, .S), (3, .S), (4, .R), (5, .S), (6, .R), (7, .S), (8, .S), (9, .S), (10, .S), (11, .S), (12, .S), (13, .S), (14, .R), (15, .S), (16, .S), (17, .R), (18, .S), (19, .R), (20, .S), (21, .S), (22, .S), (23, .S), (24, .S), (25, .S), (26, .S)] mixed (by kernel_rfl) ?_
              refine js_S rfl rfl (.inl rfl) (xv_move rfl ⟨rfl, rfl⟩) ?_
              refine js_S rfl rfl (.inl rfl) (xv_move rfl ⟨rfl, rfl⟩) ?_
              refine js_S rfl rfl (.inl rfl) (xv_move rfl ⟨rfl, rfl⟩) ?_
              refine js_S rfl rfl (.inl rfl) (xv_ia (sz := 1) (j := k) sl29 ty3 rfl (by rw [han]; rfl) rfl (by (first | assumption | with_reducible exact Int.toNat_natCast _ | with_reducible rfl | rfl)) (by (first | omega | (dsimp only at *; omega) | (simp at *; omega))) (by (first | omega | (dsimp only at *; omega) | (simp at *; omega))) ⟨rfl, rfl⟩) ?_
              refine js_R0 rfl rfl (.inl rfl) (xv_load1 ty3 rfl rfl (by ((repeat first|exact z_0|assumption|refine z_1 ?_|(refine z_l ?_;(repeat first|exact z_0|assumption|refine z_1 ?_);done)|refine z_r ?_);done)) (take_get (hxn (k) xn hkn) (j := 0) rfl) ⟨rfl, rfl⟩) ?_
              refine js_S rfl rfl (.inl rfl) (xv_faddr fl26_0 rfl ⟨rfl, rfl⟩) ?_
              refine js_R0 rfl rfl (.inl rfl) (xv_load1 ty3 rfl rfl (by ((repeat first|exact z_0|assumption|refine z_1 ?_|(refine z_l ?_;(repeat first|exact z_0|assumption|refine z_1 ?_);done)|refine z_r ?_);done)) (by rfl) ⟨rfl, rfl⟩) ?_
              refine js_S rfl rfl (.inl rfl) (xv_move rfl ⟨rfl, rfl⟩) ?_
              refine js_S rfl rfl (.inl rfl) (xv_move rfl ⟨rfl, rfl⟩) ?_
              obtain ⟨km, hkm⟩ : ∃ km : Nat, km = (k + 3) % bs.length := ⟨_, rfl⟩
              have hkml : km < bs.length := by rw [hkm]; exact Nat.mod_lt _ (by omega)
              have hltu : km < bs.length := hkml
              obtain ⟨bu, ou, lu, tu, fzu, hau, hmu, hxu⟩ := (hb).at hltu
              obtain ⟨xu, hku⟩ : ∃ qq_, bs[km]? = some qq_ := ⟨_, List.getElem?_eq_getElem hltu⟩
              have hxv := hbv xu (List.mem_of_getElem? hku)
              have hr0 := Int.emod_nonneg xu (show xo.heat.hi - xo.heat.lo + 1 ≠ 0 by omega)
              have hr4 := Int.emod_lt_of_pos xu (show 0 < xo.heat.hi - xo.heat.lo + 1 by omega)
              obtain ⟨w, hw⟩ : ∃ w, w = xo.heat.lo + xu % (xo.heat.hi - xo.heat.lo + 1) := ⟨_, rfl⟩
              have hwl := Int.mul_le_mul_of_nonneg_left (show xo.heat.lo ≤ w by omega) n1
              have hwh := Int.mul_le_mul_of_nonneg_left (show w ≤ xo.heat.hi by omega) n1
              refine js_S rfl rfl (.inl rfl) (xv_add rfl rfl (wrap_i64 (by (first | omega | (dsimp only at *; omega) | (simp at *; omega))) (by (first | omega | (dsimp only at *; omega) | (simp at *; omega)))) ⟨rfl, rfl⟩) ?_
              refine js_S rfl rfl (.inl rfl) (xv_move rfl ⟨rfl, rfl⟩) ?_
              refine js_S rfl rfl (.inl rfl) (xv_len sl46 rfl ⟨rfl, rfl⟩) ?_
              refine js_S rfl rfl (.inl rfl) (xv_rem (c := (km : Int)) rfl rfl (by (first | omega | (dsimp only at *; omega) | (simp at *; omega))) (by rw [hkm]; rfl) ⟨rfl, rfl⟩) ?_
              refine js_S rfl rfl (.inl rfl) (xv_ia (sz := 1) (j := km) sl46 ty47 rfl (by rw [hau]; rfl) rfl (by (first | assumption | with_reducible exact Int.toNat_natCast _ | with_reducible rfl | rfl)) (by (first | omega | (dsimp only at *; omega) | (simp at *; omega))) (by (first | omega | (dsimp only at *; omega) | (simp at *; omega))) ⟨rfl, rfl⟩) ?_
              refine js_R0 rfl rfl (.inl rfl) (xv_load1 ty47 rfl rfl (by ((repeat first|exact z_0|assumption|refine z_1 ?_|(refine z_l ?_;(repeat first|exact z_0|assumption|refine z_1 ?_);done)|refine z_r ?_);done)) (take_get (hxu (km) xu hku) (j := 0) rfl) ⟨rfl, rfl⟩) ?_
              refine js_S rfl rfl (.inl rfl) (xv_convI Try.underlying47 Try.underlying3 rfl (wrap_i64 (by (first | omega | (dsimp only at *; omega) | (simp at *; omega))) (by (first | omega | (dsimp only at *; omega) | (simp at *; omega)))) ⟨rfl, rfl⟩) ?_
              refine js_S rfl rfl (.inl rfl) (xv_faddr fl26_1 rfl ⟨rfl, rfl⟩) ?_
              refine js_R0 rfl rfl (.inl rfl) (xv_load1 ty3 rfl rfl (by ((repeat first|exact z_0|assumption|refine z_1 ?_|(refine z_l ?_;(repeat first|exact z_0|assumption|refine z_1 ?_);done)|refine z_r ?_);done)) (by rfl) ⟨rfl, rfl⟩) ?_
              refine js_S rfl rfl (.inl rfl) (xv_faddr fl26_0 rfl ⟨rfl, rfl⟩) ?_
              refine js_R0 rfl rfl (.inl rfl) (xv_load1 ty3 rfl rfl (by ((repeat first|exact z_0|assumption|refine z_1 ?_|(refine z_l ?_;(repeat first|exact z_0|assumption|refine z_1 ?_);done)|refine z_r ?_);done)) (by rfl) ⟨rfl, rfl⟩) ?_
              refine js_S rfl rfl (.inl rfl) (xv_sub rfl rfl (wrap_i64 (by (first | omega | (dsimp only at *; omega) | (simp at *; omega))) (by (first | omega | (dsimp only at *; omega) | (simp at *; omega)))) ⟨rfl, rfl⟩) ?_
              refine js_S rfl rfl (.inl rfl) (xv_add rfl rfl (wrap_i64 (by (first | omega | (dsimp only at *; omega) | (simp at *; omega))) (by (first | omega | (dsimp only at *; omega) | (simp at *; omega)))) ⟨rfl, rfl⟩) ?_
              refine js_S rfl rfl (.inl rfl) (xv_rem (c := xu % (xo.heat.hi - xo.heat.lo + 1)) rfl rfl (by (first | omega | (dsimp only at *; omega) | (simp at *; omega))) (Int.tmod_eq_emod_of_nonneg (by omega)) ⟨rfl, rfl⟩) ?_
              refine js_S rfl rfl (.inl rfl) (xv_add rfl rfl (wrap_i64 (by (first | omega | (dsimp only at *; omega) | (simp at *; omega))) (by (first | omega | (dsimp only at *; omega) | (simp at *; omega)))) ⟨rfl, rfl⟩) ?_
              rw [← hw]
              refine js_S rfl rfl (.inl rfl) (xv_mul rfl rfl (wrap_i64 (by (first | omega | (dsimp only at *; omega) | (simp at *; omega))) (by (first | omega | (dsimp only at *; omega) | (simp at *; omega)))) ⟨rfl, rfl⟩) ?_
              refine js_S rfl rfl (.inl rfl) (xv_add rfl rfl (wrap_i64 (by (first | omega | (dsimp only at *; omega) | (simp at *; omega))) (by (first | omega | (dsimp only at *; omega) | (simp at *; omega)))) ⟨rfl, rfl⟩) ?_
              refine js_S rfl rfl (.inl rfl) (xv_assign rfl ⟨rfl, rfl⟩) ?_
              refine j_end0 ?_
              refine bk_n ?_
              refine th_n ?_
              refine xc_region ?_
              refine xr_op rfl rfl (xv_move rfl ?_)
              refine xr_op rfl rfl (xv_add rfl rfl (wrap_i64 (by (first | omega | (dsimp only at *; omega) | (simp at *; omega))) (by (first | omega | (dsimp only at *; omega) | (simp at *; omega)))) ?_)
              refine xr_op rfl rfl (xv_assign rfl ?_)
              refine xr_end rfl ?_
              exact rnd ((k + 1, t + xn * w) : Nat × Int) ⟨by (first | omega | (dsimp only at *; omega) | (simp at *; omega)), by dsimp only; rw [sumZ_take _ hko hkn]; omega, by dsimp only; rw [sumZ_take _ hko hkn]; omega⟩ (by (first | omega | (dsimp only at *; omega) | (simp at *; omega))) (le_put (le_put (le_put (le_put (le_put (le_put (le_put (le_put (le_put (le_put (le_put (le_put (le_emp _) rfl) rfl) rfl) rfl) rfl) rfl) rfl) rfl) rfl) (by dsimp only; rw [sumZ_take _ hko hkn]; rfl)) rfl) rfl) (by (first|((repeat first|exact s_0|exact s_1|exact s_3|refine s_4 ?_|refine s_5 ?_|refine s_6 ?_|refine s_7 ?_);done)|((repeat first|exact s_0|exact s_1|exact s_3|refine s_4 ?_|refine s_5 ?_|refine s_6 ?_|refine s_8 ?_);done)))
            · refine xr_end rfl ?_
              refine th_n ?_
              refine xc_false rfl ?_
              refine xc_exit ?_
              refine th_x ?_
              refine th_x ?_
              refine bk_same ?_
              refine th_n ?_
              refine xc_seq ?_
              refine xc_seq (xc_region ?_)
              have hkl : k = m.length := by (first | omega | (dsimp only at *; omega) | (simp at *; omega))
              rw [hkl, List.take_length] at htl hth ⊢
              refine xr_op rfl rfl (xv_move rfl ?_)
              refine xr_op rfl rfl (xv_move rfl ?_)
              refine xr_op rfl rfl (xv_neqF rfl rfl (by (first | omega | (dsimp only at *; omega) | (simp at *; omega))) ?_)
              refine xr_op rfl rfl (xv_move rfl ?_)
              refine xr_gd rfl rfl rfl (xv_move rfl ?_)
              refine xr_gd rfl rfl rfl (xv_move rfl ?_)
              refine xr_gd rfl rfl rfl (xv_move rfl ?_)
              refine xr_gd rfl rfl rfl (xv_mul rfl rfl (wrap_i64 (by (first | omega | (dsimp only at *; omega) | (simp at *; omega))) (by (first | omega | (dsimp only at *; omega) | (simp at *; omega)))) ?_)
              refine xr_gd rfl rfl rfl (xv_cmpK rfl rfl (cmpF rfl (by simp only [cmpP]; (first | omega | (dsimp only at *; omega) | (simp at *; omega)))) ?_)
              refine xr_op rfl rfl (xv_pick rfl rfl ?_)
              refine xr_op rfl rfl (xv_move rfl ?_)
              refine xr_gd rfl rfl rfl (xv_move rfl ?_)
              refine xr_gd rfl rfl rfl (xv_move rfl ?_)
              refine xr_gd rfl rfl rfl (xv_move rfl ?_)
              refine xr_gd rfl rfl rfl (xv_mul rfl rfl (wrap_i64 (by (first | omega | (dsimp only at *; omega) | (simp at *; omega))) (by (first | omega | (dsimp only at *; omega) | (simp at *; omega)))) ?_)
              refine xr_gd rfl rfl rfl (xv_cmpK rfl rfl (cmpF rfl (by simp only [cmpP]; (first | omega | (dsimp only at *; omega) | (simp at *; omega)))) ?_)
              refine xr_op rfl rfl (xv_pick rfl rfl ?_)
              refine xr_end rfl ?_
              refine th_n ?_
              refine xc_false rfl ?_
              refine xc_skip ?_
              refine th_n ?_
              refine xc_seq ?_
              refine xc_seq (xc_region ?_)
              refine xr_op rfl rfl (xv_move rfl ?_)
              refine xr_op rfl rfl (xv_not rfl ?_)
              refine xr_end rfl ?_
              refine th_n ?_
              refine xc_bool rfl (fun q11 => ?_) (fun q11 => ?_)
              · refine xc_seq (xc_region ?_)
                refine xr_op rfl rfl (xv_calls rfl hb9 (awake_c (up_ret ?_)))
                refine xr_op rfl rfl (xv_assign rfl ?_)
                refine xr_end rfl ?_
                refine th_n ?_
                refine xc_ret ?_
                refine th_r ?_
                refine body_ret (h' := h) rfl (ro_tmp rfl ro_nil) (by (first|((repeat first|exact s_0|exact s_1|exact s_3|refine s_4 ?_|refine s_5 ?_|refine s_6 ?_|refine s_7 ?_);done)|((repeat first|exact s_0|exact s_1|exact s_3|refine s_4 ?_|refine s_5 ?_|refine s_6 ?_|refine s_8 ?_);done))) ?_
                first | exact H | (exfalso; exact hnb ⟨⟨(by first | omega | (dsimp only; omega)), (by first | omega | (dsimp only; omega))⟩, ⟨(by first | omega | (dsimp only; omega)), (by first | omega | (dsimp only; omega))⟩, (by first | omega | (dsimp only; omega)), (by first | omega | (dsimp only; omega))⟩) | (exfalso; (first | omega | (dsimp only at *; omega) | (simp at *; omega)))
              · refine xc_skip ?_
                refine th_n ?_
                refine xc_seq (xc_region ?_)
                have hor : rightP l ⟨v, le, mo⟩ ot := by
                  have h9 : (!decide (rightP l ⟨v, le, mo⟩ ot)) = false := by assumption
                  simpa using h9
                obtain ⟨hc1, hc2⟩ := hbest.least ot (allM_mem hol hoi) hor
                refine xr_op rfl rfl (xv_move rfl ?_)
                refine xr_op rfl rfl (xv_move rfl ?_)
                refine xr_op rfl rfl (xv_calls rfl hb23 (Cost_c (m := ot) (hl.sub (by intro z hz; ((repeat first|exact z_0|assumption|refine z_1 ?_|(refine z_l ?_;(repeat first|exact z_0|assumption|refine z_1 ?_);done)|refine z_r ?_);done))) (hos.sub (by intro z hz; ((repeat first|exact z_0|assumption|refine z_1 ?_|(refine z_l ?_;(repeat first|exact z_0|assumption|refine z_1 ?_);done)|refine z_r ?_);done))) hsu (by omega) hol hoi (up_ret ?_)))
                refine xr_op rfl rfl (xv_assign rfl ?_)
                refine xr_end rfl ?_
                refine th_n ?_
                refine xc_seq (xc_region ?_)
                refine xr_op rfl rfl (xv_assign rfl ?_)
                refine xr_end rfl ?_
                refine th_n ?_
                refine xc_join (σ := Bool) (fun p => p = true → lexL ot m) (fun p => (((emp.put (some 12) (I c9)).put (some 21) (I (costM l ot))).put (some 22) (.bool p))) (fun p => (V.hp 3 (ot.flatMap eI) ++ (q1 ++ h))) ?_ ?_
                · refine xc_seq (xc_region ?_)
                  refine xr_op rfl rfl (xv_assign rfl ?_)
                  refine xr_end rfl ?_
                  refine th_n ?_
                  refine xc_block ?_
                  refine xc_loop (σ := Nat) (fun k => k ≤ l.length ∧ ot.take k = m.take k) (fun k => (((((((emp.put (some 0) (.slice a l.length c)).put (some 11) (.slice a1 m.length c1)).put (some 12) (I c9)).put (some 14) (.slice oa ot.length oc)).put (some 21) (I (costM l ot))).put (some 22) (.bool false)).put (some 23) (I k))) (fun k => (V.hp 3 (ot.flatMap eI) ++ (q1 ++ h))) (fun k => l.length - k) 0 ⟨Nat.zero_le _, rfl⟩ (le_put (le_put (le_put (le_put (le_put (le_put (le_put (le_emp _) rfl) rfl) rfl) rfl) rfl) rfl) rfl) (by (first|((repeat first|exact s_0|exact s_1|exact s_3|refine s_4 ?_|refine s_5 ?_|refine s_6 ?_|refine s_7 ?_);done)|((repeat first|exact s_0|exact s_1|exact s_3|refine s_4 ?_|refine s_5 ?_|refine s_6 ?_|refine s_8 ?_);done))) ?_
                  rintro k ⟨hk, htk⟩
                  refine xc_seq ?_
                  refine xc_seq (xc_region ?_)
                  refine xr_op rfl rfl (xv_move rfl ?_)
                  refine xr_op rfl rfl (xv_move rfl ?_)
                  refine xr_op rfl rfl (xv_len sl22 rfl ?_)
                  refine xr_op rfl rfl (xv_lss2 rfl rfl (fun q12 => ?_) (fun q12 => ?_))
                  · refine xr_end rfl ?_
                    refine th_n ?_
                    refine xc_true rfl ?_
                    refine xc_skip ?_
                    refine th_n ?_
                    refine xc_seq ?_
                    refine xc_block ?_
                    refine xc_seq ?_
                    refine xc_draw0 [(0, .S), (1, .S), (2, .S), (3, .R), (4, .S), (5, .S), (6, .S), (7, .R), (8, .O)] mixed (by kernel_rfl) ?_
                    refine js_S rfl rfl (.inl rfl) (xv_move rfl ⟨rfl, rfl⟩) ?_
                    refine js_S rfl rfl (.inl rfl) (xv_move rfl ⟨rfl, rfl⟩) ?_
                    have hlto : k < ot.length := by (first | omega | (dsimp only at *; omega) | (simp at *; omega))
                    obtain ⟨bo, oo, lo, to, fzo, hao, hmo, hxo⟩ := (hos).at hlto
                    obtain ⟨xo, hko⟩ : ∃ qq_, ot[k]? = some qq_ := ⟨_, List.getElem?_eq_getElem hlto⟩
                    have hltp : k < m.length := by (first | omega | (dsimp only at *; omega) | (simp at *; omega))
                    obtain ⟨bp, op, lp, tp, fzp, hap, hmp, hxp⟩ := (s1).at hltp
                    obtain ⟨xp, hkp⟩ : ∃ qq_, m[k]? = some qq_ := ⟨_, List.getElem?_eq_getElem hltp⟩
                    refine js_S rfl rfl (.inl rfl) (xv_ia (sz := 1) (j := k) sl29 ty3 rfl (by rw [hao]; rfl) rfl (by (first | assumption | with_reducible exact Int.toNat_natCast _ | with_reducible rfl | rfl)) (by (first | omega | (dsimp only at *; omega) | (simp at *; omega))) (by (first | omega | (dsimp only at *; omega) | (simp at *; omega))) ⟨rfl, rfl⟩) ?_
                    refine js_R0 rfl rfl (.inl rfl) (xv_load1 ty3 rfl rfl (by ((repeat first|exact z_0|assumption|refine z_1 ?_|(refine z_l ?_;(repeat first|exact z_0|assumption|refine z_1 ?_);done)|refine z_r ?_);done)) (take_get (hxo (k) xo hko) (j := 0) rfl) ⟨rfl, rfl⟩) ?_
                    refine js_S rfl rfl (.inl rfl) (xv_move rfl ⟨rfl, rfl⟩) ?_
                    refine js_S rfl rfl (.inl rfl) (xv_move rfl ⟨rfl, rfl⟩) ?_
                    refine js_S rfl rfl (.inl rfl) (xv_ia (sz := 1) (j := k) sl29 ty3 rfl (by rw [hap]; rfl) rfl (by (first | assumption | with_reducible exact Int.toNat_natCast _ | with_reducible rfl | rfl)) (by (first | omega | (dsimp only at *; omega) | (simp at *; omega))) (by (first | omega | (dsimp only at *; omega) | (simp at *; omega))) ⟨rfl, rfl⟩) ?_
                    refine js_R0 rfl rfl (.inl rfl) (xv_load1 ty3 rfl rfl (by ((repeat first|exact z_0|assumption|refine z_1 ?_|(refine z_l ?_;(repeat first|exact z_0|assumption|refine z_1 ?_);done)|refine z_r ?_);done)) (take_get (hxp (k) xp hkp) (j := 0) rfl) ⟨rfl, rfl⟩) ?_
                    refine js_O0 rfl rfl (.inl rfl) (xv_neq2 rfl rfl (fun hq => ?_) (fun hq => ?_))
                    · refine j_end0 ?_
                      refine th_n ?_
                      refine xc_true rfl ?_
                      refine xc_seq ?_
                      refine xc_draw0 [(0, .S), (1, .S), (2, .S), (3, .R), (4, .S), (5, .S), (6, .S), (7, .R), (8, .S), (9, .S)] mixed (by kernel_rfl) ?_
                      refine js_S rfl rfl (.inl rfl) (xv_move rfl ⟨rfl, rfl⟩) ?_
                      refine js_S rfl rfl (.inl rfl) (xv_move rfl ⟨rfl, rfl⟩) ?_
                      refine js_S rfl rfl (.inl rfl) (xv_ia (sz := 1) (j := k) sl29 ty3 rfl (by rw [hao]; rfl) rfl (by (first | assumption | with_reducible exact Int.toNat_natCast _ | with_reducible rfl | rfl)) (by (first | omega | (dsimp only at *; omega) | (simp at *; omega))) (by (first | omega | (dsimp only at *; omega) | (simp at *; omega))) ⟨rfl, rfl⟩) ?_
                      refine js_R0 rfl rfl (.inl rfl) (xv_load1 ty3 rfl rfl (by ((repeat first|exact z_0|assumption|refine z_1 ?_|(refine z_l ?_;(repeat first|exact z_0|assumption|refine z_1 ?_);done)|refine z_r ?_);done)) (take_get (hxo (k) xo hko) (j := 0) rfl) ⟨rfl, rfl⟩) ?_
                      refine js_S rfl rfl (.inl rfl) (xv_move rfl ⟨rfl, rfl⟩) ?_
                      refine js_S rfl rfl (.inl rfl) (xv_move rfl ⟨rfl, rfl⟩) ?_
                      refine js_S rfl rfl (.inl rfl) (xv_ia (sz := 1) (j := k) sl29 ty3 rfl (by rw [hap]; rfl) rfl (by (first | assumption | with_reducible exact Int.toNat_natCast _ | with_reducible rfl | rfl)) (by (first | omega | (dsimp only at *; omega) | (simp at *; omega))) (by (first | omega | (dsimp only at *; omega) | (simp at *; omega))) ⟨rfl, rfl⟩) ?_
                      refine js_R0 rfl rfl (.inl rfl) (xv_load1 ty3 rfl rfl (by ((repeat first|exact z_0|assumption|refine z_1 ?_|(refine z_l ?_;(repeat first|exact z_0|assumption|refine z_1 ?_);done)|refine z_r ?_);done)) (take_get (hxp (k) xp hkp) (j := 0) rfl) ⟨rfl, rfl⟩) ?_
                      refine js_S rfl rfl (.inl rfl) (xv_cmp rfl rfl rfl ⟨rfl, rfl⟩) ?_
                      refine js_S rfl rfl (.inl rfl) (xv_assign rfl ⟨rfl, rfl⟩) ?_
                      refine j_end0 ?_
                      refine th_n ?_
                      refine xc_exit ?_
                      refine bk_other rfl ?_
                      refine th_x ?_
                      refine th_x ?_
                      refine bk_same ?_
                      exact jn_n (decide (xo < xp)) (fun h9 => lex_at htk hko hkp (of_decide_eq_true h9)) (le_put (le_put (le_put (le_emp _) rfl) rfl) rfl) (by (first|((repeat first|exact s_0|exact s_1|exact s_3|refine s_4 ?_|refine s_5 ?_|refine s_6 ?_|refine s_7 ?_);done)|((repeat first|exact s_0|exact s_1|exact s_3|refine s_4 ?_|refine s_5 ?_|refine s_6 ?_|refine s_8 ?_);done)))
                    · refine j_end0 ?_
                      refine th_n ?_
                      refine xc_false rfl ?_
                      refine xc_skip ?_
                      refine bk_n ?_
                      refine th_n ?_
                      refine xc_region ?_
                      have hee : xo = xp := by (first | omega | (dsimp only at *; omega) | (simp at *; omega))
                      have htk2 := take_ext htk hko (by rw [hee]; exact hkp)
                      refine xr_op rfl rfl (xv_move rfl ?_)
                      refine xr_op rfl rfl (xv_add rfl rfl (wrap_i64 (by (first | omega | (dsimp only at *; omega) | (simp at *; omega))) (by (first | omega | (dsimp only at *; omega) | (simp at *; omega)))) ?_)
                      refine xr_op rfl rfl (xv_assign rfl ?_)
                      refine xr_end rfl ?_
                      exact rnd (k + 1) ⟨by (first | omega | (dsimp only at *; omega) | (simp at *; omega)), htk2⟩ (by (first | omega | (dsimp only at *; omega) | (simp at *; omega))) (le_put (le_put (le_put (le_put (le_put (le_put (le_put (le_emp _) rfl) rfl) rfl) rfl) rfl) rfl) rfl) (by (first|((repeat first|exact s_0|exact s_1|exact s_3|refine s_4 ?_|refine s_5 ?_|refine s_6 ?_|refine s_7 ?_);done)|((repeat first|exact s_0|exact s_1|exact s_3|refine s_4 ?_|refine s_5 ?_|refine s_6 ?_|refine s_8 ?_);done)))
                  · refine xr_end rfl ?_
                    refine th_n ?_
                    refine xc_false rfl ?_
                    refine xc_exit ?_
                    refine th_x ?_
                    refine th_x ?_
                    refine bk_same ?_
                    exact jn_n false (fun h9 => by cases h9) (le_put (le_put (le_put (le_emp _) rfl) rfl) rfl) (by (first|((repeat first|exact s_0|exact s_1|exact s_3|refine s_4 ?_|refine s_5 ?_|refine s_6 ?_|refine s_7 ?_);done)|((repeat first|exact s_0|exact s_1|exact s_3|refine s_4 ?_|refine s_5 ?_|refine s_6 ?_|refine s_8 ?_);done)))
                · rintro p hp9
                  refine xc_seq (xc_region ?_)
                  cases p
                  · refine xr_op rfl rfl (xv_move rfl ?_)
                    refine xr_op rfl rfl (xv_move rfl ?_)
                    refine xr_op rfl rfl (xv_cmpK rfl rfl (cmpT (by simp only [cmpP]; (first | omega | (dsimp only at *; omega) | (simp at *; omega)))) ?_)
                    refine xr_op rfl rfl (xv_move rfl ?_)
                    refine xr_gd rfl rfl rfl (xv_move rfl ?_)
                    refine xr_gd rfl rfl rfl (xv_move rfl ?_)
                    refine xr_gd rfl rfl rfl (xv_gtr2 rfl rfl (fun q13 => ?_) (fun q13 => ?_))
                    · refine xr_gd rfl rfl rfl (xv_move rfl ?_)
                      refine xr_no rfl rfl rfl rfl ?_
                      refine xr_no rfl rfl rfl rfl ?_
                      refine xr_gd rfl rfl rfl (xv_pick rfl rfl ?_)
                      refine xr_op rfl rfl (xv_pick rfl rfl ?_)
                      refine xr_op rfl rfl (xv_move rfl ?_)
                      refine xr_gd rfl rfl rfl (xv_calls rfl hb9 (awake_c (up_ret ?_)))
                      refine xr_op rfl rfl (xv_pick rfl rfl ?_)
                      refine xr_op rfl rfl (xv_assign rfl ?_)
                      refine xr_end rfl ?_
                      refine th_n ?_
                      refine xc_ret ?_
                      refine body_ret (h' := h) rfl (ro_tmp rfl ro_nil) (by (first|((repeat first|exact s_0|exact s_1|exact s_3|refine s_4 ?_|refine s_5 ?_|refine s_6 ?_|refine s_7 ?_);done)|((repeat first|exact s_0|exact s_1|exact s_3|refine s_4 ?_|refine s_5 ?_|refine s_6 ?_|refine s_8 ?_);done))) ?_
                      first | exact H | (exfalso; exact hnb ⟨⟨(by first | omega | (dsimp only; omega)), (by first | omega | (dsimp only; omega))⟩, ⟨(by first | omega | (dsimp only; omega)), (by first | omega | (dsimp only; omega))⟩, (by first | omega | (dsimp only; omega)), (by first | omega | (dsimp only; omega))⟩) | (exfalso; (first | omega | (dsimp only at *; omega) | (simp at *; omega)))
                    · refine xr_gd rfl rfl rfl (xv_move rfl ?_)
                      refine xr_gd rfl rfl rfl (xv_move rfl ?_)
                      refine xr_gd rfl rfl rfl (xv_not rfl ?_)
                      refine xr_gd rfl rfl rfl (xv_pick rfl rfl ?_)
                      refine xr_op rfl rfl (xv_pick rfl rfl ?_)
                      refine xr_op rfl rfl (xv_move rfl ?_)
                      refine xr_gd rfl rfl rfl (xv_calls rfl hb9 (awake_c (up_ret ?_)))
                      refine xr_op rfl rfl (xv_pick rfl rfl ?_)
                      refine xr_op rfl rfl (xv_assign rfl ?_)
                      refine xr_end rfl ?_
                      refine th_n ?_
                      refine xc_ret ?_
                      refine body_ret (h' := h) rfl (ro_tmp rfl ro_nil) (by (first|((repeat first|exact s_0|exact s_1|exact s_3|refine s_4 ?_|refine s_5 ?_|refine s_6 ?_|refine s_7 ?_);done)|((repeat first|exact s_0|exact s_1|exact s_3|refine s_4 ?_|refine s_5 ?_|refine s_6 ?_|refine s_8 ?_);done))) ?_
                      first | exact H | (exfalso; exact hnb ⟨⟨(by first | omega | (dsimp only; omega)), (by first | omega | (dsimp only; omega))⟩, ⟨(by first | omega | (dsimp only; omega)), (by first | omega | (dsimp only; omega))⟩, (by first | omega | (dsimp only; omega)), (by first | omega | (dsimp only; omega))⟩) | (exfalso; (first | omega | (dsimp only at *; omega) | (simp at *; omega)))
                  · have hgt : c9 < costM l ot := by
                      rcases Int.lt_or_le c9 (costM l ot) with h9 | h9
                      · exact h9
                      · exfalso
                        rcases hc2 (by omega) with h8 | h8
                        · have h7 := hp9 rfl
                          rw [h8] at h7
                          exact lex_irr _ h7
                        · exact lex_asym h8 (hp9 rfl)
                    refine xr_op rfl rfl (xv_move rfl ?_)
                    refine xr_op rfl rfl (xv_move rfl ?_)
                    refine xr_op rfl rfl (xv_cmpK rfl rfl (cmpT (by simp only [cmpP]; (first | omega | (dsimp only at *; omega) | (simp at *; omega)))) ?_)
                    refine xr_op rfl rfl (xv_move rfl ?_)
                    refine xr_gd rfl rfl rfl (xv_move rfl ?_)
                    refine xr_gd rfl rfl rfl (xv_move rfl ?_)
                    refine xr_gd rfl rfl rfl (xv_cmpK rfl rfl (cmpT (by simp only [cmpP]; (first | omega | (dsimp only at *; omega) | (simp at *; omega)))) ?_)
                    refine xr_gd rfl rfl rfl (xv_move rfl ?_)
                    refine xr_no rfl rfl rfl rfl ?_
                    refine xr_no rfl rfl rfl rfl ?_
                    refine xr_gd rfl rfl rfl (xv_pick rfl rfl ?_)
                    refine xr_op rfl rfl (xv_pick rfl rfl ?_)
                    refine xr_op rfl rfl (xv_move rfl ?_)
                    refine xr_gd rfl rfl rfl (xv_calls rfl hb9 (awake_c (up_ret ?_)))
                    refine xr_op rfl rfl (xv_pick rfl rfl ?_)
                    refine xr_op rfl rfl (xv_assign rfl ?_)
                    refine xr_end rfl ?_
                    refine th_n ?_
                    refine xc_ret ?_
                    refine body_ret (h' := h) rfl (ro_tmp rfl ro_nil) (by (first|((repeat first|exact s_0|exact s_1|exact s_3|refine s_4 ?_|refine s_5 ?_|refine s_6 ?_|refine s_7 ?_);done)|((repeat first|exact s_0|exact s_1|exact s_3|refine s_4 ?_|refine s_5 ?_|refine s_6 ?_|refine s_8 ?_);done))) ?_
                    first | exact H | (exfalso; exact hnb ⟨⟨(by first | omega | (dsimp only; omega)), (by first | omega | (dsimp only; omega))⟩, ⟨(by first | omega | (dsimp only; omega)), (by first | omega | (dsimp only; omega))⟩, (by first | omega | (dsimp only; omega)), (by first | omega | (dsimp only; omega))⟩) | (exfalso; (first | omega | (dsimp only at *; omega) | (simp at *; omega)))

end Go.Proofs.Ytjbfdfmngampdaa
