/-
  Walks.
-/
import Derived.Test.YtjbfdfmngampdaaW11
namespace Go.Proofs.Ytjbfdfmngampdaa
open Go Go.H
set_option maxRecDepth 100000
set_option maxHeartbeats 8000000
set_option linter.all false
def MixOk (k : Nat) : Prop := ∀ {G : Hp} {l : List Supply} {a : Option Addr} {c : Nat} {q : Ask} {p : List Int} {ab : Option Addr} {cb : Nat} {zs : List Hd} {V : Vec} {R : Ending → Hp → Prop}, SupsOk l → l.length ≤ 4 → MixB q → SlV G 5 eSup a l → p.length + k = l.length → InM l p → SlV G 1 eI ab p → V.ok 1 zs.length (zs.flatMap eHd) → (∀ z ∈ zs, SlV G 1 eI z.a z.m) → zs.length + 21 ^ k ≤ 200000 →
  (∀ (V' : Vec) (zs' : List Hd) (G' : Hp), V'.ok 1 zs'.length (zs'.flatMap eHd) → zs'.map (·.m) = zs.map (·.m) ++ newR l q p → (∀ z ∈ zs', SlV (G' ++ G) 1 eI z.a z.m) → R (.returned (V'.val zs'.length)) (V'.hp 29 (zs'.flatMap eHd) ++ (G' ++ G))) →
  ACalls Try.prog 39 ⟨[.slice a l.length c, .slice ab p.length cb, I q.vol, I q.least, I q.most, V.val zs.length]⟩ (V.hp 29 (zs.flatMap eHd) ++ G) R

theorem mix_step {m : Nat} (ih : ∀ j, j < m → MixOk j) : MixOk m := by
  intro G l a c q p ab cb zs V R hsup hl4 hmb hl hlen hin hp hV hz hcnt H
  refine calls_of_xc (N := 54) Try.func39 rfl (by rfl) ?_
  obtain ⟨⟨v1, v2⟩, ⟨t1, t2⟩, l1, l2⟩ := id hmb
  have hpow : 0 < 21 ^ m := Nat.pow_pos (by decide)
  refine xc_seq (xc_region ?_)
  refine xr_op rfl rfl (xv_assign rfl ?_)
  refine xr_end rfl ?_
  refine th_n ?_
  refine xc_seq (xc_region ?_)
  refine xr_op rfl rfl (xv_move rfl ?_)
  refine xr_op rfl rfl (xv_len sl29 rfl ?_)
  refine xr_op rfl rfl (xv_assign rfl ?_)
  refine xr_end rfl ?_
  refine th_n ?_
  refine xc_seq ?_
  refine xc_seq (xc_region ?_)
  refine xr_op rfl rfl (xv_move rfl ?_)
  refine xr_op rfl rfl (xv_move rfl ?_)
  refine xr_op rfl rfl (xv_len sl22 rfl ?_)
  refine xr_op rfl rfl (xv_eql2 rfl rfl (fun q1 => ?_) (fun q1 => ?_))
  · refine xr_end rfl ?_
    refine th_n ?_
    refine xc_true rfl ?_
    refine xc_seq ?_
    refine xc_seq (xc_region ?_)
    refine xr_op rfl rfl (xv_move rfl ?_)
    refine xr_op rfl rfl (xv_move rfl ?_)
    refine xr_op rfl rfl (xv_move rfl ?_)
    refine xr_op rfl rfl (xv_move rfl ?_)
    refine xr_op rfl rfl (xv_move rfl ?_)
    refine xr_op rfl rfl (xv_calls rfl hb22 (Right_c (hl.sub (by intro z hz; ((repeat first|exact z_0|assumption|refine z_1 ?_|(refine z_l ?_;(repeat first|exact z_0|assumption|refine z_1 ?_);done)|refine z_r ?_);done))) (hp.sub (by intro z hz; ((repeat first|exact z_0|assumption|refine z_1 ?_|(refine z_l ?_;(repeat first|exact z_0|assumption|refine z_1 ?_);done)|refine z_r ?_);done))) hsup (by omega) (by (first | omega | (dsimp only at *; omega) | (simp at *; omega))) hin hmb (up_ret ?_)))
    refine xr_end rfl ?_
    refine th_n ?_
    refine xc_bool rfl (fun q2 => ?_) (fun q2 => ?_)
    · refine xc_region ?_
      refine xr_op rfl rfl (xv_move rfl ?_)
      refine xr_op rfl rfl (xv_move rfl ?_)
      refine xr_op rfl rfl ((al_buildSlice sl75 ty29 rfl rfl rfl rfl rfl (by ((try apply evl_some rfl);(repeat (first|exact (rfl : _ = [])|apply evl_cons rfl (by (first|exact v_1|exact v_2|exact v_3|exact v_4|exact v_5|exact v_6|exact v_7|exact v_8|exact v_9|exact rfl))|exact rfl))))).xv (fun b29 hb29 => ?_))
      refine xr_op rfl rfl (xv_append (V := V) (n := zs.length) (xs := zs.flatMap eHd) sl75 ty29 rfl rfl rfl hV (.there .here) (by ((repeat first|exact z_0|assumption|refine z_1 ?_|(refine z_l ?_;(repeat first|exact z_0|assumption|refine z_1 ?_);done)|refine z_r ?_);done)) (by ((try apply evl_some rfl);(repeat (first|exact (rfl : _ = [])|apply evl_cons rfl (by (first|exact v_1|exact v_2|exact v_3|exact v_4|exact v_5|exact v_6|exact v_7|exact v_8|exact v_9|exact rfl))|exact rfl)))) rfl rfl (by (first | omega | (dsimp only at *; omega) | (simp at *; omega))) (by simp only []; (first | omega | (dsimp only at *; omega) | (simp at *; omega))) (by (first | omega | (dsimp only at *; omega) | (simp at *; omega))) (fun V2 hV2 => ?_))
      refine xr_op rfl rfl (xv_assign rfl ?_)
      refine xr_end rfl ?_
      refine th_n ?_
      refine xc_seq (xc_region ?_)
      refine xr_op rfl rfl (xv_move rfl ?_)
      refine xr_op rfl rfl (xv_assign rfl ?_)
      refine xr_end rfl ?_
      refine th_n ?_
      refine xc_ret ?_
      refine th_r ?_
      refine body_ret (h' := (V2.hp 29 ((zs ++ [(⟨ab, cb, p⟩ : Hd)]).flatMap eHd) ++ ([] ++ G))) rfl (ro_tmp rfl ro_nil) (by (try simp only [List.flatMap_append, List.flatMap_cons, List.flatMap_nil, List.append_nil]); (first|((repeat first|exact s_0|exact s_1|exact s_3|refine s_4 ?_|refine s_5 ?_|refine s_6 ?_|refine s_7 ?_);done)|((repeat first|exact s_0|exact s_1|exact s_3|refine s_4 ?_|refine s_5 ?_|refine s_6 ?_|refine s_8 ?_);done))) ?_
      have h9 := H V2 (zs ++ [⟨ab, cb, p⟩]) [] (by rw [List.length_append]; simpa [eHd] using hV2) (by rw [newR_leaf (by (first | omega | (dsimp only at *; omega) | (simp at *; omega))), if_pos (of_decide_eq_true (by assumption))]; simp) (fun z hz9 => by
        rcases List.mem_append.1 hz9 with h8 | h8
        · exact hz z h8
        · rw [List.mem_singleton.1 h8]; exact hp)
      rw [List.length_append] at h9
      exact h9
    · refine xc_skip ?_
      refine th_n ?_
      refine xc_seq (xc_region ?_)
      refine xr_op rfl rfl (xv_move rfl ?_)
      refine xr_op rfl rfl (xv_assign rfl ?_)
      refine xr_end rfl ?_
      refine th_n ?_
      refine xc_ret ?_
      refine th_r ?_
      refine body_ret (h' := (V.hp 29 (zs.flatMap eHd) ++ ([] ++ G))) rfl (ro_tmp rfl ro_nil) (by (try simp only [List.flatMap_append, List.flatMap_cons, List.flatMap_nil, List.append_nil]); (first|((repeat first|exact s_0|exact s_1|exact s_3|refine s_4 ?_|refine s_5 ?_|refine s_6 ?_|refine s_7 ?_);done)|((repeat first|exact s_0|exact s_1|exact s_3|refine s_4 ?_|refine s_5 ?_|refine s_6 ?_|refine s_8 ?_);done))) ?_
      exact H V zs [] hV (by rw [newR_leaf (by (first | omega | (dsimp only at *; omega) | (simp at *; omega))), if_neg (of_decide_eq_false (by assumption))]; simp) hz
  · refine xr_end rfl ?_
    refine th_n ?_
    refine xc_false rfl ?_
    refine xc_skip ?_
    refine th_n ?_
    refine xc_seq ?_
    refine xc_seq (xc_region ?_)
    have hpl : p.length < l.length := by (first | omega | (dsimp only at *; omega) | (simp at *; omega))
    have hlto : p.length < l.length := by (first | omega | (dsimp only at *; omega) | (simp at *; omega))
    obtain ⟨bo, oo, lo, to, fzo, hao, hmo, hxo⟩ := (hl).at hlto
    obtain ⟨xo, hko⟩ : ∃ qq_, l[p.length]? = some qq_ := ⟨_, List.getElem?_eq_getElem hlto⟩
    have hx : l[p.length]? = some xo := hko
    obtain ⟨⟨q1, q2, q3⟩, ⟨q4, q5⟩, ⟨q6, q7⟩, q8, q9⟩ := hsup xo (List.mem_of_getElem? hx)
    have hm1 : m = (l.length - p.length - 1) + 1 := by omega
    refine xr_op rfl rfl (xv_assign rfl ?_)
    refine xr_end rfl ?_
    refine th_n ?_
    refine xc_block ?_
    refine xc_loop (σ := Nat × List Hd × Vec × Hp) (fun z => (z.1 : Int) ≤ xo.most + 1 ∧ z.2.2.1.ok 1 z.2.1.length (z.2.1.flatMap eHd) ∧ z.2.1.map (·.m) = zs.map (·.m) ++ newK l q p z.1 ∧ ∀ y ∈ z.2.1, SlV (z.2.2.2 ++ G) 1 eI y.a y.m) (fun z => ((((((((emp.put (some 0) (.slice a l.length c)).put (some 1) (.slice ab p.length cb)).put (some 2) (I q.vol)).put (some 3) (I q.least)).put (some 4) (I q.most)).put (some 5) (z.2.2.1.val z.2.1.length)).put (some 13) (I p.length)).put (some 14) (I z.1))) (fun z => (z.2.2.1.hp 29 (z.2.1.flatMap eHd) ++ (z.2.2.2 ++ G))) (fun z => (xo.most + 1).toNat - z.1) ((0, zs, V, []) : Nat × List Hd × Vec × Hp) ⟨by dsimp only; omega, hV, by simp [newK], hz⟩ (le_put (le_put (le_put (le_put (le_put (le_put (le_put (le_put (le_emp _) rfl) rfl) rfl) rfl) rfl) rfl) rfl) rfl) (by (first|((repeat first|exact s_0|exact s_1|exact s_3|refine s_4 ?_|refine s_5 ?_|refine s_6 ?_|refine s_7 ?_);done)|((repeat first|exact s_0|exact s_1|exact s_3|refine s_4 ?_|refine s_5 ?_|refine s_6 ?_|refine s_8 ?_);done))) ?_
    rintro ⟨k, zsk, Vk, Gk⟩ ⟨hk, hVk, hmk, hzk⟩
    dsimp only at hk hVk hmk hzk
    refine xc_seq ?_
    refine xc_seq (xc_region ?_)
    refine xr_op rfl rfl (xv_move rfl ?_)
    refine xr_op rfl rfl (xv_move rfl ?_)
    refine xr_op rfl rfl (xv_move rfl ?_)
    refine xr_op rfl rfl (xv_ia (sz := 5) (j := p.length) sl22 ty28 rfl (by rw [hao]; rfl) rfl (by (first | assumption | with_reducible exact Int.toNat_natCast _ | with_reducible rfl | rfl)) (by (first | omega | (dsimp only at *; omega) | (simp at *; omega))) (by (first | omega | (dsimp only at *; omega) | (simp at *; omega))) ?_)
    refine xr_op rfl rfl (xv_faddr fl28_2 rfl ?_)
    refine xr_op rfl rfl (xv_load1 ty3 rfl rfl (by ((repeat first|exact z_0|assumption|refine z_1 ?_|(refine z_l ?_;(repeat first|exact z_0|assumption|refine z_1 ?_);done)|refine z_r ?_);done)) (take_get (hxo (p.length) xo hko) (j := 3) rfl) ?_)
    refine xr_op rfl rfl (xv_leq2 rfl rfl (fun q3 => ?_) (fun q3 => ?_))
    · refine xr_end rfl ?_
      refine th_n ?_
      refine xc_true rfl ?_
      refine xc_skip ?_
      refine th_n ?_
      refine xc_seq ?_
      refine xc_block ?_
      refine xc_region ?_
      refine xr_op rfl rfl (xv_move rfl ?_)
      refine xr_op rfl rfl ((al_buildSlice sl29 ty3 rfl rfl rfl rfl rfl (by ((try apply evl_some rfl);(repeat (first|exact (rfl : _ = [])|apply evl_cons rfl (by (first|exact v_1|exact v_2|exact v_3|exact v_4|exact v_5|exact v_6|exact v_7|exact v_8|exact v_9|exact rfl))|exact rfl))))).xv (fun b42 hb42 => ?_))
      refine xr_op rfl rfl (xv_move rfl ?_)
      refine xr_op rfl rfl (xv_appendL (V := .at b42 0 []) (n := 0) (xs := []) (ys := p) sl29 ty3 rfl rfl rfl rfl ⟨rfl, Nat.le_refl _, rfl⟩ .here (hp.sub (by intro z hz; ((repeat first|exact z_0|assumption|refine z_1 ?_|(refine z_l ?_;(repeat first|exact z_0|assumption|refine z_1 ?_);done)|refine z_r ?_);done))) eI_len eI_1 (by simp only []; omega) (by omega) (fun V1 hV1 => ?_))
      refine xr_op rfl rfl (xv_move rfl ?_)
      refine xr_op rfl rfl ((al_buildSlice sl29 ty3 rfl rfl rfl rfl rfl (by ((try apply evl_some rfl);(repeat (first|exact (rfl : _ = [])|apply evl_cons rfl (by (first|exact v_1|exact v_2|exact v_3|exact v_4|exact v_5|exact v_6|exact v_7|exact v_8|exact v_9|exact rfl))|exact rfl))))).xv (fun b46 hb46 => ?_))
      refine xr_op rfl rfl (xv_append (V := V1) (n := 0 + p.length) (xs := [] ++ p.flatMap eI) sl29 ty3 rfl rfl rfl hV1 (.there .here) (by ((repeat first|exact z_0|assumption|refine z_1 ?_|(refine z_l ?_;(repeat first|exact z_0|assumption|refine z_1 ?_);done)|refine z_r ?_);done)) (by ((try apply evl_some rfl);(repeat (first|exact (rfl : _ = [])|apply evl_cons rfl (by (first|exact v_1|exact v_2|exact v_3|exact v_4|exact v_5|exact v_6|exact v_7|exact v_8|exact v_9|exact rfl))|exact rfl)))) rfl rfl (by omega) (by simp only []; omega) (by omega) (fun V2 hV2 => ?_))
      obtain ⟨ak, ck, hvk, hpk⟩ := Vec.slv (enc := eI) (t := 3) (V := V2) (xs := p ++ [(k : Int)]) (h := V2.hp 3 ((p ++ [(k : Int)]).flatMap eI)) eI_len (by simpa [eI] using hV2) (fun _ hz => hz)
      rw [show V2.val (0 + p.length + 1) = .slice ak (p ++ [(k : Int)]).length ck from (by rw [← hvk, List.length_append, Nat.zero_add]; rfl)]
      rw [show [] ++ p.flatMap eI ++ [I k] = (p ++ [(k : Int)]).flatMap eI from (by simp [eI])]
      refine XR.perm perm_mid ?_
      have hnk := newK_len (q := q) (p := p) hsup k
      have hzl : zsk.length = zs.length + (newK l q p k).length := by have h9 := congrArg List.length hmk; simpa using h9
      have hkm : (k : Int) ≤ 20 := by (first | omega | (dsimp only at *; omega) | (simp at *; omega))
      have hcn : k * 21 ^ (l.length - p.length - 1) + 21 ^ (l.length - p.length - 1) ≤ 21 ^ m := by
        rw [hm1, Nat.pow_succ, Nat.mul_comm (21 ^ _) 21]
        have h9 := Nat.mul_le_mul_right (21 ^ (l.length - p.length - 1)) (show k + 1 ≤ 21 by omega)
        rw [Nat.add_mul, Nat.one_mul] at h9
        simpa using h9
      obtain ⟨pw, hpw⟩ : ∃ x : Nat, x = 21 ^ (l.length - p.length - 1) := ⟨_, rfl⟩
      rw [← hpw] at hnk hcn
      generalize k * pw = kp at hnk hcn
      have hbd9 : zsk.length + 21 ^ (l.length - p.length - 1) ≤ 200000 := by rw [← hpw]; omega
      refine xr_op rfl rfl (xv_move rfl ?_)
      refine xr_op rfl rfl (xv_move rfl ?_)
      refine xr_op rfl rfl (xv_move rfl ?_)
      refine xr_op rfl rfl (xv_move rfl ?_)
      refine xr_op rfl rfl (xv_calls rfl hb39 (ih (l.length - p.length - 1) (by omega) hsup hl4 hmb (p := p ++ [(k : Int)]) (zs := zsk) (V := Vk) (hl.sub (by intro z hz; ((repeat first|exact z_0|assumption|refine z_1 ?_|(refine z_l ?_;(repeat first|exact z_0|assumption|refine z_1 ?_);done)|refine z_r ?_);done))) (by rw [List.length_append, List.length_singleton]; omega) (hin.snoc hx (by omega) (by (first | omega | (dsimp only at *; omega) | (simp at *; omega)))) (hpk.sub (by intro z hz; ((repeat first|exact z_0|assumption|refine z_1 ?_|(refine z_l ?_;(repeat first|exact z_0|assumption|refine z_1 ?_);done)|refine z_r ?_);done))) hVk (fun z9 hz9 => (hzk z9 hz9).sub (fun y9 hy9 => by rcases List.mem_append.1 hy9 with hy9 | hy9 <;> ((repeat first|exact z_0|assumption|refine z_1 ?_|(refine z_l ?_;(repeat first|exact z_0|assumption|refine z_1 ?_);done)|refine z_r ?_);done))) hbd9 (fun V3 zs3 G3 hV3 hz3 hs3 => up_ret ?_)))
      refine xr_op rfl rfl (xv_assign rfl ?_)
      refine xr_end rfl ?_
      refine bk_n ?_
      refine th_n ?_
      refine xc_region ?_
      refine xr_op rfl rfl (xv_move rfl ?_)
      refine xr_op rfl rfl (xv_add rfl rfl (wrap_i64 (by (first | omega | (dsimp only at *; omega) | (simp at *; omega))) (by (first | omega | (dsimp only at *; omega) | (simp at *; omega)))) ?_)
      refine xr_op rfl rfl (xv_assign rfl ?_)
      refine xr_end rfl ?_
      exact rnd ((k + 1, zs3, V3, G3 ++ (V2.hp 3 ((p ++ [(k : Int)]).flatMap eI) ++ (b46, .cells ⟨[I k]⟩ 3) :: Gk)) : Nat × List Hd × Vec × Hp) ⟨by (first | omega | (dsimp only at *; omega) | (simp at *; omega)), hV3, by dsimp only; rw [newK_succ, ← List.append_assoc, ← hmk]; exact hz3, fun y hy => by dsimp only at hy ⊢; rw [List.append_assoc, List.append_assoc]; exact hs3 y hy⟩ (by (first | omega | (dsimp only at *; omega) | (simp at *; omega))) (le_put (le_put (le_put (le_put (le_put (le_put (le_put (le_put (le_emp _) rfl) rfl) rfl) rfl) rfl) rfl) rfl) rfl) (by dsimp only; rw [List.append_assoc, List.append_assoc]; (first|((repeat first|exact s_0|exact s_1|exact s_3|refine s_4 ?_|refine s_5 ?_|refine s_6 ?_|refine s_7 ?_);done)|((repeat first|exact s_0|exact s_1|exact s_3|refine s_4 ?_|refine s_5 ?_|refine s_6 ?_|refine s_8 ?_);done)))
    · refine xr_end rfl ?_
      refine th_n ?_
      refine xc_false rfl ?_
      refine xc_exit ?_
      refine th_x ?_
      refine th_x ?_
      refine bk_same ?_
      refine th_n ?_
      refine xc_seq (xc_region ?_)
      refine xr_op rfl rfl (xv_move rfl ?_)
      refine xr_op rfl rfl (xv_assign rfl ?_)
      refine xr_end rfl ?_
      refine th_n ?_
      refine xc_ret ?_
      refine body_ret (h' := (Vk.hp 29 (zsk.flatMap eHd) ++ (Gk ++ G))) rfl (ro_tmp rfl ro_nil) (by (try simp only [List.flatMap_append, List.flatMap_cons, List.flatMap_nil, List.append_nil]); (first|((repeat first|exact s_0|exact s_1|exact s_3|refine s_4 ?_|refine s_5 ?_|refine s_6 ?_|refine s_7 ?_);done)|((repeat first|exact s_0|exact s_1|exact s_3|refine s_4 ?_|refine s_5 ?_|refine s_6 ?_|refine s_8 ?_);done))) ?_
      exact H Vk zsk Gk hVk (by rw [hmk, newR_steps hx, show (xo.most + 1).toNat = k by (first | omega | (dsimp only at *; omega) | (simp at *; omega))]) hzk

theorem mix_all (m : Nat) : MixOk m := by
  induction m using Nat.strongRecOn with
  | ind m ih => exact mix_step ih

end Go.Proofs.Ytjbfdfmngampdaa
