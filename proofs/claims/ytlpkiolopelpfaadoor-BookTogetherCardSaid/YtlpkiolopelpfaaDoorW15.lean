/-
  Walks.
-/
import Derived.Test.YtlpkiolopelpfaaDoorW7
import Derived.Test.YtlpkiolopelpfaaDoorP8
import Derived.Test.YtlpkiolopelpfaaDoorD
import Derived.Test.YtlpkiolopelpfaaDoorHV
namespace Go.Proofs.YtlpkiolopelpfaaDoor
open Go Go.H
set_option maxRecDepth 100000
set_option maxHeartbeats 8000000
set_option linter.all false
theorem numbers_c {b : Nat} {V : Vec} {p : Pen} {l : List Int} {a : Option Addr} {c : Nat} {H0 : Hp} {h : Hp} {R : Ending → Hp → Prop} (hs : SlV h 1 eI a l) (hn : ∀ n ∈ l, 0 ≤ n ∧ n ≤ 2000000) (hl : p.bs.length + 21 * l.length ≤ 100000) (hp : PenV V p) (hpm : List.Perm ((b, .cells ⟨penL V p⟩ 52) :: (V.hp 5 (Pen.bs p |>.flatMap eB) ++ h)) H0)
    (H : ∀ V2 : Vec, PenV V2 (p.nums (l.map Int.toNat)) → R (.returned (.tuple #[])) ((b, .cells ⟨penL V2 (p.nums (l.map Int.toNat))⟩ 52) :: (V2.hp 5 (Pen.bs (p.nums (l.map Int.toNat)) |>.flatMap eB) ++ h))) : ACalls Tryd.prog 20 ⟨[.pointer (some ⟨b, 0, none⟩), .slice a l.length c]⟩ H0 R := by
  refine ACalls.perm hpm ?_
  refine calls_of_xc (N := 16) Tryd.func20 rfl (by rfl) ?_
  refine xc_seq (xc_region ?_)
  refine xr_op rfl rfl (xv_move rfl ?_)
  refine xr_op rfl rfl (xv_len sl60 rfl ?_)
  refine xr_op rfl rfl (xv_move rfl ?_)
  refine xr_end rfl ?_
  refine th_n ?_
  refine xc_block ?_
  refine xc_loop (σ := Nat × Vec) (fun z => z.1 ≤ l.length ∧ PenV z.2 (p.nums ((l.take z.1).map Int.toNat))) (fun z => ((((emp.put (some 0) (.pointer (some ⟨b, 0, none⟩))).put (some 6) (.slice a l.length c)).put (some 7) (I l.length)).put (some 8) (I z.1))) (fun z => ((b, .cells ⟨penL z.2 (p.nums ((l.take z.1).map Int.toNat))⟩ 52) :: (z.2.hp 5 (Pen.bs (p.nums ((l.take z.1).map Int.toNat)) |>.flatMap eB) ++ h))) (fun z => l.length - z.1) ((0, V) : Nat × Vec) ⟨Nat.zero_le _, hp⟩ (le_put (le_put (le_put (le_put (le_emp _) rfl) rfl) rfl) rfl) (by (first|((repeat first|exact s_0|exact s_1|exact s_3|refine s_4 ?_|refine s_5 ?_|refine s_6 ?_|refine s_7 ?_);done)|((repeat first|exact s_0|exact s_1|exact s_3|refine s_4 ?_|refine s_5 ?_|refine s_6 ?_|refine s_8 ?_);done))) ?_
  rintro ⟨k, V1⟩ ⟨hk, hp9⟩
  dsimp only at hk hp9
  refine xc_seq (xc_region ?_)
  refine xr_op rfl rfl (xv_lss2 rfl rfl (fun q1 => ?_) (fun q1 => ?_))
  · refine xr_end rfl ?_
    refine th_n ?_
    refine xc_seq ?_
    refine xc_true rfl ?_
    refine xc_skip ?_
    refine th_n ?_
    refine xc_seq ?_
    refine xc_block ?_
    refine xc_seq (xc_region ?_)
    have hlto : k < l.length := by (first|omega|(dsimp only at *;omega)|(simp at *;omega))
    obtain ⟨bo, oo, lo, to, fzo, hao, hmo, hxo⟩ := (hs).at hlto
    obtain ⟨xo, hko⟩ : ∃ qq_, l[k]? = some qq_ := ⟨_, List.getElem?_eq_getElem hlto⟩
    have hbo := hn xo (List.mem_of_getElem? hko)
    obtain ⟨xn, hxn⟩ : ∃ m : Nat, xo = m := ⟨xo.toNat, by omega⟩
    have hxe : ((xo.toNat : Nat) : Int) = xo := by omega
    refine xr_op rfl rfl (xv_ia (sz := 1) (j := k) sl60 ty3 rfl (by rw [hao]; rfl) rfl (by (first | assumption | with_reducible exact Int.toNat_natCast _ | with_reducible rfl | rfl)) (by (first|omega|(dsimp only at *;omega)|(simp at *;omega))) (by (first|omega|(dsimp only at *;omega)|(simp at *;omega))) ?_)
    refine xr_op rfl rfl (xv_load1 ty3 rfl rfl (by ((repeat first|exact z_0|assumption|refine z_1 ?_|(refine z_l ?_;(repeat first|exact z_0|assumption|refine z_1 ?_);done)|refine z_r ?_);done)) (show _ = some (I ((xo.toNat : Nat) : Int)) by rw [hxe]; exact take_get (hxo (k) xo hko) (j := 0) rfl) ?_)
    refine xr_op rfl rfl (xv_assign rfl ?_)
    refine xr_end rfl ?_
    refine th_n ?_
    refine xc_region ?_
    refine xr_op rfl rfl (xv_move rfl ?_)
    refine xr_op rfl rfl (xv_move rfl ?_)
    refine xr_op rfl rfl (xv_calls rfl hb51 (number_c xo.toNat (p := p.nums ((l.take k).map Int.toNat)) (more := 0) hp9 (.inl rfl) (by have h8 := Pen.nums_len p ((l.take k).map Int.toNat) (fun n9 hn9 => by obtain ⟨m9, hm9, rfl⟩ := List.mem_map.1 hn9; have := hn m9 (List.mem_of_mem_take hm9); omega); have h7 := octs_len21 (n := xo.toNat) (more := 0) (by omega); rw [List.length_map, List.length_take] at h8; omega) (by omega) (fun V9 hp8 => up_ret ?_)))
    refine xr_end rfl ?_
    refine bk_n ?_
    refine th_n ?_
    refine xc_region ?_
    refine xr_op rfl rfl (xv_add rfl rfl (wrap_i64 (by (first|omega|(dsimp only at *;omega)|(simp at *;omega))) (by (first|omega|(dsimp only at *;omega)|(simp at *;omega)))) ?_)
    refine xr_op rfl rfl (xv_move rfl ?_)
    refine xr_end rfl ?_
    have etk : p.nums ((l.take (k + 1)).map Int.toNat) = (p.nums ((l.take k).map Int.toNat)).halves (octs xo.toNat 0) := by rw [List.take_add_one, hko, List.map_append]; exact Pen.nums_snoc _ _ _
    exact rnd ((k + 1, V9) : Nat × Vec) ⟨by (first|omega|(dsimp only at *;omega)|(simp at *;omega)), by dsimp only; rw [etk]; exact hp8⟩ (by (first|omega|(dsimp only at *;omega)|(simp at *;omega))) (le_put (le_put (le_put (le_put (le_emp _) rfl) rfl) rfl) rfl) (by dsimp only; rw [etk]; (first|((repeat first|exact s_0|exact s_1|exact s_3|refine s_4 ?_|refine s_5 ?_|refine s_6 ?_|refine s_7 ?_);done)|((repeat first|exact s_0|exact s_1|exact s_3|refine s_4 ?_|refine s_5 ?_|refine s_6 ?_|refine s_8 ?_);done)))
  · refine xr_end rfl ?_
    refine th_n ?_
    refine xc_seq ?_
    refine xc_false rfl ?_
    refine xc_exit ?_
    refine th_x ?_
    refine th_x ?_
    refine bk_same ?_
    refine body_end (h' := _) rfl ro_nil (by (first|((repeat first|exact s_0|exact s_1|exact s_3|refine s_4 ?_|refine s_5 ?_|refine s_6 ?_|refine s_7 ?_);done)|((repeat first|exact s_0|exact s_1|exact s_3|refine s_4 ?_|refine s_5 ?_|refine s_6 ?_|refine s_8 ?_);done))) ?_
    (obtain rfl : k = l.length := by (first|omega|(dsimp only at *;omega)|(simp at *;omega))); rw [List.take_length] at *; exact H V1 hp9

theorem signed_c {d : Int} {h : Hp} {R : Ending → Hp → Prop} (hd : -100000000 ≤ d ∧ d ≤ 100000000) (H : R (.returned (I (sgn d))) h) : ACalls Tryd.prog 21 ⟨[I d]⟩ h R := by
  refine calls_of_xc (N := 10) Tryd.func21 rfl (by rfl) ?_
  refine xc_seq (xc_region ?_)
  refine xr_op rfl rfl (xv_assign rfl ?_)
  refine xr_end rfl ?_
  refine th_n ?_
  refine xc_seq ?_
  refine xc_seq (xc_region ?_)
  refine xr_op rfl rfl (xv_move rfl ?_)
  refine xr_op rfl rfl (xv_lss2 rfl rfl (fun q1 => ?_) (fun q1 => ?_))
  · refine xr_end rfl ?_
    refine th_n ?_
    refine xc_true rfl ?_
    refine xc_seq (xc_region ?_)
    refine xr_op rfl rfl (xv_move rfl ?_)
    refine xr_op rfl rfl (xv_mul rfl rfl (wrap_i64 (by (first|omega|(dsimp only at *;omega)|(simp at *;omega))) (by (first|omega|(dsimp only at *;omega)|(simp at *;omega)))) ?_)
    refine xr_op rfl rfl (xv_sub rfl rfl (wrap_i64 (by (first|omega|(dsimp only at *;omega)|(simp at *;omega))) (by (first|omega|(dsimp only at *;omega)|(simp at *;omega)))) ?_)
    refine xr_op rfl rfl (xv_assign rfl ?_)
    refine xr_end rfl ?_
    refine th_n ?_
    refine xc_ret ?_
    refine th_r ?_
    refine body_ret (h' := h) rfl (ro_tmp rfl ro_nil) (by (first|((repeat first|exact s_0|exact s_1|exact s_3|refine s_4 ?_|refine s_5 ?_|refine s_6 ?_|refine s_7 ?_);done)|((repeat first|exact s_0|exact s_1|exact s_3|refine s_4 ?_|refine s_5 ?_|refine s_6 ?_|refine s_8 ?_);done))) ?_
    first | (rw [show sgn d = -2 * d - 1 by unfold sgn; rw [if_pos (by omega)]] at H; exact H) | (rw [show sgn d = 2 * d by unfold sgn; rw [if_neg (by omega)]] at H; exact H)
  · refine xr_end rfl ?_
    refine th_n ?_
    refine xc_false rfl ?_
    refine xc_skip ?_
    refine th_n ?_
    refine xc_seq (xc_region ?_)
    refine xr_op rfl rfl (xv_move rfl ?_)
    refine xr_op rfl rfl (xv_mul rfl rfl (wrap_i64 (by (first|omega|(dsimp only at *;omega)|(simp at *;omega))) (by (first|omega|(dsimp only at *;omega)|(simp at *;omega)))) ?_)
    refine xr_op rfl rfl (xv_assign rfl ?_)
    refine xr_end rfl ?_
    refine th_n ?_
    refine xc_ret ?_
    refine body_ret (h' := h) rfl (ro_tmp rfl ro_nil) (by (first|((repeat first|exact s_0|exact s_1|exact s_3|refine s_4 ?_|refine s_5 ?_|refine s_6 ?_|refine s_7 ?_);done)|((repeat first|exact s_0|exact s_1|exact s_3|refine s_4 ?_|refine s_5 ?_|refine s_6 ?_|refine s_8 ?_);done))) ?_
    first | (rw [show sgn d = -2 * d - 1 by unfold sgn; rw [if_pos (by omega)]] at H; exact H) | (rw [show sgn d = 2 * d by unfold sgn; rw [if_neg (by omega)]] at H; exact H)

theorem check_c {xs : List Sight} {a : Option Addr} {c : Nat} {h : Hp} {R : Ending → Hp → Prop} (hs : SlV h 2 eSight a xs) (hok : ∀ x ∈ xs, sightOk x) (hl : xs.length ≤ 60) (H : R (.returned (I (chk xs xs.length % 61))) h) : ACalls Tryd.prog 22 ⟨[.slice a xs.length c]⟩ h R := by
  refine calls_of_xc (N := 25) Tryd.func22 rfl (by rfl) ?_
  refine xc_seq (xc_region ?_)
  refine xr_op rfl rfl (xv_assign rfl ?_)
  refine xr_end rfl ?_
  refine th_n ?_
  refine xc_seq ?_
  refine xc_seq (xc_region ?_)
  refine xr_op rfl rfl (xv_move rfl ?_)
  refine xr_op rfl rfl (xv_len sl22 rfl ?_)
  refine xr_op rfl rfl (xv_move rfl ?_)
  refine xr_end rfl ?_
  refine th_n ?_
  refine xc_block ?_
  refine xc_loop (σ := Nat) (fun k => k ≤ xs.length) (fun k => ((((emp.put (some 2) (I (chk xs k))).put (some 5) (.slice a xs.length c)).put (some 6) (I xs.length)).put (some 7) (I k))) (fun k => h) (fun k => xs.length - k) 0 (Nat.zero_le _) (le_put (le_put (le_put (le_put (le_emp _) rfl) rfl) rfl) rfl) (by (first|((repeat first|exact s_0|exact s_1|exact s_3|refine s_4 ?_|refine s_5 ?_|refine s_6 ?_|refine s_7 ?_);done)|((repeat first|exact s_0|exact s_1|exact s_3|refine s_4 ?_|refine s_5 ?_|refine s_6 ?_|refine s_8 ?_);done))) ?_
  rintro k hk
  refine xc_seq (xc_region ?_)
  refine xr_op rfl rfl (xv_lss2 rfl rfl (fun q1 => ?_) (fun q1 => ?_))
  · refine xr_end rfl ?_
    refine th_n ?_
    refine xc_seq ?_
    refine xc_true rfl ?_
    refine xc_skip ?_
    refine th_n ?_
    refine xc_seq ?_
    refine xc_block ?_
    refine xc_seq (xc_region ?_)
    have hlto : k < xs.length := by (first|omega|(dsimp only at *;omega)|(simp at *;omega))
    obtain ⟨bo, oo, lo, to, fzo, hao, hmo, hxo⟩ := (hs).at hlto
    obtain ⟨xo, hko⟩ : ∃ qq_, xs[k]? = some qq_ := ⟨_, List.getElem?_eq_getElem hlto⟩
    obtain ⟨⟨oa1, oa2⟩, ob1, ob2⟩ := hok xo (List.mem_of_getElem? hko)
    have hcb := chk_bd hok hl k hk
    have hm1 : 0 ≤ xo.height * ((k : Int) + 1) := Int.mul_nonneg ob1 (by omega)
    have hm2 : xo.height * ((k : Int) + 1) ≤ 100000 * 60 := Int.mul_le_mul ob2 (by omega) (by omega) (by omega)
    refine xr_op rfl rfl (xv_move rfl ?_)
    refine xr_op rfl rfl (xv_ia (sz := 2) (j := k) sl22 ty44 rfl (by rw [hao]; rfl) rfl (by (first | assumption | with_reducible exact Int.toNat_natCast _ | with_reducible rfl | rfl)) (by (first|omega|(dsimp only at *;omega)|(simp at *;omega))) (by (first|omega|(dsimp only at *;omega)|(simp at *;omega))) ?_)
    refine xr_op rfl rfl (xv_loadA ty44 rfl rfl (by ((repeat first|exact z_0|assumption|refine z_1 ?_|(refine z_l ?_;(repeat first|exact z_0|assumption|refine z_1 ?_);done)|refine z_r ?_);done)) (hxo (k) xo hko) rfl ?_)
    refine xr_op rfl rfl (xv_alloc ty44 (fun b2 hb2 => ?_))
    refine xr_op rfl rfl (xv_assign rfl ?_)
    refine xr_op rfl rfl (xv_s ty44 rfl rfl (by (first|(apply u_3;(repeat first|exact u_0|assumption|apply u_1|apply u_2);done)|((repeat first|exact u_0|assumption|apply u_1|apply u_2);done)|(apply u_3;apply u_3;(repeat first|exact u_0|assumption|apply u_1|apply u_2);done)|((repeat first|exact u_0|assumption|apply u_3|apply u_1);done))) (by ((try apply evl_some rfl);(repeat (first|exact (rfl : _ = [])|apply evl_cons rfl (by (first|exact v_1|exact v_2|exact v_3|exact v_4|exact v_5|exact v_6|exact v_7|exact v_8|exact v_9|exact rfl))|exact rfl)))) (by rfl) (by rfl) (by rfl) (by ((try apply evl_some rfl);(repeat (first|exact (rfl : _ = [])|apply evl_cons rfl (by (first|exact v_1|exact v_2|exact v_3|exact v_4|exact v_5|exact v_6|exact v_7|exact v_8|exact v_9|exact rfl))|exact rfl)))) ?_)
    refine xr_end rfl ?_
    refine th_n ?_
    refine xc_region ?_
    refine xr_op rfl rfl (xv_move rfl ?_)
    refine xr_op rfl rfl (xv_faddr fl44_0 rfl ?_)
    refine xr_op rfl rfl (xv_load1 ty3 rfl rfl (by ((repeat first|exact z_0|assumption|refine z_1 ?_|(refine z_l ?_;(repeat first|exact z_0|assumption|refine z_1 ?_);done)|refine z_r ?_);done)) (by rfl) ?_)
    refine xr_op rfl rfl (xv_faddr fl44_1 rfl ?_)
    refine xr_op rfl rfl (xv_load1 ty3 rfl rfl (by ((repeat first|exact z_0|assumption|refine z_1 ?_|(refine z_l ?_;(repeat first|exact z_0|assumption|refine z_1 ?_);done)|refine z_r ?_);done)) (by rfl) ?_)
    refine xr_op rfl rfl (xv_move rfl ?_)
    refine xr_op rfl rfl (xv_add rfl rfl (wrap_i64 (by (first|omega|(dsimp only at *;omega)|(simp at *;omega))) (by (first|omega|(dsimp only at *;omega)|(simp at *;omega)))) ?_)
    refine xr_op rfl rfl (xv_mul (c := xo.height * ((k : Int) + 1)) rfl rfl (wrap_i64 (by omega) (by omega)) ?_)
    refine xr_op rfl rfl (xv_add rfl rfl (wrap_i64 (by (first|omega|(dsimp only at *;omega)|(simp at *;omega))) (by (first|omega|(dsimp only at *;omega)|(simp at *;omega)))) ?_)
    refine xr_op rfl rfl (xv_add rfl rfl (wrap_i64 (by (first|omega|(dsimp only at *;omega)|(simp at *;omega))) (by (first|omega|(dsimp only at *;omega)|(simp at *;omega)))) ?_)
    refine xr_op rfl rfl (xv_assign rfl ?_)
    refine xr_end rfl ?_
    refine bk_n ?_
    refine th_n ?_
    refine xc_region ?_
    refine xr_op rfl rfl (xv_add rfl rfl (wrap_i64 (by (first|omega|(dsimp only at *;omega)|(simp at *;omega))) (by (first|omega|(dsimp only at *;omega)|(simp at *;omega)))) ?_)
    refine xr_op rfl rfl (xv_move rfl ?_)
    refine xr_end rfl ?_
    exact rnd (k + 1) (by (first|omega|(dsimp only at *;omega)|(simp at *;omega))) (by (first|omega|(dsimp only at *;omega)|(simp at *;omega))) (le_put (le_put (le_put (le_put (le_emp _) (by show _ = some (I _); rw [chk_succ hko]; rfl)) rfl) rfl) rfl) (by (first|((repeat first|exact s_0|exact s_1|exact s_3|refine s_4 ?_|refine s_5 ?_|refine s_6 ?_|refine s_7 ?_);done)|((repeat first|exact s_0|exact s_1|exact s_3|refine s_4 ?_|refine s_5 ?_|refine s_6 ?_|refine s_8 ?_);done)))
  · refine xr_end rfl ?_
    refine th_n ?_
    refine xc_seq ?_
    refine xc_false rfl ?_
    refine xc_exit ?_
    refine th_x ?_
    refine th_x ?_
    refine bk_same ?_
    refine th_n ?_
    refine xc_seq (xc_region ?_)
    obtain rfl : xs.length = k := by (first|omega|(dsimp only at *;omega)|(simp at *;omega))
    have hcb := chk_bd hok hl xs.length (Nat.le_refl _)
    refine xr_op rfl rfl (xv_move rfl ?_)
    refine xr_op rfl rfl (xv_rem (c := chk xs xs.length % 61) rfl rfl (by decide) (Int.tmod_eq_emod_of_nonneg (by omega)) ?_)
    refine xr_op rfl rfl (xv_assign rfl ?_)
    refine xr_end rfl ?_
    refine th_n ?_
    refine xc_ret ?_
    refine body_ret (h' := h) rfl (ro_tmp rfl ro_nil) (by (first|((repeat first|exact s_0|exact s_1|exact s_3|refine s_4 ?_|refine s_5 ?_|refine s_6 ?_|refine s_7 ?_);done)|((repeat first|exact s_0|exact s_1|exact s_3|refine s_4 ?_|refine s_5 ?_|refine s_6 ?_|refine s_8 ?_);done))) ?_
    exact H

theorem bytes_c {b n c : Nat} {a : Option Addr} {rest : List Value} {h : Hp} {R : Ending → Hp → Prop} (hm : (b, .cells ⟨.slice a n c :: I 0 :: rest⟩ 52 (0, 0)) ∈ h) (H : R (.returned (.slice a n c)) h) : ACalls Tryd.prog 25 ⟨[.pointer (some ⟨b, 0, none⟩)]⟩ h R := by
  refine calls_of_xc (N := 12) Tryd.func25 rfl (by rfl) ?_
  refine xc_seq (xc_region ?_)
  refine xr_op rfl rfl (xv_assign rfl ?_)
  refine xr_end rfl ?_
  refine th_n ?_
  refine xc_seq ?_
  refine xc_draw0 [(0, .S), (1, .S), (2, .S), (3, .R), (4, .S), (5, .S), (6, .S), (7, .R), (8, .S), (9, .S)] mixed (by kernel_rfl) ?_
  refine js_S rfl rfl (.inl rfl) (xv_move rfl ⟨rfl, rfl⟩) ?_
  refine js_S rfl rfl (.inl rfl) (xv_nilp rfl ⟨rfl, rfl⟩) ?_
  refine js_S rfl rfl (.inl rfl) (xv_faddr fl50_0 rfl ⟨rfl, rfl⟩) ?_
  refine js_R0 rfl rfl (.inl rfl) (xv_load1 ty23 rfl rfl (by ((repeat first|exact z_0|assumption|refine z_1 ?_|(refine z_l ?_;(repeat first|exact z_0|assumption|refine z_1 ?_);done)|refine z_r ?_);done)) (by rfl) ⟨rfl, rfl⟩) ?_
  refine js_S rfl rfl (.inl rfl) (xv_move rfl ⟨rfl, rfl⟩) ?_
  refine js_S rfl rfl (.inl rfl) (xv_nilp rfl ⟨rfl, rfl⟩) ?_
  refine js_S rfl rfl (.inl rfl) (xv_faddr fl50_1 rfl ⟨rfl, rfl⟩) ?_
  refine js_R0 rfl rfl (.inl rfl) (xv_load1 ty3 rfl rfl (by ((repeat first|exact z_0|assumption|refine z_1 ?_|(refine z_l ?_;(repeat first|exact z_0|assumption|refine z_1 ?_);done)|refine z_r ?_);done)) (by rfl) ⟨rfl, rfl⟩) ?_
  refine js_S rfl rfl (.inl rfl) (xv_sl0 sl23 ty5 rfl rfl ⟨rfl, rfl⟩) ?_
  refine js_S rfl rfl (.inl rfl) (xv_assign rfl ⟨rfl, rfl⟩) ?_
  refine j_end0 ?_
  refine th_n ?_
  refine xc_ret ?_
  refine body_ret (h' := h) rfl (ro_tmp rfl ro_nil) (by (first|((repeat first|exact s_0|exact s_1|exact s_3|refine s_4 ?_|refine s_5 ?_|refine s_6 ?_|refine s_7 ?_);done)|((repeat first|exact s_0|exact s_1|exact s_3|refine s_4 ?_|refine s_5 ?_|refine s_6 ?_|refine s_8 ?_);done))) ?_
  exact H

theorem clone_c {b c n : Nat} {bs : List Int} {h : Hp} {R : Ending → Hp → Prop} (hs : SlV h 1 eB (some ⟨b, 0, none⟩) bs) (hn : n = bs.length) (hl : n ≤ 1000000) (H : ∀ V' : Vec, V'.ok 1 n (bs.flatMap eB) → R (.returned (.slice V'.ad n V'.cp)) (V'.hp 5 (bs.flatMap eB) ++ h)) : ACalls Tryd.prog 24 ⟨[.slice (some ⟨b, 0, none⟩) n c]⟩ h R := by
  refine calls_of_xc (N := 8) Tryd.func24 rfl (by rfl) ?_
  refine xc_seq (xc_region ?_)
  refine xr_op rfl rfl (xv_assign rfl ?_)
  refine xr_end rfl ?_
  refine th_n ?_
  refine xc_seq ?_
  refine xc_seq (xc_region ?_)
  refine xr_op rfl rfl (xv_move rfl ?_)
  refine xr_op rfl rfl (xv_eqNilS sl23 rfl rfl rfl ?_)
  refine xr_end rfl ?_
  refine th_n ?_
  refine xc_false rfl ?_
  refine xc_skip ?_
  refine th_n ?_
  refine xc_seq (xc_region ?_)
  refine xr_op rfl rfl ((al_buildSlice sl23 ty5 rfl rfl rfl rfl rfl (by ((try apply evl_some rfl);(repeat (first|exact (rfl : _ = [])|apply evl_cons rfl (by (first|exact v_1|exact v_2|exact v_3|exact v_4|exact v_5|exact v_6|exact v_7|exact v_8|exact v_9|exact rfl))|exact rfl))))).xv (fun b1 hb1 => ?_))
  refine xr_op rfl rfl (xv_move rfl ?_)
  refine xr_op rfl rfl (xv_dup (enc := eB) (ys := bs) sl23 ty5 rfl rfl rfl rfl hn (hs.sub (by intro z9 hz9; ((repeat first|exact z_0|assumption|refine z_1 ?_|(refine z_l ?_;(repeat first|exact z_0|assumption|refine z_1 ?_);done)|refine z_r ?_);done))) eB_len eB_1 (by simp only []; omega) (by omega) (fun X hX => ?_))
  refine xr_op rfl rfl (xv_assign rfl ?_)
  refine xr_end rfl ?_
  refine th_n ?_
  refine xc_ret ?_
  refine body_ret (h' := _) rfl (ro_tmp rfl ro_nil) (by (first|((repeat first|exact s_0|exact s_1|exact s_3|refine s_4 ?_|refine s_5 ?_|refine s_6 ?_|refine s_7 ?_);done)|((repeat first|exact s_0|exact s_1|exact s_3|refine s_4 ?_|refine s_5 ?_|refine s_6 ?_|refine s_8 ?_);done))) ?_
  exact H X hX

end Go.Proofs.YtlpkiolopelpfaaDoor

/-
  Walks.
-/
namespace Go.Proofs.YtlpkiolopelpfaaDoor
open Go Go.H
set_option maxRecDepth 100000
set_option maxHeartbeats 8000000
set_option linter.all false
theorem WriteLog_c {xs : List Sight} {a : Option Addr} {c : Nat} {h : Hp} {R : Ending → Hp → Prop} (hs : SlV h 2 eSight a xs) (hl : xs.length ≤ 1000000) (H1 : (errL 60 sightOk ltSight xs) ≠ 0 → R (.returned (.tuple ⟨[.slice none 0 0, I (errL 60 sightOk ltSight xs)]⟩)) h)
    (H2 : (errL 60 sightOk ltSight xs) = 0 → ∀ V : Vec, V.ok 1 (logB xs).length ((logB xs).flatMap eB) → R (.returned (.tuple ⟨[.slice V.ad (logB xs).length V.cp, I 0]⟩)) (V.hp 5 ((logB xs).flatMap eB) ++ h)) : ACalls Tryd.prog 6 ⟨[.slice a xs.length c]⟩ h R := by
  refine calls_of_xc (N := 51) Tryd.func6 rfl (by rfl) ?_
  refine xc_seq (xc_region ?_)
  refine xr_op rfl rfl (xv_assign rfl ?_)
  refine xr_op rfl rfl (xv_assign rfl ?_)
  refine xr_end rfl ?_
  refine th_n ?_
  refine xc_seq ?_
  refine xc_seq (xc_region ?_)
  refine xr_op rfl rfl (xv_move rfl ?_)
  refine xr_op rfl rfl (xv_calls rfl hb17 (errSight_c hs hl (up_ret ?_)))
  refine xr_op rfl rfl (xv_assign rfl ?_)
  refine xr_end rfl ?_
  refine th_n ?_
  refine xc_seq (xc_region ?_)
  refine xr_op rfl rfl (xv_move rfl ?_)
  refine xr_op rfl rfl (xv_neq2 rfl rfl (fun q1 => ?_) (fun q1 => ?_))
  · refine xr_end rfl ?_
    refine th_n ?_
    refine xc_true rfl ?_
    refine xc_seq (xc_region ?_)
    refine xr_op rfl rfl (xv_move rfl ?_)
    refine xr_op rfl rfl (xv_assign rfl ?_)
    refine xr_op rfl rfl (xv_assign rfl ?_)
    refine xr_end rfl ?_
    refine th_n ?_
    refine xc_ret ?_
    refine th_r ?_
    refine body_ret (h' := h) rfl (ro_tmp rfl (ro_tmp rfl ro_nil)) (by (first|((repeat first|exact s_0|exact s_1|exact s_3|refine s_4 ?_|refine s_5 ?_|refine s_6 ?_|refine s_7 ?_);done)|((repeat first|exact s_0|exact s_1|exact s_3|refine s_4 ?_|refine s_5 ?_|refine s_6 ?_|refine s_8 ?_);done))) ?_
    first | exact H1 (by omega) | exact H2 (by omega) V6 hV6
  · refine xr_end rfl ?_
    refine th_n ?_
    refine xc_false rfl ?_
    refine xc_skip ?_
    refine th_n ?_
    refine xc_seq (xc_region ?_)
    obtain ⟨hl60, hok, has9⟩ := errL_is (show (errL 60 sightOk ltSight xs) = 0 by omega)
    refine xr_op rfl rfl (xv_alloc ty52 (fun bP hbP => ?_))
    refine xr_end rfl ?_
    refine th_n ?_
    refine xc_seq (xc_region ?_)
    refine xr_op rfl rfl (xv_move rfl ?_)
    refine xr_op rfl rfl (xv_len sl22 rfl ?_)
    refine xr_op rfl rfl ((al_buildSlice sl60 ty3 rfl rfl rfl rfl rfl (by ((try apply evl_some rfl);(repeat (first|exact (rfl : _ = [])|apply evl_cons rfl (by (first|exact v_1|exact v_2|exact v_3|exact v_4|exact v_5|exact v_6|exact v_7|exact v_8|exact v_9|exact rfl))|exact rfl))))).xv (fun b2 hb2 => ?_))
    refine xr_op rfl rfl (xv_calls rfl hb20 (numbers_c (V := .nil) (p := pen0) (l := [(xs.length : Int)]) (slvL eI_len (by ((repeat first|exact z_0|assumption|refine z_1 ?_|(refine z_l ?_;(repeat first|exact z_0|assumption|refine z_1 ?_);done)|refine z_r ?_);done))) (fun n9 hn9 => by rw [List.mem_singleton.1 hn9]; omega) (by show 0 + 21 * 1 ≤ 100000; decide) penV0 (List.Perm.swap _ _ _) (fun V1 hp1 => up_ret ?_)))
    refine xr_end rfl ?_
    refine th_n ?_
    refine xc_seq (xc_region ?_)
    refine xr_op rfl rfl (xv_build bt44 rfl (by ((try apply evl_some rfl);(repeat (first|exact (rfl : _ = [])|apply evl_cons rfl (by (first|exact v_1|exact v_2|exact v_3|exact v_4|exact v_5|exact v_6|exact v_7|exact v_8|exact v_9|exact rfl))|exact rfl)))) ?_)
    refine xr_op rfl rfl (xv_alloc ty44 (fun bL hbL => ?_))
    refine xr_op rfl rfl (xv_s ty44 rfl rfl (by (first|(apply u_3;(repeat first|exact u_0|assumption|apply u_1|apply u_2);done)|((repeat first|exact u_0|assumption|apply u_1|apply u_2);done)|(apply u_3;apply u_3;(repeat first|exact u_0|assumption|apply u_1|apply u_2);done)|((repeat first|exact u_0|assumption|apply u_3|apply u_1);done))) (by ((try apply evl_some rfl);(repeat (first|exact (rfl : _ = [])|apply evl_cons rfl (by (first|exact v_1|exact v_2|exact v_3|exact v_4|exact v_5|exact v_6|exact v_7|exact v_8|exact v_9|exact rfl))|exact rfl)))) (by rfl) (by rfl) (by rfl) (by ((try apply evl_some rfl);(repeat (first|exact (rfl : _ = [])|apply evl_cons rfl (by (first|exact v_1|exact v_2|exact v_3|exact v_4|exact v_5|exact v_6|exact v_7|exact v_8|exact v_9|exact rfl))|exact rfl)))) ?_)
    refine xr_end rfl ?_
    refine th_n ?_
    refine xc_seq ?_
    refine xc_seq (xc_region ?_)
    refine xr_op rfl rfl (xv_move rfl ?_)
    refine xr_op rfl rfl (xv_len sl22 rfl ?_)
    refine xr_op rfl rfl (xv_move rfl ?_)
    refine xr_end rfl ?_
    refine th_n ?_
    refine xc_block ?_
    refine XC.perm (h := ((bP, .cells ⟨penL V1 (pen0.nums ((logN xs 0).map Int.toNat))⟩ 52) :: (V1.hp 5 (Pen.bs (pen0.nums ((logN xs 0).map Int.toNat)) |>.flatMap eB) ++ (bL, .cells ⟨eSight (prevS xs 0)⟩ 44) :: _ :: h))) perm1 ?_
    refine xc_loop (σ := Nat × Vec) (fun z => z.1 ≤ xs.length ∧ PenV z.2 (pen0.nums ((logN xs z.1).map Int.toNat))) (fun z => ((((((emp.put (some 0) (.slice a xs.length c)).put (some 5) (.pointer (some ⟨bP, 0, none⟩))).put (some 6) (.pointer (some ⟨bL, 0, none⟩))).put (some 19) (.slice a xs.length c)).put (some 20) (I xs.length)).put (some 21) (I z.1))) (fun z => ((bP, .cells ⟨penL z.2 (pen0.nums ((logN xs z.1).map Int.toNat))⟩ 52) :: (z.2.hp 5 (Pen.bs (pen0.nums ((logN xs z.1).map Int.toNat)) |>.flatMap eB) ++ (bL, .cells ⟨eSight (prevS xs z.1)⟩ 44) :: h))) (fun z => xs.length - z.1) ((0, V1) : Nat × Vec) ⟨Nat.zero_le _, hp1⟩ (le_put (le_put (le_put (le_put (le_put (le_put (le_emp _) rfl) rfl) rfl) rfl) rfl) rfl) (by (first|((repeat first|exact s_0|exact s_1|exact s_3|refine s_4 ?_|refine s_5 ?_|refine s_6 ?_|refine s_7 ?_);done)|((repeat first|exact s_0|exact s_1|exact s_3|refine s_4 ?_|refine s_5 ?_|refine s_6 ?_|refine s_8 ?_);done))) ?_
    rintro ⟨k, V3⟩ ⟨hk, hp3⟩
    dsimp only at hk hp3
    refine xc_seq (xc_region ?_)
    refine xr_op rfl rfl (xv_lss2 rfl rfl (fun q3 => ?_) (fun q3 => ?_))
    · refine xr_end rfl ?_
      refine th_n ?_
      refine xc_seq ?_
      refine xc_true rfl ?_
      refine xc_skip ?_
      refine th_n ?_
      refine xc_seq ?_
      refine xc_block ?_
      refine xc_seq (xc_region ?_)
      have hlto : k < xs.length := by (first|omega|(dsimp only at *;omega)|(simp at *;omega))
      obtain ⟨bo, oo, lo, to, fzo, hao, hmo, hxo⟩ := (hs).at hlto
      obtain ⟨xo, hko⟩ : ∃ qq_, xs[k]? = some qq_ := ⟨_, List.getElem?_eq_getElem hlto⟩
      have hpb := prevS_bd hok k hk
      have hpl := prevS_lt hok has9 (k := k) (by (first|omega|(dsimp only at *;omega)|(simp at *;omega)))
      rw [prevS_succ hko] at hpl
      obtain ⟨⟨oa1, oa2⟩, ob1, ob2⟩ := hok xo (List.mem_of_getElem? hko)
      have hsg := sgn_bd (d := xo.height - (prevS xs k).height) (by omega)
      refine xr_op rfl rfl (xv_ia (sz := 2) (j := k) sl22 ty44 rfl (by rw [hao]; rfl) rfl (by (first | assumption | with_reducible exact Int.toNat_natCast _ | with_reducible rfl | rfl)) (by (first|omega|(dsimp only at *;omega)|(simp at *;omega))) (by (first|omega|(dsimp only at *;omega)|(simp at *;omega))) ?_)
      refine xr_op rfl rfl (xv_loadA ty44 rfl rfl (by ((repeat first|exact z_0|assumption|refine z_1 ?_|(refine z_l ?_;(repeat first|exact z_0|assumption|refine z_1 ?_);done)|refine z_r ?_);done)) (hxo (k) xo hko) rfl ?_)
      refine xr_op rfl rfl (xv_alloc ty44 (fun bX hbX => ?_))
      refine xr_op rfl rfl (xv_s ty44 rfl rfl (by (first|(apply u_3;(repeat first|exact u_0|assumption|apply u_1|apply u_2);done)|((repeat first|exact u_0|assumption|apply u_1|apply u_2);done)|(apply u_3;apply u_3;(repeat first|exact u_0|assumption|apply u_1|apply u_2);done)|((repeat first|exact u_0|assumption|apply u_3|apply u_1);done))) (by ((try apply evl_some rfl);(repeat (first|exact (rfl : _ = [])|apply evl_cons rfl (by (first|exact v_1|exact v_2|exact v_3|exact v_4|exact v_5|exact v_6|exact v_7|exact v_8|exact v_9|exact rfl))|exact rfl)))) (by rfl) (by rfl) (by rfl) (by ((try apply evl_some rfl);(repeat (first|exact (rfl : _ = [])|apply evl_cons rfl (by (first|exact v_1|exact v_2|exact v_3|exact v_4|exact v_5|exact v_6|exact v_7|exact v_8|exact v_9|exact rfl))|exact rfl)))) ?_)
      refine xr_end rfl ?_
      refine th_n ?_
      refine xc_seq ?_
      refine xc_draw0 [(0, .S), (1, .R), (2, .S), (3, .R), (4, .S), (5, .S), (6, .S), (7, .R), (8, .S), (9, .R), (10, .S), (11, .R), (12, .P), (12, .A), (13, .O)] mixed (by kernel_rfl) ?_
      refine js_S rfl rfl (.inl rfl) (xv_faddr fl44_0 rfl ⟨rfl, rfl⟩) ?_
      refine js_R0 rfl rfl (.inl rfl) (xv_load1 ty3 rfl rfl (by ((repeat first|exact z_0|assumption|refine z_1 ?_|(refine z_l ?_;(repeat first|exact z_0|assumption|refine z_1 ?_);done)|refine z_r ?_);done)) (by rfl) ⟨rfl, rfl⟩) ?_
      refine js_S rfl rfl (.inl rfl) (xv_faddr fl44_0 rfl ⟨rfl, rfl⟩) ?_
      refine js_R0 rfl rfl (.inl rfl) (xv_load1 ty3 rfl rfl (by ((repeat first|exact z_0|assumption|refine z_1 ?_|(refine z_l ?_;(repeat first|exact z_0|assumption|refine z_1 ?_);done)|refine z_r ?_);done)) (by rfl) ⟨rfl, rfl⟩) ?_
      refine js_S rfl rfl (.inl rfl) (xv_sub rfl rfl (wrap_i64 (by (first|omega|(dsimp only at *;omega)|(simp at *;omega))) (by (first|omega|(dsimp only at *;omega)|(simp at *;omega)))) ⟨rfl, rfl⟩) ?_
      refine js_S rfl rfl (.inl rfl) (xv_sub rfl rfl (wrap_i64 (by (first|omega|(dsimp only at *;omega)|(simp at *;omega))) (by (first|omega|(dsimp only at *;omega)|(simp at *;omega)))) ⟨rfl, rfl⟩) ?_
      refine js_S rfl rfl (.inl rfl) (xv_faddr fl44_1 rfl ⟨rfl, rfl⟩) ?_
      refine js_R0 rfl rfl (.inl rfl) (xv_load1 ty3 rfl rfl (by ((repeat first|exact z_0|assumption|refine z_1 ?_|(refine z_l ?_;(repeat first|exact z_0|assumption|refine z_1 ?_);done)|refine z_r ?_);done)) (by rfl) ⟨rfl, rfl⟩) ?_
      refine js_S rfl rfl (.inl rfl) (xv_faddr fl44_1 rfl ⟨rfl, rfl⟩) ?_
      refine js_R0 rfl rfl (.inl rfl) (xv_load1 ty3 rfl rfl (by ((repeat first|exact z_0|assumption|refine z_1 ?_|(refine z_l ?_;(repeat first|exact z_0|assumption|refine z_1 ?_);done)|refine z_r ?_);done)) (by rfl) ⟨rfl, rfl⟩) ?_
      refine js_S rfl rfl (.inl rfl) (xv_sub rfl rfl (wrap_i64 (by (first|omega|(dsimp only at *;omega)|(simp at *;omega))) (by (first|omega|(dsimp only at *;omega)|(simp at *;omega)))) ⟨rfl, rfl⟩) ?_
      refine js_R0 rfl rfl (.inl rfl) (xv_calls rfl hb21 (signed_c (d := xo.height - (prevS xs k).height) (by omega) (up_ret ⟨rfl, rfl⟩))) ?_
      refine js_P rfl rfl rfl (al_buildSlice sl60 ty3 rfl rfl rfl rfl rfl (by ((try apply evl_some rfl);(repeat (first|exact (rfl : _ = [])|apply evl_cons rfl (by (first|exact v_1|exact v_2|exact v_3|exact v_4|exact v_5|exact v_6|exact v_7|exact v_8|exact v_9|exact rfl))|exact rfl))))) ?_
      refine js_A0 rfl rfl rfl rfl rfl ⟨rfl, rfl, trivial⟩ (fun b5 hb5 => ?_)
      refine js_O0 rfl rfl (.inl rfl) (xv_calls rfl hb20 (numbers_c (V := V3) (p := (pen0.nums ((logN xs k).map Int.toNat))) (l := [xo.hour - (prevS xs k).hour - 1, sgn (xo.height - (prevS xs k).height)]) (slvL eI_len (by ((repeat first|exact z_0|assumption|refine z_1 ?_|(refine z_l ?_;(repeat first|exact z_0|assumption|refine z_1 ?_);done)|refine z_r ?_);done))) (fun n9 hn9 => by simp only [List.mem_cons, List.not_mem_nil, or_false] at hn9; rcases hn9 with rfl | rfl <;> omega) (by have := nums_room (logN_bd hok has9 hl60 hk) (by rw [logN, List.length_cons, logL_len]; omega); simp only [List.length_cons, List.length_nil]; omega) hp3 perm2 (fun V9 hp9 => up_ret ?_)))
      refine j_end0 ?_
      refine th_n ?_
      refine xc_region ?_
      refine xr_op rfl rfl (xv_loadA ty44 rfl rfl (by ((repeat first|exact z_0|assumption|refine z_1 ?_|(refine z_l ?_;(repeat first|exact z_0|assumption|refine z_1 ?_);done)|refine z_r ?_);done)) (by ((try apply evl_some rfl);(repeat (first|exact (rfl : _ = [])|apply evl_cons rfl (by (first|exact v_1|exact v_2|exact v_3|exact v_4|exact v_5|exact v_6|exact v_7|exact v_8|exact v_9|exact rfl))|exact rfl)))) (by rfl) ?_)
      refine xr_op rfl rfl (xv_s ty44 rfl rfl (by (first|(apply u_3;(repeat first|exact u_0|assumption|apply u_1|apply u_2);done)|((repeat first|exact u_0|assumption|apply u_1|apply u_2);done)|(apply u_3;apply u_3;(repeat first|exact u_0|assumption|apply u_1|apply u_2);done)|((repeat first|exact u_0|assumption|apply u_3|apply u_1);done))) (by ((try apply evl_some rfl);(repeat (first|exact (rfl : _ = [])|apply evl_cons rfl (by (first|exact v_1|exact v_2|exact v_3|exact v_4|exact v_5|exact v_6|exact v_7|exact v_8|exact v_9|exact rfl))|exact rfl)))) (by rfl) (by rfl) (by rfl) (by ((try apply evl_some rfl);(repeat (first|exact (rfl : _ = [])|apply evl_cons rfl (by (first|exact v_1|exact v_2|exact v_3|exact v_4|exact v_5|exact v_6|exact v_7|exact v_8|exact v_9|exact rfl))|exact rfl)))) ?_)
      refine xr_end rfl ?_
      refine bk_n ?_
      refine th_n ?_
      refine xc_region ?_
      refine xr_op rfl rfl (xv_add rfl rfl (wrap_i64 (by (first|omega|(dsimp only at *;omega)|(simp at *;omega))) (by (first|omega|(dsimp only at *;omega)|(simp at *;omega)))) ?_)
      refine xr_op rfl rfl (xv_move rfl ?_)
      refine xr_end rfl ?_
      have epv := prevS_succ hko
      have elk : (pen0.nums ((logN xs (k + 1)).map Int.toNat)) = (pen0.nums ((logN xs k).map Int.toNat)).nums ([xo.hour - (prevS xs k).hour - 1, sgn (xo.height - (prevS xs k).height)].map Int.toNat) := by rw [logN_succ, List.map_append, Pen.nums_app, epv]
      exact rnd ((k + 1, V9) : Nat × Vec) ⟨by (first|omega|(dsimp only at *;omega)|(simp at *;omega)), by dsimp only; rw [elk]; exact hp9⟩ (by (first|omega|(dsimp only at *;omega)|(simp at *;omega))) (le_put (le_put (le_put (le_put (le_put (le_put (le_emp _) rfl) rfl) rfl) rfl) rfl) rfl) (by dsimp only; rw [elk, epv]; (first|((repeat first|exact s_0|exact s_1|exact s_3|refine s_4 ?_|refine s_5 ?_|refine s_6 ?_|refine s_7 ?_);done)|((repeat first|exact s_0|exact s_1|exact s_3|refine s_4 ?_|refine s_5 ?_|refine s_6 ?_|refine s_8 ?_);done)))
    · refine xr_end rfl ?_
      refine th_n ?_
      refine xc_seq ?_
      refine xc_false rfl ?_
      refine xc_exit ?_
      refine th_x ?_
      refine th_x ?_
      refine bk_same ?_
      refine th_n ?_
      refine xc_seq (xc_region ?_)
      obtain rfl : k = xs.length := by (first|omega|(dsimp only at *;omega)|(simp at *;omega))
      have hcb := chk_bd hok hl60 xs.length (Nat.le_refl _)
      refine xr_op rfl rfl (xv_move rfl ?_)
      refine xr_op rfl rfl (xv_calls rfl hb22 (check_c (hs.sub (by intro z9 hz9; ((repeat first|exact z_0|assumption|refine z_1 ?_|(refine z_l ?_;(repeat first|exact z_0|assumption|refine z_1 ?_);done)|refine z_r ?_);done))) hok hl60 (up_ret ?_)))
      refine xr_op rfl rfl ((al_buildSlice sl60 ty3 rfl rfl rfl rfl rfl (by ((try apply evl_some rfl);(repeat (first|exact (rfl : _ = [])|apply evl_cons rfl (by (first|exact v_1|exact v_2|exact v_3|exact v_4|exact v_5|exact v_6|exact v_7|exact v_8|exact v_9|exact rfl))|exact rfl))))).xv (fun b6 hb6 => ?_))
      refine xr_op rfl rfl (xv_calls rfl hb20 (numbers_c (V := V3) (p := (pen0.nums ((logN xs xs.length).map Int.toNat))) (l := [chk xs xs.length % 61]) (slvL eI_len (by ((repeat first|exact z_0|assumption|refine z_1 ?_|(refine z_l ?_;(repeat first|exact z_0|assumption|refine z_1 ?_);done)|refine z_r ?_);done))) (fun n9 hn9 => by rw [List.mem_singleton.1 hn9]; omega) (by have := nums_room (logN_bd hok has9 hl60 (Nat.le_refl _)) (by rw [logN, List.length_cons, logL_len]; omega); simp only [List.length_cons, List.length_nil]; omega) hp3 perm1 (fun V4 hp4 => up_ret ?_)))
      refine xr_end rfl ?_
      refine th_n ?_
      refine xc_seq ?_
      refine xc_seq (xc_region ?_)
      cases hwt9 : (logP xs).wt
      · have eP : (pen0.nums ((logN xs xs.length).map Int.toNat)).nums ([chk xs xs.length % 61].map Int.toNat) = logP xs := by unfold logP; rw [List.map_append, Pen.nums_app]
        rw [eP] at hp4 ⊢
        refine xr_op rfl rfl (xv_faddr fl52_2 rfl ?_)
        refine xr_op rfl rfl (xv_load1 ty4 rfl rfl (by ((repeat first|exact z_0|assumption|refine z_1 ?_|(refine z_l ?_;(repeat first|exact z_0|assumption|refine z_1 ?_);done)|refine z_r ?_);done)) (show _ = some (.bool false) by rw [← hwt9]; rfl) ?_)
        refine xr_end rfl ?_
        refine th_n ?_
        refine xc_false rfl ?_
        refine xc_skip ?_
        refine th_n ?_
        refine xc_seq (xc_region ?_)
        have hlen9 : 1 ≤ (Pen.bs (logP xs)).length := by exact logP_pos xs
        have hbnd9 : (Pen.bs (logP xs)).length ≤ 4201 := by have := logP_len hok has9 hl60; omega
        have hbq : logB xs = Pen.bs (logP xs) := by unfold logB; rw [if_neg (by rw [hwt9]; decide)]
        obtain ⟨b9, c9, sp9, rfl⟩ := Vec.at_pos hp4.ok (by omega)
        unfold penL
        rw [show ∀ n, Vec.val (.at b9 c9 sp9) n = .slice (some ⟨b9, 0, none⟩) n c9 from fun _ => rfl]
        rw [← hbq] at hlen9 hbnd9 ⊢
        refine xr_op rfl rfl (xv_faddr fl52_0 rfl ?_)
        refine xr_op rfl rfl (xv_calls rfl hb25 (bytes_c (rest := _) (by ((repeat first|exact z_0|assumption|refine z_1 ?_|(refine z_l ?_;(repeat first|exact z_0|assumption|refine z_1 ?_);done)|refine z_r ?_);done)) (up_ret ?_)))
        refine xr_op rfl rfl (xv_calls rfl hb24 (clone_c (bs := logB xs) (.inr ⟨b9, 0, _, 5, (0, 0), rfl, by ((repeat first|exact z_0|assumption|refine z_1 ?_|(refine z_l ?_;(repeat first|exact z_0|assumption|refine z_1 ?_);done)|refine z_r ?_);done), fun i9 q9 hq9 => flat_at eB_len sp9 _ i9 hq9⟩) rfl (by omega) (fun V6 hV6 => up_ret ?_)))
        refine xr_op rfl rfl (xv_assign rfl ?_)
        refine xr_op rfl rfl (xv_assign rfl ?_)
        refine xr_end rfl ?_
        refine th_n ?_
        refine xc_ret ?_
        refine body_ret (h' := (V6.hp 5 ((logB xs).flatMap eB) ++ h)) rfl (ro_tmp rfl (ro_tmp rfl ro_nil)) (by (first|((repeat first|exact s_0|exact s_1|exact s_3|refine s_4 ?_|refine s_5 ?_|refine s_6 ?_|refine s_7 ?_);done)|((repeat first|exact s_0|exact s_1|exact s_3|refine s_4 ?_|refine s_5 ?_|refine s_6 ?_|refine s_8 ?_);done))) ?_
        first | exact H1 (by omega) | exact H2 (by omega) V6 hV6
      · have eP : (pen0.nums ((logN xs xs.length).map Int.toNat)).nums ([chk xs xs.length % 61].map Int.toNat) = logP xs := by unfold logP; rw [List.map_append, Pen.nums_app]
        rw [eP] at hp4 ⊢
        refine xr_op rfl rfl (xv_faddr fl52_2 rfl ?_)
        refine xr_op rfl rfl (xv_load1 ty4 rfl rfl (by ((repeat first|exact z_0|assumption|refine z_1 ?_|(refine z_l ?_;(repeat first|exact z_0|assumption|refine z_1 ?_);done)|refine z_r ?_);done)) (show _ = some (.bool true) by rw [← hwt9]; rfl) ?_)
        refine xr_end rfl ?_
        refine th_n ?_
        refine xc_true rfl ?_
        refine xc_region ?_
        refine xr_op rfl rfl (xv_calls rfl hb23 (half_c (p := logP xs) hp4 (by have := logP_len hok has9 hl60; omega) (x := 0) (by decide) (fun V5 hp5 => up_ret ?_)))
        refine xr_end rfl ?_
        refine th_n ?_
        refine xc_seq (xc_region ?_)
        have hlen9 : 1 ≤ (Pen.bs ((logP xs).half 0)).length := by have := logP_pos xs; rw [half_T hwt9]; omega
        have hbnd9 : (Pen.bs ((logP xs).half 0)).length ≤ 4201 := by have := logP_len hok has9 hl60; rw [half_T hwt9]; omega
        have hbq : logB xs = Pen.bs ((logP xs).half 0) := by unfold logB; rw [if_pos hwt9]
        obtain ⟨b9, c9, sp9, rfl⟩ := Vec.at_pos hp5.ok (by omega)
        unfold penL
        rw [show ∀ n, Vec.val (.at b9 c9 sp9) n = .slice (some ⟨b9, 0, none⟩) n c9 from fun _ => rfl]
        rw [← hbq] at hlen9 hbnd9 ⊢
        refine xr_op rfl rfl (xv_faddr fl52_0 rfl ?_)
        refine xr_op rfl rfl (xv_calls rfl hb25 (bytes_c (rest := _) (by ((repeat first|exact z_0|assumption|refine z_1 ?_|(refine z_l ?_;(repeat first|exact z_0|assumption|refine z_1 ?_);done)|refine z_r ?_);done)) (up_ret ?_)))
        refine xr_op rfl rfl (xv_calls rfl hb24 (clone_c (bs := logB xs) (.inr ⟨b9, 0, _, 5, (0, 0), rfl, by ((repeat first|exact z_0|assumption|refine z_1 ?_|(refine z_l ?_;(repeat first|exact z_0|assumption|refine z_1 ?_);done)|refine z_r ?_);done), fun i9 q9 hq9 => flat_at eB_len sp9 _ i9 hq9⟩) rfl (by omega) (fun V6 hV6 => up_ret ?_)))
        refine xr_op rfl rfl (xv_assign rfl ?_)
        refine xr_op rfl rfl (xv_assign rfl ?_)
        refine xr_end rfl ?_
        refine th_n ?_
        refine xc_ret ?_
        refine body_ret (h' := (V6.hp 5 ((logB xs).flatMap eB) ++ h)) rfl (ro_tmp rfl (ro_tmp rfl ro_nil)) (by (first|((repeat first|exact s_0|exact s_1|exact s_3|refine s_4 ?_|refine s_5 ?_|refine s_6 ?_|refine s_7 ?_);done)|((repeat first|exact s_0|exact s_1|exact s_3|refine s_4 ?_|refine s_5 ?_|refine s_6 ?_|refine s_8 ?_);done))) ?_
        first | exact H1 (by omega) | exact H2 (by omega) V6 hV6

end Go.Proofs.YtlpkiolopelpfaaDoor

/-
  Walks.
-/
namespace Go.Proofs.YtlpkiolopelpfaaDoor
open Go Go.H
set_option maxRecDepth 100000
set_option maxHeartbeats 8000000
set_option linter.all false
theorem need_c {b : Bool} {h : Hp} {R : Ending → Hp → Prop} (H1 : b = true → R (.returned (.tuple #[])) h) (H2 : b = false → R (.panicked mis) h) : ACalls Tryd.prog 33 ⟨[.bool b]⟩ h R := by
  refine calls_of_xc (N := 6) Tryd.func33 rfl (by rfl) ?_
  refine xc_seq (xc_region ?_)
  refine xr_op rfl rfl (xv_move rfl ?_)
  refine xr_op rfl rfl (xv_not rfl ?_)
  refine xr_end rfl ?_
  refine th_n ?_
  refine xc_bool rfl (fun q1 => ?_) (fun q1 => ?_)
  · refine xc_region ?_
    refine xr_op rfl rfl (xv_build bt108 rfl (by ((try apply evl_some rfl);(repeat (first|exact (rfl : _ = [])|apply evl_cons rfl (by (first|exact v_1|exact v_2|exact v_3|exact v_4|exact v_5|exact v_6|exact v_7|exact v_8|exact v_9|exact rfl))|exact rfl)))) ?_)
    refine xr_op rfl rfl (xv_iface ty108 rfl rfl ?_)
    refine xr_op rfl rfl (xv_panic rfl ?_)
    refine body_pan ?_
    first | exact H1 (by simp_all) | exact H2 (by simp_all)
  · refine xc_skip ?_
    refine body_end (h' := h) rfl ro_nil (by (first|((repeat first|exact s_0|exact s_1|exact s_3|refine s_4 ?_|refine s_5 ?_|refine s_6 ?_|refine s_7 ?_);done)|((repeat first|exact s_0|exact s_1|exact s_3|refine s_4 ?_|refine s_5 ?_|refine s_6 ?_|refine s_8 ?_);done))) ?_
    first | exact H1 (by simp_all) | exact H2 (by simp_all)

theorem needT_c {h : Hp} {R : Ending → Hp → Prop} (H1 : R (.returned (.tuple #[])) h) : ACalls Tryd.prog 33 ⟨[.bool true]⟩ h R := need_c (fun _ => H1) (fun hb => by cases hb)
theorem needF_c {h : Hp} {R : Ending → Hp → Prop} (H2 : R (.panicked mis) h) : ACalls Tryd.prog 33 ⟨[.bool false]⟩ h R := need_c (fun hb => by cases hb) (fun _ => H2)

theorem ehalf_c {b c tot : Nat} {a : Option Addr} {hs : List Int} {g : Hp} {h : Hp} {R : Ending → Hp → Prop} (he : EyeV g a c tot hs) (hgh : g ⊆ h) (hl : tot ≤ 1000000) (H1 : hs = [] → R (.panicked mis) ((b, .cells ⟨eEye a c tot hs⟩ 69) :: h))
    (H2 : ∀ x t, hs = x :: t → EyeV g (tailA a c 1) (c - 1) tot t → R (.returned (U8 x)) ((b, .cells ⟨eEye (tailA a c 1) (c - 1) tot t⟩ 69) :: h)) : ACalls Tryd.prog 34 ⟨[.pointer (some ⟨b, 0, none⟩)]⟩ ((b, .cells ⟨eEye a c tot hs⟩ 69) :: h) R := by
  refine calls_of_xc (N := 33) Tryd.func34 rfl (by rfl) ?_
  have hcap := he.cap
  have htot := he.tot
  have heh := (he.sub hgh).sl
  refine xc_seq (xc_region ?_)
  refine xr_op rfl rfl (xv_assign rfl ?_)
  refine xr_end rfl ?_
  refine th_n ?_
  refine xc_seq (xc_region ?_)
  rcases hs with _ | ⟨x, t⟩
  · refine xr_op rfl rfl (xv_move rfl ?_)
    refine xr_op rfl rfl (xv_nilp rfl ?_)
    refine xr_op rfl rfl (xv_faddr fl69_0 rfl ?_)
    refine xr_op rfl rfl (xv_load1 ty23 rfl rfl (by ((repeat first|exact z_0|assumption|refine z_1 ?_|(refine z_l ?_;(repeat first|exact z_0|assumption|refine z_1 ?_);done)|refine z_r ?_);done)) (by rfl) ?_)
    refine xr_op rfl rfl (xv_len sl23 rfl ?_)
    refine xr_op rfl rfl (xv_cmpK rfl rfl (cmpF rfl (by simp only [cmpP]; simp)) ?_)
    refine xr_op rfl rfl (xv_calls rfl hb33 (needF_c (up_pan ?_)))
    refine th_p ?_
    refine body_pan ?_
    first | exact H1 rfl | (cases hko; exact H2 x t rfl he9)
  · refine xr_op rfl rfl (xv_move rfl ?_)
    refine xr_op rfl rfl (xv_nilp rfl ?_)
    refine xr_op rfl rfl (xv_faddr fl69_0 rfl ?_)
    refine xr_op rfl rfl (xv_load1 ty23 rfl rfl (by ((repeat first|exact z_0|assumption|refine z_1 ?_|(refine z_l ?_;(repeat first|exact z_0|assumption|refine z_1 ?_);done)|refine z_r ?_);done)) (by rfl) ?_)
    refine xr_op rfl rfl (xv_len sl23 rfl ?_)
    refine xr_op rfl rfl (xv_cmpK rfl rfl (cmpT (by simp only [cmpP]; simp)) ?_)
    refine xr_op rfl rfl (xv_calls rfl hb33 (needT_c (up_ret ?_)))
    refine xr_end rfl ?_
    refine th_n ?_
    refine xc_seq (xc_region ?_)
    refine xr_op rfl rfl (xv_move rfl ?_)
    refine xr_op rfl rfl (xv_nilp rfl ?_)
    refine xr_op rfl rfl (xv_faddr fl69_0 rfl ?_)
    refine xr_op rfl rfl (xv_load1 ty23 rfl rfl (by ((repeat first|exact z_0|assumption|refine z_1 ?_|(refine z_l ?_;(repeat first|exact z_0|assumption|refine z_1 ?_);done)|refine z_r ?_);done)) (by rfl) ?_)
    have hlto : 0 < (x :: t).length := (by simp)
    obtain ⟨bo, oo, lo, to, fzo, hao, hmo, hxo⟩ := (heh).at hlto
    obtain ⟨xo, hko⟩ : ∃ qq_, (x :: t)[0]? = some qq_ := ⟨_, List.getElem?_eq_getElem hlto⟩
    refine xr_op rfl rfl (xv_ia (sz := 1) (j := 0) sl23 ty5 rfl (by rw [hao]; rfl) rfl rfl (by (first|omega|(dsimp only at *;omega)|(simp at *;omega))) (by simp only [List.length_cons]; omega) ?_)
    refine xr_op rfl rfl (xv_load1 ty5 rfl rfl (by ((repeat first|exact z_0|assumption|refine z_1 ?_|(refine z_l ?_;(repeat first|exact z_0|assumption|refine z_1 ?_);done)|refine z_r ?_);done)) (take_get (hxo 0 xo hko) (j := 0) rfl) ?_)
    refine xr_op rfl rfl (xv_assign rfl ?_)
    refine xr_end rfl ?_
    refine th_n ?_
    refine xc_seq (xc_region ?_)
    have hcap9 : t.length + 1 ≤ c := hcap
    have htot9 : t.length + 1 ≤ tot := htot
    have he9 : EyeV g (tailA a c 1) (c - 1) tot t := ⟨slv_tail hcap9 he.sl, by omega, by omega, fun y hy => he.bd y (List.mem_cons_of_mem _ hy)⟩
    refine xr_op rfl rfl (xv_move rfl ?_)
    refine xr_op rfl rfl (xv_move rfl ?_)
    refine xr_op rfl rfl (xv_nilp rfl ?_)
    refine xr_op rfl rfl (xv_faddr fl69_0 rfl ?_)
    refine xr_op rfl rfl (xv_load1 ty23 rfl rfl (by ((repeat first|exact z_0|assumption|refine z_1 ?_|(refine z_l ?_;(repeat first|exact z_0|assumption|refine z_1 ?_);done)|refine z_r ?_);done)) (by rfl) ?_)
    refine xr_op rfl rfl (xv_sl1 (enc := eB) (v := x) (xs := t) sl23 ty5 rfl rfl rfl rfl hcap9 (heh.sub (by intro z9 hz9; ((repeat first|exact z_0|assumption|refine z_1 ?_|(refine z_l ?_;(repeat first|exact z_0|assumption|refine z_1 ?_);done)|refine z_r ?_);done))) ?_)
    refine xr_op rfl rfl (xv_nilp rfl ?_)
    refine xr_op rfl rfl (xv_faddr fl69_0 rfl ?_)
    refine xr_op rfl rfl (xv_s1 ty23 rfl rfl rfl (by (first|(apply u_3;(repeat first|exact u_0|assumption|apply u_1|apply u_2);done)|((repeat first|exact u_0|assumption|apply u_1|apply u_2);done)|(apply u_3;apply u_3;(repeat first|exact u_0|assumption|apply u_1|apply u_2);done)|((repeat first|exact u_0|assumption|apply u_3|apply u_1);done))) (by (first | rfl | exact Vec.one _ _)) (by (first | decide | exact Nat.le_of_ble_eq_true rfl | (simp only [List.length_cons, List.length_nil]; omega) | (simp; done))) (by ((try apply evl_some rfl);(repeat (first|exact (rfl : _ = [])|apply evl_cons rfl (by (first|exact v_1|exact v_2|exact v_3|exact v_4|exact v_5|exact v_6|exact v_7|exact v_8|exact v_9|exact rfl))|exact rfl)))) ?_)
    refine xr_end rfl ?_
    refine th_n ?_
    refine xc_seq (xc_region ?_)
    refine xr_op rfl rfl (xv_move rfl ?_)
    refine xr_op rfl rfl (xv_nilp rfl ?_)
    refine xr_op rfl rfl (xv_faddr fl69_1 rfl ?_)
    refine xr_op rfl rfl (xv_load1 ty3 rfl rfl (by ((repeat first|exact z_0|assumption|refine z_1 ?_|(refine z_l ?_;(repeat first|exact z_0|assumption|refine z_1 ?_);done)|refine z_r ?_);done)) (by rfl) ?_)
    refine xr_op rfl rfl (xv_add (c := (tot : Int) - t.length) rfl rfl (by rw [List.length_cons]; push_cast; rw [show (tot : Int) - ((t.length : Int) + 1) + 1 = (tot : Int) - t.length by omega]; exact wrap_i64 (by omega) (by omega)) ?_)
    refine xr_op rfl rfl (xv_nilp rfl ?_)
    refine xr_op rfl rfl (xv_faddr fl69_1 rfl ?_)
    refine xr_op rfl rfl (xv_s1 ty3 rfl rfl rfl (by (first|(apply u_3;(repeat first|exact u_0|assumption|apply u_1|apply u_2);done)|((repeat first|exact u_0|assumption|apply u_1|apply u_2);done)|(apply u_3;apply u_3;(repeat first|exact u_0|assumption|apply u_1|apply u_2);done)|((repeat first|exact u_0|assumption|apply u_3|apply u_1);done))) (by (first | rfl | exact Vec.one _ _)) (by (first | decide | exact Nat.le_of_ble_eq_true rfl | (simp only [List.length_cons, List.length_nil]; omega) | (simp; done))) (by ((try apply evl_some rfl);(repeat (first|exact (rfl : _ = [])|apply evl_cons rfl (by (first|exact v_1|exact v_2|exact v_3|exact v_4|exact v_5|exact v_6|exact v_7|exact v_8|exact v_9|exact rfl))|exact rfl)))) ?_)
    refine xr_end rfl ?_
    refine th_n ?_
    refine xc_seq (xc_region ?_)
    refine xr_op rfl rfl (xv_move rfl ?_)
    refine xr_op rfl rfl (xv_assign rfl ?_)
    refine xr_end rfl ?_
    refine th_n ?_
    refine xc_ret ?_
    refine body_ret (h' := ((b, .cells ⟨eEye (tailA a c 1) (c - 1) tot t⟩ 69) :: h)) rfl (ro_tmp rfl ro_nil) (by (first|((repeat first|exact s_0|exact s_1|exact s_3|refine s_4 ?_|refine s_5 ?_|refine s_6 ?_|refine s_7 ?_);done)|((repeat first|exact s_0|exact s_1|exact s_3|refine s_4 ?_|refine s_5 ?_|refine s_6 ?_|refine s_8 ?_);done))) ?_
    first | exact H1 rfl | (cases hko; exact H2 x t rfl he9)

theorem enum_c {b c tot : Nat} {a : Option Addr} {hs : List Int} {g : Hp} {h : Hp} {R : Ending → Hp → Prop} (he : EyeV g a c tot hs) (hgh : g ⊆ h) (hl : tot ≤ 1000000) (H1 : rd hs = none → ∀ o, R (.panicked mis) ((b, o) :: h))
    (H2 : ∀ n t a' c', rd hs = some (n, t) → EyeV g a' c' tot t → R (.returned (I n)) ((b, .cells ⟨eEye a' c' tot t⟩ 69) :: h)) : ACalls Tryd.prog 32 ⟨[.pointer (some ⟨b, 0, none⟩)]⟩ ((b, .cells ⟨eEye a c tot hs⟩ 69) :: h) R := by
  refine calls_of_xc (N := 29) Tryd.func32 rfl (by rfl) ?_
  refine xc_seq (xc_region ?_)
  refine xr_op rfl rfl (xv_assign rfl ?_)
  refine xr_end rfl ?_
  refine th_n ?_
  refine xc_seq (xc_region ?_)
  refine xr_op rfl rfl (xv_assign rfl ?_)
  refine xr_end rfl ?_
  refine th_n ?_
  refine xc_block ?_
  refine xc_loop (σ := List Int × Nat × Int × Option Addr × Nat) (fun z => rd hs = rdN z.1 z.2.1 z.2.2.1 ∧ EyeV g z.2.2.2.1 z.2.2.2.2 tot z.1 ∧ 0 ≤ z.2.2.1 ∧ z.2.2.1 < 8 ^ z.2.1 ∧ z.2.1 ≤ 12) (fun z => (((emp.put (some 0) (.pointer (some ⟨b, 0, none⟩))).put (some 2) (I z.2.2.1)).put (some 3) (I z.2.1))) (fun z => ((b, .cells ⟨eEye z.2.2.2.1 z.2.2.2.2 tot z.1⟩ 69) :: h)) (fun z => z.1.length) ((hs, 0, 0, a, c) : List Int × Nat × Int × Option Addr × Nat) ⟨rfl, he, Int.le_refl _, (show (0 : Int) < 8 ^ 0 by decide), Nat.zero_le _⟩ (le_put (le_put (le_put (le_emp _) rfl) rfl) rfl) (by (first|((repeat first|exact s_0|exact s_1|exact s_3|refine s_4 ?_|refine s_5 ?_|refine s_6 ?_|refine s_7 ?_);done)|((repeat first|exact s_0|exact s_1|exact s_3|refine s_4 ?_|refine s_5 ?_|refine s_6 ?_|refine s_8 ?_);done))) ?_
  rintro ⟨l, i, n, a1, c1⟩ ⟨hrd, he1, hn0, hn1, hi⟩
  dsimp only at hrd he1 hn0 hn1 hi
  have hn12 := pow_bd hn1 hi
  refine xc_seq ?_
  refine xc_block ?_
  refine xc_seq (xc_region ?_)
  refine xr_op rfl rfl (xv_move rfl ?_)
  refine xr_op rfl rfl (xv_calls rfl hb34 (ehalf_c he1 hgh hl (fun hnil => up_pan ?_) (fun x t hxt he2 => up_ret ?_)))
  · refine th_p ?_
    refine bk_p ?_
    refine th_p ?_
    refine th_p ?_
    refine bk_p ?_
    refine body_pan ?_
    first | (subst hnil; exact H1 hrd _) | (refine H1 ?_ _; rw [hrd, rdN, if_neg (by rintro ⟨h8, h7⟩; rcases h7 with h7 | h7 <;> first | (first|omega|(dsimp only at *;omega)|(simp at *;omega)) | (exact h7 (by (first|omega|(dsimp only at *;omega)|(simp at *;omega)))))]) | (refine H2 _ t _ _ ?_ he2; rw [hrd, rdN, if_pos ⟨by (first|omega|(dsimp only at *;omega)|(simp at *;omega)), by (first|omega|(dsimp only at *;omega)|(simp at *;omega))⟩, if_pos (by (first|omega|(dsimp only at *;omega)|(simp at *;omega)))])
  · refine xr_op rfl rfl (xv_assign rfl ?_)
    refine xr_end rfl ?_
    refine th_n ?_
    refine xc_seq (xc_region ?_)
    subst hxt
    have hxb := he1.bd x List.mem_cons_self
    refine xr_op rfl rfl (xv_move rfl ?_)
    refine xr_op rfl rfl (xv_lss2 rfl rfl (fun q1 => ?_) (fun q1 => ?_))
    · refine xr_op rfl rfl (xv_move rfl ?_)
      refine xr_gd rfl rfl rfl (xv_move rfl ?_)
      refine xr_gd rfl rfl rfl (xv_gtr2 rfl rfl (fun q2 => ?_) (fun q2 => ?_))
      · refine xr_gd rfl rfl rfl (xv_move rfl ?_)
        refine xr_no rfl rfl rfl rfl ?_
        refine xr_no rfl rfl rfl rfl ?_
        refine xr_gd rfl rfl rfl (xv_pick rfl rfl ?_)
        refine xr_op rfl rfl (xv_pick rfl rfl ?_)
        refine xr_op rfl rfl (xv_calls rfl hb33 (needT_c (up_ret ?_)))
        refine xr_end rfl ?_
        refine th_n ?_
        refine xc_seq (xc_region ?_)
        refine xr_op rfl rfl (xv_move rfl ?_)
        refine xr_op rfl rfl (xv_mul rfl rfl (wrap_i64 (by (first|omega|(dsimp only at *;omega)|(simp at *;omega))) (by (first|omega|(dsimp only at *;omega)|(simp at *;omega)))) ?_)
        refine xr_op rfl rfl (xv_move rfl ?_)
        refine xr_op rfl rfl (xv_andK (c := x % 8) rfl rfl (bits_lo hxb) ?_)
        refine xr_op rfl rfl (xv_convI Tryd.underlying5 Tryd.underlying3 rfl (wrap_i64 (by (first|omega|(dsimp only at *;omega)|(simp at *;omega))) (by (first|omega|(dsimp only at *;omega)|(simp at *;omega)))) ?_)
        refine xr_op rfl rfl (xv_add rfl rfl (wrap_i64 (by (first|omega|(dsimp only at *;omega)|(simp at *;omega))) (by (first|omega|(dsimp only at *;omega)|(simp at *;omega)))) ?_)
        refine xr_op rfl rfl (xv_assign rfl ?_)
        refine xr_end rfl ?_
        refine th_n ?_
        refine xc_seq (xc_region ?_)
        refine xr_op rfl rfl (xv_move rfl ?_)
        refine xr_op rfl rfl (xv_lss2 rfl rfl (fun q3 => ?_) (fun q3 => ?_))
        · refine xr_end rfl ?_
          refine th_n ?_
          refine xc_true rfl ?_
          refine xc_seq (xc_region ?_)
          refine xr_op rfl rfl (xv_move rfl ?_)
          refine xr_op rfl rfl (xv_assign rfl ?_)
          refine xr_end rfl ?_
          refine th_n ?_
          refine xc_ret ?_
          refine bk_r ?_
          refine th_r ?_
          refine th_r ?_
          refine bk_r ?_
          refine body_ret (h' := ((b, .cells ⟨eEye (tailA a1 c1 1) (c1 - 1) tot t⟩ 69) :: h)) rfl (ro_tmp rfl ro_nil) (by (first|((repeat first|exact s_0|exact s_1|exact s_3|refine s_4 ?_|refine s_5 ?_|refine s_6 ?_|refine s_7 ?_);done)|((repeat first|exact s_0|exact s_1|exact s_3|refine s_4 ?_|refine s_5 ?_|refine s_6 ?_|refine s_8 ?_);done))) ?_
          first | (subst hnil; exact H1 hrd _) | (refine H1 ?_ _; rw [hrd, rdN, if_neg (by rintro ⟨h8, h7⟩; rcases h7 with h7 | h7 <;> first | (first|omega|(dsimp only at *;omega)|(simp at *;omega)) | (exact h7 (by (first|omega|(dsimp only at *;omega)|(simp at *;omega)))))]) | (refine H2 _ t _ _ ?_ he2; rw [hrd, rdN, if_pos ⟨by (first|omega|(dsimp only at *;omega)|(simp at *;omega)), by (first|omega|(dsimp only at *;omega)|(simp at *;omega))⟩, if_pos (by (first|omega|(dsimp only at *;omega)|(simp at *;omega)))])
        · refine xr_end rfl ?_
          refine th_n ?_
          refine xc_false rfl ?_
          refine xc_skip ?_
          refine bk_n ?_
          refine th_n ?_
          refine xc_region ?_
          refine xr_op rfl rfl (xv_move rfl ?_)
          refine xr_op rfl rfl (xv_add rfl rfl (wrap_i64 (by (first|omega|(dsimp only at *;omega)|(simp at *;omega))) (by (first|omega|(dsimp only at *;omega)|(simp at *;omega)))) ?_)
          refine xr_op rfl rfl (xv_assign rfl ?_)
          refine xr_end rfl ?_
          exact rnd ((t, i + 1, 8 * n + x % 8, tailA a1 c1 1, c1 - 1) : List Int × Nat × Int × Option Addr × Nat) ⟨by rw [hrd, rdN, if_pos ⟨by (first|omega|(dsimp only at *;omega)|(simp at *;omega)), by (first|omega|(dsimp only at *;omega)|(simp at *;omega))⟩, if_neg (by (first|omega|(dsimp only at *;omega)|(simp at *;omega)))], he2, by dsimp only; omega, by dsimp only; rw [Int.pow_succ]; omega, by (first|omega|(dsimp only at *;omega)|(simp at *;omega))⟩ (by simp) (le_put (le_put (le_put (le_emp _) rfl) rfl) rfl) (by (first|((repeat first|exact s_0|exact s_1|exact s_3|refine s_4 ?_|refine s_5 ?_|refine s_6 ?_|refine s_7 ?_);done)|((repeat first|exact s_0|exact s_1|exact s_3|refine s_4 ?_|refine s_5 ?_|refine s_6 ?_|refine s_8 ?_);done)))
      · refine xr_gd rfl rfl rfl (xv_move rfl ?_)
        refine xr_gd rfl rfl rfl (xv_move rfl ?_)
        refine xr_gd rfl rfl rfl (xv_neq2 rfl rfl (fun hq => ?_) (fun hq => ?_))
        · refine xr_gd rfl rfl rfl (xv_pick rfl rfl ?_)
          refine xr_op rfl rfl (xv_pick rfl rfl ?_)
          refine xr_op rfl rfl (xv_calls rfl hb33 (needT_c (up_ret ?_)))
          refine xr_end rfl ?_
          refine th_n ?_
          refine xc_seq (xc_region ?_)
          refine xr_op rfl rfl (xv_move rfl ?_)
          refine xr_op rfl rfl (xv_mul rfl rfl (wrap_i64 (by (first|omega|(dsimp only at *;omega)|(simp at *;omega))) (by (first|omega|(dsimp only at *;omega)|(simp at *;omega)))) ?_)
          refine xr_op rfl rfl (xv_move rfl ?_)
          refine xr_op rfl rfl (xv_andK (c := x % 8) rfl rfl (bits_lo hxb) ?_)
          refine xr_op rfl rfl (xv_convI Tryd.underlying5 Tryd.underlying3 rfl (wrap_i64 (by (first|omega|(dsimp only at *;omega)|(simp at *;omega))) (by (first|omega|(dsimp only at *;omega)|(simp at *;omega)))) ?_)
          refine xr_op rfl rfl (xv_add rfl rfl (wrap_i64 (by (first|omega|(dsimp only at *;omega)|(simp at *;omega))) (by (first|omega|(dsimp only at *;omega)|(simp at *;omega)))) ?_)
          refine xr_op rfl rfl (xv_assign rfl ?_)
          refine xr_end rfl ?_
          refine th_n ?_
          refine xc_seq (xc_region ?_)
          refine xr_op rfl rfl (xv_move rfl ?_)
          refine xr_op rfl rfl (xv_lss2 rfl rfl (fun q4 => ?_) (fun q4 => ?_))
          · refine xr_end rfl ?_
            refine th_n ?_
            refine xc_true rfl ?_
            refine xc_seq (xc_region ?_)
            refine xr_op rfl rfl (xv_move rfl ?_)
            refine xr_op rfl rfl (xv_assign rfl ?_)
            refine xr_end rfl ?_
            refine th_n ?_
            refine xc_ret ?_
            refine bk_r ?_
            refine th_r ?_
            refine th_r ?_
            refine bk_r ?_
            refine body_ret (h' := ((b, .cells ⟨eEye (tailA a1 c1 1) (c1 - 1) tot t⟩ 69) :: h)) rfl (ro_tmp rfl ro_nil) (by (first|((repeat first|exact s_0|exact s_1|exact s_3|refine s_4 ?_|refine s_5 ?_|refine s_6 ?_|refine s_7 ?_);done)|((repeat first|exact s_0|exact s_1|exact s_3|refine s_4 ?_|refine s_5 ?_|refine s_6 ?_|refine s_8 ?_);done))) ?_
            first | (subst hnil; exact H1 hrd _) | (refine H1 ?_ _; rw [hrd, rdN, if_neg (by rintro ⟨h8, h7⟩; rcases h7 with h7 | h7 <;> first | (first|omega|(dsimp only at *;omega)|(simp at *;omega)) | (exact h7 (by (first|omega|(dsimp only at *;omega)|(simp at *;omega)))))]) | (refine H2 _ t _ _ ?_ he2; rw [hrd, rdN, if_pos ⟨by (first|omega|(dsimp only at *;omega)|(simp at *;omega)), by (first|omega|(dsimp only at *;omega)|(simp at *;omega))⟩, if_pos (by (first|omega|(dsimp only at *;omega)|(simp at *;omega)))])
          · refine xr_end rfl ?_
            refine th_n ?_
            refine xc_false rfl ?_
            refine xc_skip ?_
            refine bk_n ?_
            refine th_n ?_
            refine xc_region ?_
            refine xr_op rfl rfl (xv_move rfl ?_)
            refine xr_op rfl rfl (xv_add rfl rfl (wrap_i64 (by (first|omega|(dsimp only at *;omega)|(simp at *;omega))) (by (first|omega|(dsimp only at *;omega)|(simp at *;omega)))) ?_)
            refine xr_op rfl rfl (xv_assign rfl ?_)
            refine xr_end rfl ?_
            exact rnd ((t, i + 1, 8 * n + x % 8, tailA a1 c1 1, c1 - 1) : List Int × Nat × Int × Option Addr × Nat) ⟨by rw [hrd, rdN, if_pos ⟨by (first|omega|(dsimp only at *;omega)|(simp at *;omega)), by (first|omega|(dsimp only at *;omega)|(simp at *;omega))⟩, if_neg (by (first|omega|(dsimp only at *;omega)|(simp at *;omega)))], he2, by dsimp only; omega, by dsimp only; rw [Int.pow_succ]; omega, by (first|omega|(dsimp only at *;omega)|(simp at *;omega))⟩ (by simp) (le_put (le_put (le_put (le_emp _) rfl) rfl) rfl) (by (first|((repeat first|exact s_0|exact s_1|exact s_3|refine s_4 ?_|refine s_5 ?_|refine s_6 ?_|refine s_7 ?_);done)|((repeat first|exact s_0|exact s_1|exact s_3|refine s_4 ?_|refine s_5 ?_|refine s_6 ?_|refine s_8 ?_);done)))
        · refine xr_gd rfl rfl rfl (xv_pick rfl rfl ?_)
          refine xr_op rfl rfl (xv_pick rfl rfl ?_)
          refine xr_op rfl rfl (xv_calls rfl hb33 (needF_c (up_pan ?_)))
          refine th_p ?_
          refine bk_p ?_
          refine th_p ?_
          refine th_p ?_
          refine bk_p ?_
          refine body_pan ?_
          first | (subst hnil; exact H1 hrd _) | (refine H1 ?_ _; rw [hrd, rdN, if_neg (by rintro ⟨h8, h7⟩; rcases h7 with h7 | h7 <;> first | (first|omega|(dsimp only at *;omega)|(simp at *;omega)) | (exact h7 (by (first|omega|(dsimp only at *;omega)|(simp at *;omega)))))]) | (refine H2 _ t _ _ ?_ he2; rw [hrd, rdN, if_pos ⟨by (first|omega|(dsimp only at *;omega)|(simp at *;omega)), by (first|omega|(dsimp only at *;omega)|(simp at *;omega))⟩, if_pos (by (first|omega|(dsimp only at *;omega)|(simp at *;omega)))])
    · refine xr_op rfl rfl (xv_move rfl ?_)
      refine xr_no rfl rfl rfl rfl ?_
      refine xr_no rfl rfl rfl rfl ?_
      refine xr_no rfl rfl rfl rfl ?_
      refine xr_nu rfl rfl rfl ?_
      refine xr_nu rfl rfl rfl ?_
      refine xr_no rfl rfl rfl rfl ?_
      refine xr_op rfl rfl (xv_pick rfl rfl ?_)
      refine xr_op rfl rfl (xv_calls rfl hb33 (needF_c (up_pan ?_)))
      refine th_p ?_
      refine bk_p ?_
      refine th_p ?_
      refine th_p ?_
      refine bk_p ?_
      refine body_pan ?_
      first | (subst hnil; exact H1 hrd _) | (refine H1 ?_ _; rw [hrd, rdN, if_neg (by rintro ⟨h8, h7⟩; rcases h7 with h7 | h7 <;> first | (first|omega|(dsimp only at *;omega)|(simp at *;omega)) | (exact h7 (by (first|omega|(dsimp only at *;omega)|(simp at *;omega)))))]) | (refine H2 _ t _ _ ?_ he2; rw [hrd, rdN, if_pos ⟨by (first|omega|(dsimp only at *;omega)|(simp at *;omega)), by (first|omega|(dsimp only at *;omega)|(simp at *;omega))⟩, if_pos (by (first|omega|(dsimp only at *;omega)|(simp at *;omega)))])

theorem enumP_c {b c tot : Nat} {a : Option Addr} {hs : List Int} {g H0 : Hp} {h : Hp} {R : Ending → Hp → Prop} (he : EyeV g a c tot hs) (hgh : g ⊆ h) (hl : tot ≤ 1000000) (hp : List.Perm ((b, .cells ⟨eEye a c tot hs⟩ 69) :: h) H0) (H1 : rd hs = none → ∀ o, R (.panicked mis) ((b, o) :: h))
    (H2 : ∀ n t a' c', rd hs = some (n, t) → EyeV g a' c' tot t → R (.returned (I n)) ((b, .cells ⟨eEye a' c' tot t⟩ 69) :: h)) : ACalls Tryd.prog 32 ⟨[.pointer (some ⟨b, 0, none⟩)]⟩ H0 R := ACalls.perm hp (enum_c he hgh hl H1 H2)

end Go.Proofs.YtlpkiolopelpfaaDoor

/-
  Walks.
-/
namespace Go.Proofs.YtlpkiolopelpfaaDoor
open Go Go.H
set_option maxRecDepth 100000
set_option maxHeartbeats 8000000
set_option linter.all false
theorem hvIt {core : Hp} {bs : List Int} {a : Option Addr} {c b1 : Nat} (hb1 : (b1, .cells ⟨[.slice a bs.length c]⟩ 23 (0, 0)) ∈ core) (hc : SlV core 1 eB a bs) (hlen : bs.length ≤ 1000000) (hbb : ∀ b ∈ bs, 0 ≤ b ∧ b ≤ 255) :
    Iter Tryd.prog 71 [] [.pointer (some ⟨b1, 0, none⟩)] (fun x => [U8 x]) (hvL bs) (fun h' => core ⊆ h') := by
  intro y J Jx h hRd hy hJ
  show ACalls Tryd.prog 71 ⟨[y, .pointer (some ⟨b1, 0, none⟩)]⟩ h _
  refine calls_of_xc (N := 24) Tryd.func71 rfl (by rfl) ?_
  have hc0 := hRd _ _ hJ
  have m1 := hc0 hb1
  refine xc_seq (xc_region ?_)
  refine xr_op rfl rfl (xv_load1 ty23 rfl rfl m1 rfl ?_)
  refine xr_op rfl rfl (xv_len sl23 rfl ?_)
  refine xr_op rfl rfl (xv_move rfl ?_)
  refine xr_end rfl ?_
  refine th_n ?_
  refine xc_block ?_
  refine xc_loop (σ := Nat × Hp) (fun z => z.1 ≤ bs.length ∧ J (2 * z.1) z.2) (fun z => (((((emp.put (some 0) (y)).put (some 1) (.pointer (some ⟨b1, 0, none⟩))).put (some 5) (.slice a bs.length c)).put (some 6) (I bs.length)).put (some 7) (I z.1))) (fun z => z.2) (fun z => bs.length - z.1) ((0, h) : Nat × Hp) ⟨Nat.zero_le _, hJ⟩ (le_put (le_put (le_put (le_put (le_put (le_emp _) rfl) rfl) rfl) rfl) rfl) (by (first|((repeat first|exact s_0|exact s_1|exact s_3|refine s_4 ?_|refine s_5 ?_|refine s_6 ?_|refine s_7 ?_);done)|((repeat first|exact s_0|exact s_1|exact s_3|refine s_4 ?_|refine s_5 ?_|refine s_6 ?_|refine s_8 ?_);done))) ?_
  rintro ⟨k, h1⟩ ⟨hk, hJ1⟩
  dsimp only at hk hJ1
  have hc1 := hRd _ _ hJ1
  refine xc_seq (xc_region ?_)
  refine xr_op rfl rfl (xv_lss2 rfl rfl (fun q1 => ?_) (fun q1 => ?_))
  · refine xr_end rfl ?_
    refine th_n ?_
    refine xc_seq ?_
    refine xc_true rfl ?_
    refine xc_skip ?_
    refine th_n ?_
    refine xc_seq ?_
    refine xc_block ?_
    refine xc_seq (xc_region ?_)
    have hlto : k < bs.length := by (first|omega|(dsimp only at *;omega)|(simp at *;omega))
    obtain ⟨bo, oo, lo, to, fzo, hao, hmo, hxo⟩ := (hc.sub hc1).at hlto
    obtain ⟨xo, hko⟩ : ∃ qq_, bs[k]? = some qq_ := ⟨_, List.getElem?_eq_getElem hlto⟩
    have hob := hbb xo (List.mem_of_getElem? hko)
    obtain ⟨hg1, hg2⟩ := hvL_get hko
    refine xr_op rfl rfl (xv_ia (sz := 1) (j := k) sl23 ty5 rfl (by rw [hao]; rfl) rfl (by (first | assumption | with_reducible exact Int.toNat_natCast _ | with_reducible rfl | rfl)) (by (first|omega|(dsimp only at *;omega)|(simp at *;omega))) (by (first|omega|(dsimp only at *;omega)|(simp at *;omega))) ?_)
    refine xr_op rfl rfl (xv_load1 ty5 rfl rfl (by ((repeat first|exact z_0|assumption|refine z_1 ?_|(refine z_l ?_;(repeat first|exact z_0|assumption|refine z_1 ?_);done)|refine z_r ?_);done)) (take_get (hxo (k) xo hko) (j := 0) rfl) ?_)
    refine xr_op rfl rfl (xv_assign rfl ?_)
    refine xr_end rfl ?_
    refine th_n ?_
    refine xc_seq (xc_region ?_)
    refine xr_op rfl rfl (xv_move rfl ?_)
    refine xr_op rfl rfl (xv_move rfl ?_)
    refine xr_op rfl rfl (xv_shrK (s := 4) rfl rfl (by decide) (shr4 hob.1) ?_)
    refine xr_op rfl rfl (xv_fn rfl rfl (yieldTo (g := []) (hy _ _ hg1 _ hJ1) (fun h3 hJ3 => up_ret ?_) (fun h3 hJ3 => up_ret ?_)))
    · refine xr_op rfl rfl (xv_not rfl ?_)
      refine xr_op rfl rfl (xv_move rfl ?_)
      refine xr_gd rfl rfl rfl (xv_move rfl ?_)
      refine xr_gd rfl rfl rfl (xv_move rfl ?_)
      refine xr_gd rfl rfl rfl (xv_andK (c := xo % 16) rfl rfl (bits_15 hob) ?_)
      refine xr_gd rfl rfl rfl (xv_fn rfl rfl (yieldTo (g := []) (hy _ _ hg2 _ hJ3) (fun h5 hJ5 => up_ret ?_) (fun h5 hJ5 => up_ret ?_)))
      · refine xr_gd rfl rfl rfl (xv_not rfl ?_)
        refine xr_op rfl rfl (xv_pick rfl rfl ?_)
        refine xr_end rfl ?_
        refine th_n ?_
        refine xc_false rfl ?_
        refine xc_skip ?_
        refine bk_n ?_
        refine th_n ?_
        refine xc_region ?_
        refine xr_op rfl rfl (xv_add rfl rfl (wrap_i64 (by (first|omega|(dsimp only at *;omega)|(simp at *;omega))) (by (first|omega|(dsimp only at *;omega)|(simp at *;omega)))) ?_)
        refine xr_op rfl rfl (xv_move rfl ?_)
        refine xr_end rfl ?_
        exact rnd ((k + 1, h5) : Nat × Hp) ⟨by (first|omega|(dsimp only at *;omega)|(simp at *;omega)), by dsimp only; rw [show 2 * (k + 1) = 2 * k + 1 + 1 by omega]; exact hJ5⟩ (by (first|omega|(dsimp only at *;omega)|(simp at *;omega))) (le_put (le_put (le_put (le_put (le_put (le_emp _) rfl) rfl) rfl) rfl) rfl) (by (first|((repeat first|exact s_0|exact s_1|exact s_3|refine s_4 ?_|refine s_5 ?_|refine s_6 ?_|refine s_7 ?_);done)|((repeat first|exact s_0|exact s_1|exact s_3|refine s_4 ?_|refine s_5 ?_|refine s_6 ?_|refine s_8 ?_);done)))
      · refine xr_gd rfl rfl rfl (xv_not rfl ?_)
        refine xr_op rfl rfl (xv_pick rfl rfl ?_)
        refine xr_end rfl ?_
        refine th_n ?_
        refine xc_true rfl ?_
        refine xc_ret ?_
        refine bk_r ?_
        refine th_r ?_
        refine th_r ?_
        refine bk_r ?_
        refine body_ret (h' := h5) rfl ro_nil (by (first|((repeat first|exact s_0|exact s_1|exact s_3|refine s_4 ?_|refine s_5 ?_|refine s_6 ?_|refine s_7 ?_);done)|((repeat first|exact s_0|exact s_1|exact s_3|refine s_4 ?_|refine s_5 ?_|refine s_6 ?_|refine s_8 ?_);done))) ?_
        first | exact ⟨⟨_, rfl⟩, .inl (by have hk9 : k = bs.length := (by (first|omega|(dsimp only at *;omega)|(simp at *;omega))); rw [hk9, ← hvL_len] at hJ1; exact hJ1)⟩ | exact ⟨⟨_, rfl⟩, .inr ⟨_, (List.getElem?_eq_some_iff.1 hg1).1, hJ3⟩⟩ | exact ⟨⟨_, rfl⟩, .inr ⟨_, (List.getElem?_eq_some_iff.1 hg2).1, hJ5⟩⟩
    · refine xr_op rfl rfl (xv_not rfl ?_)
      refine xr_op rfl rfl (xv_move rfl ?_)
      refine xr_no rfl rfl rfl rfl ?_
      refine xr_no rfl rfl rfl rfl ?_
      refine xr_no rfl rfl rfl rfl ?_
      refine xr_no rfl rfl rfl rfl ?_
      refine xr_no rfl rfl rfl rfl ?_
      refine xr_op rfl rfl (xv_pick rfl rfl ?_)
      refine xr_end rfl ?_
      refine th_n ?_
      refine xc_true rfl ?_
      refine xc_ret ?_
      refine bk_r ?_
      refine th_r ?_
      refine th_r ?_
      refine bk_r ?_
      refine body_ret (h' := h3) rfl ro_nil (by (first|((repeat first|exact s_0|exact s_1|exact s_3|refine s_4 ?_|refine s_5 ?_|refine s_6 ?_|refine s_7 ?_);done)|((repeat first|exact s_0|exact s_1|exact s_3|refine s_4 ?_|refine s_5 ?_|refine s_6 ?_|refine s_8 ?_);done))) ?_
      first | exact ⟨⟨_, rfl⟩, .inl (by have hk9 : k = bs.length := (by (first|omega|(dsimp only at *;omega)|(simp at *;omega))); rw [hk9, ← hvL_len] at hJ1; exact hJ1)⟩ | exact ⟨⟨_, rfl⟩, .inr ⟨_, (List.getElem?_eq_some_iff.1 hg1).1, hJ3⟩⟩ | exact ⟨⟨_, rfl⟩, .inr ⟨_, (List.getElem?_eq_some_iff.1 hg2).1, hJ5⟩⟩
  · refine xr_end rfl ?_
    refine th_n ?_
    refine xc_seq ?_
    refine xc_false rfl ?_
    refine xc_exit ?_
    refine th_x ?_
    refine th_x ?_
    refine bk_same ?_
    refine body_end (h' := h1) rfl ro_nil (by (first|((repeat first|exact s_0|exact s_1|exact s_3|refine s_4 ?_|refine s_5 ?_|refine s_6 ?_|refine s_7 ?_);done)|((repeat first|exact s_0|exact s_1|exact s_3|refine s_4 ?_|refine s_5 ?_|refine s_6 ?_|refine s_8 ?_);done))) ?_
    first | exact ⟨⟨_, rfl⟩, .inl (by have hk9 : k = bs.length := (by (first|omega|(dsimp only at *;omega)|(simp at *;omega))); rw [hk9, ← hvL_len] at hJ1; exact hJ1)⟩ | exact ⟨⟨_, rfl⟩, .inr ⟨_, (List.getElem?_eq_some_iff.1 hg1).1, hJ3⟩⟩ | exact ⟨⟨_, rfl⟩, .inr ⟨_, (List.getElem?_eq_some_iff.1 hg2).1, hJ5⟩⟩

theorem halves_c {a : Option Addr} {n c : Nat} {h : Hp} {R : Ending → Hp → Prop} (H : ∀ b1, R (.returned (.func (.func 71) ⟨[]⟩ ⟨[.pointer (some ⟨b1, 0, none⟩)]⟩)) ((b1, .cells ⟨[.slice a n c]⟩ 23) :: h)) : ACalls Tryd.prog 55 ⟨[.slice a n c]⟩ h R := by
  refine calls_of_xc (N := 4) Tryd.func55 rfl (by rfl) ?_
  refine xc_seq (xc_region ?_)
  refine xr_op rfl rfl (xv_box rfl (fun b1 hb1 => ?_))
  refine xr_op rfl rfl (xv_assign rfl ?_)
  refine xr_end rfl ?_
  refine th_n ?_
  refine xc_seq (xc_region ?_)
  refine xr_op rfl rfl (xv_func rfl rfl ?_)
  refine xr_op rfl rfl (xv_assign rfl ?_)
  refine xr_end rfl ?_
  refine th_n ?_
  refine xc_ret ?_
  refine body_ret (h' := ((b1, .cells ⟨[.slice a n c]⟩ 23) :: h)) rfl (ro_tmp rfl ro_nil) (by (first|((repeat first|exact s_0|exact s_1|exact s_3|refine s_4 ?_|refine s_5 ?_|refine s_6 ?_|refine s_7 ?_);done)|((repeat first|exact s_0|exact s_1|exact s_3|refine s_4 ?_|refine s_5 ?_|refine s_6 ?_|refine s_8 ?_);done))) ?_
  exact H b1

theorem newEye_c {bs : List Int} {a : Option Addr} {c : Nat} {h : Hp} {R : Ending → Hp → Prop} (hs : SlV h 1 eB a bs) (hlen : bs.length ≤ 100000) (hbb : ∀ b ∈ bs, 0 ≤ b ∧ b ≤ 255)
    (H : ∀ bE (V : Vec), V.ok 1 (hvL bs).length ((hvL bs).flatMap eB) → R (.returned (.pointer (some ⟨bE, 0, none⟩))) (V.hp 5 ((hvL bs).flatMap eB) ++ (bE, .cells ⟨[V.val (hvL bs).length, I 0]⟩ 69) :: h)) : ACalls Tryd.prog 29 ⟨[.slice a bs.length c]⟩ h R := by
  refine calls_of_xc (N := 21) Tryd.func29 rfl (by rfl) ?_
  have hvl := hvL_len bs
  refine xc_seq (xc_region ?_)
  refine xr_op rfl rfl (xv_assign rfl ?_)
  refine xr_end rfl ?_
  refine th_n ?_
  refine xc_seq (xc_region ?_)
  refine xr_op rfl rfl (xv_build bt69 rfl (by ((try apply evl_some rfl);(repeat (first|exact (rfl : _ = [])|apply evl_cons rfl (by (first|exact v_1|exact v_2|exact v_3|exact v_4|exact v_5|exact v_6|exact v_7|exact v_8|exact v_9|exact rfl))|exact rfl)))) ?_)
  refine xr_op rfl rfl (xv_box rfl (fun bE hbE => ?_))
  refine xr_op rfl rfl (xv_alloc ty63 (fun bQ hbQ => ?_))
  refine xr_op rfl rfl (xv_s1 ty63 rfl rfl rfl (by (first|(apply u_3;(repeat first|exact u_0|assumption|apply u_1|apply u_2);done)|((repeat first|exact u_0|assumption|apply u_1|apply u_2);done)|(apply u_3;apply u_3;(repeat first|exact u_0|assumption|apply u_1|apply u_2);done)|((repeat first|exact u_0|assumption|apply u_3|apply u_1);done))) (by (first | rfl | exact Vec.one _ _)) (by (first | decide | exact Nat.le_of_ble_eq_true rfl | (simp only [List.length_cons, List.length_nil]; omega) | (simp; done))) (by ((try apply evl_some rfl);(repeat (first|exact (rfl : _ = [])|apply evl_cons rfl (by (first|exact v_1|exact v_2|exact v_3|exact v_4|exact v_5|exact v_6|exact v_7|exact v_8|exact v_9|exact rfl))|exact rfl)))) ?_)
  refine xr_end rfl ?_
  refine th_n ?_
  refine xc_seq ?_
  refine xc_seq (xc_region ?_)
  refine xr_op rfl rfl (xv_move rfl ?_)
  refine xr_op rfl rfl (xv_calls rfl hb55 (halves_c (fun b1 => up_ret ?_)))
  refine xr_end rfl ?_
  refine th_n ?_
  refine xc_block ?_
  refine xc_range2 (γ := Vec) (fun x => [U8 x]) (hvL bs) ((b1, .cells ⟨[.slice a bs.length c]⟩ 23) :: h) rfl hb71 (hvIt (core := ((b1, .cells ⟨[.slice a bs.length c]⟩ 23) :: h)) (by ((repeat first|exact z_0|assumption|refine z_1 ?_|(refine z_l ?_;(repeat first|exact z_0|assumption|refine z_1 ?_);done)|refine z_r ?_);done)) (hs.sub (by intro z9 hz9; ((repeat first|exact z_0|assumption|refine z_1 ?_|(refine z_l ?_;(repeat first|exact z_0|assumption|refine z_1 ?_);done)|refine z_r ?_);done))) (by omega) hbb) (fun x => rfl) (by decide) (emp.put (some 3) (.pointer (some ⟨bQ, 0, none⟩))) (fun k g => g.ok 1 k (((hvL bs).take k).flatMap eB)) (fun k g => (g.hp 5 (((hvL bs).take k).flatMap eB) ++ (b1, .cells ⟨[.slice a bs.length c]⟩ 23) :: (bQ, .cells ⟨[.pointer (some ⟨bE, 0, none⟩)]⟩ 63) :: (bE, .cells ⟨[g.val k, I 0]⟩ 69) :: h)) (fun _ _ _ => False) .nil (mon_bk (mon_th)) (le_put (le_emp _) rfl) ⟨rfl, rfl⟩ (by (first|((repeat first|exact s_0|exact s_1|exact s_3|refine s_4 ?_|refine s_5 ?_|refine s_6 ?_|refine s_7 ?_);done)|((repeat first|exact s_0|exact s_1|exact s_3|refine s_4 ?_|refine s_5 ?_|refine s_6 ?_|refine s_8 ?_);done))) (fun k g z hz => by simp only [List.mem_cons, List.mem_append] at hz ⊢; rcases hz with hz | hz <;> simp [hz]) ?_ (fun _ _ _ _ _ hf _ => hf.elim) ?_
  · intro ll k x V hkx hV
    have hkl := (List.getElem?_eq_some_iff.1 hkx).1
    have hxb := hvL_bd hbb x (List.mem_of_getElem? hkx)
    refine xc_region ?_
    refine xr_op rfl rfl (xv_assign rfl ?_)
    refine xr_end rfl ?_
    refine rndA_n ?_
    refine xc_block ?_
    refine xc_drawX0 [(0, [(bQ, fun o => o = .cells ⟨[.pointer (some ⟨bE, 0, none⟩)]⟩ 63 (0, 0))])] [(0, .S), (1, .R), (2, .S), (3, .S), (4, .R), (5, .S), (6, .P), (6, .A), (7, .O), (8, .S), (9, .S), (10, .O)] mixed (by kernel_rfl) (iv_cons (holds1 (by ((repeat first|exact z_0|assumption|refine z_1 ?_|(refine z_l ?_;(repeat first|exact z_0|assumption|refine z_1 ?_);done)|refine z_r ?_);done)) rfl) iv_nil) ?_
    refine jx_I rfl rfl (.inl rfl) (fun hh hv => by have hv2 : Holds [(bQ, fun o => o = .cells ⟨[.pointer (some ⟨bE, 0, none⟩)]⟩ 63 (0, 0))] hh := hv; obtain ⟨o9, hm9, e9⟩ := hv2 _ _ List.mem_cons_self; subst e9; exact xv_load1 ty63 rfl rfl hm9 rfl ⟨rfl, rfl⟩) ?_
    refine jx_R rfl rfl (.inl rfl) (xv_load1 ty63 rfl rfl (by ((repeat first|exact z_0|assumption|refine z_1 ?_|(refine z_l ?_;(repeat first|exact z_0|assumption|refine z_1 ?_);done)|refine z_r ?_);done)) (by rfl) ⟨rfl, rfl⟩) ?_
    refine jx_S rfl rfl (.inl rfl) (xv_nilp rfl ⟨rfl, rfl⟩) ?_
    refine jx_S rfl rfl (.inl rfl) (xv_faddr fl69_0 rfl ⟨rfl, rfl⟩) ?_
    refine jx_R rfl rfl (.inl rfl) (xv_load1 ty23 rfl rfl (by ((repeat first|exact z_0|assumption|refine z_1 ?_|(refine z_l ?_;(repeat first|exact z_0|assumption|refine z_1 ?_);done)|refine z_r ?_);done)) (by rfl) ⟨rfl, rfl⟩) ?_
    refine jx_S rfl rfl (.inl rfl) (xv_move rfl ⟨rfl, rfl⟩) ?_
    refine jx_P rfl rfl rfl (al_buildSlice sl23 ty5 rfl rfl rfl rfl rfl (by ((try apply evl_some rfl);(repeat (first|exact (rfl : _ = [])|apply evl_cons rfl (by (first|exact v_1|exact v_2|exact v_3|exact v_4|exact v_5|exact v_6|exact v_7|exact v_8|exact v_9|exact rfl))|exact rfl))))) ?_
    refine jx_A rfl rfl rfl rfl rfl ⟨rfl, trivial⟩ (fun b2 hb2 => ?_)
    refine jx_O rfl rfl (.inl rfl) (xv_append (V := V) (n := k) (xs := ((hvL bs).take k).flatMap eB) sl23 ty5 rfl rfl rfl hV (.there .here) (by ((repeat first|exact z_0|assumption|refine z_1 ?_|(refine z_l ?_;(repeat first|exact z_0|assumption|refine z_1 ?_);done)|refine z_r ?_);done)) (by ((try apply evl_some rfl);(repeat (first|exact (rfl : _ = [])|apply evl_cons rfl (by (first|exact v_1|exact v_2|exact v_3|exact v_4|exact v_5|exact v_6|exact v_7|exact v_8|exact v_9|exact rfl))|exact rfl)))) rfl rfl (by omega) (by simp only []; omega) (by omega) (fun V2 hV2 => ?_))
    refine ⟨(kp_in (holds1 (by ((repeat first|exact z_0|assumption|refine z_1 ?_|(refine z_l ?_;(repeat first|exact z_0|assumption|refine z_1 ?_);done)|refine z_r ?_);done)) rfl) kp_nil), ?_⟩
    refine jx_S rfl rfl (.inl rfl) (xv_nilp rfl ⟨rfl, rfl⟩) ?_
    refine jx_S rfl rfl (.inl rfl) (xv_faddr fl69_0 rfl ⟨rfl, rfl⟩) ?_
    refine jx_O rfl rfl (.inl rfl) (xv_s1 ty23 rfl rfl rfl (by (first|(apply u_3;(repeat first|exact u_0|assumption|apply u_1|apply u_2);done)|((repeat first|exact u_0|assumption|apply u_1|apply u_2);done)|(apply u_3;apply u_3;(repeat first|exact u_0|assumption|apply u_1|apply u_2);done)|((repeat first|exact u_0|assumption|apply u_3|apply u_1);done))) (by (first | rfl | exact Vec.one _ _)) (by (first | decide | exact Nat.le_of_ble_eq_true rfl | (simp only [List.length_cons, List.length_nil]; omega) | (simp; done))) (by ((try apply evl_some rfl);(repeat (first|exact (rfl : _ = [])|apply evl_cons rfl (by (first|exact v_1|exact v_2|exact v_3|exact v_4|exact v_5|exact v_6|exact v_7|exact v_8|exact v_9|exact rfl))|exact rfl)))) ?_)
    refine ⟨(kp_go (by kernel_rfl) kp_nil), ?_⟩
    refine jx_end ?_
    refine bk_n ?_
    have es : ((hvL bs).take (k + 1)).flatMap eB = ((hvL bs).take k).flatMap eB ++ [U8 x] := by rw [List.take_add_one, hkx, List.flatMap_append]; rfl
    exact rndQ_n V2 (by rw [es]; exact hV2) (by rw [es]; (first|((repeat first|exact s_0|exact s_1|exact s_3|refine s_4 ?_|refine s_5 ?_|refine s_6 ?_|refine s_7 ?_);done)|((repeat first|exact s_0|exact s_1|exact s_3|refine s_4 ?_|refine s_5 ?_|refine s_6 ?_|refine s_8 ?_);done)))
  · intro kd g hi hkd
    simp only [List.take_length] at hi hkd ⊢
    refine bk_n ?_
    refine th_n ?_
    refine xc_seq (xc_region ?_)
    refine xr_op rfl rfl (xv_load1 ty63 rfl rfl (by ((repeat first|exact z_0|assumption|refine z_1 ?_|(refine z_l ?_;(repeat first|exact z_0|assumption|refine z_1 ?_);done)|refine z_r ?_);done)) (by rfl) ?_)
    refine xr_op rfl rfl (xv_assign rfl ?_)
    refine xr_end rfl ?_
    refine th_n ?_
    refine xc_ret ?_
    refine body_retM (h' := (g.hp 5 ((hvL bs).flatMap eB) ++ (bE, .cells ⟨[g.val (hvL bs).length, I 0]⟩ 69) :: h)) rfl (ro_tmp rfl ro_nil) (by (first|((repeat first|exact s_0|exact s_1|exact s_3|refine s_4 ?_|refine s_5 ?_|refine s_6 ?_|refine s_7 ?_);done)|((repeat first|exact s_0|exact s_1|exact s_3|refine s_4 ?_|refine s_5 ?_|refine s_6 ?_|refine s_8 ?_);done))) (by ((repeat first|exact z_0|assumption|refine z_1 ?_|(refine z_l ?_;(repeat first|exact z_0|assumption|refine z_1 ?_);done)|refine z_r ?_);done)) (nkeys (by intro z hz; simp only [List.mem_append, List.mem_cons] at hz ⊢; rcases hz with hz | hz | hz <;> simp [hz]) hkd) ?_
    exact H bE g hi

theorem try1_ret {pe : Nat} {h : Hp} {R : Ending → FrameMode → Hp → Prop} (H : R (.returned (.tuple #[])) .returning h) :
    DCalls Tryd.prog 56 ⟨[.pointer (some ⟨pe, 0, none⟩)]⟩ .returning h R := by
  refine dcalls_rec (N := 17) Tryd.func56 (by rfl) rfl (by rfl) rfl rfl ?_
  refine xc_seq (xc_region ?_)
  refine xr_op rfl rfl (xv_move rfl ?_)
  refine xr_op rfl rfl (xv_neNil0 ⟨_, Tryd.underlying20⟩ rfl ?_)
  refine xr_end rfl ?_
  refine th_n ?_
  refine xc_false rfl ?_
  refine xc_skip ?_
  refine ⟨rfl, h, (by (first|((repeat first|exact s_0|exact s_1|exact s_3|refine s_4 ?_|refine s_5 ?_|refine s_6 ?_|refine s_7 ?_);done)|((repeat first|exact s_0|exact s_1|exact s_3|refine s_4 ?_|refine s_5 ?_|refine s_6 ?_|refine s_8 ?_);done))), ?_⟩
  exact H

theorem try1_pan {pe : Nat} {h h2 : Hp} {v : Value} {R : Ending → FrameMode → Hp → Prop} (he : Upd h pe (.cells ⟨[v]⟩ 25 (0, 0)) (.cells ⟨[I 8]⟩ 25 (0, 0)) h2)
    (H : R (.returned (.tuple #[])) (.panicking [{ v := .iface 108 (.agg #[.int .i64 8]), recovered := true }]) h2) : DCalls Tryd.prog 56 ⟨[.pointer (some ⟨pe, 0, none⟩)]⟩ (.panicking mis) h R := by
  refine dcalls_rec (N := 17) Tryd.func56 (by rfl) rfl (by rfl) rfl rfl ?_
  refine xc_seq (xc_region ?_)
  refine xr_op rfl rfl (xv_move rfl ?_)
  refine xr_op rfl rfl (xv_neNil ⟨_, Tryd.underlying20⟩ rfl rfl ?_)
  refine xr_end rfl ?_
  refine th_n ?_
  refine xc_true rfl ?_
  refine xc_seq (xc_region ?_)
  refine xr_op rfl rfl (xv_move rfl ?_)
  refine xr_op rfl rfl (xv_assertOk ty108 rfl rfl ?_)
  refine xr_op rfl rfl (xv_move rfl ?_)
  refine xr_op rfl rfl (xv_extract rfl rfl ?_)
  refine xr_op rfl rfl (xv_extract rfl rfl ?_)
  refine xr_op rfl rfl (xv_alloc ty108 (fun b1 hb1 => ?_))
  refine xr_op rfl rfl (xv_s ty108 rfl rfl (by (first|(apply u_3;(repeat first|exact u_0|assumption|apply u_1|apply u_2);done)|((repeat first|exact u_0|assumption|apply u_1|apply u_2);done)|(apply u_3;apply u_3;(repeat first|exact u_0|assumption|apply u_1|apply u_2);done)|((repeat first|exact u_0|assumption|apply u_3|apply u_1);done))) (by ((try apply evl_some rfl);(repeat (first|exact (rfl : _ = [])|apply evl_cons rfl (by (first|exact v_1|exact v_2|exact v_3|exact v_4|exact v_5|exact v_6|exact v_7|exact v_8|exact v_9|exact rfl))|exact rfl)))) (by rfl) (by rfl) (by rfl) (by ((try apply evl_some rfl);(repeat (first|exact (rfl : _ = [])|apply evl_cons rfl (by (first|exact v_1|exact v_2|exact v_3|exact v_4|exact v_5|exact v_6|exact v_7|exact v_8|exact v_9|exact rfl))|exact rfl)))) ?_)
  refine xr_op rfl rfl (xv_assign rfl ?_)
  refine xr_end rfl ?_
  refine th_n ?_
  refine xc_seq ?_
  refine xc_seq (xc_region ?_)
  refine xr_op rfl rfl (xv_move rfl ?_)
  refine xr_op rfl rfl (xv_not rfl ?_)
  refine xr_end rfl ?_
  refine th_n ?_
  refine xc_false rfl ?_
  refine xc_skip ?_
  refine th_n ?_
  refine xc_region ?_
  refine xr_op rfl rfl (xv_faddr fl108_0 rfl ?_)
  refine xr_op rfl rfl (xv_load1 ty25 rfl rfl (by ((repeat first|exact z_0|assumption|refine z_1 ?_|(refine z_l ?_;(repeat first|exact z_0|assumption|refine z_1 ?_);done)|refine z_r ?_);done)) (by rfl) ?_)
  refine xr_op rfl rfl (xv_s1 ty25 rfl rfl rfl (.there he) (by (first | rfl | exact Vec.one _ _)) (by (first | decide | exact Nat.le_of_ble_eq_true rfl | (simp only [List.length_cons, List.length_nil]; omega) | (simp; done))) rfl ?_)
  refine xr_end rfl ?_
  refine ⟨rfl, h2, (by (first|((repeat first|exact s_0|exact s_1|exact s_3|refine s_4 ?_|refine s_5 ?_|refine s_6 ?_|refine s_7 ?_);done)|((repeat first|exact s_0|exact s_1|exact s_3|refine s_4 ?_|refine s_5 ?_|refine s_6 ?_|refine s_8 ?_);done))), ?_⟩
  exact H

theorem try_call {f : Value} {h : Hp} {R : Ending → Hp → Prop} (hf : ∀ be (R' : Ending → Hp → Prop), be ∉ keys h → (∀ h2, R (.returned (I 0)) h2 → R' (.returned (.tuple #[])) ((be, .cells ⟨[I 0]⟩ 25 (0, 0)) :: h2)) → (∀ h2, R (.returned (I 8)) h2 → R' (.panicked mis) ((be, .cells ⟨[I 0]⟩ 25 (0, 0)) :: h2)) → AFn Tryd.prog f [] ((be, .cells ⟨[I 0]⟩ 25 (0, 0)) :: h) R') :
    ACalls Tryd.prog 30 ⟨[f]⟩ h R := by
  refine calls_of_xcD (N := 6) Tryd.func30 rfl (by rfl) ?_
  refine xc_seq (xc_region ?_)
  refine xr_op rfl rfl (xv_alloc ty25 (fun be hbe => ?_))
  refine xr_end rfl ?_
  refine th_n ?_
  refine xc_seq (xc_region ?_)
  refine xr_op rfl rfl (xv_func rfl rfl ?_)
  refine xr_defer rfl rfl rfl rfl ?_
  refine xr_end rfl ?_
  refine th_n ?_
  refine xc_seq (xc_region ?_)
  refine xr_op rfl rfl (xv_move rfl ?_)
  refine xr_op rfl rfl (xv_fn rfl rfl (hf be _ hbe (fun h2 hR => up_ret ?_) (fun h2 hR => up_pan ?_)))
  · refine xr_end rfl ?_
    refine th_n ?_
    refine xc_seq (xc_region ?_)
    refine xr_op rfl rfl (xv_s1 ty25 rfl rfl rfl (by (first|(apply u_3;(repeat first|exact u_0|assumption|apply u_1|apply u_2);done)|((repeat first|exact u_0|assumption|apply u_1|apply u_2);done)|(apply u_3;apply u_3;(repeat first|exact u_0|assumption|apply u_1|apply u_2);done)|((repeat first|exact u_0|assumption|apply u_3|apply u_1);done))) (by (first | rfl | exact Vec.one _ _)) (by (first | decide | exact Nat.le_of_ble_eq_true rfl | (simp only [List.length_cons, List.length_nil]; omega) | (simp; done))) (by ((try apply evl_some rfl);(repeat (first|exact (rfl : _ = [])|apply evl_cons rfl (by (first|exact v_1|exact v_2|exact v_3|exact v_4|exact v_5|exact v_6|exact v_7|exact v_8|exact v_9|exact rfl))|exact rfl)))) ?_)
    refine xr_end rfl ?_
    refine th_n ?_
    refine xc_ret ?_
    refine ⟨by simp, 56, [_], [], rfl, hb56, try1_ret ?_⟩
    refine ⟨_, h2, (ro_cell ty25 rfl rfl (by ((repeat first|exact z_0|assumption|refine z_1 ?_|(refine z_l ?_;(repeat first|exact z_0|assumption|refine z_1 ?_);done)|refine z_r ?_);done)) (by rfl) ro_nil), (by (first|((repeat first|exact s_0|exact s_1|exact s_3|refine s_4 ?_|refine s_5 ?_|refine s_6 ?_|refine s_7 ?_);done)|((repeat first|exact s_0|exact s_1|exact s_3|refine s_4 ?_|refine s_5 ?_|refine s_6 ?_|refine s_8 ?_);done))), ?_⟩
    exact hR
  · refine th_p ?_
    refine ⟨by simp, 56, [_], [], rfl, hb56, try1_pan .here ?_⟩
    refine ⟨_, h2, (ro_cell ty25 rfl rfl (by ((repeat first|exact z_0|assumption|refine z_1 ?_|(refine z_l ?_;(repeat first|exact z_0|assumption|refine z_1 ?_);done)|refine z_r ?_);done)) (by rfl) ro_nil), (by (first|((repeat first|exact s_0|exact s_1|exact s_3|refine s_4 ?_|refine s_5 ?_|refine s_6 ?_|refine s_7 ?_);done)|((repeat first|exact s_0|exact s_1|exact s_3|refine s_4 ?_|refine s_5 ?_|refine s_6 ?_|refine s_8 ?_);done))), ?_⟩
    exact hR

end Go.Proofs.YtlpkiolopelpfaaDoor

/-
  Walks.
-/
namespace Go.Proofs.YtlpkiolopelpfaaDoor
open Go Go.H
set_option maxRecDepth 100000
set_option maxHeartbeats 8000000
set_option linter.all false
theorem rlog_c {bE bL bQ c : Nat} {a : Option Addr} {hs : List Int} {h : Hp} {R : Ending → Hp → Prop} (hq : (bQ, .cells ⟨[.pointer (some ⟨bE, 0, none⟩)]⟩ 63 (0, 0)) ∈ h) (he : EyeV h a c hs.length hs) (hl : hs.length ≤ 200000)
    (H1 : ∀ l (V : Vec), rdLog hs = some l → V.ok 2 l.length (l.flatMap eSight) → R (.returned (.tuple #[])) (V.hp 44 (l.flatMap eSight) ++ (bL, .cells ⟨[V.val l.length]⟩ 22) :: h))
    (H2 : rdLog hs = none → ∀ v h', List.Sublist ((bL, .cells ⟨[v]⟩ 22 (0, 0)) :: h) h' → R (.panicked mis) h') : ACalls Tryd.prog 31 ⟨[.pointer (some ⟨bQ, 0, none⟩), .pointer (some ⟨bL, 0, none⟩)]⟩ ((bE, .cells ⟨eEye a c hs.length hs⟩ 69) :: (bL, .cells ⟨[.slice none 0 0]⟩ 22) :: h) R := by
  refine calls_of_xc (N := 72) Tryd.func31 rfl (by rfl) ?_
  obtain ⟨tot, htot⟩ : ∃ n, hs.length = n := ⟨_, rfl⟩
  rw [htot] at he hl ⊢
  refine xc_seq (xc_region ?_)
  refine xr_op rfl rfl (xv_build bt44 rfl (by ((try apply evl_some rfl);(repeat (first|exact (rfl : _ = [])|apply evl_cons rfl (by (first|exact v_1|exact v_2|exact v_3|exact v_4|exact v_5|exact v_6|exact v_7|exact v_8|exact v_9|exact rfl))|exact rfl)))) ?_)
  refine xr_op rfl rfl (xv_alloc ty44 (fun b2 hb2 => ?_))
  refine xr_op rfl rfl (xv_s ty44 rfl rfl (by (first|(apply u_3;(repeat first|exact u_0|assumption|apply u_1|apply u_2);done)|((repeat first|exact u_0|assumption|apply u_1|apply u_2);done)|(apply u_3;apply u_3;(repeat first|exact u_0|assumption|apply u_1|apply u_2);done)|((repeat first|exact u_0|assumption|apply u_3|apply u_1);done))) (by ((try apply evl_some rfl);(repeat (first|exact (rfl : _ = [])|apply evl_cons rfl (by (first|exact v_1|exact v_2|exact v_3|exact v_4|exact v_5|exact v_6|exact v_7|exact v_8|exact v_9|exact rfl))|exact rfl)))) (by rfl) (by rfl) (by rfl) (by ((try apply evl_some rfl);(repeat (first|exact (rfl : _ = [])|apply evl_cons rfl (by (first|exact v_1|exact v_2|exact v_3|exact v_4|exact v_5|exact v_6|exact v_7|exact v_8|exact v_9|exact rfl))|exact rfl)))) ?_)
  refine xr_end rfl ?_
  refine th_n ?_
  refine xc_seq (xc_region ?_)
  refine xr_op rfl rfl (xv_load1 ty63 rfl rfl (.tail _ (.tail _ (.tail _ hq))) rfl ?_)
  refine xr_op rfl rfl (xv_calls rfl hb32 (enumP_c he (fun z9 hz9 => by ((repeat first|exact z_0|assumption|refine z_1 ?_|(refine z_l ?_;(repeat first|exact z_0|assumption|refine z_1 ?_);done)|refine z_r ?_);done)) (by omega) (List.Perm.swap _ _ _) (fun hr0 o9 => up_pan ?_) (fun cnt t0 a1 c1 hr0 he1 => up_ret ?_)))
  · refine th_p ?_
    refine body_pan ?_
    exact H2 (rdLog_0 hr0) _ _ (by (first|((repeat first|exact s_0|exact s_1|exact s_3|refine s_4 ?_|refine s_5 ?_|refine s_6 ?_|refine s_7 ?_);done)|((repeat first|exact s_0|exact s_1|exact s_3|refine s_4 ?_|refine s_5 ?_|refine s_6 ?_|refine s_8 ?_);done)))
  · refine xr_op rfl rfl (xv_assign rfl ?_)
    refine xr_end rfl ?_
    refine th_n ?_
    refine xc_seq (xc_region ?_)
    refine xr_op rfl rfl (xv_move rfl ?_)
    refine xr_op rfl rfl (xv_leq2 rfl rfl (fun hq => ?_) (fun hq => ?_))
    · refine xr_op rfl rfl (xv_calls rfl hb33 (needT_c (up_ret ?_)))
      refine xr_end rfl ?_
      refine th_n ?_
      refine xc_seq ?_
      refine xc_seq (xc_region ?_)
      have hcb := (rd_bd hr0 he.bd).1
      refine xr_op rfl rfl (xv_move rfl ?_)
      refine xr_op rfl rfl (xv_move rfl ?_)
      refine xr_end rfl ?_
      refine th_n ?_
      refine xc_block ?_
      refine xc_loop (σ := Nat × List Sight × Sight × List Int × Option Addr × Nat × Vec) (fun z => z.1 ≤ cnt.toNat ∧ (rdA cnt.toNat [] ⟨-1, 0⟩ t0) = rdA (cnt.toNat - z.1) z.2.1 z.2.2.1 z.2.2.2.1 ∧ EyeV h z.2.2.2.2.1 z.2.2.2.2.2.1 tot z.2.2.2.1 ∧ z.2.1.length = z.1 ∧ z.2.2.2.2.2.2.ok 2 z.2.1.length (z.2.1.flatMap eSight) ∧ (-1 ≤ z.2.2.1.hour ∧ z.2.2.1.hour ≤ 68719476737 * (z.1 : Int)) ∧ (-(68719476737 * (z.1 : Int)) ≤ z.2.2.1.height ∧ z.2.2.1.height ≤ 68719476737 * (z.1 : Int))) (fun z => (((((emp.put (some 0) (.pointer (some ⟨bQ, 0, none⟩))).put (some 1) (.pointer (some ⟨bL, 0, none⟩))).put (some 2) (.pointer (some ⟨b2, 0, none⟩))).put (some 11) (I cnt)).put (some 12) (I z.1))) (fun z => (z.2.2.2.2.2.2.hp 44 (z.2.1.flatMap eSight) ++ (bE, .cells ⟨eEye z.2.2.2.2.1 z.2.2.2.2.2.1 tot z.2.2.2.1⟩ 69) :: (b2, .cells ⟨eSight z.2.2.1⟩ 44) :: (bL, .cells ⟨[z.2.2.2.2.2.2.val z.2.1.length]⟩ 22) :: h)) (fun z => cnt.toNat - z.1) ((0, [], ⟨-1, 0⟩, t0, a1, c1, .nil) : Nat × List Sight × Sight × List Int × Option Addr × Nat × Vec) ⟨Nat.zero_le _, rfl, he1, rfl, ⟨rfl, rfl⟩, ⟨Int.le_refl _, by dsimp only; omega⟩, ⟨by dsimp only; omega, by dsimp only; omega⟩⟩ (le_put (le_put (le_put (le_put (le_put (le_emp _) rfl) rfl) rfl) rfl) rfl) (by (first|((repeat first|exact s_0|exact s_1|exact s_3|refine s_4 ?_|refine s_5 ?_|refine s_6 ?_|refine s_7 ?_);done)|((repeat first|exact s_0|exact s_1|exact s_3|refine s_4 ?_|refine s_5 ?_|refine s_6 ?_|refine s_8 ?_);done))) ?_
      rintro ⟨k, acc, x, hs2, a2, c2, V⟩ ⟨hk, hrd, he2, hal, hV, hxh, hxy⟩
      dsimp only at hk hrd he2 hal hV hxh hxy
      refine xc_seq (xc_region ?_)
      refine xr_op rfl rfl (xv_lss2 rfl rfl (fun q1 => ?_) (fun q1 => ?_))
      · refine xr_end rfl ?_
        refine th_n ?_
        refine xc_seq ?_
        refine xc_true rfl ?_
        refine xc_skip ?_
        refine th_n ?_
        refine xc_seq ?_
        refine xc_block ?_
        refine xc_seq ?_
        refine xc_drawX0 [(1, [(b2, fun o => o = .cells ⟨eSight x⟩ 44 (0, 0))])] [(0, .S), (1, .S), (2, .R), (3, .O), (4, .S), (5, .S), (6, .S), (7, .O)] mixed (by kernel_rfl) (iv_cons (holds1 (by ((repeat first|exact z_0|assumption|refine z_1 ?_|(refine z_l ?_;(repeat first|exact z_0|assumption|refine z_1 ?_);done)|refine z_r ?_);done)) rfl) iv_nil) ?_
        have hsb : cnt.toNat - k = (cnt.toNat - (k + 1)) + 1 := by (first|omega|(dsimp only at *;omega)|(simp at *;omega))
        refine jx_S rfl rfl (.inl rfl) (xv_faddr fl44_0 rfl ⟨rfl, rfl⟩) ?_
        refine jx_I rfl rfl (.inl rfl) (fun hh hv => by have hv2 : Holds [(b2, fun o => o = .cells ⟨eSight x⟩ 44 (0, 0))] hh := hv; obtain ⟨o9, hm9, e9⟩ := hv2 _ _ List.mem_cons_self; subst e9; exact xv_load1 ty3 rfl rfl hm9 rfl ⟨rfl, rfl⟩) ?_
        refine jx_R rfl rfl (.inl rfl) (xv_load1 ty63 rfl rfl (by ((repeat first|exact z_0|assumption|refine z_1 ?_|(refine z_l ?_;(repeat first|exact z_0|assumption|refine z_1 ?_);done)|refine z_r ?_);done)) rfl ⟨rfl, rfl⟩) ?_
        refine jx_O rfl rfl (.inl rfl) (xv_calls rfl hb32 (enumP_c he2 (fun z9 hz9 => by ((repeat first|exact z_0|assumption|refine z_1 ?_|(refine z_l ?_;(repeat first|exact z_0|assumption|refine z_1 ?_);done)|refine z_r ?_);done)) (by omega) List.perm_middle.symm (fun hr1 o9 => up_pan ?_) (fun p t1 a3 c3 hr1 he3 => up_ret ?_)))
        · refine jp_p ?_
          refine th_p ?_
          refine bk_p ?_
          refine th_p ?_
          refine th_p ?_
          refine bk_p ?_
          refine th_p ?_
          refine body_pan ?_
          exact H2 (rdLog_2 hr0 (by (first|omega|(dsimp only at *;omega)|(simp at *;omega))) (by rw [hrd, hsb, rdA_0 hr1])) _ _ (by (first|((repeat first|exact s_0|exact s_1|exact s_3|refine s_4 ?_|refine s_5 ?_|refine s_6 ?_|refine s_7 ?_);done)|((repeat first|exact s_0|exact s_1|exact s_3|refine s_4 ?_|refine s_5 ?_|refine s_6 ?_|refine s_8 ?_);done)))
        · refine ⟨(kp_in (holds1 (by ((repeat first|exact z_0|assumption|refine z_1 ?_|(refine z_l ?_;(repeat first|exact z_0|assumption|refine z_1 ?_);done)|refine z_r ?_);done)) rfl) kp_nil), ?_⟩
          have hpb := (rd_bd hr1 he2.bd).1
          refine jx_S rfl rfl (.inl rfl) (xv_add rfl rfl (wrap_i64 (by (first|omega|(dsimp only at *;omega)|(simp at *;omega))) (by (first|omega|(dsimp only at *;omega)|(simp at *;omega)))) ⟨rfl, rfl⟩) ?_
          refine jx_S rfl rfl (.inl rfl) (xv_add rfl rfl (wrap_i64 (by (first|omega|(dsimp only at *;omega)|(simp at *;omega))) (by (first|omega|(dsimp only at *;omega)|(simp at *;omega)))) ⟨rfl, rfl⟩) ?_
          refine jx_S rfl rfl (.inl rfl) (xv_faddr fl44_0 rfl ⟨rfl, rfl⟩) ?_
          refine jx_O rfl rfl (.inl rfl) (xv_s1 ty3 rfl rfl rfl (by (first|(apply u_3;(repeat first|exact u_0|assumption|apply u_1|apply u_2);done)|((repeat first|exact u_0|assumption|apply u_1|apply u_2);done)|(apply u_3;apply u_3;(repeat first|exact u_0|assumption|apply u_1|apply u_2);done)|((repeat first|exact u_0|assumption|apply u_3|apply u_1);done))) (by (first | rfl | exact Vec.one _ _)) (by (first | decide | exact Nat.le_of_ble_eq_true rfl | (simp only [List.length_cons, List.length_nil]; omega) | (simp; done))) (by ((try apply evl_some rfl);(repeat (first|exact (rfl : _ = [])|apply evl_cons rfl (by (first|exact v_1|exact v_2|exact v_3|exact v_4|exact v_5|exact v_6|exact v_7|exact v_8|exact v_9|exact rfl))|exact rfl)))) ?_)
          refine ⟨(kp_go (by kernel_rfl) kp_nil), ?_⟩
          refine jx_end ?_
          refine th_n ?_
          refine xc_seq ?_
          refine xc_seq (xc_region ?_)
          refine xr_op rfl rfl (xv_load1 ty63 rfl rfl (by ((repeat first|exact z_0|assumption|refine z_1 ?_|(refine z_l ?_;(repeat first|exact z_0|assumption|refine z_1 ?_);done)|refine z_r ?_);done)) rfl ?_)
          refine xr_op rfl rfl (xv_calls rfl hb32 (enum_c he3 (fun z9 hz9 => by ((repeat first|exact z_0|assumption|refine z_1 ?_|(refine z_l ?_;(repeat first|exact z_0|assumption|refine z_1 ?_);done)|refine z_r ?_);done)) (by omega) (fun hr2 o9 => up_pan ?_) (fun d t2 a4 c4 hr2 he4 => up_ret ?_)))
          · refine th_p ?_
            refine th_p ?_
            refine bk_p ?_
            refine th_p ?_
            refine th_p ?_
            refine bk_p ?_
            refine th_p ?_
            refine body_pan ?_
            exact H2 (rdLog_2 hr0 (by (first|omega|(dsimp only at *;omega)|(simp at *;omega))) (by rw [hrd, hsb, rdA_1 hr1 hr2])) _ _ (by (first|((repeat first|exact s_0|exact s_1|exact s_3|refine s_4 ?_|refine s_5 ?_|refine s_6 ?_|refine s_7 ?_);done)|((repeat first|exact s_0|exact s_1|exact s_3|refine s_4 ?_|refine s_5 ?_|refine s_6 ?_|refine s_8 ?_);done)))
          · refine xr_op rfl rfl (xv_assign rfl ?_)
            refine xr_end rfl ?_
            refine th_n ?_
            refine xc_seq (xc_region ?_)
            have hdb := (rd_bd hr2 he3.bd).1
            refine xr_op rfl rfl (xv_move rfl ?_)
            refine xr_op rfl rfl (xv_rem (c := d % 2) rfl rfl (by decide) (Int.tmod_eq_emod_of_nonneg (by omega)) ?_)
            refine xr_op rfl rfl (xv_eql2 rfl rfl (fun q2 => ?_) (fun q2 => ?_))
            · refine xr_end rfl ?_
              refine th_n ?_
              refine xc_true rfl ?_
              refine xc_region ?_
              refine xr_op rfl rfl (xv_faddr fl44_1 rfl ?_)
              refine xr_op rfl rfl (xv_load1 ty3 rfl rfl (by ((repeat first|exact z_0|assumption|refine z_1 ?_|(refine z_l ?_;(repeat first|exact z_0|assumption|refine z_1 ?_);done)|refine z_r ?_);done)) (by rfl) ?_)
              refine xr_op rfl rfl (xv_move rfl ?_)
              refine xr_op rfl rfl (xv_quo (c := d / 2) rfl rfl (by decide) (by rw [Int.tdiv_eq_ediv_of_nonneg (by omega)]; exact wrap_i64 (by omega) (by omega)) ?_)
              refine xr_op rfl rfl (xv_add rfl rfl (wrap_i64 (by (first|omega|(dsimp only at *;omega)|(simp at *;omega))) (by (first|omega|(dsimp only at *;omega)|(simp at *;omega)))) ?_)
              refine xr_op rfl rfl (xv_faddr fl44_1 rfl ?_)
              refine xr_op rfl rfl (xv_s1 ty3 rfl rfl rfl (by (first|(apply u_3;(repeat first|exact u_0|assumption|apply u_1|apply u_2);done)|((repeat first|exact u_0|assumption|apply u_1|apply u_2);done)|(apply u_3;apply u_3;(repeat first|exact u_0|assumption|apply u_1|apply u_2);done)|((repeat first|exact u_0|assumption|apply u_3|apply u_1);done))) (by (first | rfl | exact Vec.one _ _)) (by (first | decide | exact Nat.le_of_ble_eq_true rfl | (simp only [List.length_cons, List.length_nil]; omega) | (simp; done))) (by ((try apply evl_some rfl);(repeat (first|exact (rfl : _ = [])|apply evl_cons rfl (by (first|exact v_1|exact v_2|exact v_3|exact v_4|exact v_5|exact v_6|exact v_7|exact v_8|exact v_9|exact rfl))|exact rfl)))) ?_)
              refine xr_end rfl ?_
              refine th_n ?_
              refine xc_region ?_
              have enx : nxS x p d = ⟨x.hour + (p + 1), x.height + d / 2⟩ := by unfold nxS; rw [if_pos (by omega)]
              refine xr_op rfl rfl (xv_load1 ty22 rfl rfl (by ((repeat first|exact z_0|assumption|refine z_1 ?_|(refine z_l ?_;(repeat first|exact z_0|assumption|refine z_1 ?_);done)|refine z_r ?_);done)) (by rfl) ?_)
              refine xr_op rfl rfl (xv_loadA ty44 rfl rfl (by ((repeat first|exact z_0|assumption|refine z_1 ?_|(refine z_l ?_;(repeat first|exact z_0|assumption|refine z_1 ?_);done)|refine z_r ?_);done)) (by ((try apply evl_some rfl);(repeat (first|exact (rfl : _ = [])|apply evl_cons rfl (by (first|exact v_1|exact v_2|exact v_3|exact v_4|exact v_5|exact v_6|exact v_7|exact v_8|exact v_9|exact rfl))|exact rfl)))) (by rfl) ?_)
              refine xr_op rfl rfl ((al_buildSlice sl22 ty44 rfl rfl rfl rfl rfl (by ((try apply evl_some rfl);(repeat (first|exact (rfl : _ = [])|apply evl_cons rfl (by (first|exact v_1|exact v_2|exact v_3|exact v_4|exact v_5|exact v_6|exact v_7|exact v_8|exact v_9|exact rfl))|exact rfl))))).xv (fun b3 hb3 => ?_))
              refine xr_op rfl rfl (xv_append (V := V) (n := acc.length) (xs := acc.flatMap eSight) sl22 ty44 rfl rfl rfl hV (.there (.there .here)) (by ((repeat first|exact z_0|assumption|refine z_1 ?_|(refine z_l ?_;(repeat first|exact z_0|assumption|refine z_1 ?_);done)|refine z_r ?_);done)) (by ((try apply evl_some rfl);(repeat (first|exact (rfl : _ = [])|apply evl_cons rfl (by (first|exact v_1|exact v_2|exact v_3|exact v_4|exact v_5|exact v_6|exact v_7|exact v_8|exact v_9|exact rfl))|exact rfl)))) rfl rfl (by omega) (by simp only []; omega) (by omega) (fun V9 hV9 => ?_))
              refine xr_op rfl rfl (xv_s1 ty22 rfl rfl rfl (by (first|(apply u_3;(repeat first|exact u_0|assumption|apply u_1|apply u_2);done)|((repeat first|exact u_0|assumption|apply u_1|apply u_2);done)|(apply u_3;apply u_3;(repeat first|exact u_0|assumption|apply u_1|apply u_2);done)|((repeat first|exact u_0|assumption|apply u_3|apply u_1);done))) (by (first | rfl | exact Vec.one _ _)) (by (first | decide | exact Nat.le_of_ble_eq_true rfl | (simp only [List.length_cons, List.length_nil]; omega) | (simp; done))) (by ((try apply evl_some rfl);(repeat (first|exact (rfl : _ = [])|apply evl_cons rfl (by (first|exact v_1|exact v_2|exact v_3|exact v_4|exact v_5|exact v_6|exact v_7|exact v_8|exact v_9|exact rfl))|exact rfl)))) ?_)
              refine xr_end rfl ?_
              refine bk_n ?_
              refine th_n ?_
              refine xc_region ?_
              refine xr_op rfl rfl (xv_add rfl rfl (wrap_i64 (by (first|omega|(dsimp only at *;omega)|(simp at *;omega))) (by (first|omega|(dsimp only at *;omega)|(simp at *;omega)))) ?_)
              refine xr_op rfl rfl (xv_move rfl ?_)
              refine xr_end rfl ?_
              have es9 : (acc ++ [nxS x p d]).flatMap eSight = acc.flatMap eSight ++ [I (x.hour + (p + 1)), I (x.height + d / 2)] := by rw [List.flatMap_append, enx]; rfl
              have es8 : eSight (nxS x p d) = [I (x.hour + (p + 1)), I (x.height + d / 2)] := by rw [enx]; rfl
              have es7 : (acc ++ [nxS x p d]).length = acc.length + 1 := by rw [List.length_append]; rfl
              exact rnd ((k + 1, acc ++ [nxS x p d], nxS x p d, t2, a4, c4, V9) : Nat × List Sight × Sight × List Int × Option Addr × Nat × Vec) ⟨by (first|omega|(dsimp only at *;omega)|(simp at *;omega)), by dsimp only; rw [hrd, hsb, rdA_2 hr1 hr2], he4, by simp [hal], by dsimp only; rw [es7, es9]; exact hV9, by dsimp only; rw [enx]; dsimp only; push_cast; omega, by dsimp only; rw [enx]; dsimp only; push_cast; omega⟩ (by (first|omega|(dsimp only at *;omega)|(simp at *;omega))) (le_put (le_put (le_put (le_put (le_put (le_emp _) rfl) rfl) rfl) rfl) rfl) (by dsimp only; rw [es9, es8, es7]; (first|((repeat first|exact s_0|exact s_1|exact s_3|refine s_4 ?_|refine s_5 ?_|refine s_6 ?_|refine s_7 ?_);done)|((repeat first|exact s_0|exact s_1|exact s_3|refine s_4 ?_|refine s_5 ?_|refine s_6 ?_|refine s_8 ?_);done)))
            · refine xr_end rfl ?_
              refine th_n ?_
              refine xc_false rfl ?_
              refine xc_region ?_
              refine xr_op rfl rfl (xv_faddr fl44_1 rfl ?_)
              refine xr_op rfl rfl (xv_load1 ty3 rfl rfl (by ((repeat first|exact z_0|assumption|refine z_1 ?_|(refine z_l ?_;(repeat first|exact z_0|assumption|refine z_1 ?_);done)|refine z_r ?_);done)) (by rfl) ?_)
              refine xr_op rfl rfl (xv_move rfl ?_)
              refine xr_op rfl rfl (xv_add rfl rfl (wrap_i64 (by (first|omega|(dsimp only at *;omega)|(simp at *;omega))) (by (first|omega|(dsimp only at *;omega)|(simp at *;omega)))) ?_)
              refine xr_op rfl rfl (xv_quo (c := (d + 1) / 2) rfl rfl (by decide) (by rw [Int.tdiv_eq_ediv_of_nonneg (by omega)]; exact wrap_i64 (by omega) (by omega)) ?_)
              refine xr_op rfl rfl (xv_sub rfl rfl (wrap_i64 (by (first|omega|(dsimp only at *;omega)|(simp at *;omega))) (by (first|omega|(dsimp only at *;omega)|(simp at *;omega)))) ?_)
              refine xr_op rfl rfl (xv_faddr fl44_1 rfl ?_)
              refine xr_op rfl rfl (xv_s1 ty3 rfl rfl rfl (by (first|(apply u_3;(repeat first|exact u_0|assumption|apply u_1|apply u_2);done)|((repeat first|exact u_0|assumption|apply u_1|apply u_2);done)|(apply u_3;apply u_3;(repeat first|exact u_0|assumption|apply u_1|apply u_2);done)|((repeat first|exact u_0|assumption|apply u_3|apply u_1);done))) (by (first | rfl | exact Vec.one _ _)) (by (first | decide | exact Nat.le_of_ble_eq_true rfl | (simp only [List.length_cons, List.length_nil]; omega) | (simp; done))) (by ((try apply evl_some rfl);(repeat (first|exact (rfl : _ = [])|apply evl_cons rfl (by (first|exact v_1|exact v_2|exact v_3|exact v_4|exact v_5|exact v_6|exact v_7|exact v_8|exact v_9|exact rfl))|exact rfl)))) ?_)
              refine xr_end rfl ?_
              refine th_n ?_
              refine xc_region ?_
              have enx : nxS x p d = ⟨x.hour + (p + 1), x.height - (d + 1) / 2⟩ := by unfold nxS; rw [if_neg (by omega)]
              refine xr_op rfl rfl (xv_load1 ty22 rfl rfl (by ((repeat first|exact z_0|assumption|refine z_1 ?_|(refine z_l ?_;(repeat first|exact z_0|assumption|refine z_1 ?_);done)|refine z_r ?_);done)) (by rfl) ?_)
              refine xr_op rfl rfl (xv_loadA ty44 rfl rfl (by ((repeat first|exact z_0|assumption|refine z_1 ?_|(refine z_l ?_;(repeat first|exact z_0|assumption|refine z_1 ?_);done)|refine z_r ?_);done)) (by ((try apply evl_some rfl);(repeat (first|exact (rfl : _ = [])|apply evl_cons rfl (by (first|exact v_1|exact v_2|exact v_3|exact v_4|exact v_5|exact v_6|exact v_7|exact v_8|exact v_9|exact rfl))|exact rfl)))) (by rfl) ?_)
              refine xr_op rfl rfl ((al_buildSlice sl22 ty44 rfl rfl rfl rfl rfl (by ((try apply evl_some rfl);(repeat (first|exact (rfl : _ = [])|apply evl_cons rfl (by (first|exact v_1|exact v_2|exact v_3|exact v_4|exact v_5|exact v_6|exact v_7|exact v_8|exact v_9|exact rfl))|exact rfl))))).xv (fun b4 hb4 => ?_))
              refine xr_op rfl rfl (xv_append (V := V) (n := acc.length) (xs := acc.flatMap eSight) sl22 ty44 rfl rfl rfl hV (.there (.there .here)) (by ((repeat first|exact z_0|assumption|refine z_1 ?_|(refine z_l ?_;(repeat first|exact z_0|assumption|refine z_1 ?_);done)|refine z_r ?_);done)) (by ((try apply evl_some rfl);(repeat (first|exact (rfl : _ = [])|apply evl_cons rfl (by (first|exact v_1|exact v_2|exact v_3|exact v_4|exact v_5|exact v_6|exact v_7|exact v_8|exact v_9|exact rfl))|exact rfl)))) rfl rfl (by omega) (by simp only []; omega) (by omega) (fun V9 hV9 => ?_))
              refine xr_op rfl rfl (xv_s1 ty22 rfl rfl rfl (by (first|(apply u_3;(repeat first|exact u_0|assumption|apply u_1|apply u_2);done)|((repeat first|exact u_0|assumption|apply u_1|apply u_2);done)|(apply u_3;apply u_3;(repeat first|exact u_0|assumption|apply u_1|apply u_2);done)|((repeat first|exact u_0|assumption|apply u_3|apply u_1);done))) (by (first | rfl | exact Vec.one _ _)) (by (first | decide | exact Nat.le_of_ble_eq_true rfl | (simp only [List.length_cons, List.length_nil]; omega) | (simp; done))) (by ((try apply evl_some rfl);(repeat (first|exact (rfl : _ = [])|apply evl_cons rfl (by (first|exact v_1|exact v_2|exact v_3|exact v_4|exact v_5|exact v_6|exact v_7|exact v_8|exact v_9|exact rfl))|exact rfl)))) ?_)
              refine xr_end rfl ?_
              refine bk_n ?_
              refine th_n ?_
              refine xc_region ?_
              refine xr_op rfl rfl (xv_add rfl rfl (wrap_i64 (by (first|omega|(dsimp only at *;omega)|(simp at *;omega))) (by (first|omega|(dsimp only at *;omega)|(simp at *;omega)))) ?_)
              refine xr_op rfl rfl (xv_move rfl ?_)
              refine xr_end rfl ?_
              have es9 : (acc ++ [nxS x p d]).flatMap eSight = acc.flatMap eSight ++ [I (x.hour + (p + 1)), I (x.height - (d + 1) / 2)] := by rw [List.flatMap_append, enx]; rfl
              have es8 : eSight (nxS x p d) = [I (x.hour + (p + 1)), I (x.height - (d + 1) / 2)] := by rw [enx]; rfl
              have es7 : (acc ++ [nxS x p d]).length = acc.length + 1 := by rw [List.length_append]; rfl
              exact rnd ((k + 1, acc ++ [nxS x p d], nxS x p d, t2, a4, c4, V9) : Nat × List Sight × Sight × List Int × Option Addr × Nat × Vec) ⟨by (first|omega|(dsimp only at *;omega)|(simp at *;omega)), by dsimp only; rw [hrd, hsb, rdA_2 hr1 hr2], he4, by simp [hal], by dsimp only; rw [es7, es9]; exact hV9, by dsimp only; rw [enx]; dsimp only; push_cast; omega, by dsimp only; rw [enx]; dsimp only; push_cast; omega⟩ (by (first|omega|(dsimp only at *;omega)|(simp at *;omega))) (le_put (le_put (le_put (le_put (le_put (le_emp _) rfl) rfl) rfl) rfl) rfl) (by dsimp only; rw [es9, es8, es7]; (first|((repeat first|exact s_0|exact s_1|exact s_3|refine s_4 ?_|refine s_5 ?_|refine s_6 ?_|refine s_7 ?_);done)|((repeat first|exact s_0|exact s_1|exact s_3|refine s_4 ?_|refine s_5 ?_|refine s_6 ?_|refine s_8 ?_);done)))
      · refine xr_end rfl ?_
        refine th_n ?_
        refine xc_seq ?_
        refine xc_false rfl ?_
        refine xc_exit ?_
        refine th_x ?_
        refine th_x ?_
        refine bk_same ?_
        refine th_n ?_
        refine xc_seq ?_
        refine xc_drawX0 [(6, [(bL, fun o => o = .cells ⟨[V.val acc.length]⟩ 22 (0, 0))])] [(0, .R), (1, .R), (2, .O), (3, .S), (4, .R), (6, .S), (5, .O), (7, .R), (8, .O), (9, .S), (10, .O)] mixed (by kernel_rfl) (iv_cons (holds1 (by ((repeat first|exact z_0|assumption|refine z_1 ?_|(refine z_l ?_;(repeat first|exact z_0|assumption|refine z_1 ?_);done)|refine z_r ?_);done)) rfl) iv_nil) ?_
        obtain rfl : k = cnt.toNat := by (first|omega|(dsimp only at *;omega)|(simp at *;omega))
        have hrA : (rdA cnt.toNat [] ⟨-1, 0⟩ t0) = some (acc, hs2) := by rw [hrd, Nat.sub_self]; rfl
        have hb9 := (rd_bd hr0 he.bd)
        refine jx_R rfl rfl (.inl rfl) (xv_load1 ty22 rfl rfl (by ((repeat first|exact z_0|assumption|refine z_1 ?_|(refine z_l ?_;(repeat first|exact z_0|assumption|refine z_1 ?_);done)|refine z_r ?_);done)) (show _ = some (.slice V.ad acc.length V.cp) by rw [← Vec.val_ad hV]; rfl) ⟨rfl, rfl⟩) ?_
        refine jx_R rfl rfl (.inl rfl) (xv_calls rfl hb17 (errSight_c (xs := acc) (Vec.slvA eSight_len rfl hV |>.sub (by intro z9 hz9; ((repeat first|exact z_0|assumption|refine z_1 ?_|(refine z_l ?_;(repeat first|exact z_0|assumption|refine z_1 ?_);done)|refine z_r ?_);done))) (by omega) (up_ret ⟨rfl, rfl⟩))) ?_
        refine jx_O rfl rfl (.inl rfl) (xv_eql2 rfl rfl (fun hq => ?_) (fun hq => ?_))
        · refine ⟨(kp_in (holds1 (by ((repeat first|exact z_0|assumption|refine z_1 ?_|(refine z_l ?_;(repeat first|exact z_0|assumption|refine z_1 ?_);done)|refine z_r ?_);done)) rfl) kp_nil), ?_⟩
          refine jx_S rfl rfl (.inl rfl) (xv_move rfl ⟨rfl, rfl⟩) ?_
          obtain ⟨hl60, hok, has9⟩ := errL_is (show errL 60 sightOk ltSight acc = 0 by omega)
          refine jx_R rfl rfl (.inr ⟨_, _, rfl, rfl⟩) (xv_load1 ty63 rfl rfl (by ((repeat first|exact z_0|assumption|refine z_1 ?_|(refine z_l ?_;(repeat first|exact z_0|assumption|refine z_1 ?_);done)|refine z_r ?_);done)) (by rfl) ⟨rfl, rfl⟩) ?_
          refine jx_I rfl rfl (.inr ⟨_, _, rfl, rfl⟩) (fun hh hv => by have hv2 : Holds [(bL, fun o => o = .cells ⟨[V.val acc.length]⟩ 22 (0, 0))] hh := hv; obtain ⟨o9, hm9, e9⟩ := hv2 _ _ List.mem_cons_self; subst e9; exact xv_load1 ty22 rfl rfl hm9 (show _ = some (.slice V.ad acc.length V.cp) by rw [← Vec.val_ad hV]; rfl) ⟨rfl, rfl⟩) ?_
          refine jx_O rfl rfl (.inr ⟨_, _, rfl, rfl⟩) (xv_calls rfl hb32 (enumP_c he2 (fun z9 hz9 => by ((repeat first|exact z_0|assumption|refine z_1 ?_|(refine z_l ?_;(repeat first|exact z_0|assumption|refine z_1 ?_);done)|refine z_r ?_);done)) (by omega) List.perm_middle.symm (fun hr3 o9 => up_pan ?_) (fun ck t3 a5 c5 hr3 he5 => up_ret ?_)))
          · refine jp_p ?_
            refine th_p ?_
            refine body_pan ?_
            exact H2 (rdLog_4 hr0 (by (first|omega|(dsimp only at *;omega)|(simp at *;omega))) hrA (by (first|omega|(dsimp only at *;omega)|(simp at *;omega))) hr3) _ _ (by (first|((repeat first|exact s_0|exact s_1|exact s_3|refine s_4 ?_|refine s_5 ?_|refine s_6 ?_|refine s_7 ?_);done)|((repeat first|exact s_0|exact s_1|exact s_3|refine s_4 ?_|refine s_5 ?_|refine s_6 ?_|refine s_8 ?_);done)))
          · refine ⟨(kp_in (holds1 (by ((repeat first|exact z_0|assumption|refine z_1 ?_|(refine z_l ?_;(repeat first|exact z_0|assumption|refine z_1 ?_);done)|refine z_r ?_);done)) rfl) kp_nil), ?_⟩
            refine jx_R rfl rfl (.inr ⟨_, _, rfl, rfl⟩) (xv_calls rfl hb22 (check_c (xs := acc) (Vec.slvA eSight_len rfl hV |>.sub (by intro z9 hz9; ((repeat first|exact z_0|assumption|refine z_1 ?_|(refine z_l ?_;(repeat first|exact z_0|assumption|refine z_1 ?_);done)|refine z_r ?_);done))) hok hl60 (up_ret ⟨rfl, rfl⟩))) ?_
            refine jx_O rfl rfl (.inr ⟨_, _, rfl, rfl⟩) (xv_eql2 rfl rfl (fun hq => ?_) (fun hq => ?_))
            · refine ⟨(kp_go (by kernel_rfl) kp_nil), ?_⟩
              refine jx_S rfl rfl (.inl rfl) (xv_pick rfl rfl ⟨rfl, rfl⟩) ?_
              refine jx_O rfl rfl (.inl rfl) (xv_calls rfl hb33 (needT_c (up_ret ?_)))
              refine ⟨(kp_go (by kernel_rfl) kp_nil), ?_⟩
              refine jx_end ?_
              refine th_n ?_
              refine xc_seq ?_
              refine xc_seq (xc_region ?_)
              have htt := he5.tot
              refine xr_op rfl rfl (xv_load1 ty63 rfl rfl (by ((repeat first|exact z_0|assumption|refine z_1 ?_|(refine z_l ?_;(repeat first|exact z_0|assumption|refine z_1 ?_);done)|refine z_r ?_);done)) (by rfl) ?_)
              refine xr_op rfl rfl (xv_nilp rfl ?_)
              refine xr_op rfl rfl (xv_faddr fl69_1 rfl ?_)
              refine xr_op rfl rfl (xv_load1 ty3 rfl rfl (by ((repeat first|exact z_0|assumption|refine z_1 ?_|(refine z_l ?_;(repeat first|exact z_0|assumption|refine z_1 ?_);done)|refine z_r ?_);done)) (by rfl) ?_)
              refine xr_op rfl rfl (xv_rem (c := ((tot : Int) - t3.length) % 2) rfl rfl (by decide) (Int.tmod_eq_emod_of_nonneg (by omega)) ?_)
              refine xr_op rfl rfl (xv_eql2 rfl rfl (fun q5 => ?_) (fun q5 => ?_))
              · refine xr_end rfl ?_
                refine th_n ?_
                refine xc_true rfl ?_
                refine xc_region ?_
                have hodd : ((tot : Int) - (t3.length : Nat)) % 2 = 1 := by (first|omega|(dsimp only at *;omega)|(simp at *;omega))
                refine xr_op rfl rfl (xv_load1 ty63 rfl rfl (by ((repeat first|exact z_0|assumption|refine z_1 ?_|(refine z_l ?_;(repeat first|exact z_0|assumption|refine z_1 ?_);done)|refine z_r ?_);done)) (by rfl) ?_)
                refine xr_op rfl rfl (xv_calls rfl hb34 (ehalf_c he5 (fun z9 hz9 => by ((repeat first|exact z_0|assumption|refine z_1 ?_|(refine z_l ?_;(repeat first|exact z_0|assumption|refine z_1 ?_);done)|refine z_r ?_);done)) (by omega) (fun hnil => up_pan ?_) (fun x6 t6 hxt he6 => up_ret ?_)))
                · refine th_p ?_
                  refine body_pan ?_
                  exact H2 (rdLog_5 hr0 (by (first|omega|(dsimp only at *;omega)|(simp at *;omega))) hrA (by (first|omega|(dsimp only at *;omega)|(simp at *;omega))) hr3 (fun h8 => (by subst hnil; have h7 := h8.2; rw [htot] at h7; exact end_1 hodd h7))) _ _ (by (first|((repeat first|exact s_0|exact s_1|exact s_3|refine s_4 ?_|refine s_5 ?_|refine s_6 ?_|refine s_7 ?_);done)|((repeat first|exact s_0|exact s_1|exact s_3|refine s_4 ?_|refine s_5 ?_|refine s_6 ?_|refine s_8 ?_);done)))
                · subst hxt
                  refine xr_op rfl rfl (xv_eql2 rfl rfl (fun hq => ?_) (fun hq => ?_))
                  · refine xr_op rfl rfl (xv_calls rfl hb33 (needT_c (up_ret ?_)))
                    refine xr_end rfl ?_
                    refine th_n ?_
                    refine xc_region ?_
                    refine xr_op rfl rfl (xv_load1 ty63 rfl rfl (by ((repeat first|exact z_0|assumption|refine z_1 ?_|(refine z_l ?_;(repeat first|exact z_0|assumption|refine z_1 ?_);done)|refine z_r ?_);done)) (by rfl) ?_)
                    refine xr_op rfl rfl (xv_nilp rfl ?_)
                    refine xr_op rfl rfl (xv_faddr fl69_0 rfl ?_)
                    refine xr_op rfl rfl (xv_load1 ty23 rfl rfl (by ((repeat first|exact z_0|assumption|refine z_1 ?_|(refine z_l ?_;(repeat first|exact z_0|assumption|refine z_1 ?_);done)|refine z_r ?_);done)) (by rfl) ?_)
                    refine xr_op rfl rfl (xv_len sl23 rfl ?_)
                    refine xr_op rfl rfl (xv_eql2 rfl rfl (fun hq => ?_) (fun hq => ?_))
                    · refine xr_op rfl rfl (xv_calls rfl hb33 (needT_c (up_ret ?_)))
                      refine xr_end rfl ?_
                      refine body_end (h' := (V.hp 44 (acc.flatMap eSight) ++ (bL, .cells ⟨[V.val acc.length]⟩ 22) :: h)) rfl ro_nil (by (first|((repeat first|exact s_0|exact s_1|exact s_3|refine s_4 ?_|refine s_5 ?_|refine s_6 ?_|refine s_7 ?_);done)|((repeat first|exact s_0|exact s_1|exact s_3|refine s_4 ?_|refine s_5 ?_|refine s_6 ?_|refine s_8 ?_);done))) ?_
                      exact H1 acc V (rdLog_6 hr0 (by (first|omega|(dsimp only at *;omega)|(simp at *;omega))) hrA (by (first|omega|(dsimp only at *;omega)|(simp at *;omega))) hr3 ⟨by (first|omega|(dsimp only at *;omega)|(simp at *;omega)), by rw [htot]; exact end_5 htt hodd (by (first|omega|(dsimp only at *;omega)|(simp at *;omega))) (by (first|omega|(dsimp only at *;omega)|(simp at *;omega)))⟩) hV
                    · refine xr_op rfl rfl (xv_calls rfl hb33 (needF_c (up_pan ?_)))
                      refine body_pan ?_
                      exact H2 (rdLog_5 hr0 (by (first|omega|(dsimp only at *;omega)|(simp at *;omega))) hrA (by (first|omega|(dsimp only at *;omega)|(simp at *;omega))) hr3 (fun h8 => (end_3 (by (first|omega|(dsimp only at *;omega)|(simp at *;omega))) h8.2))) _ _ (by (first|((repeat first|exact s_0|exact s_1|exact s_3|refine s_4 ?_|refine s_5 ?_|refine s_6 ?_|refine s_7 ?_);done)|((repeat first|exact s_0|exact s_1|exact s_3|refine s_4 ?_|refine s_5 ?_|refine s_6 ?_|refine s_8 ?_);done)))
                  · refine xr_op rfl rfl (xv_calls rfl hb33 (needF_c (up_pan ?_)))
                    refine th_p ?_
                    refine body_pan ?_
                    exact H2 (rdLog_5 hr0 (by (first|omega|(dsimp only at *;omega)|(simp at *;omega))) hrA (by (first|omega|(dsimp only at *;omega)|(simp at *;omega))) hr3 (fun h8 => (end_2 (by (first|omega|(dsimp only at *;omega)|(simp at *;omega))) h8.2))) _ _ (by (first|((repeat first|exact s_0|exact s_1|exact s_3|refine s_4 ?_|refine s_5 ?_|refine s_6 ?_|refine s_7 ?_);done)|((repeat first|exact s_0|exact s_1|exact s_3|refine s_4 ?_|refine s_5 ?_|refine s_6 ?_|refine s_8 ?_);done)))
              · refine xr_end rfl ?_
                refine th_n ?_
                refine xc_false rfl ?_
                refine xc_skip ?_
                refine th_n ?_
                refine xc_region ?_
                have hodd : ¬ ((tot : Int) - (t3.length : Nat)) % 2 = 1 := by (first|omega|(dsimp only at *;omega)|(simp at *;omega))
                refine xr_op rfl rfl (xv_load1 ty63 rfl rfl (by ((repeat first|exact z_0|assumption|refine z_1 ?_|(refine z_l ?_;(repeat first|exact z_0|assumption|refine z_1 ?_);done)|refine z_r ?_);done)) (by rfl) ?_)
                refine xr_op rfl rfl (xv_nilp rfl ?_)
                refine xr_op rfl rfl (xv_faddr fl69_0 rfl ?_)
                refine xr_op rfl rfl (xv_load1 ty23 rfl rfl (by ((repeat first|exact z_0|assumption|refine z_1 ?_|(refine z_l ?_;(repeat first|exact z_0|assumption|refine z_1 ?_);done)|refine z_r ?_);done)) (by rfl) ?_)
                refine xr_op rfl rfl (xv_len sl23 rfl ?_)
                refine xr_op rfl rfl (xv_eql2 rfl rfl (fun hq => ?_) (fun hq => ?_))
                · refine xr_op rfl rfl (xv_calls rfl hb33 (needT_c (up_ret ?_)))
                  refine xr_end rfl ?_
                  refine body_end (h' := (V.hp 44 (acc.flatMap eSight) ++ (bL, .cells ⟨[V.val acc.length]⟩ 22) :: h)) rfl ro_nil (by (first|((repeat first|exact s_0|exact s_1|exact s_3|refine s_4 ?_|refine s_5 ?_|refine s_6 ?_|refine s_7 ?_);done)|((repeat first|exact s_0|exact s_1|exact s_3|refine s_4 ?_|refine s_5 ?_|refine s_6 ?_|refine s_8 ?_);done))) ?_
                  exact H1 acc V (rdLog_6 hr0 (by (first|omega|(dsimp only at *;omega)|(simp at *;omega))) hrA (by (first|omega|(dsimp only at *;omega)|(simp at *;omega))) hr3 ⟨by (first|omega|(dsimp only at *;omega)|(simp at *;omega)), by rw [htot]; exact end_6 hodd (by (first|omega|(dsimp only at *;omega)|(simp at *;omega)))⟩) hV
                · refine xr_op rfl rfl (xv_calls rfl hb33 (needF_c (up_pan ?_)))
                  refine body_pan ?_
                  exact H2 (rdLog_5 hr0 (by (first|omega|(dsimp only at *;omega)|(simp at *;omega))) hrA (by (first|omega|(dsimp only at *;omega)|(simp at *;omega))) hr3 (fun h8 => (by have h7 := h8.2; rw [htot] at h7; exact end_4 htt hodd (by (first|omega|(dsimp only at *;omega)|(simp at *;omega))) h7))) _ _ (by (first|((repeat first|exact s_0|exact s_1|exact s_3|refine s_4 ?_|refine s_5 ?_|refine s_6 ?_|refine s_7 ?_);done)|((repeat first|exact s_0|exact s_1|exact s_3|refine s_4 ?_|refine s_5 ?_|refine s_6 ?_|refine s_8 ?_);done)))
            · refine ⟨(kp_go (by kernel_rfl) kp_nil), ?_⟩
              refine jx_S rfl rfl (.inl rfl) (xv_pick rfl rfl ⟨rfl, rfl⟩) ?_
              refine jx_O rfl rfl (.inl rfl) (xv_calls rfl hb33 (needF_c (up_pan ?_)))
              refine jp_p ?_
              refine th_p ?_
              refine body_pan ?_
              exact H2 (rdLog_5 hr0 (by (first|omega|(dsimp only at *;omega)|(simp at *;omega))) hrA (by (first|omega|(dsimp only at *;omega)|(simp at *;omega))) hr3 (fun h8 => (by have := h8.1; (first|omega|(dsimp only at *;omega)|(simp at *;omega))))) _ _ (by (first|((repeat first|exact s_0|exact s_1|exact s_3|refine s_4 ?_|refine s_5 ?_|refine s_6 ?_|refine s_7 ?_);done)|((repeat first|exact s_0|exact s_1|exact s_3|refine s_4 ?_|refine s_5 ?_|refine s_6 ?_|refine s_8 ?_);done)))
        · refine ⟨(kp_in (holds1 (by ((repeat first|exact z_0|assumption|refine z_1 ?_|(refine z_l ?_;(repeat first|exact z_0|assumption|refine z_1 ?_);done)|refine z_r ?_);done)) rfl) kp_nil), ?_⟩
          refine jx_S rfl rfl (.inl rfl) (xv_move rfl ⟨rfl, rfl⟩) ?_
          refine jx_Rs rfl rfl ⟨_, _, _, rfl, rfl, rfl⟩ ?_
          refine jx_Ss rfl rfl ⟨_, _, _, rfl, rfl, rfl⟩ ?_
          refine jx_Os rfl rfl ⟨_, _, _, rfl, rfl, rfl⟩ ?_
          refine jx_Rs rfl rfl ⟨_, _, _, rfl, rfl, rfl⟩ ?_
          refine jx_Os rfl rfl ⟨_, _, _, rfl, rfl, rfl⟩ ?_
          refine jx_S rfl rfl (.inl rfl) (xv_pick rfl rfl ⟨rfl, rfl⟩) ?_
          refine jx_O rfl rfl (.inl rfl) (xv_calls rfl hb33 (needF_c (up_pan ?_)))
          refine jp_p ?_
          refine th_p ?_
          refine body_pan ?_
          exact H2 (rdLog_3 hr0 (by (first|omega|(dsimp only at *;omega)|(simp at *;omega))) hrA (by (first|omega|(dsimp only at *;omega)|(simp at *;omega)))) _ _ (by (first|((repeat first|exact s_0|exact s_1|exact s_3|refine s_4 ?_|refine s_5 ?_|refine s_6 ?_|refine s_7 ?_);done)|((repeat first|exact s_0|exact s_1|exact s_3|refine s_4 ?_|refine s_5 ?_|refine s_6 ?_|refine s_8 ?_);done)))
    · refine xr_op rfl rfl (xv_calls rfl hb33 (needF_c (up_pan ?_)))
      refine th_p ?_
      refine body_pan ?_
      exact H2 (rdLog_1 hr0 (by (first|omega|(dsimp only at *;omega)|(simp at *;omega)))) _ _ (by (first|((repeat first|exact s_0|exact s_1|exact s_3|refine s_4 ?_|refine s_5 ?_|refine s_6 ?_|refine s_7 ?_);done)|((repeat first|exact s_0|exact s_1|exact s_3|refine s_4 ?_|refine s_5 ?_|refine s_6 ?_|refine s_8 ?_);done)))

theorem readTry_c {bQ bE bL : Nat} {V : Vec} {hs : List Int} {h : Hp} {R : Ending → Hp → Prop} (hV : V.ok 1 hs.length (hs.flatMap eB)) (hb : ∀ x ∈ hs, 0 ≤ x ∧ x ≤ 15) (hl : hs.length ≤ 200000)
    (H1 : ∀ l (V2 : Vec), rdLog hs = some l → V2.ok 2 l.length (l.flatMap eSight) → R (.returned (I 0)) (V2.hp 44 (l.flatMap eSight) ++ (bL, .cells ⟨[V2.val l.length]⟩ 22) :: h)) (H2 : rdLog hs = none → ∀ v, R (.returned (I 8)) ((bL, .cells ⟨[v]⟩ 22) :: h)) :
    ACalls Tryd.prog 30 ⟨[.func (.func 31) ⟨[]⟩ ⟨[.pointer (some ⟨bQ, 0, none⟩), .pointer (some ⟨bL, 0, none⟩)]⟩]⟩ ((bQ, .cells ⟨[.pointer (some ⟨bE, 0, none⟩)]⟩ 63 (0, 0)) :: (V.hp 5 (hs.flatMap eB) ++ (bE, .cells ⟨[V.val hs.length, I 0]⟩ 69) :: (bL, .cells ⟨[.slice none 0 0]⟩ 22) :: h)) R := by
  refine try_call fun be R' hbe k1 k2 => afn_func (fi := []) (lb := [.pointer (some ⟨bQ, 0, none⟩), .pointer (some ⟨bL, 0, none⟩)]) hb31 ?_
  obtain ⟨FR, hFR⟩ : ∃ FR : Hp, (be, .cells ⟨[I 0]⟩ 25 (0, 0)) :: (bQ, .cells ⟨[.pointer (some ⟨bE, 0, none⟩)]⟩ 63 (0, 0)) :: (V.hp 5 (hs.flatMap eB) ++ h) = FR := ⟨_, rfl⟩
  have hvs : SlV FR 1 eB V.ad hs := by
    rw [← hFR]
    exact (Vec.slvA (t := 5) eB_len rfl hV).sub fun z hz => List.mem_cons_of_mem _ (List.mem_cons_of_mem _ (List.mem_append_left _ hz))
  have hcap : hs.length ≤ V.cp := by
    cases V with
    | nil => have := hV.2; omega
    | «at» b c sp => exact hV.2.1
  rw [Vec.val_ad hV]
  have hpm : List.Perm ((bE, .cells ⟨eEye V.ad V.cp hs.length hs⟩ 69) :: (bL, .cells ⟨[.slice none 0 0]⟩ 22) :: FR) ((be, .cells ⟨[I 0]⟩ 25 (0, 0)) :: (bQ, .cells ⟨[.pointer (some ⟨bE, 0, none⟩)]⟩ 63 (0, 0)) :: (V.hp 5 (hs.flatMap eB) ++ (bE, .cells ⟨[.slice V.ad hs.length V.cp, I 0]⟩ 69) :: (bL, .cells ⟨[.slice none 0 0]⟩ 22) :: h)) := by
    rw [← hFR]
    have e0 : eEye V.ad V.cp hs.length hs = [.slice V.ad hs.length V.cp, I 0] := by unfold eEye; rw [Int.sub_self]
    rw [e0]
    refine perm_rd
  refine ACalls.perm hpm ?_
  refine ACalls.outp (R' := fun e h' => (∃ l V2, rdLog hs = some l ∧ Vec.ok V2 2 l.length (l.flatMap eSight) ∧ e = .returned (.tuple #[]) ∧ h' = (V2.hp 44 (l.flatMap eSight) ++ (bL, .cells ⟨[V2.val l.length]⟩ 22 (0, 0)) :: (be, .cells ⟨[I 0]⟩ 25 (0, 0)) :: h)) ∨ (rdLog hs = none ∧ e = .panicked mis ∧ ∃ v, h' = (bL, .cells ⟨[v]⟩ 22 (0, 0)) :: (be, .cells ⟨[I 0]⟩ 25 (0, 0)) :: h)) ?_ ?_
  · have hsub : List.Sublist ((be, .cells ⟨[I 0]⟩ 25 (0, 0)) :: h) FR := by
      rw [← hFR]
      exact List.Sublist.cons_cons _ (List.Sublist.cons _ (List.sublist_append_right _ _))
    refine ACalls.drop (R' := fun e h' => (∃ l V2, rdLog hs = some l ∧ Vec.ok V2 2 l.length (l.flatMap eSight) ∧ e = .returned (.tuple #[]) ∧ h' = (V2.hp 44 (l.flatMap eSight) ++ (bL, .cells ⟨[V2.val l.length]⟩ 22 (0, 0)) :: FR)) ∨ (rdLog hs = none ∧ e = .panicked mis ∧ ∃ v, List.Sublist ((bL, .cells ⟨[v]⟩ 22 (0, 0)) :: FR) h'))
      (rlog_c (bQ := bQ) (by rw [← hFR]; exact List.mem_cons_of_mem _ List.mem_cons_self) ⟨hvs, hcap, Nat.le_refl _, hb⟩ hl (fun l V2 h1 h2 => .inl ⟨l, V2, h1, h2, rfl, rfl⟩) (fun h1 v h' hs' => .inr ⟨h1, rfl, v, hs'⟩)) ?_
    rintro e h' (⟨l, V2, h1, h2, rfl, rfl⟩ | ⟨h1, rfl, v, hs'⟩)
    · exact ⟨_, List.Sublist.append (List.Sublist.refl _) (List.Sublist.cons_cons _ hsub), .inl ⟨l, V2, h1, h2, rfl, rfl⟩⟩
    · exact ⟨_, (List.Sublist.cons_cons _ hsub).trans hs', .inr ⟨h1, rfl, v, rfl⟩⟩
  · rintro e h' (⟨l, V2, h1, h2, rfl, rfl⟩ | ⟨h1, rfl, v, rfl⟩)
    · refine ⟨_, ?_, k1 _ (H1 l V2 h1 h2)⟩
      exact perm1'
    · exact ⟨_, List.Perm.swap _ _ _, k2 _ (H2 h1 v)⟩

end Go.Proofs.YtlpkiolopelpfaaDoor

/-
  Walks.
-/
namespace Go.Proofs.YtlpkiolopelpfaaDoor
open Go Go.H
set_option maxRecDepth 100000
set_option maxHeartbeats 8000000
set_option linter.all false
theorem ReadLog_c {bs : List Int} {a : Option Addr} {c : Nat} {h : Hp} {R : Ending → Hp → Prop} (hs : SlV h 1 eB a bs) (hlen : bs.length ≤ 100000) (hbb : ∀ b ∈ bs, 0 ≤ b ∧ b ≤ 255) (H1 : rdLog (hvL bs) = none → R (.returned (.tuple ⟨[.slice none 0 0, I 8]⟩)) h)
    (H2 : ∀ l (V : Vec), rdLog (hvL bs) = some l → V.ok 2 l.length (l.flatMap eSight) → R (.returned (.tuple ⟨[V.val l.length, I 0]⟩)) (V.hp 44 (l.flatMap eSight) ++ h)) : ACalls Tryd.prog 8 ⟨[.slice a bs.length c]⟩ h R := by
  refine calls_of_xc (N := 13) Tryd.func8 rfl (by rfl) ?_
  refine xc_seq (xc_region ?_)
  refine xr_op rfl rfl (xv_alloc ty22 (fun bL hbL => ?_))
  refine xr_op rfl rfl (xv_assign rfl ?_)
  refine xr_end rfl ?_
  refine th_n ?_
  refine xc_seq (xc_region ?_)
  refine xr_op rfl rfl (xv_move rfl ?_)
  refine xr_op rfl rfl (xv_calls rfl hb29 (newEye_c (hs.sub (by intro z9 hz9; ((repeat first|exact z_0|assumption|refine z_1 ?_|(refine z_l ?_;(repeat first|exact z_0|assumption|refine z_1 ?_);done)|refine z_r ?_);done))) hlen hbb (fun bE V hV => up_ret ?_)))
  refine xr_op rfl rfl (xv_alloc ty63 (fun bQ hbQ => ?_))
  refine xr_op rfl rfl (xv_s1 ty63 rfl rfl rfl (by (first|(apply u_3;(repeat first|exact u_0|assumption|apply u_1|apply u_2);done)|((repeat first|exact u_0|assumption|apply u_1|apply u_2);done)|(apply u_3;apply u_3;(repeat first|exact u_0|assumption|apply u_1|apply u_2);done)|((repeat first|exact u_0|assumption|apply u_3|apply u_1);done))) (by (first | rfl | exact Vec.one _ _)) (by (first | decide | exact Nat.le_of_ble_eq_true rfl | (simp only [List.length_cons, List.length_nil]; omega) | (simp; done))) (by ((try apply evl_some rfl);(repeat (first|exact (rfl : _ = [])|apply evl_cons rfl (by (first|exact v_1|exact v_2|exact v_3|exact v_4|exact v_5|exact v_6|exact v_7|exact v_8|exact v_9|exact rfl))|exact rfl)))) ?_)
  refine xr_end rfl ?_
  refine th_n ?_
  refine xc_seq (xc_region ?_)
  refine xr_op rfl rfl (xv_func rfl rfl ?_)
  refine xr_op rfl rfl (xv_calls rfl hb30 (readTry_c (h := h) (V := V) hV (hvL_bd hbb) (by rw [hvL_len]; omega) (fun l V2 hrd hV2 => up_ret ?_) (fun hrd v => up_ret ?_)))
  · refine xr_op rfl rfl (xv_assign rfl ?_)
    refine xr_end rfl ?_
    refine th_n ?_
    refine xc_seq ?_
    refine xc_seq (xc_region ?_)
    refine xr_op rfl rfl (xv_move rfl ?_)
    refine xr_op rfl rfl (xv_neqF rfl rfl rfl ?_)
    refine xr_end rfl ?_
    refine th_n ?_
    refine xc_false rfl ?_
    refine xc_skip ?_
    refine th_n ?_
    refine xc_seq (xc_region ?_)
    refine xr_op rfl rfl (xv_load1 ty22 rfl rfl (by ((repeat first|exact z_0|assumption|refine z_1 ?_|(refine z_l ?_;(repeat first|exact z_0|assumption|refine z_1 ?_);done)|refine z_r ?_);done)) (by rfl) ?_)
    refine xr_op rfl rfl (xv_s1 ty22 rfl rfl rfl (by (first|(apply u_3;(repeat first|exact u_0|assumption|apply u_1|apply u_2);done)|((repeat first|exact u_0|assumption|apply u_1|apply u_2);done)|(apply u_3;apply u_3;(repeat first|exact u_0|assumption|apply u_1|apply u_2);done)|((repeat first|exact u_0|assumption|apply u_3|apply u_1);done))) (by (first | rfl | exact Vec.one _ _)) (by (first | decide | exact Nat.le_of_ble_eq_true rfl | (simp only [List.length_cons, List.length_nil]; omega) | (simp; done))) (by ((try apply evl_some rfl);(repeat (first|exact (rfl : _ = [])|apply evl_cons rfl (by (first|exact v_1|exact v_2|exact v_3|exact v_4|exact v_5|exact v_6|exact v_7|exact v_8|exact v_9|exact rfl))|exact rfl)))) ?_)
    refine xr_op rfl rfl (xv_assign rfl ?_)
    refine xr_end rfl ?_
    refine th_n ?_
    refine xc_ret ?_
    refine body_ret (h' := (V2.hp 44 (l.flatMap eSight) ++ h)) rfl (ro_cell ty22 rfl rfl (by ((repeat first|exact z_0|assumption|refine z_1 ?_|(refine z_l ?_;(repeat first|exact z_0|assumption|refine z_1 ?_);done)|refine z_r ?_);done)) (by rfl) (ro_tmp rfl ro_nil)) (by (first|((repeat first|exact s_0|exact s_1|exact s_3|refine s_4 ?_|refine s_5 ?_|refine s_6 ?_|refine s_7 ?_);done)|((repeat first|exact s_0|exact s_1|exact s_3|refine s_4 ?_|refine s_5 ?_|refine s_6 ?_|refine s_8 ?_);done))) ?_
    exact H2 l V2 hrd hV2
  · refine xr_op rfl rfl (xv_assign rfl ?_)
    refine xr_end rfl ?_
    refine th_n ?_
    refine xc_seq ?_
    refine xc_seq (xc_region ?_)
    refine xr_op rfl rfl (xv_move rfl ?_)
    refine xr_op rfl rfl (xv_neqT rfl rfl (by decide) ?_)
    refine xr_end rfl ?_
    refine th_n ?_
    refine xc_true rfl ?_
    refine xc_seq (xc_region ?_)
    refine xr_op rfl rfl (xv_move rfl ?_)
    refine xr_op rfl rfl (xv_s1 ty22 rfl rfl rfl (by (first|(apply u_3;(repeat first|exact u_0|assumption|apply u_1|apply u_2);done)|((repeat first|exact u_0|assumption|apply u_1|apply u_2);done)|(apply u_3;apply u_3;(repeat first|exact u_0|assumption|apply u_1|apply u_2);done)|((repeat first|exact u_0|assumption|apply u_3|apply u_1);done))) (by (first | rfl | exact Vec.one _ _)) (by (first | decide | exact Nat.le_of_ble_eq_true rfl | (simp only [List.length_cons, List.length_nil]; omega) | (simp; done))) (by ((try apply evl_some rfl);(repeat (first|exact (rfl : _ = [])|apply evl_cons rfl (by (first|exact v_1|exact v_2|exact v_3|exact v_4|exact v_5|exact v_6|exact v_7|exact v_8|exact v_9|exact rfl))|exact rfl)))) ?_)
    refine xr_op rfl rfl (xv_assign rfl ?_)
    refine xr_end rfl ?_
    refine th_n ?_
    refine xc_ret ?_
    refine th_r ?_
    refine body_ret (h' := h) rfl (ro_cell ty22 rfl rfl (by ((repeat first|exact z_0|assumption|refine z_1 ?_|(refine z_l ?_;(repeat first|exact z_0|assumption|refine z_1 ?_);done)|refine z_r ?_);done)) (by rfl) (ro_tmp rfl ro_nil)) (by (first|((repeat first|exact s_0|exact s_1|exact s_3|refine s_4 ?_|refine s_5 ?_|refine s_6 ?_|refine s_7 ?_);done)|((repeat first|exact s_0|exact s_1|exact s_3|refine s_4 ?_|refine s_5 ?_|refine s_6 ?_|refine s_8 ?_);done))) ?_
    exact H1 hrd

end Go.Proofs.YtlpkiolopelpfaaDoor

/-
  Walks.
-/
namespace Go.Proofs.YtlpkiolopelpfaaDoor
open Go Go.H
set_option maxRecDepth 100000
set_option maxHeartbeats 8000000
set_option linter.all false
end Go.Proofs.YtlpkiolopelpfaaDoor

/-
  Walks.
-/
namespace Go.Proofs.YtlpkiolopelpfaaDoor
open Go Go.H
set_option maxRecDepth 100000
set_option maxHeartbeats 8000000
set_option linter.all false
end Go.Proofs.YtlpkiolopelpfaaDoor
