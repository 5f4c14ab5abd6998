/-
  Walks.
-/
import Derived.Test.YtlpkiolopelpfaaDoorW15
import Derived.Test.YtlpkiolopelpfaaDoorD
import Derived.Test.YtlpkiolopelpfaaDoorW1
import Derived.Test.YtlpkiolopelpfaaDoorHV
namespace Go.Proofs.YtlpkiolopelpfaaDoor
open Go Go.H
set_option maxRecDepth 100000
set_option maxHeartbeats 8000000
set_option linter.all false
end Go.Proofs.YtlpkiolopelpfaaDoor

/-
  Walks.
-/
namespace Go.Proofs.YtlpkiolopelpfaaDoor
open Go Go.H
set_option maxRecDepth 100000
set_option maxHeartbeats 8000000
set_option linter.all false
theorem Sights_c {a a2 : Option Addr} {c c2 : Nat} {xs ys : List Sight} {h : Hp} {R : Ending → Hp → Prop} (hs : SlV h 2 eSight a xs) (hs2 : SlV h 2 eSight a2 ys) (hl : xs.length ≤ 1000000) (hl2 : ys.length ≤ 4611686018427387904)
    (H : R (.returned (.bool (decide (xs = ys)))) h) :
    ACalls Tryd.prog 10 ⟨[.slice a xs.length c, .slice a2 ys.length c2]⟩ h R := by
  refine calls_of_xc (N := 26) Tryd.func10 rfl (by rfl) ?_
  refine xc_seq (xc_region ?_)
  refine xr_op rfl rfl (xv_assign rfl ?_)
  refine xr_end rfl ?_
  refine th_n ?_
  refine xc_seq ?_
  refine xc_seq (xc_region ?_)
  refine xr_op rfl rfl (xv_move rfl ?_)
  refine xr_op rfl rfl (xv_len sl22 rfl ?_)
  refine xr_op rfl rfl (xv_move rfl ?_)
  refine xr_op rfl rfl (xv_len sl22 rfl ?_)
  refine xr_op rfl rfl (xv_neq2 rfl rfl (fun q1 => ?_) (fun q1 => ?_))
  · refine xr_end rfl ?_
    refine th_n ?_
    refine xc_true rfl ?_
    refine xc_seq (xc_region ?_)
    refine xr_op rfl rfl (xv_assign rfl ?_)
    refine xr_end rfl ?_
    refine th_n ?_
    refine xc_ret ?_
    refine th_r ?_
    refine body_ret (h' := h) rfl (ro_tmp rfl ro_nil) (by (first|((repeat first|exact s_0|exact s_1|exact s_3|refine s_4 ?_|refine s_5 ?_|refine s_6 ?_|refine s_7 ?_);done)|((repeat first|exact s_0|exact s_1|exact s_3|refine s_4 ?_|refine s_5 ?_|refine s_6 ?_|refine s_8 ?_);done))) ?_
    first | (rw [decide_eq_true hxy] at H; exact H) | (rw [decide_eq_false hne] at H; exact H) | (rw [decide_eq_false (fun hq => by subst hq; omega)] at H; exact H)
  · refine xr_end rfl ?_
    refine th_n ?_
    refine xc_false rfl ?_
    refine xc_skip ?_
    refine th_n ?_
    refine xc_seq ?_
    refine xc_seq (xc_region ?_)
    refine xr_op rfl rfl (xv_assign rfl ?_)
    refine xr_end rfl ?_
    refine th_n ?_
    refine xc_block ?_
    have hle : xs.length = ys.length := by (first|omega|(dsimp only at *;omega)|(simp at *;omega))
    refine xc_loop (σ := Nat) (fun k => k ≤ xs.length ∧ xs.take k = ys.take k) (fun k => (((emp.put (some 0) (.slice a xs.length c)).put (some 1) (.slice a2 ys.length c2)).put (some 5) (I k))) (fun k => h) (fun k => xs.length - k) 0 ⟨Nat.zero_le _, rfl⟩ (le_put (le_put (le_put (le_emp _) rfl) rfl) rfl) (by (first|((repeat first|exact s_0|exact s_1|exact s_3|refine s_4 ?_|refine s_5 ?_|refine s_6 ?_|refine s_7 ?_);done)|((repeat first|exact s_0|exact s_1|exact s_3|refine s_4 ?_|refine s_5 ?_|refine s_6 ?_|refine s_8 ?_);done))) ?_
    rintro k ⟨hk, hall⟩
    refine xc_seq ?_
    refine xc_seq (xc_region ?_)
    refine xr_op rfl rfl (xv_move rfl ?_)
    refine xr_op rfl rfl (xv_move rfl ?_)
    refine xr_op rfl rfl (xv_len sl22 rfl ?_)
    refine xr_op rfl rfl (xv_lss2 rfl rfl (fun q2 => ?_) (fun q2 => ?_))
    · refine xr_end rfl ?_
      refine th_n ?_
      refine xc_true rfl ?_
      refine xc_skip ?_
      refine th_n ?_
      refine xc_seq ?_
      refine xc_block ?_
      refine xc_seq ?_
      refine xc_draw0 [(0, .S), (1, .S), (2, .S), (3, .R), (4, .S), (5, .S), (6, .S), (7, .R), (8, .S)] mixed (by kernel_rfl) ?_
      have hlto : k < xs.length := by (first|omega|(dsimp only at *;omega)|(simp at *;omega))
      obtain ⟨bo, oo, lo, to, fzo, hao, hmo, hxo⟩ := (hs).at hlto
      obtain ⟨xo, hko⟩ : ∃ qq_, xs[k]? = some qq_ := ⟨_, List.getElem?_eq_getElem hlto⟩
      have hltp : k < ys.length := by (first|omega|(dsimp only at *;omega)|(simp at *;omega))
      obtain ⟨bp, op, lp, tp, fzp, hap, hmp, hxp⟩ := (hs2).at hltp
      obtain ⟨xp, hkp⟩ : ∃ qq_, ys[k]? = some qq_ := ⟨_, List.getElem?_eq_getElem hltp⟩
      refine js_S rfl rfl (.inl rfl) (xv_move rfl ⟨rfl, rfl⟩) ?_
      refine js_S rfl rfl (.inl rfl) (xv_move rfl ⟨rfl, rfl⟩) ?_
      refine js_S rfl rfl (.inl rfl) (xv_ia (sz := 2) (j := k) sl22 ty44 rfl (by rw [hao]; rfl) rfl (by (first | assumption | with_reducible exact Int.toNat_natCast _ | with_reducible rfl | rfl)) (by (first|omega|(dsimp only at *;omega)|(simp at *;omega))) (by (first|omega|(dsimp only at *;omega)|(simp at *;omega))) ⟨rfl, rfl⟩) ?_
      refine js_R0 rfl rfl (.inl rfl) (xv_loadA ty44 rfl rfl (by ((repeat first|exact z_0|assumption|refine z_1 ?_|(refine z_l ?_;(repeat first|exact z_0|assumption|refine z_1 ?_);done)|refine z_r ?_);done)) (hxo (k) xo hko) rfl ⟨rfl, rfl⟩) ?_
      refine js_S rfl rfl (.inl rfl) (xv_move rfl ⟨rfl, rfl⟩) ?_
      refine js_S rfl rfl (.inl rfl) (xv_move rfl ⟨rfl, rfl⟩) ?_
      refine js_S rfl rfl (.inl rfl) (xv_ia (sz := 2) (j := k) sl22 ty44 rfl (by rw [hap]; rfl) rfl (by (first | assumption | with_reducible exact Int.toNat_natCast _ | with_reducible rfl | rfl)) (by (first|omega|(dsimp only at *;omega)|(simp at *;omega))) (by (first|omega|(dsimp only at *;omega)|(simp at *;omega))) ⟨rfl, rfl⟩) ?_
      refine js_R0 rfl rfl (.inl rfl) (xv_loadA ty44 rfl rfl (by ((repeat first|exact z_0|assumption|refine z_1 ?_|(refine z_l ?_;(repeat first|exact z_0|assumption|refine z_1 ?_);done)|refine z_r ?_);done)) (hxp (k) xp hkp) rfl ⟨rfl, rfl⟩) ?_
      refine js_S rfl rfl (.inl rfl) (xv_neA (b := !decide (xo = xp)) fq44 rfl eg44 rfl rfl rfl rfl (by ((repeat' first | assumption | exact numNil | refine numCons ?_ | refine numApp ?_ ?_); done)) (by ((repeat' first | assumption | exact numNil | refine numCons ?_ | refine numApp ?_ ?_); done)) (eqc_sightD xo xp) ⟨rfl, rfl⟩) ?_
      refine j_end0 ?_
      refine th_n ?_
      refine xc_bool rfl (fun q3 => ?_) (fun q3 => ?_)
      · refine xc_seq (xc_region ?_)
        have hne : ¬ xs = ys := fun hq => by subst hq; have hq2 := Option.some.inj (hko.symm.trans hkp); simp_all
        refine xr_op rfl rfl (xv_assign rfl ?_)
        refine xr_end rfl ?_
        refine th_n ?_
        refine xc_ret ?_
        refine bk_r ?_
        refine th_r ?_
        refine th_r ?_
        refine bk_r ?_
        refine th_r ?_
        refine body_ret (h' := h) rfl (ro_tmp rfl ro_nil) (by (first|((repeat first|exact s_0|exact s_1|exact s_3|refine s_4 ?_|refine s_5 ?_|refine s_6 ?_|refine s_7 ?_);done)|((repeat first|exact s_0|exact s_1|exact s_3|refine s_4 ?_|refine s_5 ?_|refine s_6 ?_|refine s_8 ?_);done))) ?_
        first | (rw [decide_eq_true hxy] at H; exact H) | (rw [decide_eq_false hne] at H; exact H) | (rw [decide_eq_false (fun hq => by subst hq; omega)] at H; exact H)
      · refine xc_skip ?_
        refine bk_n ?_
        refine th_n ?_
        refine xc_region ?_
        have heq : xo = xp := by simp_all
        refine xr_op rfl rfl (xv_move rfl ?_)
        refine xr_op rfl rfl (xv_add rfl rfl (wrap_i64 (by (first|omega|(dsimp only at *;omega)|(simp at *;omega))) (by (first|omega|(dsimp only at *;omega)|(simp at *;omega)))) ?_)
        refine xr_op rfl rfl (xv_assign rfl ?_)
        refine xr_end rfl ?_
        exact rnd (k + 1) ⟨by (first|omega|(dsimp only at *;omega)|(simp at *;omega)), by rw [List.take_add_one, List.take_add_one, hko, hkp, hall, heq]⟩ (by (first|omega|(dsimp only at *;omega)|(simp at *;omega))) (le_put (le_put (le_put (le_emp _) rfl) rfl) rfl) (by (first|((repeat first|exact s_0|exact s_1|exact s_3|refine s_4 ?_|refine s_5 ?_|refine s_6 ?_|refine s_7 ?_);done)|((repeat first|exact s_0|exact s_1|exact s_3|refine s_4 ?_|refine s_5 ?_|refine s_6 ?_|refine s_8 ?_);done)))
    · refine xr_end rfl ?_
      refine th_n ?_
      refine xc_false rfl ?_
      refine xc_exit ?_
      refine th_x ?_
      refine th_x ?_
      refine bk_same ?_
      refine th_n ?_
      refine xc_seq (xc_region ?_)
      obtain rfl : k = xs.length := by (first|omega|(dsimp only at *;omega)|(simp at *;omega))
      have hxy : xs = ys := by rw [List.take_length] at hall; rw [hall, hle, List.take_length]
      refine xr_op rfl rfl (xv_assign rfl ?_)
      refine xr_end rfl ?_
      refine th_n ?_
      refine xc_ret ?_
      refine body_ret (h' := h) rfl (ro_tmp rfl ro_nil) (by (first|((repeat first|exact s_0|exact s_1|exact s_3|refine s_4 ?_|refine s_5 ?_|refine s_6 ?_|refine s_7 ?_);done)|((repeat first|exact s_0|exact s_1|exact s_3|refine s_4 ?_|refine s_5 ?_|refine s_6 ?_|refine s_8 ?_);done))) ?_
      first | (rw [decide_eq_true hxy] at H; exact H) | (rw [decide_eq_false hne] at H; exact H) | (rw [decide_eq_false (fun hq => by subst hq; omega)] at H; exact H)

end Go.Proofs.YtlpkiolopelpfaaDoor

/-
  Texts: words, lines; figures.
-/
set_option linter.all false
namespace Go.Proofs.YtlpkiolopelpfaaDoor
open Go Go.H
abbrev Str := List UInt8
def eStr (w : Str) : List Value := [S w]
theorem eStr_len (w : Str) : (eStr w).length = 1 := rfl
theorem eStr_1 (w : Str) : (eStr w).all Value.oneCell' = true := rfl
def dec (n : Nat) : Str := (if h : 10 ≤ n then dec (n / 10) else []) ++ [UInt8.ofNat (48 + n % 10)]
termination_by n
decreasing_by omega
def decI (n : Int) : Str := dec n.toNat
def jn : List Str → Str
  | [] => []
  | [w] => w
  | w :: ws => w ++ 32 :: jn ws
theorem jn_cons (w x : Str) (ws : List Str) : jn (w :: x :: ws) = w ++ 32 :: jn (x :: ws) := rfl
def tailJ (ws : List Str) : Str := ws.flatMap fun w => 32 :: w
theorem jn_tail (w : Str) : ∀ ws : List Str, jn (w :: ws) = w ++ tailJ ws
  | [] => by simp [jn, tailJ]
  | x :: ws => by rw [jn_cons, jn_tail x ws]; simp [tailJ]
theorem tailJ_snoc (ws : List Str) (w : Str) : tailJ (ws ++ [w]) = tailJ ws ++ 32 :: w := by simp [tailJ]
def lineS (ws : List Str) : Str := jn ws ++ [10]
def ItoaC (n : Int) (h : Hp) : Prop := ∀ (h' : Hp) (R : Ending → Hp → Prop), h ⊆ h' → R (.returned (S (decI n))) h' → ACalls Tryd.prog 62 ⟨[.int .i64 n]⟩ h' R
theorem ItoaC.sub {n : Int} {h g : Hp} (H : ItoaC n h) (hs : h ⊆ g) : ItoaC n g := fun h' R h1 h2 => H h' R (fun z hz => h1 (hs hz)) h2
theorem dec_small {n : Nat} (h : n < 10) : dec n = [UInt8.ofNat (48 + n)] := by rw [dec, dif_neg (by omega), Nat.mod_eq_of_lt h]; rfl
theorem dec_len {n : Nat} : ∀ k, n < 10 ^ k → (dec n).length ≤ max k 1 := by
  induction n using Nat.strongRecOn with
  | _ n ih =>
    intro k hk
    rw [dec]
    split
    · rename_i h
      cases k with
      | zero => omega
      | succ k =>
        have hk' : n / 10 < 10 ^ k := by rw [Nat.pow_succ] at hk; omega
        have h2 := ih (n / 10) (by omega) k hk'
        have h1 : 1 ≤ k := by
          rcases Nat.eq_zero_or_pos k with h0 | h0
          · subst h0; omega
          · exact h0
        rw [List.length_append, List.length_singleton]
        omega
    · simp; omega
theorem dec_pos {n : Nat} : 1 ≤ (dec n).length := by rw [dec, List.length_append, List.length_singleton]; omega
theorem decI_len {n : Int} (h : n ≤ 1000000000) : (decI n).length ≤ 10 := by
  have := dec_len (n := n.toNat) 10 (by omega)
  unfold decI; omega
def fig (n : Nat) (j : Nat) : Int := 48 + ((n / 10 ^ (4 - j) % 10 : Nat) : Int)
def figs (n : Nat) : List Int := (List.range 5).map (fig n)
def figP (n i : Nat) : List Int := (List.range 5).map fun j => if j + i < 5 then 0 else fig n j
theorem figP_5 (n : Nat) : figP n 5 = figs n := rfl
theorem figP_succ {n i : Nat} (h : i < 5) : figP n (i + 1) = (figP n i).set (4 - i) (48 + ((n / 10 ^ i % 10 : Nat) : Int)) := by
  rcases (show i = 0 ∨ i = 1 ∨ i = 2 ∨ i = 3 ∨ i = 4 by omega) with rfl | rfl | rfl | rfl | rfl <;> rfl
theorem figP_len (n i : Nat) : (figP n i).length = 5 := rfl
theorem figs_byt (n : Nat) : byt (figs n) := fun b hb => by
  obtain ⟨j, _, rfl⟩ := List.mem_map.1 hb
  unfold fig; omega
def dif : List Int → List Int → Nat
  | x :: a, y :: b => if x = y then dif a b + 1 else 0
  | _, _ => 0
theorem dif_lt : ∀ {a b : List Int}, a.length = b.length → a ≠ b → dif a b < a.length
  | [], [], _, h => absurd rfl h
  | [], _ :: _, h, _ => by cases h
  | _ :: _, [], h, _ => by cases h
  | x :: a, y :: b, h, hn => by
    rw [dif]
    split
    · rename_i hxy
      have := dif_lt (a := a) (b := b) (by simpa using h) (fun hq => hn (by rw [hxy, hq]))
      rw [List.length_cons]; omega
    · rw [List.length_cons]; omega
theorem dif_ne : ∀ {a b : List Int}, a.length = b.length → a ≠ b → a[dif a b]? ≠ b[dif a b]?
  | [], [], _, h => absurd rfl h
  | [], _ :: _, h, _ => by cases h
  | _ :: _, [], h, _ => by cases h
  | x :: a, y :: b, h, hn => by
    rw [dif]
    split
    · rename_i hxy
      rw [List.getElem?_cons_succ, List.getElem?_cons_succ]
      exact dif_ne (by simpa using h) (fun hq => hn (by rw [hxy, hq]))
    · simpa using ‹_›
theorem dif_eq : ∀ {a b : List Int} {i : Nat}, i < dif a b → a[i]? = b[i]?
  | [], _, i, h => by simp [dif] at h
  | _ :: _, [], i, h => by simp [dif] at h
  | x :: a, y :: b, i, h => by
    rw [dif] at h
    split at h
    · rename_i hxy
      cases i with
      | zero => simp [hxy]
      | succ i => rw [List.getElem?_cons_succ, List.getElem?_cons_succ]; exact dif_eq (by omega)
    · omega
def wordS (f was : List Int) : Str := if f = was then [46] else u8 (f.drop (dif f was))
end Go.Proofs.YtlpkiolopelpfaaDoor

/-
  Walks.
-/
namespace Go.Proofs.YtlpkiolopelpfaaDoor
open Go Go.H
set_option maxRecDepth 100000
set_option maxHeartbeats 8000000
set_option linter.all false
theorem check_cc {b : Nat} {p : Option Addr} {v : Value} {h : Hp} {R : Ending → Hp → Prop} (hp : p = none ∨ p = (some ⟨b, 0, none⟩)) (H : R (.returned (.tuple #[])) ((b, .cells ⟨[.pointer (some ⟨b, 0, none⟩), v]⟩ 80) :: h)) : ACalls Tryd.prog 60 ⟨[.pointer (some ⟨b, 0, none⟩)]⟩ ((b, .cells ⟨[.pointer p, v]⟩ 80) :: h) R := by
  refine calls_of_xc (N := 20) Tryd.func60 rfl (by rfl) ?_
  refine xc_seq (xc_region ?_)
  rcases hp with rfl | rfl
  · refine xr_op rfl rfl (xv_move rfl ?_)
    refine xr_op rfl rfl (xv_nilp rfl ?_)
    refine xr_op rfl rfl (xv_faddr fl80_0 rfl ?_)
    refine xr_op rfl rfl (xv_load1 ty78 rfl rfl (by ((repeat first|exact z_0|assumption|refine z_1 ?_|(refine z_l ?_;(repeat first|exact z_0|assumption|refine z_1 ?_);done)|refine z_r ?_);done)) (by rfl) ?_)
    refine xr_op rfl rfl (xv_eqPN Tryd.underlying78 rfl rfl rfl ?_)
    refine xr_end rfl ?_
    refine th_n ?_
    refine xc_true rfl ?_
    refine xc_region ?_
    refine xr_op rfl rfl (xv_move rfl ?_)
    refine xr_op rfl rfl (xv_move rfl ?_)
    refine xr_op rfl rfl (xv_toU Tryd.underlying78 Tryd.underlying123 ty80 (by decide) rfl (by ((repeat first|exact z_0|assumption|refine z_1 ?_|(refine z_l ?_;(repeat first|exact z_0|assumption|refine z_1 ?_);done)|refine z_r ?_);done)) (by simp) ?_)
    refine xr_op rfl rfl (xv_noesc rfl (fun az w => run_callFunc_extern Tryd.func73 (by kernel_rfl) (by kernel_rfl) (by kernel_rfl) (by kernel_rfl) az w) ?_)
    refine xr_op rfl rfl (xv_fromU Tryd.underlying123 Tryd.underlying78 ty80 rfl (by ((repeat first|exact z_0|assumption|refine z_1 ?_|(refine z_l ?_;(repeat first|exact z_0|assumption|refine z_1 ?_);done)|refine z_r ?_);done)) (by kernel_rfl) ?_)
    refine xr_op rfl rfl (xv_nilp rfl ?_)
    refine xr_op rfl rfl (xv_faddr fl80_0 rfl ?_)
    refine xr_op rfl rfl (xv_s1 ty78 rfl rfl rfl (by (first|(apply u_3;(repeat first|exact u_0|assumption|apply u_1|apply u_2);done)|((repeat first|exact u_0|assumption|apply u_1|apply u_2);done)|(apply u_3;apply u_3;(repeat first|exact u_0|assumption|apply u_1|apply u_2);done)|((repeat first|exact u_0|assumption|apply u_3|apply u_1);done))) (by (first | rfl | exact Vec.one _ _)) (by (first | decide | exact Nat.le_of_ble_eq_true rfl | (simp only [List.length_cons, List.length_nil]; omega) | (simp; done))) (by ((try apply evl_some rfl);(repeat (first|exact (rfl : _ = [])|apply evl_cons rfl (by (first|exact v_1|exact v_2|exact v_3|exact v_4|exact v_5|exact v_6|exact v_7|exact v_8|exact v_9|exact rfl))|exact rfl)))) ?_)
    refine xr_end rfl ?_
    refine body_end (h' := ((b, .cells ⟨[.pointer (some ⟨b, 0, none⟩), v]⟩ 80) :: h)) rfl ro_nil (by (first|((repeat first|exact s_0|exact s_1|exact s_3|refine s_4 ?_|refine s_5 ?_|refine s_6 ?_|refine s_7 ?_);done)|((repeat first|exact s_0|exact s_1|exact s_3|refine s_4 ?_|refine s_5 ?_|refine s_6 ?_|refine s_8 ?_);done))) ?_
    exact H
  · refine xr_op rfl rfl (xv_move rfl ?_)
    refine xr_op rfl rfl (xv_nilp rfl ?_)
    refine xr_op rfl rfl (xv_faddr fl80_0 rfl ?_)
    refine xr_op rfl rfl (xv_load1 ty78 rfl rfl (by ((repeat first|exact z_0|assumption|refine z_1 ?_|(refine z_l ?_;(repeat first|exact z_0|assumption|refine z_1 ?_);done)|refine z_r ?_);done)) (by rfl) ?_)
    refine xr_op rfl rfl (xv_eqPN Tryd.underlying78 rfl rfl rfl ?_)
    refine xr_end rfl ?_
    refine th_n ?_
    refine xc_false rfl ?_
    refine xc_seq (xc_region ?_)
    refine xr_op rfl rfl (xv_move rfl ?_)
    refine xr_op rfl rfl (xv_nilp rfl ?_)
    refine xr_op rfl rfl (xv_faddr fl80_0 rfl ?_)
    refine xr_op rfl rfl (xv_load1 ty78 rfl rfl (by ((repeat first|exact z_0|assumption|refine z_1 ?_|(refine z_l ?_;(repeat first|exact z_0|assumption|refine z_1 ?_);done)|refine z_r ?_);done)) (by rfl) ?_)
    refine xr_op rfl rfl (xv_move rfl ?_)
    refine xr_op rfl rfl (xv_nePP Tryd.underlying78 ty80 rfl rfl ?_)
    refine xr_end rfl ?_
    refine th_n ?_
    refine xc_false rfl ?_
    refine xc_skip ?_
    refine body_end (h' := ((b, .cells ⟨[.pointer (some ⟨b, 0, none⟩), v]⟩ 80) :: h)) rfl ro_nil (by (first|((repeat first|exact s_0|exact s_1|exact s_3|refine s_4 ?_|refine s_5 ?_|refine s_6 ?_|refine s_7 ?_);done)|((repeat first|exact s_0|exact s_1|exact s_3|refine s_4 ?_|refine s_5 ?_|refine s_6 ?_|refine s_8 ?_);done))) ?_
    exact H

theorem wstr_c {b : Nat} {p : Option Addr} {V : Vec} {bs l : Str} {h : Hp} {R : Ending → Hp → Prop} (hp : p = none ∨ p = (some ⟨b, 0, none⟩)) (hV : V.ok 1 bs.length (bs.flatMap eU)) (hl : bs.length + l.length ≤ 1000000)
    (H : ∀ V2 : Vec, V2.ok 1 (bs ++ l).length ((bs ++ l).flatMap eU) → R (.returned (.tuple ⟨[I l.length, .nilIface]⟩)) (V2.hp 5 ((bs ++ l).flatMap eU) ++ (b, .cells ⟨[.pointer (some ⟨b, 0, none⟩), V2.val (bs ++ l).length]⟩ 80) :: h)) : ACalls Tryd.prog 38 ⟨[.pointer (some ⟨b, 0, none⟩), S l]⟩ ((b, .cells ⟨[.pointer p, V.val (List.length bs)]⟩ 80) :: (V.hp 5 (bs.flatMap eU) ++ h)) R := by
  refine calls_of_xc (N := 19) Tryd.func38 rfl (by rfl) ?_
  have e1 : (bs ++ l).flatMap eU = bs.flatMap eU ++ l.flatMap eU := List.flatMap_append
  have e2 : (bs ++ l).length = bs.length + l.length := List.length_append
  rw [e1, e2] at H
  refine xc_seq (xc_region ?_)
  refine xr_op rfl rfl (xv_assign rfl ?_)
  refine xr_op rfl rfl (xv_assign rfl ?_)
  refine xr_end rfl ?_
  refine th_n ?_
  refine xc_seq (xc_region ?_)
  refine xr_op rfl rfl (xv_move rfl ?_)
  refine xr_op rfl rfl (xv_calls rfl hb60 (check_cc hp (up_ret ?_)))
  refine xr_end rfl ?_
  refine th_n ?_
  refine xc_seq (xc_region ?_)
  refine xr_op rfl rfl (xv_move rfl ?_)
  refine xr_op rfl rfl (xv_move rfl ?_)
  refine xr_op rfl rfl (xv_nilp rfl ?_)
  refine xr_op rfl rfl (xv_faddr fl80_1 rfl ?_)
  refine xr_op rfl rfl (xv_load1 ty23 rfl rfl (by ((repeat first|exact z_0|assumption|refine z_1 ?_|(refine z_l ?_;(repeat first|exact z_0|assumption|refine z_1 ?_);done)|refine z_r ?_);done)) (by rfl) ?_)
  refine xr_op rfl rfl (xv_move rfl ?_)
  refine xr_op rfl rfl (xv_appS (V := V) (n := bs.length) (l := l) sl23 Tryd.underlying9 ty5 rfl rfl rfl rfl rfl hV (.there .here) (by omega) (fun V2 hV2 => ?_))
  refine xr_op rfl rfl (xv_nilp rfl ?_)
  refine xr_op rfl rfl (xv_faddr fl80_1 rfl ?_)
  refine xr_op rfl rfl (xv_s1 ty23 rfl rfl rfl (by (first|(apply u_3;(repeat first|exact u_0|assumption|apply u_1|apply u_2);done)|((repeat first|exact u_0|assumption|apply u_1|apply u_2);done)|(apply u_3;apply u_3;(repeat first|exact u_0|assumption|apply u_1|apply u_2);done)|((repeat first|exact u_0|assumption|apply u_3|apply u_1);done))) (by (first | rfl | exact Vec.one _ _)) (by (first | decide | exact Nat.le_of_ble_eq_true rfl | (simp only [List.length_cons, List.length_nil]; omega) | (simp; done))) (by ((try apply evl_some rfl);(repeat (first|exact (rfl : _ = [])|apply evl_cons rfl (by (first|exact v_1|exact v_2|exact v_3|exact v_4|exact v_5|exact v_6|exact v_7|exact v_8|exact v_9|exact rfl))|exact rfl)))) ?_)
  refine xr_end rfl ?_
  refine th_n ?_
  refine xc_seq (xc_region ?_)
  refine xr_op rfl rfl (xv_move rfl ?_)
  refine xr_op rfl rfl (xv_lenStr Tryd.underlying9 rfl ?_)
  refine xr_op rfl rfl (xv_assign rfl ?_)
  refine xr_op rfl rfl (xv_assign rfl ?_)
  refine xr_end rfl ?_
  refine th_n ?_
  refine xc_ret ?_
  refine body_ret (h' := (V2.hp 5 (bs.flatMap eU ++ l.flatMap eU) ++ (b, .cells ⟨[.pointer (some ⟨b, 0, none⟩), V2.val (bs.length + l.length)]⟩ 80) :: h)) rfl (ro_tmp rfl (ro_tmp rfl ro_nil)) (by (first|((repeat first|exact s_0|exact s_1|exact s_3|refine s_4 ?_|refine s_5 ?_|refine s_6 ?_|refine s_7 ?_);done)|((repeat first|exact s_0|exact s_1|exact s_3|refine s_4 ?_|refine s_5 ?_|refine s_6 ?_|refine s_8 ?_);done))) ?_
  exact H V2 hV2

theorem wstrP_c {b : Nat} {p : Option Addr} {V : Vec} {bs l : Str} {H0 : Hp} {h : Hp} {R : Ending → Hp → Prop} (hp : p = none ∨ p = (some ⟨b, 0, none⟩)) (hV : V.ok 1 bs.length (bs.flatMap eU)) (hl : bs.length + l.length ≤ 1000000) (hpm : List.Perm ((b, .cells ⟨[.pointer p, V.val (List.length bs)]⟩ 80) :: (V.hp 5 (bs.flatMap eU) ++ h)) H0)
    (H : ∀ V2 : Vec, V2.ok 1 (bs ++ l).length ((bs ++ l).flatMap eU) → R (.returned (.tuple ⟨[I l.length, .nilIface]⟩)) (V2.hp 5 ((bs ++ l).flatMap eU) ++ (b, .cells ⟨[.pointer (some ⟨b, 0, none⟩), V2.val (bs ++ l).length]⟩ 80) :: h)) : ACalls Tryd.prog 38 ⟨[.pointer (some ⟨b, 0, none⟩), S l]⟩ H0 R := ACalls.perm hpm (wstr_c hp hV hl H)

theorem bstr_c {b : Nat} {p : Option Addr} {V : Vec} {bs : Str} {g H0 : Hp} {R : Ending → Hp → Prop} (hV : V.ok 1 bs.length (bs.flatMap eU)) (hne : bs = [] → V = .nil) (hl : bs.length ≤ 1000000) (hpm : List.Perm (V.hp 5 (bs.flatMap eU) ++ (b, .cells ⟨[.pointer p, V.val bs.length]⟩ 80) :: g) H0)
    (H : R (.returned (S bs)) g) : ACalls Tryd.prog 41 ⟨[.pointer (some ⟨b, 0, none⟩)]⟩ H0 R := by
  refine ACalls.perm hpm ?_
  refine calls_of_xc (N := 14) Tryd.func41 rfl (by rfl) ?_
  refine xc_seq (xc_region ?_)
  rcases bs with _ | ⟨y, ys⟩
  · obtain rfl := hne rfl
    refine xr_op rfl rfl (xv_assign rfl ?_)
    refine xr_end rfl ?_
    refine th_n ?_
    refine xc_seq ?_
    refine xc_draw0 [(0, .S), (1, .S), (2, .S), (3, .R), (4, .S), (5, .S), (6, .S), (7, .S), (8, .R), (9, .S), (10, .O), (11, .S)] mixed (by kernel_rfl) ?_
    refine js_S rfl rfl (.inl rfl) (xv_move rfl ⟨rfl, rfl⟩) ?_
    refine js_S rfl rfl (.inl rfl) (xv_nilp rfl ⟨rfl, rfl⟩) ?_
    refine js_S rfl rfl (.inl rfl) (xv_faddr fl80_1 rfl ⟨rfl, rfl⟩) ?_
    refine js_R0 rfl rfl (.inl rfl) (xv_load1 ty23 rfl rfl (by ((repeat first|exact z_0|assumption|refine z_1 ?_|(refine z_l ?_;(repeat first|exact z_0|assumption|refine z_1 ?_);done)|refine z_r ?_);done)) (by rfl) ⟨rfl, rfl⟩) ?_
    refine js_S rfl rfl (.inl rfl) (xv_usd rfl (.inl rfl) ⟨rfl, rfl⟩) ?_
    refine js_S rfl rfl (.inl rfl) (xv_move rfl ⟨rfl, rfl⟩) ?_
    refine js_S rfl rfl (.inl rfl) (xv_nilp rfl ⟨rfl, rfl⟩) ?_
    refine js_S rfl rfl (.inl rfl) (xv_faddr fl80_1 rfl ⟨rfl, rfl⟩) ?_
    refine js_R0 rfl rfl (.inl rfl) (xv_load1 ty23 rfl rfl (by ((repeat first|exact z_0|assumption|refine z_1 ?_|(refine z_l ?_;(repeat first|exact z_0|assumption|refine z_1 ?_);done)|refine z_r ?_);done)) (by rfl) ⟨rfl, rfl⟩) ?_
    refine js_S rfl rfl (.inl rfl) (xv_len sl23 rfl ⟨rfl, rfl⟩) ?_
    refine js_O0 rfl rfl (.inl rfl) (xv_ustr0 rfl rfl ?_)
    refine js_S rfl rfl (.inl rfl) (xv_assign rfl ⟨rfl, rfl⟩) ?_
    refine j_end0 ?_
    refine th_n ?_
    refine xc_ret ?_
    refine body_ret (h' := g) rfl (ro_tmp rfl ro_nil) (by (first|((repeat first|exact s_0|exact s_1|exact s_3|refine s_4 ?_|refine s_5 ?_|refine s_6 ?_|refine s_7 ?_);done)|((repeat first|exact s_0|exact s_1|exact s_3|refine s_4 ?_|refine s_5 ?_|refine s_6 ?_|refine s_8 ?_);done))) ?_
    exact H
  · obtain ⟨b9, c9, sp9, rfl⟩ := Vec.at_pos hV (by simp)
    have hc9 : c9 ≠ 0 := by have := hV.2.1; simp at this; omega
    refine xr_op rfl rfl (xv_assign rfl ?_)
    refine xr_end rfl ?_
    refine th_n ?_
    refine xc_seq ?_
    refine xc_draw0 [(0, .S), (1, .S), (2, .S), (3, .R), (4, .S), (5, .S), (6, .S), (7, .S), (8, .R), (9, .S), (10, .O), (11, .S)] mixed (by kernel_rfl) ?_
    refine js_S rfl rfl (.inl rfl) (xv_move rfl ⟨rfl, rfl⟩) ?_
    refine js_S rfl rfl (.inl rfl) (xv_nilp rfl ⟨rfl, rfl⟩) ?_
    refine js_S rfl rfl (.inl rfl) (xv_faddr fl80_1 rfl ⟨rfl, rfl⟩) ?_
    refine js_R0 rfl rfl (.inl rfl) (xv_load1 ty23 rfl rfl (by ((repeat first|exact z_0|assumption|refine z_1 ?_|(refine z_l ?_;(repeat first|exact z_0|assumption|refine z_1 ?_);done)|refine z_r ?_);done)) (by rfl) ⟨rfl, rfl⟩) ?_
    refine js_S rfl rfl (.inl rfl) (xv_usd rfl (.inr hc9) ⟨rfl, rfl⟩) ?_
    refine js_S rfl rfl (.inl rfl) (xv_move rfl ⟨rfl, rfl⟩) ?_
    refine js_S rfl rfl (.inl rfl) (xv_nilp rfl ⟨rfl, rfl⟩) ?_
    refine js_S rfl rfl (.inl rfl) (xv_faddr fl80_1 rfl ⟨rfl, rfl⟩) ?_
    refine js_R0 rfl rfl (.inl rfl) (xv_load1 ty23 rfl rfl (by ((repeat first|exact z_0|assumption|refine z_1 ?_|(refine z_l ?_;(repeat first|exact z_0|assumption|refine z_1 ?_);done)|refine z_r ?_);done)) (by rfl) ⟨rfl, rfl⟩) ?_
    refine js_S rfl rfl (.inl rfl) (xv_len sl23 rfl ⟨rfl, rfl⟩) ?_
    refine js_O0 rfl rfl (.inl rfl) (xv_ustr (l := y :: ys) Tryd.underlying114 (by kernel_rfl) rfl rfl (by simp) (by omega) .here ?_)
    refine js_S rfl rfl (.inl rfl) (xv_assign rfl ⟨rfl, rfl⟩) ?_
    refine j_end0 ?_
    refine th_n ?_
    refine xc_ret ?_
    refine body_ret (h' := g) rfl (ro_tmp rfl ro_nil) (by (first|((repeat first|exact s_0|exact s_1|exact s_3|refine s_4 ?_|refine s_5 ?_|refine s_6 ?_|refine s_7 ?_);done)|((repeat first|exact s_0|exact s_1|exact s_3|refine s_4 ?_|refine s_5 ?_|refine s_6 ?_|refine s_8 ?_);done))) ?_
    exact H

theorem grow_c {b n : Nat} {h : Hp} {R : Ending → Hp → Prop} (hn : n ≤ 1000000) (H : ∀ b9 c9 l9, List.length l9 = c9 → n ≤ c9 → R (.returned (.tuple #[])) ((b9, .cells ⟨l9⟩ 5) :: (b, .cells ⟨[.pointer (some ⟨b, 0, none⟩), .slice (some ⟨b9, 0, none⟩) 0 c9]⟩ 80) :: h)) : ACalls Tryd.prog 81 ⟨[.pointer (some ⟨b, 0, none⟩), I n]⟩ ((b, .cells ⟨[.pointer (some ⟨b, 0, none⟩), .slice none 0 0]⟩ 80) :: h) R := by
  refine calls_of_xc (N := 30) Tryd.func81 rfl (by rfl) ?_
  refine xc_seq ?_
  refine xc_drawX0 [(12, [(b, fun o => o = .cells ⟨[.pointer (some ⟨b, 0, none⟩), .slice none 0 0]⟩ 80 (0, 0))])] [(0, .S), (1, .S), (2, .S), (3, .R), (4, .S), (5, .S), (6, .S), (7, .S), (9, .S), (10, .S), (11, .S), (12, .S), (13, .S), (8, .O), (14, .S), (15, .S)] mixed (by kernel_rfl) (iv_cons (holds1 (by ((repeat first|exact z_0|assumption|refine z_1 ?_|(refine z_l ?_;(repeat first|exact z_0|assumption|refine z_1 ?_);done)|refine z_r ?_);done)) rfl) iv_nil) ?_
  refine jx_S rfl rfl (.inl rfl) (xv_move rfl ⟨rfl, rfl⟩) ?_
  refine jx_S rfl rfl (.inl rfl) (xv_nilp rfl ⟨rfl, rfl⟩) ?_
  refine jx_S rfl rfl (.inl rfl) (xv_faddr fl80_1 rfl ⟨rfl, rfl⟩) ?_
  refine jx_R rfl rfl (.inl rfl) (xv_load1 ty23 rfl rfl (by ((repeat first|exact z_0|assumption|refine z_1 ?_|(refine z_l ?_;(repeat first|exact z_0|assumption|refine z_1 ?_);done)|refine z_r ?_);done)) (by rfl) ⟨rfl, rfl⟩) ?_
  refine jx_S rfl rfl (.inl rfl) (xv_cap sl23 rfl ⟨rfl, rfl⟩) ?_
  refine jx_S rfl rfl (.inl rfl) (xv_mul rfl rfl (wrap_i64 (by (first|omega|(dsimp only at *;omega)|(simp at *;omega))) (by (first|omega|(dsimp only at *;omega)|(simp at *;omega)))) ⟨rfl, rfl⟩) ?_
  refine jx_S rfl rfl (.inl rfl) (xv_move rfl ⟨rfl, rfl⟩) ?_
  refine jx_S rfl rfl (.inl rfl) (xv_add (c := (n : Int)) rfl rfl (by rw [show 2 * (((0 : Nat) : Int)) + (n : Int) = (n : Int) by omega]; exact wrap_i64 (by omega) (by omega)) ⟨rfl, rfl⟩) ?_
  refine jx_S rfl rfl (.inl rfl) (xv_move rfl ⟨rfl, rfl⟩) ?_
  refine jx_S rfl rfl (.inl rfl) (xv_nilp rfl ⟨rfl, rfl⟩) ?_
  refine jx_S rfl rfl (.inl rfl) (xv_faddr fl80_1 rfl ⟨rfl, rfl⟩) ?_
  refine jx_I rfl rfl (.inl rfl) (fun hh hv => by have hv2 : Holds [(b, fun o => o = .cells ⟨[.pointer (some ⟨b, 0, none⟩), .slice none 0 0]⟩ 80 (0, 0))] hh := hv; obtain ⟨o9, hm9, e9⟩ := hv2 _ _ List.mem_cons_self; subst e9; exact xv_load1 ty23 rfl rfl hm9 rfl ⟨rfl, rfl⟩) ?_
  refine jx_S rfl rfl (.inl rfl) (xv_len sl23 rfl ⟨rfl, rfl⟩) ?_
  refine jx_O rfl rfl (.inl rfl) (xv_mnz (n := n) (ps := #[3]) (t := 23) sl23 rfl (by omega) (fun az w => run_callFunc_extern Tryd.func84 (by kernel_rfl) (by kernel_rfl) (by kernel_rfl) (by kernel_rfl) az w) (fun b9 c9 l9 hb9n hl9 hn9 hm9 => ?_))
  refine ⟨(kp_in (holds1 (by ((repeat first|exact z_0|assumption|refine z_1 ?_|(refine z_l ?_;(repeat first|exact z_0|assumption|refine z_1 ?_);done)|refine z_r ?_);done)) rfl) kp_nil), ?_⟩
  refine jx_S rfl rfl (.inl rfl) (xv_sliceToN (m := 0) sl23 ty5 rfl rfl (by omega) (by omega) rfl ⟨rfl, rfl⟩) ?_
  refine jx_S rfl rfl (.inl rfl) (xv_assign rfl ⟨rfl, rfl⟩) ?_
  refine jx_end ?_
  refine th_n ?_
  refine xc_seq (xc_region ?_)
  refine xr_op rfl rfl (xv_move rfl ?_)
  refine xr_op rfl rfl (xv_move rfl ?_)
  refine xr_op rfl rfl (xv_nilp rfl ?_)
  refine xr_op rfl rfl (xv_faddr fl80_1 rfl ?_)
  refine xr_op rfl rfl (xv_load1 ty23 rfl rfl (by ((repeat first|exact z_0|assumption|refine z_1 ?_|(refine z_l ?_;(repeat first|exact z_0|assumption|refine z_1 ?_);done)|refine z_r ?_);done)) (by rfl) ?_)
  refine xr_op rfl rfl (xv_copyN sl23 ty5 rfl rfl rfl rfl ?_)
  refine xr_end rfl ?_
  refine th_n ?_
  refine xc_region ?_
  refine xr_op rfl rfl (xv_move rfl ?_)
  refine xr_op rfl rfl (xv_move rfl ?_)
  refine xr_op rfl rfl (xv_nilp rfl ?_)
  refine xr_op rfl rfl (xv_faddr fl80_1 rfl ?_)
  refine xr_op rfl rfl (xv_s1 ty23 rfl rfl rfl (by (first|(apply u_3;(repeat first|exact u_0|assumption|apply u_1|apply u_2);done)|((repeat first|exact u_0|assumption|apply u_1|apply u_2);done)|(apply u_3;apply u_3;(repeat first|exact u_0|assumption|apply u_1|apply u_2);done)|((repeat first|exact u_0|assumption|apply u_3|apply u_1);done))) (by (first | rfl | exact Vec.one _ _)) (by (first | decide | exact Nat.le_of_ble_eq_true rfl | (simp only [List.length_cons, List.length_nil]; omega) | (simp; done))) (by ((try apply evl_some rfl);(repeat (first|exact (rfl : _ = [])|apply evl_cons rfl (by (first|exact v_1|exact v_2|exact v_3|exact v_4|exact v_5|exact v_6|exact v_7|exact v_8|exact v_9|exact rfl))|exact rfl)))) ?_)
  refine xr_end rfl ?_
  refine body_end (h' := ((b9, .cells ⟨l9⟩ 5) :: (b, .cells ⟨[.pointer (some ⟨b, 0, none⟩), .slice (some ⟨b9, 0, none⟩) 0 c9]⟩ 80) :: h)) rfl ro_nil (by (first|((repeat first|exact s_0|exact s_1|exact s_3|refine s_4 ?_|refine s_5 ?_|refine s_6 ?_|refine s_7 ?_);done)|((repeat first|exact s_0|exact s_1|exact s_3|refine s_4 ?_|refine s_5 ?_|refine s_6 ?_|refine s_8 ?_);done))) ?_
  exact H b9 c9 l9 hl9 hn9

theorem Grow_c {b n : Nat} {h : Hp} {R : Ending → Hp → Prop} (hn : n ≤ 1000000) (h0 : 0 < n) (H : ∀ V : Vec, V.ok 1 0 [] → R (.returned (.tuple #[])) (V.hp 5 [] ++ (b, .cells ⟨[.pointer (some ⟨b, 0, none⟩), V.val 0]⟩ 80) :: h)) : ACalls Tryd.prog 74 ⟨[.pointer (some ⟨b, 0, none⟩), I n]⟩ ((b, .cells ⟨[.pointer none, .slice none 0 0]⟩ 80) :: h) R := by
  refine calls_of_xc (N := 25) Tryd.func74 rfl (by rfl) ?_
  refine xc_seq (xc_region ?_)
  refine xr_op rfl rfl (xv_move rfl ?_)
  refine xr_op rfl rfl (xv_calls rfl hb60 (check_cc (.inl rfl) (up_ret ?_)))
  refine xr_end rfl ?_
  refine th_n ?_
  refine xc_seq ?_
  refine xc_seq (xc_region ?_)
  refine xr_op rfl rfl (xv_move rfl ?_)
  refine xr_op rfl rfl (xv_cmpK rfl rfl (cmpF rfl (by simp only [cmpP]; (first|omega|(dsimp only at *;omega)|(simp at *;omega)))) ?_)
  refine xr_end rfl ?_
  refine th_n ?_
  refine xc_false rfl ?_
  refine xc_skip ?_
  refine th_n ?_
  refine xc_seq ?_
  refine xc_draw0 [(0, .S), (1, .S), (2, .S), (3, .R), (4, .S), (5, .S), (6, .S), (7, .S), (8, .R), (9, .S), (10, .S), (11, .S), (12, .S)] mixed (by kernel_rfl) ?_
  refine js_S rfl rfl (.inl rfl) (xv_move rfl ⟨rfl, rfl⟩) ?_
  refine js_S rfl rfl (.inl rfl) (xv_nilp rfl ⟨rfl, rfl⟩) ?_
  refine js_S rfl rfl (.inl rfl) (xv_faddr fl80_1 rfl ⟨rfl, rfl⟩) ?_
  refine js_R0 rfl rfl (.inl rfl) (xv_load1 ty23 rfl rfl (by ((repeat first|exact z_0|assumption|refine z_1 ?_|(refine z_l ?_;(repeat first|exact z_0|assumption|refine z_1 ?_);done)|refine z_r ?_);done)) (by rfl) ⟨rfl, rfl⟩) ?_
  refine js_S rfl rfl (.inl rfl) (xv_cap sl23 rfl ⟨rfl, rfl⟩) ?_
  refine js_S rfl rfl (.inl rfl) (xv_move rfl ⟨rfl, rfl⟩) ?_
  refine js_S rfl rfl (.inl rfl) (xv_nilp rfl ⟨rfl, rfl⟩) ?_
  refine js_S rfl rfl (.inl rfl) (xv_faddr fl80_1 rfl ⟨rfl, rfl⟩) ?_
  refine js_R0 rfl rfl (.inl rfl) (xv_load1 ty23 rfl rfl (by ((repeat first|exact z_0|assumption|refine z_1 ?_|(refine z_l ?_;(repeat first|exact z_0|assumption|refine z_1 ?_);done)|refine z_r ?_);done)) (by rfl) ⟨rfl, rfl⟩) ?_
  refine js_S rfl rfl (.inl rfl) (xv_len sl23 rfl ⟨rfl, rfl⟩) ?_
  refine js_S rfl rfl (.inl rfl) (xv_sub rfl rfl (wrap_i64 (by (first|omega|(dsimp only at *;omega)|(simp at *;omega))) (by (first|omega|(dsimp only at *;omega)|(simp at *;omega)))) ⟨rfl, rfl⟩) ?_
  refine js_S rfl rfl (.inl rfl) (xv_move rfl ⟨rfl, rfl⟩) ?_
  refine js_S rfl rfl (.inl rfl) (xv_cmpK rfl rfl (cmpT (by simp only [cmpP]; (first|omega|(dsimp only at *;omega)|(simp at *;omega)))) ⟨rfl, rfl⟩) ?_
  refine j_end0 ?_
  refine th_n ?_
  refine xc_true rfl ?_
  refine xc_region ?_
  refine xr_op rfl rfl (xv_move rfl ?_)
  refine xr_op rfl rfl (xv_move rfl ?_)
  refine xr_op rfl rfl (xv_calls rfl hb81 (grow_c hn (fun b9 c9 l9 hl9 hn9 => up_ret ?_)))
  refine xr_end rfl ?_
  refine body_end (h' := ((b9, .cells ⟨[] ++ l9⟩ 5) :: (b, .cells ⟨[.pointer (some ⟨b, 0, none⟩), .slice (some ⟨b9, 0, none⟩) 0 c9]⟩ 80) :: h)) rfl ro_nil (by (first|((repeat first|exact s_0|exact s_1|exact s_3|refine s_4 ?_|refine s_5 ?_|refine s_6 ?_|refine s_7 ?_);done)|((repeat first|exact s_0|exact s_1|exact s_3|refine s_4 ?_|refine s_5 ?_|refine s_6 ?_|refine s_8 ?_);done))) ?_
  exact H (.at b9 c9 l9) ⟨rfl, Nat.zero_le _, by simpa using hl9⟩

end Go.Proofs.YtlpkiolopelpfaaDoor

/-
  Lines of charges and of meters.
-/
set_option linter.all false
namespace Go.Proofs.YtlpkiolopelpfaaDoor
open Go Go.H
theorem quo_big {m : Nat} (h0 : 0 < m) (h1 : m ≤ 1000) : 2 ≤ (9223372036854775807 : Int).tdiv (m : Int) ∧ (9223372036854775807 : Int).tdiv (m : Int) ≤ 9223372036854775807 := by
  have e : (9223372036854775807 : Int).tdiv (m : Int) = ((9223372036854775807 / m : Nat) : Int) := rfl
  rw [e]
  have h2 : 2 ≤ 9223372036854775807 / m := (Nat.le_div_iff_mul_le h0).2 (by omega)
  have h3 := Nat.div_le_self 9223372036854775807 m
  omega
def sumL (ws : List Str) : Nat := (ws.map List.length).sum
theorem sumL_snoc (ws : List Str) (w : Str) : sumL (ws ++ [w]) = sumL ws + w.length := by simp [sumL]
theorem sumL_le {ws : List Str} (h : ∀ w ∈ ws, w.length ≤ 100) : sumL ws ≤ 100 * ws.length := by
  induction ws with
  | nil => exact Nat.le_refl _
  | cons w ws ih =>
    have h1 := ih fun x hx => h x (List.mem_cons_of_mem _ hx)
    have h2 := h w List.mem_cons_self
    show w.length + sumL ws ≤ _
    rw [List.length_cons]; omega
theorem tailJ_len {ws : List Str} (h : ∀ w ∈ ws, w.length ≤ 100) : (tailJ ws).length ≤ 101 * ws.length := by
  induction ws with
  | nil => exact Nat.le_refl _
  | cons w ws ih =>
    have h1 := ih fun x hx => h x (List.mem_cons_of_mem _ hx)
    have h2 := h w List.mem_cons_self
    rw [show tailJ (w :: ws) = 32 :: w ++ tailJ ws from rfl, List.length_append, List.length_cons, List.length_cons]; omega
theorem jn_len {ws : List Str} (h : ∀ w ∈ ws, w.length ≤ 100) : (jn ws).length ≤ 101 * ws.length := by
  cases ws with
  | nil => exact Nat.le_refl _
  | cons w ws =>
    have h1 := tailJ_len fun x hx => h x (List.mem_cons_of_mem _ hx)
    have h2 := h w List.mem_cons_self
    rw [jn_tail, List.length_append, List.length_cons]; omega
theorem permB {α : Type} {m l h : List α} {q : α} : List.Perm (q :: (l ++ (m ++ h))) (m ++ (l ++ q :: h)) := by
  have a : List.Perm (m ++ (l ++ q :: h)) (l ++ (m ++ q :: h)) := by simpa using (List.perm_append_comm (l₁ := m) (l₂ := l)).append_right (q :: h)
  have b : List.Perm (l ++ (m ++ q :: h)) (l ++ q :: (m ++ h)) := (List.perm_middle).append_left l
  exact (a.trans (b.trans List.perm_middle)).symm
theorem permB2 {α : Type} {v l h : List α} {q r x : α} : List.Perm (q :: (l ++ (v ++ r :: x :: h))) (v ++ r :: x :: (l ++ q :: h)) := by simpa using permB (m := v ++ [r, x]) (l := l) (h := h) (q := q)
def ldN (x : Load) : List Int := [x.hour, x.retort, x.coal, x.weight]
def ldS (x : Load) : Str := lineS ((ldN x).map decI)
def ldsS (l : List Load) : Str := l.flatMap ldS
def wsum (l : List Load) : Int := (l.map Load.weight).sum
def totS (l : List Load) : Str := lineS ([116, 111, 116, 97, 108] :: [(l.length : Int), wsum l].map decI)
def chgS (l : List Load) : Str := ldsS l ++ totS l
def chgN (l : List Load) : List Int := l.flatMap ldN ++ [(l.length : Int), wsum l]
theorem ldsS_snoc (l : List Load) (x : Load) : ldsS (l ++ [x]) = ldsS l ++ ldS x := by simp [ldsS]
theorem wsum_snoc (l : List Load) (x : Load) : wsum (l ++ [x]) = wsum l + x.weight := by simp [wsum]
theorem wsum_bd {l : List Load} (h : ∀ x ∈ l, loadOk x) : 0 ≤ wsum l ∧ wsum l ≤ 1048576 * (l.length : Int) := by
  induction l with
  | nil => exact ⟨Int.le_refl _, Int.le_refl _⟩
  | cons x l ih =>
    obtain ⟨h1, h2⟩ := ih fun y hy => h y (List.mem_cons_of_mem _ hy)
    obtain ⟨_, _, _, h3, h4⟩ := h x List.mem_cons_self
    rw [show wsum (x :: l) = x.weight + wsum l from rfl, List.length_cons]
    push_cast
    omega
theorem lineS_len {ws : List Str} (h : ∀ w ∈ ws, w.length ≤ 100) : (lineS ws).length ≤ 101 * ws.length + 1 := by
  have := jn_len h
  unfold lineS
  rw [List.length_append, List.length_singleton]; omega
theorem ldS_len {x : Load} (h : loadOk x) : (ldS x).length ≤ 405 := by
  obtain ⟨⟨a1, a2⟩, ⟨b1, b2⟩, ⟨c1, c2⟩, d1, d2⟩ := h
  refine Nat.le_trans (lineS_len fun w hw => ?_) (Nat.le_refl _)
  obtain ⟨n, hn, rfl⟩ := List.mem_map.1 hw
  have : n ≤ 1000000000 := by
    simp only [ldN, List.mem_cons, List.not_mem_nil, or_false] at hn
    rcases hn with rfl | rfl | rfl | rfl <;> omega
  have := decI_len this
  omega
theorem ldsS_len {l : List Load} (h : ∀ x ∈ l, loadOk x) : (ldsS l).length ≤ 405 * l.length := by
  induction l with
  | nil => exact Nat.le_refl _
  | cons x l ih =>
    have h1 := ih fun y hy => h y (List.mem_cons_of_mem _ hy)
    have h2 := ldS_len (h x List.mem_cons_self)
    rw [show ldsS (x :: l) = ldS x ++ ldsS l from rfl, List.length_append, List.length_cons]; omega
theorem small_ext {s : ByteArray} (hs : (List.range 100).all (fun k => decide (s.extract (2 * k) (2 * k + 2) = ⟨#[UInt8.ofNat (48 + k / 10), UInt8.ofNat (48 + k % 10)]⟩)) = true) {n : Nat} (hn : n < 100) : s.extract (2 * n) (2 * n + 2) = ⟨#[UInt8.ofNat (48 + n / 10), UInt8.ofNat (48 + n % 10)]⟩ := by
  rw [List.all_eq_true] at hs
  exact of_decide_eq_true (hs n (List.mem_range.2 hn))
theorem digit_ext {s : ByteArray} (hs : (List.range 10).all (fun k => decide (s.extract k (k + 1) = ⟨#[UInt8.ofNat (48 + k)]⟩)) = true) {n : Nat} (hn : n < 10) : s.extract n (n + 1) = ⟨#[UInt8.ofNat (48 + n)]⟩ := by
  rw [List.all_eq_true] at hs
  exact of_decide_eq_true (hs n (List.mem_range.2 hn))
theorem dec_2 {n : Nat} (h : 10 ≤ n) (h2 : n < 100) : dec n = [UInt8.ofNat (48 + n / 10), UInt8.ofNat (48 + n % 10)] := by
  rw [dec, dif_pos h, dec_small (by omega)]; rfl
end Go.Proofs.YtlpkiolopelpfaaDoor

/-
  Walks.
-/
namespace Go.Proofs.YtlpkiolopelpfaaDoor
open Go Go.H
set_option maxRecDepth 100000
set_option maxHeartbeats 8000000
set_option linter.all false
theorem small_c {n : Nat} {h : Hp} {R : Ending → Hp → Prop} (hn : n < 100) (H : R (.returned (S (dec n))) h) : ACalls Tryd.prog 85 ⟨[I n]⟩ h R := by
  refine calls_of_xc (N := 15) Tryd.func85 rfl (by rfl) ?_
  refine xc_seq (xc_region ?_)
  refine xr_op rfl rfl (xv_assign rfl ?_)
  refine xr_end rfl ?_
  refine th_n ?_
  refine xc_seq ?_
  refine xc_seq (xc_region ?_)
  refine xr_op rfl rfl (xv_move rfl ?_)
  refine xr_op rfl rfl (xv_lss2 rfl rfl (fun q1 => ?_) (fun q1 => ?_))
  · refine xr_end rfl ?_
    refine th_n ?_
    refine xc_true rfl ?_
    refine xc_seq (xc_region ?_)
    rw [dec_small (by omega)] at H
    refine xr_op rfl rfl (xv_move rfl ?_)
    refine xr_op rfl rfl (xv_move rfl ?_)
    refine xr_op rfl rfl (xv_add rfl rfl (wrap_i64 (by (first|omega|(dsimp only at *;omega)|(simp at *;omega))) (by (first|omega|(dsimp only at *;omega)|(simp at *;omega)))) ?_)
    refine xr_op rfl rfl (xv_slS (l := [UInt8.ofNat (48 + n)]) Tryd.underlying9 rfl rfl rfl (by omega) (by omega) (by show _ ≤ ((36 : Nat) : Int); omega) (digit_ext (n := n) (by kernel_rfl) (by omega)) ?_)
    refine xr_op rfl rfl (xv_assign rfl ?_)
    refine xr_end rfl ?_
    refine th_n ?_
    refine xc_ret ?_
    refine th_r ?_
    refine body_ret (h' := h) rfl (ro_tmp rfl ro_nil) (by (first|((repeat first|exact s_0|exact s_1|exact s_3|refine s_4 ?_|refine s_5 ?_|refine s_6 ?_|refine s_7 ?_);done)|((repeat first|exact s_0|exact s_1|exact s_3|refine s_4 ?_|refine s_5 ?_|refine s_6 ?_|refine s_8 ?_);done))) ?_
    exact H
  · refine xr_end rfl ?_
    refine th_n ?_
    refine xc_false rfl ?_
    refine xc_skip ?_
    refine th_n ?_
    refine xc_seq (xc_region ?_)
    rw [dec_2 (by omega) hn] at H
    refine xr_op rfl rfl (xv_move rfl ?_)
    refine xr_op rfl rfl (xv_mul (c := ((2 * n : Nat) : Int)) rfl rfl (by push_cast; rw [Int.mul_comm]; exact wrap_i64 (by omega) (by omega)) ?_)
    refine xr_op rfl rfl (xv_move rfl ?_)
    refine xr_op rfl rfl (xv_mul (c := ((2 * n : Nat) : Int)) rfl rfl (by push_cast; rw [Int.mul_comm]; exact wrap_i64 (by omega) (by omega)) ?_)
    refine xr_op rfl rfl (xv_add (c := ((2 * n + 2 : Nat) : Int)) rfl rfl (by push_cast; exact wrap_i64 (by omega) (by omega)) ?_)
    refine xr_op rfl rfl (xv_slS (l := [UInt8.ofNat (48 + n / 10), UInt8.ofNat (48 + n % 10)]) Tryd.underlying9 rfl rfl rfl (by omega) (by omega) (by show _ ≤ ((200 : Nat) : Int); omega) (small_ext (n := n) (by kernel_rfl) (by omega)) ?_)
    refine xr_op rfl rfl (xv_assign rfl ?_)
    refine xr_end rfl ?_
    refine th_n ?_
    refine xc_ret ?_
    refine body_ret (h' := h) rfl (ro_tmp rfl ro_nil) (by (first|((repeat first|exact s_0|exact s_1|exact s_3|refine s_4 ?_|refine s_5 ?_|refine s_6 ?_|refine s_7 ?_);done)|((repeat first|exact s_0|exact s_1|exact s_3|refine s_4 ?_|refine s_5 ?_|refine s_6 ?_|refine s_8 ?_);done))) ?_
    exact H

theorem formS_c {n : Nat} {h : Hp} {R : Ending → Hp → Prop} (hn : n < 100) (H : R (.returned (S (dec n))) h) : ACalls Tryd.prog 82 ⟨[I n, I 10]⟩ h R := by
  refine calls_of_xc (N := 54) Tryd.func82 rfl (by rfl) ?_
  refine xc_seq (xc_region ?_)
  refine xr_op rfl rfl (xv_assign rfl ?_)
  refine xr_end rfl ?_
  refine th_n ?_
  refine xc_seq ?_
  refine xc_seq (xc_region ?_)
  refine xr_op rfl rfl (xv_move rfl ?_)
  refine xr_op rfl rfl (xv_eqlT rfl rfl rfl ?_)
  refine xr_end rfl ?_
  refine th_n ?_
  refine xc_true rfl ?_
  refine xc_seq ?_
  refine xc_seq (xc_region ?_)
  refine xr_op rfl rfl (xv_move rfl ?_)
  refine xr_op rfl rfl (xv_cmpK rfl rfl (cmpT (by simp only [cmpP]; (first|omega|(dsimp only at *;omega)|(simp at *;omega)))) ?_)
  refine xr_op rfl rfl (xv_move rfl ?_)
  refine xr_gd rfl rfl rfl (xv_move rfl ?_)
  refine xr_gd rfl rfl rfl (xv_cmpK rfl rfl (cmpT (by simp only [cmpP]; (first|omega|(dsimp only at *;omega)|(simp at *;omega)))) ?_)
  refine xr_op rfl rfl (xv_pick rfl rfl ?_)
  refine xr_end rfl ?_
  refine th_n ?_
  refine xc_true rfl ?_
  refine xc_seq (xc_region ?_)
  refine xr_op rfl rfl (xv_move rfl ?_)
  refine xr_op rfl rfl (xv_calls rfl hb85 (small_c hn (up_ret ?_)))
  refine xr_op rfl rfl (xv_assign rfl ?_)
  refine xr_end rfl ?_
  refine th_n ?_
  refine xc_ret ?_
  refine th_r ?_
  refine th_r ?_
  refine body_ret (h' := h) rfl (ro_tmp rfl ro_nil) (by (first|((repeat first|exact s_0|exact s_1|exact s_3|refine s_4 ?_|refine s_5 ?_|refine s_6 ?_|refine s_7 ?_);done)|((repeat first|exact s_0|exact s_1|exact s_3|refine s_4 ?_|refine s_5 ?_|refine s_6 ?_|refine s_8 ?_);done))) ?_
  exact H

theorem itoaS2_c {n : Nat} {h : Hp} {R : Ending → Hp → Prop} (hn : n < 100) (H : R (.returned (S (dec n))) h) : ACalls Tryd.prog 75 ⟨[I n]⟩ h R := by
  refine calls_of_xc (N := 5) Tryd.func75 rfl (by rfl) ?_
  refine xc_seq (xc_region ?_)
  refine xr_op rfl rfl (xv_assign rfl ?_)
  refine xr_end rfl ?_
  refine th_n ?_
  refine xc_seq (xc_region ?_)
  refine xr_op rfl rfl (xv_move rfl ?_)
  refine xr_op rfl rfl (xv_calls rfl hb82 (formS_c hn (up_ret ?_)))
  refine xr_op rfl rfl (xv_assign rfl ?_)
  refine xr_end rfl ?_
  refine th_n ?_
  refine xc_ret ?_
  refine body_ret (h' := h) rfl (ro_tmp rfl ro_nil) (by (first|((repeat first|exact s_0|exact s_1|exact s_3|refine s_4 ?_|refine s_5 ?_|refine s_6 ?_|refine s_7 ?_);done)|((repeat first|exact s_0|exact s_1|exact s_3|refine s_4 ?_|refine s_5 ?_|refine s_6 ?_|refine s_8 ?_);done))) ?_
  exact H

theorem itoaS_c {n : Nat} {h : Hp} {R : Ending → Hp → Prop} (hn : n < 100) (H : R (.returned (S (dec n))) h) : ACalls Tryd.prog 62 ⟨[I n]⟩ h R := by
  refine calls_of_xc (N := 5) Tryd.func62 rfl (by rfl) ?_
  refine xc_seq (xc_region ?_)
  refine xr_op rfl rfl (xv_assign rfl ?_)
  refine xr_end rfl ?_
  refine th_n ?_
  refine xc_seq (xc_region ?_)
  refine xr_op rfl rfl (xv_move rfl ?_)
  refine xr_op rfl rfl (xv_calls rfl hb75 (itoaS2_c hn (up_ret ?_)))
  refine xr_op rfl rfl (xv_assign rfl ?_)
  refine xr_end rfl ?_
  refine th_n ?_
  refine xc_ret ?_
  refine body_ret (h' := h) rfl (ro_tmp rfl ro_nil) (by (first|((repeat first|exact s_0|exact s_1|exact s_3|refine s_4 ?_|refine s_5 ?_|refine s_6 ?_|refine s_7 ?_);done)|((repeat first|exact s_0|exact s_1|exact s_3|refine s_4 ?_|refine s_5 ?_|refine s_6 ?_|refine s_8 ?_);done))) ?_
  exact H

theorem itoaS {n : Int} {h : Hp} (h0 : 0 ≤ n) (h1 : n < 100) : ItoaC n h := fun h' R _ H => by
  obtain ⟨m, rfl⟩ := Int.eq_ofNat_of_zero_le h0
  exact itoaS_c (by omega) H

theorem text_c {l : List Int} {a : Option Addr} {c : Nat} {h : Hp} {R : Ending → Hp → Prop} (hs : SlV h 1 eI a l) (hl : l.length ≤ 1000) (hI : ∀ n ∈ l, ItoaC n h) (H : ∀ V : Vec, V.ok 1 l.length ((l.map decI).flatMap eStr) → R (.returned (.slice V.ad l.length V.cp)) (V.hp 9 ((l.map decI).flatMap eStr) ++ h)) : ACalls Tryd.prog 40 ⟨[.slice a l.length c]⟩ h R := by
  refine calls_of_xc (N := 18) Tryd.func40 rfl (by rfl) ?_
  refine xc_seq (xc_region ?_)
  refine xr_op rfl rfl (xv_assign rfl ?_)
  refine xr_end rfl ?_
  refine th_n ?_
  refine xc_seq ?_
  refine xc_seq (xc_region ?_)
  refine xr_op rfl rfl (xv_move rfl ?_)
  refine xr_op rfl rfl (xv_len sl60 rfl ?_)
  refine xr_op rfl rfl (xv_move rfl ?_)
  refine xr_end rfl ?_
  refine th_n ?_
  refine xc_block ?_
  refine xc_loop (σ := Nat × Vec) (fun z => z.1 ≤ l.length ∧ z.2.ok 1 z.1 (((l.take z.1).map decI).flatMap eStr)) (fun z => ((((emp.put (some 2) (z.2.val z.1)).put (some 5) (.slice a l.length c)).put (some 6) (I l.length)).put (some 7) (I z.1))) (fun z => (z.2.hp 9 (((l.take z.1).map decI).flatMap eStr) ++ h)) (fun z => l.length - z.1) ((0, .nil) : Nat × Vec) ⟨Nat.zero_le _, ⟨rfl, rfl⟩⟩ (le_put (le_put (le_put (le_put (le_emp _) rfl) rfl) rfl) rfl) (by (first|((repeat first|exact s_0|exact s_1|exact s_3|refine s_4 ?_|refine s_5 ?_|refine s_6 ?_|refine s_7 ?_);done)|((repeat first|exact s_0|exact s_1|exact s_3|refine s_4 ?_|refine s_5 ?_|refine s_6 ?_|refine s_8 ?_);done))) ?_
  rintro ⟨k, V⟩ ⟨hk, hV⟩
  dsimp only at hk hV
  refine xc_seq (xc_region ?_)
  refine xr_op rfl rfl (xv_lss2 rfl rfl (fun q1 => ?_) (fun q1 => ?_))
  · refine xr_end rfl ?_
    refine th_n ?_
    refine xc_seq ?_
    refine xc_true rfl ?_
    refine xc_skip ?_
    refine th_n ?_
    refine xc_seq ?_
    refine xc_block ?_
    refine xc_seq (xc_region ?_)
    have hlto : k < l.length := by (first|omega|(dsimp only at *;omega)|(simp at *;omega))
    obtain ⟨bo, oo, lo, to, fzo, hao, hmo, hxo⟩ := (hs).at hlto
    obtain ⟨xo, hko⟩ : ∃ qq_, l[k]? = some qq_ := ⟨_, List.getElem?_eq_getElem hlto⟩
    refine xr_op rfl rfl (xv_ia (sz := 1) (j := k) sl60 ty3 rfl (by rw [hao]; rfl) rfl (by (first | assumption | with_reducible exact Int.toNat_natCast _ | with_reducible rfl | rfl)) (by (first|omega|(dsimp only at *;omega)|(simp at *;omega))) (by (first|omega|(dsimp only at *;omega)|(simp at *;omega))) ?_)
    refine xr_op rfl rfl (xv_load1 ty3 rfl rfl (by ((repeat first|exact z_0|assumption|refine z_1 ?_|(refine z_l ?_;(repeat first|exact z_0|assumption|refine z_1 ?_);done)|refine z_r ?_);done)) (take_get (hxo (k) xo hko) (j := 0) rfl) ?_)
    refine xr_op rfl rfl (xv_assign rfl ?_)
    refine xr_end rfl ?_
    refine th_n ?_
    refine xc_region ?_
    refine xr_op rfl rfl (xv_move rfl ?_)
    refine xr_op rfl rfl (xv_move rfl ?_)
    refine xr_op rfl rfl (xv_calls rfl hb62 (hI xo (List.mem_of_getElem? hko) _ _ (by intro z9 hz9; ((repeat first|exact z_0|assumption|refine z_1 ?_|(refine z_l ?_;(repeat first|exact z_0|assumption|refine z_1 ?_);done)|refine z_r ?_);done)) (up_ret ?_)))
    refine xr_op rfl rfl ((al_buildSlice sl86 ty9 rfl rfl rfl rfl rfl (by ((try apply evl_some rfl);(repeat (first|exact (rfl : _ = [])|apply evl_cons rfl (by (first|exact v_1|exact v_2|exact v_3|exact v_4|exact v_5|exact v_6|exact v_7|exact v_8|exact v_9|exact rfl))|exact rfl))))).xv (fun b2 hb2 => ?_))
    refine xr_op rfl rfl (xv_append (V := V) (n := k) (xs := ((l.take k).map decI).flatMap eStr) sl86 ty9 rfl rfl rfl hV (.there .here) (by ((repeat first|exact z_0|assumption|refine z_1 ?_|(refine z_l ?_;(repeat first|exact z_0|assumption|refine z_1 ?_);done)|refine z_r ?_);done)) (by ((try apply evl_some rfl);(repeat (first|exact (rfl : _ = [])|apply evl_cons rfl (by (first|exact v_1|exact v_2|exact v_3|exact v_4|exact v_5|exact v_6|exact v_7|exact v_8|exact v_9|exact rfl))|exact rfl)))) rfl rfl (by (first|omega|(dsimp only at *;omega)|(simp at *;omega))) (by simp only []; (first|omega|(dsimp only at *;omega)|(simp at *;omega))) (by (first|omega|(dsimp only at *;omega)|(simp at *;omega))) (fun V2 hV2 => ?_))
    refine xr_op rfl rfl (xv_assign rfl ?_)
    refine xr_end rfl ?_
    refine bk_n ?_
    refine th_n ?_
    refine xc_region ?_
    refine xr_op rfl rfl (xv_add rfl rfl (wrap_i64 (by (first|omega|(dsimp only at *;omega)|(simp at *;omega))) (by (first|omega|(dsimp only at *;omega)|(simp at *;omega)))) ?_)
    refine xr_op rfl rfl (xv_move rfl ?_)
    refine xr_end rfl ?_
    have etk : ((l.take (k + 1)).map decI).flatMap eStr = ((l.take k).map decI).flatMap eStr ++ [S (decI xo)] := by rw [List.take_add_one, hko, List.map_append, List.flatMap_append]; rfl
    exact rnd ((k + 1, V2) : Nat × Vec) ⟨by (first|omega|(dsimp only at *;omega)|(simp at *;omega)), by dsimp only; rw [etk]; exact hV2⟩ (by (first|omega|(dsimp only at *;omega)|(simp at *;omega))) (le_put (le_put (le_put (le_put (le_emp _) rfl) rfl) rfl) rfl) (by dsimp only; rw [etk]; (first|((repeat first|exact s_0|exact s_1|exact s_3|refine s_4 ?_|refine s_5 ?_|refine s_6 ?_|refine s_7 ?_);done)|((repeat first|exact s_0|exact s_1|exact s_3|refine s_4 ?_|refine s_5 ?_|refine s_6 ?_|refine s_8 ?_);done)))
  · refine xr_end rfl ?_
    refine th_n ?_
    refine xc_seq ?_
    refine xc_false rfl ?_
    refine xc_exit ?_
    refine th_x ?_
    refine th_x ?_
    refine bk_same ?_
    refine th_n ?_
    refine xc_seq (xc_region ?_)
    obtain rfl : k = l.length := by (first|omega|(dsimp only at *;omega)|(simp at *;omega))
    rw [List.take_length] at hV ⊢
    rw [Vec.val_ad hV]
    refine xr_op rfl rfl (xv_move rfl ?_)
    refine xr_op rfl rfl (xv_assign rfl ?_)
    refine xr_end rfl ?_
    refine th_n ?_
    refine xc_ret ?_
    refine body_ret (h' := (V.hp 9 ((l.map decI).flatMap eStr) ++ h)) rfl (ro_tmp rfl ro_nil) (by (first|((repeat first|exact s_0|exact s_1|exact s_3|refine s_4 ?_|refine s_5 ?_|refine s_6 ?_|refine s_7 ?_);done)|((repeat first|exact s_0|exact s_1|exact s_3|refine s_4 ?_|refine s_5 ?_|refine s_6 ?_|refine s_8 ?_);done))) ?_
    exact H V hV

end Go.Proofs.YtlpkiolopelpfaaDoor

/-
  Walks.
-/
namespace Go.Proofs.YtlpkiolopelpfaaDoor
open Go Go.H
set_option maxRecDepth 100000
set_option maxHeartbeats 8000000
set_option linter.all false
theorem join_c {ws : List Str} {a : Option Addr} {c : Nat} {h : Hp} {R : Ending → Hp → Prop} (hs : SlV h 1 eStr a ws) (hc : ws.length ≤ c) (hl : ws.length ≤ 1000) (hw : ∀ w ∈ ws, w.length ≤ 100) (H : R (.returned (S (jn ws))) h) : ACalls Tryd.prog 61 ⟨[.slice a ws.length c, S [32]]⟩ h R := by
  refine calls_of_xc (N := 75) Tryd.func61 rfl (by rfl) ?_
  refine xc_seq (xc_region ?_)
  rcases ws with _ | ⟨w, _ | ⟨x, ws⟩⟩
  · refine xr_op rfl rfl (xv_assign rfl ?_)
    refine xr_end rfl ?_
    refine th_n ?_
    refine xc_seq ?_
    refine xc_seq (xc_region ?_)
    refine xr_op rfl rfl (xv_move rfl ?_)
    refine xr_op rfl rfl (xv_len sl86 rfl ?_)
    refine xr_end rfl ?_
    refine th_n ?_
    refine xc_block ?_
    refine xc_seq (xc_region ?_)
    refine xr_op rfl rfl (xv_eqlT rfl rfl rfl ?_)
    refine xr_op rfl rfl (xv_assign rfl ?_)
    refine xr_end rfl ?_
    refine th_n ?_
    refine xc_true rfl ?_
    refine xc_seq (xc_region ?_)
    refine xr_op rfl rfl (xv_assign rfl ?_)
    refine xr_end rfl ?_
    refine th_n ?_
    refine xc_ret ?_
    refine bk_r ?_
    refine th_r ?_
    refine body_ret (h' := h) rfl (ro_tmp rfl ro_nil) (by (first|((repeat first|exact s_0|exact s_1|exact s_3|refine s_4 ?_|refine s_5 ?_|refine s_6 ?_|refine s_7 ?_);done)|((repeat first|exact s_0|exact s_1|exact s_3|refine s_4 ?_|refine s_5 ?_|refine s_6 ?_|refine s_8 ?_);done))) ?_
    exact H
  · refine xr_op rfl rfl (xv_assign rfl ?_)
    refine xr_end rfl ?_
    refine th_n ?_
    refine xc_seq ?_
    refine xc_seq (xc_region ?_)
    refine xr_op rfl rfl (xv_move rfl ?_)
    refine xr_op rfl rfl (xv_len sl86 rfl ?_)
    refine xr_end rfl ?_
    refine th_n ?_
    refine xc_block ?_
    refine xc_seq (xc_region ?_)
    refine xr_op rfl rfl (xv_eqlF rfl rfl (by simp only [List.length_cons]; omega) ?_)
    refine xr_op rfl rfl (xv_assign rfl ?_)
    refine xr_end rfl ?_
    refine th_n ?_
    refine xc_false rfl ?_
    refine xc_seq (xc_region ?_)
    refine xr_op rfl rfl (xv_eqlT rfl rfl rfl ?_)
    refine xr_op rfl rfl (xv_assign rfl ?_)
    refine xr_end rfl ?_
    refine th_n ?_
    refine xc_true rfl ?_
    refine xc_seq (xc_region ?_)
    have hlto : 0 < [w].length := (by simp)
    obtain ⟨bo, oo, lo, to, fzo, hao, hmo, hxo⟩ := (hs).at hlto
    obtain ⟨xo, hko⟩ : ∃ qq_, [w][0]? = some qq_ := ⟨_, List.getElem?_eq_getElem hlto⟩
    refine xr_op rfl rfl (xv_move rfl ?_)
    refine xr_op rfl rfl (xv_ia (sz := 1) (j := 0) sl86 ty9 rfl (by rw [hao]; rfl) rfl rfl (by (first|omega|(dsimp only at *;omega)|(simp at *;omega))) (by (first|omega|(dsimp only at *;omega)|(simp at *;omega))) ?_)
    refine xr_op rfl rfl (xv_load1 ty9 rfl rfl (by ((repeat first|exact z_0|assumption|refine z_1 ?_|(refine z_l ?_;(repeat first|exact z_0|assumption|refine z_1 ?_);done)|refine z_r ?_);done)) (take_get (hxo 0 xo hko) (j := 0) rfl) ?_)
    refine xr_op rfl rfl (xv_assign rfl ?_)
    refine xr_end rfl ?_
    refine th_n ?_
    refine xc_ret ?_
    refine bk_r ?_
    refine th_r ?_
    refine body_ret (h' := h) rfl (ro_tmp rfl ro_nil) (by (first|((repeat first|exact s_0|exact s_1|exact s_3|refine s_4 ?_|refine s_5 ?_|refine s_6 ?_|refine s_7 ?_);done)|((repeat first|exact s_0|exact s_1|exact s_3|refine s_4 ?_|refine s_5 ?_|refine s_6 ?_|refine s_8 ?_);done))) ?_
    (cases hko; exact H)
  · have hsum := sumL_le hw
    have hw0 := hw w List.mem_cons_self
    simp only [List.length_cons] at hl hsum
    have hL9 : (w :: x :: ws).length = ws.length + 2 := rfl
    have hL8 : (x :: ws).length = ws.length + 1 := rfl
    refine xr_op rfl rfl (xv_assign rfl ?_)
    refine xr_end rfl ?_
    refine th_n ?_
    refine xc_seq ?_
    refine xc_seq (xc_region ?_)
    refine xr_op rfl rfl (xv_move rfl ?_)
    refine xr_op rfl rfl (xv_len sl86 rfl ?_)
    refine xr_end rfl ?_
    refine th_n ?_
    refine xc_block ?_
    refine xc_seq (xc_region ?_)
    refine xr_op rfl rfl (xv_eqlF rfl rfl (by simp only [List.length_cons]; omega) ?_)
    refine xr_op rfl rfl (xv_assign rfl ?_)
    refine xr_end rfl ?_
    refine th_n ?_
    refine xc_false rfl ?_
    refine xc_seq (xc_region ?_)
    refine xr_op rfl rfl (xv_eqlF rfl rfl (by simp only [List.length_cons]; omega) ?_)
    refine xr_op rfl rfl (xv_assign rfl ?_)
    refine xr_end rfl ?_
    refine th_n ?_
    refine xc_false rfl ?_
    refine xc_skip ?_
    refine bk_n ?_
    refine th_n ?_
    refine xc_seq (xc_region ?_)
    refine xr_op rfl rfl (xv_assign rfl ?_)
    refine xr_end rfl ?_
    refine th_n ?_
    refine xc_seq ?_
    refine xc_seq (xc_region ?_)
    refine xr_op rfl rfl (xv_move rfl ?_)
    refine xr_op rfl rfl (xv_lenStr Tryd.underlying9 rfl ?_)
    refine xr_op rfl rfl (xv_cmpK rfl rfl (cmpT (by simp only [cmpP]; decide)) ?_)
    refine xr_end rfl ?_
    refine th_n ?_
    refine xc_true rfl ?_
    refine xc_seq ?_
    refine xc_seq (xc_region ?_)
    have hqb := quo_big (m := (x :: ws).length) (by simp) (by simp only [List.length_cons]; omega)
    obtain ⟨q9, hq9⟩ : ∃ q, (9223372036854775807 : Int).tdiv (((x :: ws).length : Nat) : Int) = q := ⟨_, rfl⟩
    rw [hq9] at hqb
    refine xr_op rfl rfl (xv_move rfl ?_)
    refine xr_op rfl rfl (xv_lenStr Tryd.underlying9 rfl ?_)
    refine xr_op rfl rfl (xv_move rfl ?_)
    refine xr_op rfl rfl (xv_len sl86 rfl ?_)
    refine xr_op rfl rfl (xv_sub (c := (((x :: ws).length : Nat) : Int)) rfl rfl (by simp only [List.length_cons]; push_cast; rw [show (ws.length : Int) + 1 + 1 - 1 = (ws.length : Int) + 1 by omega]; exact wrap_i64 (by omega) (by omega)) ?_)
    refine xr_op rfl rfl (xv_quo (c := q9) rfl rfl (by simp only [List.length_cons]; omega) (by rw [hq9]; exact wrap_i64 (by omega) (by omega)) ?_)
    refine xr_op rfl rfl (xv_cmpK rfl rfl (cmpF rfl (by simp only [cmpP]; rw [size_S]; simp only [List.length_singleton]; omega)) ?_)
    refine xr_end rfl ?_
    refine th_n ?_
    refine xc_false rfl ?_
    refine xc_skip ?_
    refine th_n ?_
    refine xc_region ?_
    refine xr_op rfl rfl (xv_move rfl ?_)
    refine xr_op rfl rfl (xv_move rfl ?_)
    refine xr_op rfl rfl (xv_lenStr Tryd.underlying9 rfl ?_)
    refine xr_op rfl rfl (xv_move rfl ?_)
    refine xr_op rfl rfl (xv_len sl86 rfl ?_)
    refine xr_op rfl rfl (xv_sub (c := (((x :: ws).length : Nat) : Int)) rfl rfl (by simp only [List.length_cons]; push_cast; rw [show (ws.length : Int) + 1 + 1 - 1 = (ws.length : Int) + 1 by omega]; exact wrap_i64 (by omega) (by omega)) ?_)
    refine xr_op rfl rfl (xv_mul (c := (((x :: ws).length : Nat) : Int)) rfl rfl (by rw [size_S, List.length_singleton, show ((1 : Nat) : Int) = 1 from rfl, Int.one_mul]; simp only [List.length_cons]; exact wrap_i64 (by omega) (by omega)) ?_)
    refine xr_op rfl rfl (xv_add (c := (((x :: ws).length : Nat) : Int)) rfl rfl (by rw [Int.zero_add]; simp only [List.length_cons]; exact wrap_i64 (by omega) (by omega)) ?_)
    refine xr_op rfl rfl (xv_assign rfl ?_)
    refine xr_end rfl ?_
    refine th_n ?_
    refine xc_seq ?_
    refine xc_seq (xc_region ?_)
    refine xr_op rfl rfl (xv_move rfl ?_)
    refine xr_op rfl rfl (xv_len sl86 rfl ?_)
    refine xr_op rfl rfl (xv_move rfl ?_)
    refine xr_end rfl ?_
    refine th_n ?_
    refine xc_block ?_
    refine xc_loop (σ := Nat) (fun k => k ≤ (w :: x :: ws).length) (fun k => ((((((emp.put (some 0) (.slice a (w :: x :: ws).length c)).put (some 1) (S [32])).put (some 5) (I (((x :: ws).length + sumL ((w :: x :: ws).take k) : Nat) : Int))).put (some 39) (.slice a (w :: x :: ws).length c)).put (some 40) (I (w :: x :: ws).length)).put (some 41) (I k))) (fun k => h) (fun k => (w :: x :: ws).length - k) 0 (Nat.zero_le _) (le_put (le_put (le_put (le_put (le_put (le_put (le_emp _) rfl) rfl) rfl) rfl) rfl) rfl) (by (first|((repeat first|exact s_0|exact s_1|exact s_3|refine s_4 ?_|refine s_5 ?_|refine s_6 ?_|refine s_7 ?_);done)|((repeat first|exact s_0|exact s_1|exact s_3|refine s_4 ?_|refine s_5 ?_|refine s_6 ?_|refine s_8 ?_);done))) ?_
    rintro k hk
    refine xc_seq (xc_region ?_)
    refine xr_op rfl rfl (xv_lss2 rfl rfl (fun q1 => ?_) (fun q1 => ?_))
    · refine xr_end rfl ?_
      refine th_n ?_
      refine xc_seq ?_
      refine xc_true rfl ?_
      refine xc_skip ?_
      refine th_n ?_
      refine xc_seq ?_
      refine xc_block ?_
      refine xc_seq (xc_region ?_)
      have hlto : k < (w :: x :: ws).length := by (first|omega|(dsimp only at *;omega)|(simp at *;omega))
      obtain ⟨bo, oo, lo, to, fzo, hao, hmo, hxo⟩ := (hs).at hlto
      obtain ⟨xo, hko⟩ : ∃ qq_, (w :: x :: ws)[k]? = some qq_ := ⟨_, List.getElem?_eq_getElem hlto⟩
      have hxw := hw xo (List.mem_of_getElem? hko)
      have hsk := sumL_le (ws := (w :: x :: ws).take k) (fun y hy => hw y (List.mem_of_mem_take hy))
      rw [List.length_take] at hsk
      refine xr_op rfl rfl (xv_ia (sz := 1) (j := k) sl86 ty9 rfl (by rw [hao]; rfl) rfl (by (first | assumption | with_reducible exact Int.toNat_natCast _ | with_reducible rfl | rfl)) (by (first|omega|(dsimp only at *;omega)|(simp at *;omega))) (by (first|omega|(dsimp only at *;omega)|(simp at *;omega))) ?_)
      refine xr_op rfl rfl (xv_load1 ty9 rfl rfl (by ((repeat first|exact z_0|assumption|refine z_1 ?_|(refine z_l ?_;(repeat first|exact z_0|assumption|refine z_1 ?_);done)|refine z_r ?_);done)) (take_get (hxo (k) xo hko) (j := 0) rfl) ?_)
      refine xr_op rfl rfl (xv_assign rfl ?_)
      refine xr_end rfl ?_
      refine th_n ?_
      refine xc_seq ?_
      refine xc_seq (xc_region ?_)
      refine xr_op rfl rfl (xv_move rfl ?_)
      refine xr_op rfl rfl (xv_lenStr Tryd.underlying9 rfl ?_)
      refine xr_op rfl rfl (xv_move rfl ?_)
      refine xr_op rfl rfl (xv_sub (c := 9223372036854775807 - (((x :: ws).length + sumL ((w :: x :: ws).take k) : Nat) : Int)) rfl rfl (by simp only [List.length_cons]; exact wrap_i64 (by omega) (by omega)) ?_)
      refine xr_op rfl rfl (xv_cmpK rfl rfl (cmpF rfl (by simp only [cmpP]; rw [size_S]; simp only [List.length_cons]; omega)) ?_)
      refine xr_end rfl ?_
      refine th_n ?_
      refine xc_false rfl ?_
      refine xc_skip ?_
      refine th_n ?_
      refine xc_region ?_
      refine xr_op rfl rfl (xv_move rfl ?_)
      refine xr_op rfl rfl (xv_move rfl ?_)
      refine xr_op rfl rfl (xv_lenStr Tryd.underlying9 rfl ?_)
      refine xr_op rfl rfl (xv_add (c := (((x :: ws).length + sumL ((w :: x :: ws).take k) : Nat) : Int) + xo.length) rfl rfl (by rw [size_S]; simp only [List.length_cons]; exact wrap_i64 (by omega) (by omega)) ?_)
      refine xr_op rfl rfl (xv_assign rfl ?_)
      refine xr_end rfl ?_
      refine bk_n ?_
      refine th_n ?_
      refine xc_region ?_
      refine xr_op rfl rfl (xv_add rfl rfl (wrap_i64 (by (first|omega|(dsimp only at *;omega)|(simp at *;omega))) (by (first|omega|(dsimp only at *;omega)|(simp at *;omega)))) ?_)
      refine xr_op rfl rfl (xv_move rfl ?_)
      refine xr_end rfl ?_
      exact rnd (k + 1) (by (first|omega|(dsimp only at *;omega)|(simp at *;omega))) (by (first|omega|(dsimp only at *;omega)|(simp at *;omega))) (le_put (le_put (le_put (le_put (le_put (le_put (le_emp _) rfl) rfl) (by rw [show (((x :: ws).length + sumL ((w :: x :: ws).take (k + 1)) : Nat) : Int) = (((x :: ws).length + sumL ((w :: x :: ws).take k) : Nat) : Int) + xo.length by rw [List.take_add_one, hko, show (some xo).toList = [xo] from rfl, sumL_snoc]; push_cast; omega]; rfl)) rfl) rfl) rfl) (by (first|((repeat first|exact s_0|exact s_1|exact s_3|refine s_4 ?_|refine s_5 ?_|refine s_6 ?_|refine s_7 ?_);done)|((repeat first|exact s_0|exact s_1|exact s_3|refine s_4 ?_|refine s_5 ?_|refine s_6 ?_|refine s_8 ?_);done)))
    · refine xr_end rfl ?_
      refine th_n ?_
      refine xc_seq ?_
      refine xc_false rfl ?_
      refine xc_exit ?_
      refine th_x ?_
      refine th_x ?_
      refine bk_same ?_
      refine th_n ?_
      refine xc_seq (xc_region ?_)
      obtain rfl : k = (w :: x :: ws).length := by (first|omega|(dsimp only at *;omega)|(simp at *;omega))
      rw [List.take_length]
      refine xr_op rfl rfl (xv_alloc ty80 (fun b hb => ?_))
      refine xr_end rfl ?_
      refine th_n ?_
      refine xc_seq (xc_region ?_)
      refine xr_op rfl rfl (xv_move rfl ?_)
      refine xr_op rfl rfl (xv_calls rfl hb74 (Grow_c (n := (x :: ws).length + sumL (w :: x :: ws)) (by omega) (by simp only [List.length_cons]; omega) (fun V1 hV1 => up_ret ?_)))
      refine xr_end rfl ?_
      refine th_n ?_
      refine xc_seq (xc_region ?_)
      refine xr_op rfl rfl (xv_move rfl ?_)
      have hlto : 0 < (w :: x :: ws).length := (by simp)
      obtain ⟨bo, oo, lo, to, fzo, hao, hmo, hxo⟩ := (hs).at hlto
      obtain ⟨xo, hko⟩ : ∃ qq_, (w :: x :: ws)[0]? = some qq_ := ⟨_, List.getElem?_eq_getElem hlto⟩
      refine xr_op rfl rfl (xv_ia (sz := 1) (j := 0) sl86 ty9 rfl (by rw [hao]; rfl) rfl rfl (by (first|omega|(dsimp only at *;omega)|(simp at *;omega))) (by simp only [List.length_cons]; omega) ?_)
      refine xr_op rfl rfl (xv_load1 ty9 rfl rfl (by ((repeat first|exact z_0|assumption|refine z_1 ?_|(refine z_l ?_;(repeat first|exact z_0|assumption|refine z_1 ?_);done)|refine z_r ?_);done)) (show _ = some (S w) by cases hko; exact take_get (hxo 0 w rfl) (j := 0) rfl) ?_)
      refine xr_op rfl rfl (xv_calls rfl hb38 (wstrP_c (bs := []) (l := w) (.inr rfl) hV1 (by simp only [List.length_nil]; omega) List.perm_middle.symm (fun V2 hV2 => up_ret ?_)))
      refine xr_end rfl ?_
      refine th_n ?_
      refine xc_seq ?_
      refine xc_seq (xc_region ?_)
      refine xr_op rfl rfl (xv_move rfl ?_)
      refine xr_op rfl rfl (xv_sl1 (enc := eStr) (v := w) (xs := x :: ws) sl86 ty9 rfl rfl rfl rfl hc (hs.sub (by intro z9 hz9; ((repeat first|exact z_0|assumption|refine z_1 ?_|(refine z_l ?_;(repeat first|exact z_0|assumption|refine z_1 ?_);done)|refine z_r ?_);done))) ?_)
      refine xr_op rfl rfl (xv_len sl86 rfl ?_)
      refine xr_op rfl rfl (xv_move rfl ?_)
      refine xr_end rfl ?_
      refine th_n ?_
      refine xc_block ?_
      refine xc_loop (σ := Nat × Vec) (fun z => z.1 ≤ (x :: ws).length ∧ z.2.ok 1 (w ++ tailJ ((x :: ws).take z.1)).length ((w ++ tailJ ((x :: ws).take z.1)).flatMap eU)) (fun z => (((((emp.put (some 1) (S [32])).put (some 8) (.pointer (some ⟨b, 0, none⟩))).put (some 63) (.slice (tailA a c 1) (x :: ws).length (c - 1))).put (some 64) (I (x :: ws).length)).put (some 65) (I z.1))) (fun z => (z.2.hp 5 ((w ++ tailJ ((x :: ws).take z.1)).flatMap eU) ++ (b, .cells ⟨[.pointer (some ⟨b, 0, none⟩), z.2.val (w ++ tailJ ((x :: ws).take z.1)).length]⟩ 80) :: h)) (fun z => (x :: ws).length - z.1) ((0, V2) : Nat × Vec) ⟨Nat.zero_le _, by simpa [tailJ] using hV2⟩ (le_put (le_put (le_put (le_put (le_put (le_emp _) rfl) rfl) rfl) rfl) rfl) (by simp only [List.nil_append, List.take_zero, tailJ, List.flatMap_nil, List.append_nil]; (first|((repeat first|exact s_0|exact s_1|exact s_3|refine s_4 ?_|refine s_5 ?_|refine s_6 ?_|refine s_7 ?_);done)|((repeat first|exact s_0|exact s_1|exact s_3|refine s_4 ?_|refine s_5 ?_|refine s_6 ?_|refine s_8 ?_);done))) ?_
      rintro ⟨k, V⟩ ⟨hk, hV⟩
      dsimp only at hk hV
      have htj := tailJ_len (ws := (x :: ws).take k) (fun y hy => hw y (List.mem_cons_of_mem _ (List.mem_of_mem_take hy)))
      rw [List.length_take] at htj
      refine xc_seq (xc_region ?_)
      refine xr_op rfl rfl (xv_lss2 rfl rfl (fun q2 => ?_) (fun q2 => ?_))
      · refine xr_end rfl ?_
        refine th_n ?_
        refine xc_seq ?_
        refine xc_true rfl ?_
        refine xc_skip ?_
        refine th_n ?_
        refine xc_seq ?_
        refine xc_block ?_
        refine xc_seq (xc_region ?_)
        have hlto : k < (x :: ws).length := by (first|omega|(dsimp only at *;omega)|(simp at *;omega))
        obtain ⟨bo, oo, lo, to, fzo, hao, hmo, hxo⟩ := ((SlV.sub (slv_tail (c := c) hc hs) (by intro z9 hz9; ((repeat first|exact z_0|assumption|refine z_1 ?_|(refine z_l ?_;(repeat first|exact z_0|assumption|refine z_1 ?_);done)|refine z_r ?_);done)))).at hlto
        obtain ⟨xo, hko⟩ : ∃ qq_, (x :: ws)[k]? = some qq_ := ⟨_, List.getElem?_eq_getElem hlto⟩
        have hxw := hw xo (List.mem_cons_of_mem _ (List.mem_of_getElem? hko))
        refine xr_op rfl rfl (xv_ia (sz := 1) (j := k) sl86 ty9 rfl (by rw [hao]; rfl) rfl (by (first | assumption | with_reducible exact Int.toNat_natCast _ | with_reducible rfl | rfl)) (by (first|omega|(dsimp only at *;omega)|(simp at *;omega))) (by (first|omega|(dsimp only at *;omega)|(simp at *;omega))) ?_)
        refine xr_op rfl rfl (xv_load1 ty9 rfl rfl (by ((repeat first|exact z_0|assumption|refine z_1 ?_|(refine z_l ?_;(repeat first|exact z_0|assumption|refine z_1 ?_);done)|refine z_r ?_);done)) (take_get (hxo (k) xo hko) (j := 0) rfl) ?_)
        refine xr_op rfl rfl (xv_assign rfl ?_)
        refine xr_end rfl ?_
        refine th_n ?_
        refine xc_seq (xc_region ?_)
        refine xr_op rfl rfl (xv_move rfl ?_)
        refine xr_op rfl rfl (xv_calls rfl hb38 (wstrP_c (bs := w ++ tailJ ((x :: ws).take k)) (l := [32]) (.inr rfl) hV (by simp only [List.length_append, List.length_singleton]; omega) List.perm_middle.symm (fun V3 hV3 => up_ret ?_)))
        refine xr_end rfl ?_
        refine th_n ?_
        refine xc_region ?_
        refine xr_op rfl rfl (xv_move rfl ?_)
        refine xr_op rfl rfl (xv_calls rfl hb38 (wstrP_c (bs := (w ++ tailJ ((x :: ws).take k)) ++ [32]) (l := xo) (.inr rfl) hV3 (by simp only [List.length_append, List.length_singleton]; omega) List.perm_middle.symm (fun V4 hV4 => up_ret ?_)))
        refine xr_end rfl ?_
        refine bk_n ?_
        refine th_n ?_
        refine xc_region ?_
        refine xr_op rfl rfl (xv_add rfl rfl (wrap_i64 (by (first|omega|(dsimp only at *;omega)|(simp at *;omega))) (by (first|omega|(dsimp only at *;omega)|(simp at *;omega)))) ?_)
        refine xr_op rfl rfl (xv_move rfl ?_)
        refine xr_end rfl ?_
        have etk : w ++ tailJ ((x :: ws).take (k + 1)) = ((w ++ tailJ ((x :: ws).take k)) ++ [32]) ++ xo := by rw [List.take_add_one, hko, show (some xo).toList = [xo] from rfl, tailJ_snoc]; simp
        exact rnd ((k + 1, V4) : Nat × Vec) ⟨by (first|omega|(dsimp only at *;omega)|(simp at *;omega)), by dsimp only; rw [etk]; exact hV4⟩ (by (first|omega|(dsimp only at *;omega)|(simp at *;omega))) (le_put (le_put (le_put (le_put (le_put (le_emp _) rfl) rfl) rfl) rfl) rfl) (by dsimp only; rw [etk]; (first|((repeat first|exact s_0|exact s_1|exact s_3|refine s_4 ?_|refine s_5 ?_|refine s_6 ?_|refine s_7 ?_);done)|((repeat first|exact s_0|exact s_1|exact s_3|refine s_4 ?_|refine s_5 ?_|refine s_6 ?_|refine s_8 ?_);done)))
      · refine xr_end rfl ?_
        refine th_n ?_
        refine xc_seq ?_
        refine xc_false rfl ?_
        refine xc_exit ?_
        refine th_x ?_
        refine th_x ?_
        refine bk_same ?_
        refine th_n ?_
        refine xc_seq (xc_region ?_)
        obtain rfl : k = (x :: ws).length := by (first|omega|(dsimp only at *;omega)|(simp at *;omega))
        rw [List.take_length] at hV ⊢
        have htl := tailJ_len (ws := x :: ws) (fun y hy => hw y (List.mem_cons_of_mem _ hy))
        simp only [List.length_cons] at htl
        refine xr_op rfl rfl (xv_calls rfl hb41 (bstr_c (bs := w ++ tailJ (x :: ws)) (g := h) hV (by rintro h9; rw [show tailJ (x :: ws) = 32 :: x ++ tailJ ws from rfl] at h9; simp at h9) (by simp only [List.length_append]; omega) (List.Perm.refl _) (up_ret ?_)))
        refine xr_op rfl rfl (xv_assign rfl ?_)
        refine xr_end rfl ?_
        refine th_n ?_
        refine xc_ret ?_
        refine body_ret (h' := h) rfl (ro_tmp rfl ro_nil) (by (first|((repeat first|exact s_0|exact s_1|exact s_3|refine s_4 ?_|refine s_5 ?_|refine s_6 ?_|refine s_7 ?_);done)|((repeat first|exact s_0|exact s_1|exact s_3|refine s_4 ?_|refine s_5 ?_|refine s_6 ?_|refine s_8 ?_);done))) ?_
        (rw [jn_tail] at H; exact H)

theorem line_c {ws : List Str} {a : Option Addr} {c : Nat} {h : Hp} {R : Ending → Hp → Prop} (hs : SlV h 1 eStr a ws) (hc : ws.length ≤ c) (hl : ws.length ≤ 1000) (hw : ∀ w ∈ ws, w.length ≤ 100) (H : R (.returned (S (lineS ws))) h) : ACalls Tryd.prog 39 ⟨[.slice a ws.length c]⟩ h R := by
  refine calls_of_xc (N := 6) Tryd.func39 rfl (by rfl) ?_
  refine xc_seq (xc_region ?_)
  refine xr_op rfl rfl (xv_assign rfl ?_)
  refine xr_end rfl ?_
  refine th_n ?_
  refine xc_seq (xc_region ?_)
  refine xr_op rfl rfl (xv_move rfl ?_)
  refine xr_op rfl rfl (xv_calls rfl hb61 (join_c hs hc hl hw (up_ret ?_)))
  have hj9 := jn_len hw
  refine xr_op rfl rfl (xv_addS (a := jn ws) (c := [10]) rfl rfl (by simp only [List.length_singleton]; omega) ?_)
  refine xr_op rfl rfl (xv_assign rfl ?_)
  refine xr_end rfl ?_
  refine th_n ?_
  refine xc_ret ?_
  refine body_ret (h' := h) rfl (ro_tmp rfl ro_nil) (by (first|((repeat first|exact s_0|exact s_1|exact s_3|refine s_4 ?_|refine s_5 ?_|refine s_6 ?_|refine s_7 ?_);done)|((repeat first|exact s_0|exact s_1|exact s_3|refine s_4 ?_|refine s_5 ?_|refine s_6 ?_|refine s_8 ?_);done))) ?_
  exact H

end Go.Proofs.YtlpkiolopelpfaaDoor

/-
  Arrays of bytes compared; a slice of an array.
-/
set_option linter.all false
namespace Go.H
open Go
section
variable {P : Program} {r : Option Nat} {E : Env} {h h' g : Hp} {K : Value → Hp → Prop} {T : List PanicEntry → Hp → Prop} {dst : Option Nat} {ty : TypeId} {pos : String} {af : Array Edge} {gd : Option (Nat × Bool)}
def Num8 (v : Value) : Prop := ∃ n, v = .int .u8 n
theorem seg_num8 {xs : List Value} (hx : ∀ x ∈ xs, Num8 x) (o n : Nat) : ∀ x ∈ (xs.drop o).take n, Num8 x := fun x hm => hx x (List.mem_of_mem_drop (List.mem_of_mem_take hm))
theorem eqc_append8 : ∀ {xs ys us vs : List Value}, xs.length = ys.length → (∀ x ∈ xs, Num8 x) → (∀ y ∈ ys, Num8 y) → eqc (xs ++ us) (ys ++ vs) = (eqc xs ys && eqc us vs)
  | [], [], us, vs, _, _, _ => by simp [eqc]
  | x :: xs, y :: ys, us, vs, hl, hx, hy => by
    obtain ⟨a, rfl⟩ := hx x List.mem_cons_self
    obtain ⟨b, rfl⟩ := hy y List.mem_cons_self
    have := eqc_append8 (us := us) (vs := vs) (by simpa using hl) (fun x h => hx x (List.mem_cons_of_mem _ h)) (fun y h => hy y (List.mem_cons_of_mem _ h))
    simp only [List.cons_append, eqc, this, Bool.and_assoc]
def Flat8 (P : Program) (n : Nat) (t : TypeId) (sz : Nat) (agg : Bool) : Prop :=
  ∀ d, n ≤ d → ∀ xs ys : List Value, xs.length = sz → ys.length = sz → (∀ x ∈ xs, Num8 x) → (∀ y ∈ ys, Num8 y) → ∀ w, (Op.equalIn d t (pk agg xs) (pk agg ys)).run P w = .ok (eqc xs ys) w
theorem flat_int8 {t : TypeId} (ht : P.underlying t = some (.int .u8)) : Flat8 P 1 t 1 false := by
  intro d hd xs ys hx hy nx ny w
  obtain ⟨d, rfl⟩ : ∃ e, d = e + 1 := ⟨d - 1, by omega⟩
  match xs, ys, hx, hy with
  | [x], [y], _, _ =>
    obtain ⟨a, rfl⟩ := nx x List.mem_cons_self
    obtain ⟨b, rfl⟩ := ny y List.mem_cons_self
    simp only [pk]
    rw [run_equalIn_int w d t .u8 .u8 a b ht]
    simp [eqc]
theorem flat_array8 {n len : Nat} {t e : TypeId} {td : TD} (hu : P.underlying t = some (.array len e)) (hd : TyOk P e td) (hf : Flat8 P n e td.size (aggB td.und)) (h0 : 0 < td.size) (h1 : (aggB td.und || Nat.beq td.size 1) = true) : Flat8 P (n + 1) t (len * td.size) true := by
  intro d hdn xs ys hx hy nx ny w
  obtain ⟨d, rfl⟩ : ∃ e, d = e + 1 := ⟨d - 1, by omega⟩
  have hs1 : aggB td.und = false → td.size = 1 := fun ha => by simpa [ha] using h1
  show (Op.equalIn (d + 1) t (.agg ⟨xs⟩) (.agg ⟨ys⟩)).run P w = _
  have hloop : ∀ k i, i + k = len → ((forIn (List.range' i k) ((none, ()) : (Option Bool × Unit)) fun i _ => (do
      if (!(← Op.equalIn d e (← part e ⟨xs⟩ (i * td.size)) (← part e ⟨ys⟩ (i * td.size)))) = true then pure (ForInStep.done (some false, ())) else pure (ForInStep.yield (none, ())) : Sem (ForInStep ((Option Bool × Unit))))) : Sem ((Option Bool × Unit))).run P w =
      .ok (if eqc (xs.drop (i * td.size)) (ys.drop (i * td.size)) then none else some false, ()) w := by
    intro k
    induction k with
    | zero =>
      intro i hi
      rw [List.drop_eq_nil_of_le (by rw [hx]; exact Nat.mul_le_mul_right _ (by omega)), List.drop_eq_nil_of_le (by rw [hy]; exact Nat.mul_le_mul_right _ (by omega))]
      simp [eqc]
    | succ k ih =>
      intro i hi
      have hle : (i + 1) * td.size ≤ len * td.size := Nat.mul_le_mul_right _ (by omega)
      rw [Nat.add_mul] at hle
      have lx : ((xs.drop (i * td.size)).take td.size).length = td.size := by simp; omega
      have ly : ((ys.drop (i * td.size)).take td.size).length = td.size := by simp; omega
      have pa := part_run hd (xs := xs) (o := i * td.size) h0 (by omega) hs1 w
      have pb := part_run hd (xs := ys) (o := i * td.size) h0 (by omega) hs1 w
      have pe := hf d (by omega) _ _ lx ly (seg_num8 nx _ _) (seg_num8 ny _ _) w
      have hrest := ih (i + 1) (by omega)
      rw [Nat.add_mul, Nat.one_mul] at hrest
      rw [seg_split xs (i * td.size) td.size, seg_split ys (i * td.size) td.size, eqc_append8 (by rw [lx, ly]) (seg_num8 nx _ _) (seg_num8 ny _ _)]
      rw [List.range'_succ, List.forIn_cons]
      simp only [Sem.run_bind, pa, pb, pe, Result.andThen_ok]
      cases eqc ((xs.drop (i * td.size)).take td.size) ((ys.drop (i * td.size)).take td.size)
      · simp
      · simpa using hrest
  have := hloop len 0 (by omega)
  simp only [Nat.zero_mul, List.drop_zero] at this
  simp only [Op.equalIn, Sem.run_bind, run_underlying hu, Result.andThen_ok, hd.run_size, Std.Legacy.Range.forIn_eq_forIn_range', Std.Legacy.Range.size, Nat.sub_zero, Nat.add_sub_cancel, Nat.div_one]
  rw [this]
  cases eqc xs ys <;> simp
theorem xv_eqA8 {n sz : Nat} {xt yt : TypeId} {x y : Operand} {xs ys : List Value} {b : Bool} (hf : Flat8 P n xt sz true) (hn : Nat.ble n 10000 = true) (hg : P.eqGuardType P.depth xt = false) (hx : ev E x = some (.agg ⟨xs⟩)) (hy : ev E y = some (.agg ⟨ys⟩)) (lx : xs.length = sz) (ly : ys.length = sz) (nx : ∀ x ∈ xs, Num8 x) (ny : ∀ y ∈ ys, Num8 y) (hb : eqc xs ys = b)
    (H : K (.bool b) h) : XV P r ⟨dst, .binOp .eql xt x y yt, ty, pos, af, gd⟩ K T E h :=
  xv_of_run (by simp [plainOp]) fun w ρ ho he => ⟨_, h, w, by
    have hq : (binOp .eql xt (.agg ⟨xs⟩) (.agg ⟨ys⟩)).run P w = .ok (.bool b) w := by
      rw [run_eql_struct, show (Op.equalIn 10000 xt (.agg ⟨xs⟩) (.agg ⟨ys⟩)).run P w = _ from hf 10000 (Nat.le_of_ble_eq_true hn) xs ys lx ly nx ny w, hb]; rfl
    rw [run_bin (he _ _ hx) (he _ _ hy) (guard_ok hg), hq]; rfl, H, .refl ho⟩
theorem xv_slArr {x y : Operand} {t e : TypeId} {d : TD} {b n m : Nat} {k : IntKind} {i : Int} (ht : P.underlying t = some (.array n e)) (hd : TyOk P e d) (hsz : d.size = 1) (hx : ev E x = some (.pointer (some ⟨b, 0, none⟩))) (hy : ev E y = some (.int k i)) (h0 : 0 ≤ i) (h1 : i < n) (hm : i.toNat = m)
    (H : K (.slice (some ⟨b, m, none⟩) (n - m) (n - m)) h) : XV P r ⟨dst, .slice t x (some y) none none, ty, pos, af, gd⟩ K T E h := by
  subst hm
  exact xv_of_run (by simp [plainOp]) fun w ρ ho he => ⟨_, h, w, by
    have hne : ¬ n = i.toNat := by omega
    simp only [execOp, he _ _ hx, Option.map_none, Option.map_some, he _ _ hy]
    simp [Instr.sliceAt, Instr.sureAddr, run_underlying ht, Instr.sliceBounds, run_sliceBoundH h0 (by omega : i ≤ (n : Int)), hd.run_size, hsz, hne, addr_add], H, .refl ho⟩

end
end Go.H
