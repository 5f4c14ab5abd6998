/-
  Lines of meters; the examples.
-/
import Derived.Test.YtlpkiolopelpfaaDoorHK
import Derived.Test.YtlpkiolopelpfaaDoorD
import Derived.Test.YtlpkiolopelpfaaDoorW1
import Derived.Sort.LotD1
set_option linter.all false
namespace Go.Proofs.YtlpkiolopelpfaaDoor
open Go Go.H
theorem bytes_setN {l : List Int} {k : Nat} {v : Int} (h : k < l.length) : (l.flatMap eB).set (0 + k * 1) (U8 v) = (l.set k v).flatMap eB := by
  have e : ∀ l : List Int, l.flatMap eB = l.map U8 := fun l => by
    induction l with
    | nil => rfl
    | cons x l ih => rw [List.flatMap_cons, ih]; rfl
  rw [e, e, Nat.zero_add, Nat.mul_one, List.map_set]
theorem eqc_eB : ∀ a b : List Int, eqc (a.flatMap eB) (b.flatMap eB) = decide (a = b)
  | [], [] => rfl
  | [], _ :: _ => by simp [eqc, eB]
  | _ :: _, [] => by simp [eqc, eB]
  | x :: a, y :: b => by
    show (x == y && eqc (a.flatMap eB) (b.flatMap eB)) = _
    rw [eqc_eB a b]
    by_cases h1 : x = y <;> by_cases h2 : a = b <;> simp [h1, h2]
theorem num8_eB {l : List Int} : ∀ x ∈ l.flatMap eB, Num8 x := fun x hx => by
  obtain ⟨n, _, hn⟩ := List.mem_flatMap.1 hx
  exact ⟨n, List.mem_singleton.1 hn⟩
def prevF (rds : List Int) : Nat → List Int
  | 0 => [0, 0, 0, 0, 0]
  | k + 1 => figs (rds.getD k 0).toNat
theorem prevF_succ {rds : List Int} {k : Nat} {n : Int} (h : rds[k]? = some n) : prevF rds (k + 1) = figs n.toNat := by
  show figs (rds.getD k 0).toNat = _
  rw [List.getD_eq_getElem?_getD, h]; rfl
theorem prevF_len (rds : List Int) : ∀ k, (prevF rds k).length = 5
  | 0 => rfl
  | k + 1 => rfl
def wdL (rds : List Int) : Nat → List Str
  | 0 => []
  | k + 1 => wdL rds k ++ [wordS (prevF rds (k + 1)) (prevF rds k)]
theorem wdL_len (rds : List Int) : ∀ k, (wdL rds k).length = k
  | 0 => rfl
  | k + 1 => by rw [wdL, List.length_append, wdL_len rds k]; rfl
theorem wordS_len {f w : List Int} (h : f.length = 5) : (wordS f w).length ≤ 5 := by
  unfold wordS
  split
  · decide
  · rw [u8_len, List.length_drop]; omega
theorem wdL_short (rds : List Int) : ∀ k, ∀ w ∈ wdL rds k, w.length ≤ 5
  | 0 => fun w hw => by cases hw
  | k + 1 => fun w hw => by
    rw [wdL] at hw
    rcases List.mem_append.1 hw with hw | hw
    · exact wdL_short rds k w hw
    · rw [List.mem_singleton.1 hw]; exact wordS_len (prevF_len _ _)
def lfW (x : Leaf) (k : Nat) : List Str := decI x.house :: wdL x.rds k
def lfS (x : Leaf) : Str := lineS (lfW x x.rds.length)
def mtrS (l : List Leaf) : Str := l.flatMap lfS
theorem mtrS_snoc (l : List Leaf) (x : Leaf) : mtrS (l ++ [x]) = mtrS l ++ lfS x := by simp [mtrS]
theorem lfW_short {x : Leaf} (hx : leafOk x) (k : Nat) : ∀ w ∈ lfW x k, w.length ≤ 100 := fun w hw => by
  rcases List.mem_cons.1 hw with rfl | hw
  · have := decI_len (n := x.house) (by have := hx.1; omega); omega
  · have := wdL_short x.rds k w hw; omega
theorem lfS_len {x : Leaf} (hx : leafOk x) : (lfS x).length ≤ 910 := by
  have := lineS_len (lfW_short hx x.rds.length)
  rw [lfW, List.length_cons, wdL_len] at this
  have h8 := hx.2.1
  unfold lfS lfW
  omega
theorem mtrS_len {l : List Leaf} (h : ∀ x ∈ l, leafOk x) : (mtrS l).length ≤ 910 * l.length := by
  induction l with
  | nil => exact Nat.le_refl _
  | cons x l ih =>
    have h1 := ih fun y hy => h y (List.mem_cons_of_mem _ hy)
    have h2 := lfS_len (h x List.mem_cons_self)
    rw [show mtrS (x :: l) = lfS x ++ mtrS l from rfl, List.length_append, List.length_cons]; omega
theorem permB3 {α : Type} {v l h : List α} {q r x y : α} : List.Perm (q :: (l ++ (v ++ r :: x :: y :: h))) (v ++ r :: x :: y :: (l ++ q :: h)) := by simpa using permB (m := v ++ [r, x, y]) (l := l) (h := h) (q := q)
theorem permB4 {α : Type} {u v l h : List α} {q r : α} : List.Perm (q :: (l ++ (u ++ (v ++ r :: h)))) (u ++ (v ++ r :: (l ++ q :: h))) := by simpa using permB (m := u ++ (v ++ [r])) (l := l) (h := h) (q := q)
theorem Vec.le_cp {V : Vec} {sz n : Nat} {xs : List Value} (h : V.ok sz n xs) : n ≤ V.cp := by
  cases V with
  | nil => have := h.2; omega
  | «at» b c sp => exact h.2.1
theorem ldW {x : Load} (h : loadOk x) : ∀ w ∈ (ldN x).map decI, List.length w ≤ 100 := fun w hw => by
  obtain ⟨⟨a1, a2⟩, ⟨b1, b2⟩, ⟨c1, c2⟩, d1, d2⟩ := h
  obtain ⟨n, hn, rfl⟩ := List.mem_map.1 hw
  have : n ≤ 1000000000 := by
    simp only [ldN, List.mem_cons, List.not_mem_nil, or_false] at hn
    rcases hn with rfl | rfl | rfl | rfl <;> omega
  have := decI_len this
  omega
theorem totW {l : List Load} (h : ∀ x ∈ l, loadOk x) (hl : l.length ≤ 64) : ∀ w ∈ ([116, 111, 116, 97, 108] :: [(l.length : Int), wsum l].map decI : List Str), List.length w ≤ 100 := fun w hw => by
  have hb := wsum_bd h
  rcases List.mem_cons.1 hw with rfl | hw
  · decide
  · obtain ⟨n, hn, rfl⟩ := List.mem_map.1 hw
    have : n ≤ 1000000000 := by
      simp only [List.mem_cons, List.not_mem_nil, or_false] at hn
      rcases hn with rfl | rfl <;> omega
    have := decI_len this
    omega
theorem totS_len {l : List Load} (h : ∀ x ∈ l, loadOk x) (hl : l.length ≤ 64) : (totS l).length ≤ 304 := Nat.le_trans (lineS_len (totW h hl)) (Nat.le_refl _)
theorem bytes_get {l : List Int} {k : Nat} {x : Int} (h : l[k]? = some x) : (l.flatMap eB)[0 + k * 1]? = some (U8 x) := by
  have e : ∀ l : List Int, l.flatMap eB = l.map U8 := fun l => by
    induction l with
    | nil => rfl
    | cons x l ih => rw [List.flatMap_cons, ih]; rfl
  rw [e, Nat.zero_add, Nat.mul_one, List.getElem?_map, h]; rfl
theorem bytes_drop {f : List Int} {d i : Nat} {x : Int} (h : (f.drop d)[i]? = some x) : ((f.flatMap eB).drop (d + i * 1)).take 1 = eB x := by
  rw [List.getElem?_drop] at h
  have := flat_at eB_len [] f (d + i) h
  rw [List.append_nil, Nat.zero_add, Nat.mul_one] at this
  rw [Nat.mul_one]
  exact this
theorem dif_next {a b : List Int} {i : Nat} {x y : Int} (hl : a.length = b.length) (hn : a ≠ b) (hi : i ≤ dif a b) (hx : a[i]? = some x) (hy : b[i]? = some y) (he : x = y) : i + 1 ≤ dif a b := by
  rcases Nat.lt_or_ge i (dif a b) with h | h
  · exact h
  · obtain rfl : i = dif a b := by omega
    exact absurd (by rw [hx, hy, he]) (dif_ne hl hn)
theorem dif_mu {a b : List Int} {i : Nat} {x y : Int} (hl : a.length = b.length) (hn : a ≠ b) (hi : i ≤ dif a b) (hx : a[i]? = some x) (hy : b[i]? = some y) (he : x = y) : dif a b - (i + 1) < dif a b - i := by
  have := dif_next hl hn hi hx hy he
  omega
theorem dif_end {a b : List Int} {i : Nat} {x y : Int} (hl : a.length = b.length) (hn : a ≠ b) (hi : i ≤ dif a b) (hx : a[i]? = some x) (hy : b[i]? = some y) (he : ¬ x = y) : i = dif a b := by
  rcases Nat.lt_or_ge i (dif a b) with h | h
  · have := dif_eq h
    rw [hx, hy] at this
    exact absurd (Option.some.inj this) he
  · omega
theorem splice_all {l vs : List Value} (h : l.length = vs.length) : splice l 0 vs = vs := by
  unfold splice
  simp [h]
def exL : List Load := [⟨5, 1, 0, 6⟩, ⟨5, 2, 1, 7⟩, ⟨6, 1, 0, 6⟩]
def exS : List Sight := [⟨5, 10⟩, ⟨6, 12⟩, ⟨9, 8⟩]
def exM (b : Nat) : List Leaf := [⟨12, some ⟨b, 0, none⟩, 4, [1234, 1240, 1240, 11240]⟩]
theorem dI {n : Int} (h0 : 0 ≤ n) (h : n < 10) : decI n = [UInt8.ofNat (48 + n.toNat)] := dec_small (by omega)
theorem chg_ex : chgS exL = [53, 32, 49, 32, 48, 32, 54, 10, 53, 32, 50, 32, 49, 32, 55, 10, 54, 32, 49, 32, 48, 32, 54, 10, 116, 111, 116, 97, 108, 32, 51, 32, 49, 57, 10] := by
  have e19 : decI 19 = [49, 57] := dec_2 (n := 19) (by decide) (by decide)
  simp only [chgS, ldsS, ldS, ldN, totS, wsum, exL, List.flatMap_cons, List.flatMap_nil, List.map_cons, List.map_nil, List.length_cons, List.length_nil, List.sum_cons, List.sum_nil]
  rw [show ((0 + 1 + 1 + 1 : Nat) : Int) = 3 from rfl, show (6 : Int) + (7 + (6 + 0)) = 19 from rfl, e19, dI (n := 5) (by decide) (by decide), dI (n := 1) (by decide) (by decide), dI (n := 0) (by decide) (by decide), dI (n := 6) (by decide) (by decide), dI (n := 2) (by decide) (by decide), dI (n := 7) (by decide) (by decide), dI (n := 3) (by decide) (by decide)]
  decide
theorem mtr_ex (b : Nat) : mtrS (exM b) = [49, 50, 32, 48, 49, 50, 51, 52, 32, 52, 48, 32, 46, 32, 49, 49, 50, 52, 48, 10] := by
  have e12 : decI 12 = [49, 50] := dec_2 (n := 12) (by decide) (by decide)
  simp only [mtrS, lfS, lfW, exM, List.flatMap_cons, List.flatMap_nil, e12]
  decide
theorem octs_lit {n : Nat} (h : n < 8) : octs n 0 = [n] := by rw [octs_small (by omega)]; simp; omega
theorem octs_lit2 {n : Nat} (h : 8 ≤ n) (h2 : n < 64) : octs n 0 = [n / 8 + 8, n % 8] := by
  rw [octs_big h, octs_small (by omega), Nat.mod_eq_of_lt (by omega)]; rfl
theorem log_ex : logB exS = [53, 164, 4, 39, 161] := by
  have e : logA exS = [3, 5, 20, 0, 4, 2, 7, 17] := by decide
  rw [logB_eq, e]
  have e2 : hvA [3, 5, 20, 0, 4, 2, 7, 17] = [3, 5, 10, 4, 0, 4, 2, 7, 10, 1] := by
    simp only [hvA, List.flatMap_cons, List.flatMap_nil]
    rw [octs_lit (by decide), octs_lit (by decide), octs_lit2 (by decide) (by decide), octs_lit (by decide), octs_lit (by decide), octs_lit (by decide), octs_lit (by decide), octs_lit2 (by decide) (by decide)]
    decide
  rw [e2]
  decide
theorem exS_ok : errL 60 sightOk ltSight exS = 0 := by
  refine errL_0 (by decide) (by decide) fun i a b hi ha hb => ?_
  match i, hi, ha, hb with
  | 0, _, ha, hb => cases ha; cases hb; show (5 : Int) < 6; decide
  | 1, _, ha, hb => cases ha; cases hb; show (6 : Int) < 9; decide
theorem exL_ok : errL 64 loadOk ltLoad exL = 0 := by
  refine errL_0 (by decide) (by decide) fun i a b hi ha hb => ?_
  match i, hi, ha, hb with
  | 0, _, ha, hb => cases ha; cases hb; show _ ∨ _; decide
  | 1, _, ha, hb => cases ha; cases hb; show _ ∨ _; decide
theorem exM_ok (b : Nat) : errL 32 leafOk ltLeaf (exM b) = 0 := by
  refine errL_0 (show ¬ 32 < 1 by decide) (fun x hx => ?_) fun i a b hi ha hb => ?_
  · rw [List.mem_singleton.1 hx]; exact ⟨(by decide : 0 ≤ (12 : Int) ∧ (12 : Int) ≤ 9999), (by decide : 4 ≤ 8), (by decide : ∀ n ∈ ([1234, 1240, 1240, 11240] : List Int), rdOk n)⟩
  · simp [exM] at hi
theorem ex_small : ∀ n ∈ chgN exL, 0 ≤ n ∧ n < 100 := by decide
theorem log_exU : u8 (logB exS) = [53, 164, 4, 39, 161] := by rw [log_ex]; decide
end Go.Proofs.YtlpkiolopelpfaaDoor

/-
  Walks.
-/
namespace Go.Proofs.YtlpkiolopelpfaaDoor
open Go Go.H
set_option maxRecDepth 100000
set_option maxHeartbeats 8000000
set_option linter.all false
theorem WriteCharges_c {l : List Load} {a : Option Addr} {c : Nat} {h : Hp} {R : Ending → Hp → Prop} (hs : SlV h 4 eLoad a l) (hl : l.length ≤ 1000000) (hI : (errL 64 loadOk ltLoad l) = 0 → ∀ n ∈ chgN l, ItoaC n h) (H1 : (errL 64 loadOk ltLoad l) ≠ 0 → R (.returned (.tuple ⟨[S [], I (errL 64 loadOk ltLoad l)]⟩)) h)
    (H2 : (errL 64 loadOk ltLoad l) = 0 → R (.returned (.tuple ⟨[S (chgS l), I 0]⟩)) h) : ACalls Tryd.prog 12 ⟨[.slice a l.length c]⟩ h R := by
  refine calls_of_xc (N := 47) Tryd.func12 rfl (by rfl) ?_
  refine xc_seq (xc_region ?_)
  refine xr_op rfl rfl (xv_assign rfl ?_)
  refine xr_op rfl rfl (xv_assign rfl ?_)
  refine xr_end rfl ?_
  refine th_n ?_
  refine xc_seq ?_
  refine xc_seq (xc_region ?_)
  refine xr_op rfl rfl (xv_move rfl ?_)
  refine xr_op rfl rfl (xv_calls rfl hb35 (errLoad_c hs hl (up_ret ?_)))
  refine xr_op rfl rfl (xv_assign rfl ?_)
  refine xr_end rfl ?_
  refine th_n ?_
  refine xc_seq (xc_region ?_)
  refine xr_op rfl rfl (xv_move rfl ?_)
  refine xr_op rfl rfl (xv_neq2 rfl rfl (fun q1 => ?_) (fun q1 => ?_))
  · refine xr_end rfl ?_
    refine th_n ?_
    refine xc_true rfl ?_
    refine xc_seq (xc_region ?_)
    refine xr_op rfl rfl (xv_move rfl ?_)
    refine xr_op rfl rfl (xv_assign rfl ?_)
    refine xr_op rfl rfl (xv_assign rfl ?_)
    refine xr_end rfl ?_
    refine th_n ?_
    refine xc_ret ?_
    refine th_r ?_
    refine body_ret (h' := h) rfl (ro_tmp rfl (ro_tmp rfl ro_nil)) (by (first|((repeat first|exact s_0|exact s_1|exact s_3|refine s_4 ?_|refine s_5 ?_|refine s_6 ?_|refine s_7 ?_);done)|((repeat first|exact s_0|exact s_1|exact s_3|refine s_4 ?_|refine s_5 ?_|refine s_6 ?_|refine s_8 ?_);done))) ?_
    first | exact H1 (by omega) | exact H2 he0
  · refine xr_end rfl ?_
    refine th_n ?_
    refine xc_false rfl ?_
    refine xc_skip ?_
    refine th_n ?_
    refine xc_seq (xc_region ?_)
    have he0 : (errL 64 loadOk ltLoad l) = 0 := by omega
    obtain ⟨hl60, hok, has9⟩ := errL_is he0
    refine xr_op rfl rfl (xv_alloc ty80 (fun bB hbB => ?_))
    refine xr_end rfl ?_
    refine th_n ?_
    refine xc_seq (xc_region ?_)
    refine xr_op rfl rfl (xv_assign rfl ?_)
    refine xr_end rfl ?_
    refine th_n ?_
    refine xc_seq ?_
    refine xc_seq (xc_region ?_)
    refine xr_op rfl rfl (xv_move rfl ?_)
    refine xr_op rfl rfl (xv_len sl32 rfl ?_)
    refine xr_op rfl rfl (xv_move rfl ?_)
    refine xr_end rfl ?_
    refine th_n ?_
    refine xc_block ?_
    refine xc_loop (σ := Nat × Vec × Option Addr) (fun z => z.1 ≤ l.length ∧ z.2.1.ok 1 (ldsS (l.take z.1)).length ((ldsS (l.take z.1)).flatMap eU) ∧ (z.2.2 = none ∨ z.2.2 = (some ⟨bB, 0, none⟩))) (fun z => ((((((emp.put (some 0) (.slice a l.length c)).put (some 5) (.pointer (some ⟨bB, 0, none⟩))).put (some 6) (I (wsum (l.take z.1)))).put (some 14) (.slice a l.length c)).put (some 15) (I l.length)).put (some 16) (I z.1))) (fun z => (z.2.1.hp 5 (List.flatMap eU (ldsS (l.take z.1))) ++ (bB, .cells ⟨[.pointer z.2.2, z.2.1.val (List.length (ldsS (l.take z.1)))]⟩ 80) :: h)) (fun z => l.length - z.1) ((0, .nil, none) : Nat × Vec × Option Addr) ⟨Nat.zero_le _, ⟨rfl, rfl⟩, .inl rfl⟩ (le_put (le_put (le_put (le_put (le_put (le_put (le_emp _) rfl) rfl) rfl) rfl) rfl) rfl) (by (first|((repeat first|exact s_0|exact s_1|exact s_3|refine s_4 ?_|refine s_5 ?_|refine s_6 ?_|refine s_7 ?_);done)|((repeat first|exact s_0|exact s_1|exact s_3|refine s_4 ?_|refine s_5 ?_|refine s_6 ?_|refine s_8 ?_);done))) ?_
    rintro ⟨k, V, p⟩ ⟨hk, hV, hp⟩
    dsimp only at hk hV hp
    have hld := ldsS_len (l := l.take k) (fun y hy => hok y (List.mem_of_mem_take hy))
    rw [List.length_take] at hld
    have hwb := wsum_bd (l := l.take k) (fun y hy => hok y (List.mem_of_mem_take hy))
    rw [List.length_take] at hwb
    refine xc_seq (xc_region ?_)
    refine xr_op rfl rfl (xv_lss2 rfl rfl (fun q2 => ?_) (fun q2 => ?_))
    · refine xr_end rfl ?_
      refine th_n ?_
      refine xc_seq ?_
      refine xc_true rfl ?_
      refine xc_skip ?_
      refine th_n ?_
      refine xc_seq ?_
      refine xc_block ?_
      refine xc_seq (xc_region ?_)
      have hlto : k < l.length := by (first|omega|(dsimp only at *;omega)|(simp at *;omega))
      obtain ⟨bo, oo, lo, to, fzo, hao, hmo, hxo⟩ := (hs).at hlto
      obtain ⟨xo, hko⟩ : ∃ qq_, l[k]? = some qq_ := ⟨_, List.getElem?_eq_getElem hlto⟩
      have hxok := hok xo (List.mem_of_getElem? hko)
      have hldx := ldS_len hxok
      have hws9 : ∀ w ∈ (ldN xo).map decI, List.length w ≤ 100 := ldW hxok
      have hxw := hxok.2.2.2
      refine xr_op rfl rfl (xv_ia (sz := 4) (j := k) sl32 ty75 rfl (by rw [hao]; rfl) rfl (by (first | assumption | with_reducible exact Int.toNat_natCast _ | with_reducible rfl | rfl)) (by (first|omega|(dsimp only at *;omega)|(simp at *;omega))) (by (first|omega|(dsimp only at *;omega)|(simp at *;omega))) ?_)
      refine xr_op rfl rfl (xv_loadA ty75 rfl rfl (by ((repeat first|exact z_0|assumption|refine z_1 ?_|(refine z_l ?_;(repeat first|exact z_0|assumption|refine z_1 ?_);done)|refine z_r ?_);done)) (hxo (k) xo hko) rfl ?_)
      refine xr_op rfl rfl (xv_alloc ty75 (fun bX hbX => ?_))
      refine xr_op rfl rfl (xv_s ty75 rfl rfl (by (first|(apply u_3;(repeat first|exact u_0|assumption|apply u_1|apply u_2);done)|((repeat first|exact u_0|assumption|apply u_1|apply u_2);done)|(apply u_3;apply u_3;(repeat first|exact u_0|assumption|apply u_1|apply u_2);done)|((repeat first|exact u_0|assumption|apply u_3|apply u_1);done))) (by ((try apply evl_some rfl);(repeat (first|exact (rfl : _ = [])|apply evl_cons rfl (by (first|exact v_1|exact v_2|exact v_3|exact v_4|exact v_5|exact v_6|exact v_7|exact v_8|exact v_9|exact rfl))|exact rfl)))) (by rfl) (by rfl) (by rfl) (by ((try apply evl_some rfl);(repeat (first|exact (rfl : _ = [])|apply evl_cons rfl (by (first|exact v_1|exact v_2|exact v_3|exact v_4|exact v_5|exact v_6|exact v_7|exact v_8|exact v_9|exact rfl))|exact rfl)))) ?_)
      refine xr_end rfl ?_
      refine th_n ?_
      refine xc_seq (xc_region ?_)
      refine xr_op rfl rfl (xv_faddr fl75_0 rfl ?_)
      refine xr_op rfl rfl (xv_load1 ty3 rfl rfl (by ((repeat first|exact z_0|assumption|refine z_1 ?_|(refine z_l ?_;(repeat first|exact z_0|assumption|refine z_1 ?_);done)|refine z_r ?_);done)) (by rfl) ?_)
      refine xr_op rfl rfl (xv_faddr fl75_1 rfl ?_)
      refine xr_op rfl rfl (xv_load1 ty3 rfl rfl (by ((repeat first|exact z_0|assumption|refine z_1 ?_|(refine z_l ?_;(repeat first|exact z_0|assumption|refine z_1 ?_);done)|refine z_r ?_);done)) (by rfl) ?_)
      refine xr_op rfl rfl (xv_faddr fl75_2 rfl ?_)
      refine xr_op rfl rfl (xv_load1 ty3 rfl rfl (by ((repeat first|exact z_0|assumption|refine z_1 ?_|(refine z_l ?_;(repeat first|exact z_0|assumption|refine z_1 ?_);done)|refine z_r ?_);done)) (by rfl) ?_)
      refine xr_op rfl rfl (xv_faddr fl75_3 rfl ?_)
      refine xr_op rfl rfl (xv_load1 ty3 rfl rfl (by ((repeat first|exact z_0|assumption|refine z_1 ?_|(refine z_l ?_;(repeat first|exact z_0|assumption|refine z_1 ?_);done)|refine z_r ?_);done)) (by rfl) ?_)
      refine xr_op rfl rfl ((al_buildSlice sl60 ty3 rfl rfl rfl rfl rfl (by ((try apply evl_some rfl);(repeat (first|exact (rfl : _ = [])|apply evl_cons rfl (by (first|exact v_1|exact v_2|exact v_3|exact v_4|exact v_5|exact v_6|exact v_7|exact v_8|exact v_9|exact rfl))|exact rfl))))).xv (fun bR hbR => ?_))
      refine xr_op rfl rfl (xv_calls rfl hb40 (text_c (l := ldN xo) (slvL eI_len (by ((repeat first|exact z_0|assumption|refine z_1 ?_|(refine z_l ?_;(repeat first|exact z_0|assumption|refine z_1 ?_);done)|refine z_r ?_);done))) (by show 4 ≤ 1000; decide) (fun n9 hn9 => (hI he0 n9 (List.mem_append_left _ (List.mem_flatMap.2 ⟨xo, List.mem_of_getElem? hko, hn9⟩))).sub (by intro z9 hz9; ((repeat first|exact z_0|assumption|refine z_1 ?_|(refine z_l ?_;(repeat first|exact z_0|assumption|refine z_1 ?_);done)|refine z_r ?_);done))) (fun V1 hV1 => up_ret ?_)))
      refine xr_op rfl rfl (xv_calls rfl hb39 (line_c (ws := (ldN xo).map decI) ((Vec.slvA eStr_len (by simp) hV1).sub (by intro z9 hz9; ((repeat first|exact z_0|assumption|refine z_1 ?_|(refine z_l ?_;(repeat first|exact z_0|assumption|refine z_1 ?_);done)|refine z_r ?_);done))) (Vec.le_cp hV1) (by show 4 ≤ 1000; decide) hws9 (up_ret ?_)))
      refine xr_op rfl rfl (xv_calls rfl hb38 (wstrP_c (V := V) (bs := ldsS (l.take k)) (l := ldS xo) hp hV (by omega) permB2 (fun V2 hV2 => up_ret ?_)))
      refine xr_end rfl ?_
      refine th_n ?_
      refine xc_region ?_
      refine xr_op rfl rfl (xv_move rfl ?_)
      refine xr_op rfl rfl (xv_faddr fl75_3 rfl ?_)
      refine xr_op rfl rfl (xv_load1 ty3 rfl rfl (by ((repeat first|exact z_0|assumption|refine z_1 ?_|(refine z_l ?_;(repeat first|exact z_0|assumption|refine z_1 ?_);done)|refine z_r ?_);done)) (by rfl) ?_)
      refine xr_op rfl rfl (xv_add rfl rfl (wrap_i64 (by (first|omega|(dsimp only at *;omega)|(simp at *;omega))) (by (first|omega|(dsimp only at *;omega)|(simp at *;omega)))) ?_)
      refine xr_op rfl rfl (xv_assign rfl ?_)
      refine xr_end rfl ?_
      refine bk_n ?_
      refine th_n ?_
      refine xc_region ?_
      refine xr_op rfl rfl (xv_add rfl rfl (wrap_i64 (by (first|omega|(dsimp only at *;omega)|(simp at *;omega))) (by (first|omega|(dsimp only at *;omega)|(simp at *;omega)))) ?_)
      refine xr_op rfl rfl (xv_move rfl ?_)
      refine xr_end rfl ?_
      have etk : ldsS (l.take (k + 1)) = ldsS (l.take k) ++ ldS xo := by rw [List.take_add_one, hko]; exact ldsS_snoc _ _
      have ews : wsum (l.take (k + 1)) = wsum (l.take k) + xo.weight := by rw [List.take_add_one, hko]; exact wsum_snoc _ _
      exact rnd ((k + 1, V2, (some ⟨bB, 0, none⟩)) : Nat × Vec × Option Addr) ⟨by (first|omega|(dsimp only at *;omega)|(simp at *;omega)), by dsimp only; rw [etk]; exact hV2, .inr rfl⟩ (by (first|omega|(dsimp only at *;omega)|(simp at *;omega))) (le_put (le_put (le_put (le_put (le_put (le_put (le_emp _) rfl) rfl) (by show _ = some (I _); rw [ews]; rfl)) rfl) rfl) rfl) (by dsimp only; rw [etk]; (first|((repeat first|exact s_0|exact s_1|exact s_3|refine s_4 ?_|refine s_5 ?_|refine s_6 ?_|refine s_7 ?_);done)|((repeat first|exact s_0|exact s_1|exact s_3|refine s_4 ?_|refine s_5 ?_|refine s_6 ?_|refine s_8 ?_);done)))
    · refine xr_end rfl ?_
      refine th_n ?_
      refine xc_seq ?_
      refine xc_false rfl ?_
      refine xc_exit ?_
      refine th_x ?_
      refine th_x ?_
      refine bk_same ?_
      refine th_n ?_
      refine xc_seq (xc_region ?_)
      obtain rfl : k = l.length := by (first|omega|(dsimp only at *;omega)|(simp at *;omega))
      rw [List.take_length] at hV hld hwb ⊢
      have htot := totS_len hok hl60
      have hws9 := totW hok hl60
      refine xr_op rfl rfl ((al_buildSlice sl86 ty9 rfl rfl rfl rfl rfl (by ((try apply evl_some rfl);(repeat (first|exact (rfl : _ = [])|apply evl_cons rfl (by (first|exact v_1|exact v_2|exact v_3|exact v_4|exact v_5|exact v_6|exact v_7|exact v_8|exact v_9|exact rfl))|exact rfl))))).xv (fun bT hbT => ?_))
      refine xr_op rfl rfl (xv_move rfl ?_)
      refine xr_op rfl rfl (xv_len sl32 rfl ?_)
      refine xr_op rfl rfl (xv_move rfl ?_)
      refine xr_op rfl rfl ((al_buildSlice sl60 ty3 rfl rfl rfl rfl rfl (by ((try apply evl_some rfl);(repeat (first|exact (rfl : _ = [])|apply evl_cons rfl (by (first|exact v_1|exact v_2|exact v_3|exact v_4|exact v_5|exact v_6|exact v_7|exact v_8|exact v_9|exact rfl))|exact rfl))))).xv (fun bR hbR => ?_))
      refine xr_op rfl rfl (xv_calls rfl hb40 (text_c (l := [(l.length : Int), wsum l]) (slvL eI_len (by ((repeat first|exact z_0|assumption|refine z_1 ?_|(refine z_l ?_;(repeat first|exact z_0|assumption|refine z_1 ?_);done)|refine z_r ?_);done))) (by show 2 ≤ 1000; decide) (fun n9 hn9 => (hI he0 n9 (List.mem_append_right _ hn9)).sub (by intro z9 hz9; ((repeat first|exact z_0|assumption|refine z_1 ?_|(refine z_l ?_;(repeat first|exact z_0|assumption|refine z_1 ?_);done)|refine z_r ?_);done))) (fun V1 hV1 => up_ret ?_)))
      refine xr_op rfl rfl (xv_appendL (enc := eStr) (V := .at bT 1 []) (n := 1) (xs := [S [116, 111, 116, 97, 108]]) (ys := [(l.length : Int), wsum l].map decI) sl86 ty9 rfl rfl rfl rfl ⟨rfl, Nat.le_refl _, rfl⟩ (.skip (.there .here)) ((Vec.slvA eStr_len rfl hV1).sub (by intro z9 hz9; ((repeat first|exact z_0|assumption|refine z_1 ?_|(refine z_l ?_;(repeat first|exact z_0|assumption|refine z_1 ?_);done)|refine z_r ?_);done))) eStr_len eStr_1 (by simp) (by simp) (fun V3 hV3 => ?_))
      have e3 : 1 + (List.map decI [(l.length : Int), wsum l]).length = ([116, 111, 116, 97, 108] :: [(l.length : Int), wsum l].map decI : List Str).length := rfl
      rw [Vec.val_ad hV3, e3]
      rw [e3] at hV3
      refine xr_op rfl rfl (xv_calls rfl hb39 (line_c (ws := [116, 111, 116, 97, 108] :: [(l.length : Int), wsum l].map decI) ((Vec.slvA (t := 9) eStr_len rfl hV3).sub (by intro z9 hz9; ((repeat first|exact z_0|assumption|refine z_1 ?_|(refine z_l ?_;(repeat first|exact z_0|assumption|refine z_1 ?_);done)|refine z_r ?_);done))) (Vec.le_cp hV3) (by show 3 ≤ 1000; decide) hws9 (up_ret ?_)))
      refine xr_op rfl rfl (xv_calls rfl hb38 (wstrP_c (V := V) (bs := ldsS l) (l := totS l) hp hV (by omega) permB4 (fun V4 hV4 => up_ret ?_)))
      refine xr_end rfl ?_
      refine th_n ?_
      refine xc_seq (xc_region ?_)
      refine xr_op rfl rfl (xv_calls rfl hb41 (bstr_c (bs := chgS l) hV4 (by intro h9; unfold chgS totS lineS at h9; simp at h9) (by unfold chgS; rw [List.length_append]; omega) (List.Perm.refl _) (up_ret ?_)))
      refine xr_op rfl rfl (xv_assign rfl ?_)
      refine xr_op rfl rfl (xv_assign rfl ?_)
      refine xr_end rfl ?_
      refine th_n ?_
      refine xc_ret ?_
      refine body_ret (h' := h) rfl (ro_tmp rfl (ro_tmp rfl ro_nil)) (by (first|((repeat first|exact s_0|exact s_1|exact s_3|refine s_4 ?_|refine s_5 ?_|refine s_6 ?_|refine s_7 ?_);done)|((repeat first|exact s_0|exact s_1|exact s_3|refine s_4 ?_|refine s_5 ?_|refine s_6 ?_|refine s_8 ?_);done))) ?_
      first | exact H1 (by omega) | exact H2 he0

theorem figures_c {n : Nat} {h : Hp} {R : Ending → Hp → Prop} (hn : n ≤ 99999) (H : R (.returned (.agg ⟨(figs n).flatMap eB⟩)) h) : ACalls Tryd.prog 45 ⟨[I n]⟩ h R := by
  refine calls_of_xc (N := 18) Tryd.func45 rfl (by rfl) ?_
  refine xc_seq (xc_region ?_)
  refine xr_op rfl rfl (xv_alloc ty93 (fun bF hbF => ?_))
  refine xr_end rfl ?_
  refine th_n ?_
  refine xc_seq ?_
  refine xc_seq (xc_region ?_)
  refine xr_op rfl rfl (xv_move rfl ?_)
  refine xr_end rfl ?_
  refine th_n ?_
  refine xc_block ?_
  refine xc_loop (σ := Nat) (fun i => i ≤ 5) (fun i => (((emp.put (some 0) (I ((n / 10 ^ i : Nat) : Int))).put (some 2) (.pointer (some ⟨bF, 0, none⟩))).put (some 4) (I i))) (fun i => ((bF, .cells ⟨(figP n i).flatMap eB⟩ 93) :: h)) (fun i => 5 - i) 0 (Nat.zero_le _) (le_put (le_put (le_put (le_emp _) (by show _ = some (I _); rw [Nat.pow_zero, Nat.div_one]; rfl)) rfl) rfl) (by (first|((repeat first|exact s_0|exact s_1|exact s_3|refine s_4 ?_|refine s_5 ?_|refine s_6 ?_|refine s_7 ?_);done)|((repeat first|exact s_0|exact s_1|exact s_3|refine s_4 ?_|refine s_5 ?_|refine s_6 ?_|refine s_8 ?_);done))) ?_
  rintro i hi
  refine xc_seq (xc_region ?_)
  refine xr_op rfl rfl (xv_lss2 rfl rfl (fun q1 => ?_) (fun q1 => ?_))
  · refine xr_end rfl ?_
    refine th_n ?_
    refine xc_seq ?_
    refine xc_true rfl ?_
    refine xc_skip ?_
    refine th_n ?_
    refine xc_seq ?_
    refine xc_block ?_
    refine xc_seq (xc_region ?_)
    refine xr_op rfl rfl (xv_move rfl ?_)
    refine xr_op rfl rfl (xv_assign rfl ?_)
    refine xr_end rfl ?_
    refine th_n ?_
    refine xc_seq (xc_region ?_)
    have hni := Nat.div_le_self n (10 ^ i)
    obtain ⟨m, hm⟩ : ∃ m, n / 10 ^ i = m := ⟨_, rfl⟩
    rw [hm] at hni
    refine xr_op rfl rfl (xv_move rfl ?_)
    refine xr_op rfl rfl (xv_sub (c := ((4 - i : Nat) : Int)) rfl rfl (by rw [show (4 : Int) - (i : Int) = ((4 - i : Nat) : Int) by (first|omega|(dsimp only at *;omega)|(simp at *;omega))]; exact wrap_i64 (by omega) (by omega)) ?_)
    refine xr_op rfl rfl (xv_move rfl ?_)
    refine xr_op rfl rfl (xv_rem (c := ((m % 10 : Nat) : Int)) rfl rfl (by decide) (by rw [hm]; rfl) ?_)
    refine xr_op rfl rfl (xv_add rfl rfl (wrap_i64 (by (first|omega|(dsimp only at *;omega)|(simp at *;omega))) (by (first|omega|(dsimp only at *;omega)|(simp at *;omega)))) ?_)
    refine xr_op rfl rfl (xv_convI (m := 48 + ((n / 10 ^ i % 10 : Nat) : Int)) Tryd.underlying3 Tryd.underlying5 rfl (by rw [hm, IntKind.wrap_u8]; omega) ?_)
    refine xr_op rfl rfl (xv_iaA (sz := 1) (j := 4 - i) Tryd.underlying93 ty5 rfl rfl rfl (by (first | assumption | with_reducible exact Int.toNat_natCast _ | with_reducible rfl | rfl)) (by (first|omega|(dsimp only at *;omega)|(simp at *;omega))) (by (first|omega|(dsimp only at *;omega)|(simp at *;omega))) ?_)
    refine xr_op rfl rfl (xv_s1 ty5 rfl rfl rfl (by (first|(apply u_3;(repeat first|exact u_0|assumption|apply u_1|apply u_2);done)|((repeat first|exact u_0|assumption|apply u_1|apply u_2);done)|(apply u_3;apply u_3;(repeat first|exact u_0|assumption|apply u_1|apply u_2);done)|((repeat first|exact u_0|assumption|apply u_3|apply u_1);done))) rfl (by rw [eB_flen, figP_len]; (first|omega|(dsimp only at *;omega)|(simp at *;omega))) (bytes_setN (by rw [figP_len]; (first|omega|(dsimp only at *;omega)|(simp at *;omega)))) ?_)
    refine xr_end rfl ?_
    refine th_n ?_
    refine xc_region ?_
    refine xr_op rfl rfl (xv_move rfl ?_)
    refine xr_op rfl rfl (xv_quo (c := ((m / 10 : Nat) : Int)) rfl rfl (by decide) (by rw [hm, show ((m : Int)).tdiv 10 = ((m / 10 : Nat) : Int) from rfl]; exact wrap_i64 (by omega) (by omega)) ?_)
    refine xr_op rfl rfl (xv_assign rfl ?_)
    refine xr_end rfl ?_
    refine bk_n ?_
    refine th_n ?_
    refine xc_region ?_
    refine xr_op rfl rfl (xv_add rfl rfl (wrap_i64 (by (first|omega|(dsimp only at *;omega)|(simp at *;omega))) (by (first|omega|(dsimp only at *;omega)|(simp at *;omega)))) ?_)
    refine xr_op rfl rfl (xv_move rfl ?_)
    refine xr_end rfl ?_
    exact rnd (i + 1) (by (first|omega|(dsimp only at *;omega)|(simp at *;omega))) (by (first|omega|(dsimp only at *;omega)|(simp at *;omega))) (le_put (le_put (le_put (le_emp _) (by show _ = some (I _); rw [Nat.pow_succ, ← Nat.div_div_eq_div_mul, hm]; rfl)) rfl) rfl) (by rw [figP_succ (by (first|omega|(dsimp only at *;omega)|(simp at *;omega)))]; (first|((repeat first|exact s_0|exact s_1|exact s_3|refine s_4 ?_|refine s_5 ?_|refine s_6 ?_|refine s_7 ?_);done)|((repeat first|exact s_0|exact s_1|exact s_3|refine s_4 ?_|refine s_5 ?_|refine s_6 ?_|refine s_8 ?_);done)))
  · refine xr_end rfl ?_
    refine th_n ?_
    refine xc_seq ?_
    refine xc_false rfl ?_
    refine xc_exit ?_
    refine th_x ?_
    refine th_x ?_
    refine bk_same ?_
    refine th_n ?_
    refine xc_seq (xc_region ?_)
    obtain rfl : i = 5 := by (first|omega|(dsimp only at *;omega)|(simp at *;omega))
    rw [figP_5]
    refine xr_op rfl rfl (xv_loadA ty93 rfl rfl (by ((repeat first|exact z_0|assumption|refine z_1 ?_|(refine z_l ?_;(repeat first|exact z_0|assumption|refine z_1 ?_);done)|refine z_r ?_);done)) (by ((try apply evl_some rfl);(repeat (first|exact (rfl : _ = [])|apply evl_cons rfl (by (first|exact v_1|exact v_2|exact v_3|exact v_4|exact v_5|exact v_6|exact v_7|exact v_8|exact v_9|exact rfl))|exact rfl)))) (by rfl) ?_)
    refine xr_op rfl rfl (xv_s ty93 rfl rfl (by (first|(apply u_3;(repeat first|exact u_0|assumption|apply u_1|apply u_2);done)|((repeat first|exact u_0|assumption|apply u_1|apply u_2);done)|(apply u_3;apply u_3;(repeat first|exact u_0|assumption|apply u_1|apply u_2);done)|((repeat first|exact u_0|assumption|apply u_3|apply u_1);done))) (by ((try apply evl_some rfl);(repeat (first|exact (rfl : _ = [])|apply evl_cons rfl (by (first|exact v_1|exact v_2|exact v_3|exact v_4|exact v_5|exact v_6|exact v_7|exact v_8|exact v_9|exact rfl))|exact rfl)))) (by rfl) (by rfl) (by rfl) (by ((try apply evl_some rfl);(repeat (first|exact (rfl : _ = [])|apply evl_cons rfl (by (first|exact v_1|exact v_2|exact v_3|exact v_4|exact v_5|exact v_6|exact v_7|exact v_8|exact v_9|exact rfl))|exact rfl)))) ?_)
    refine xr_end rfl ?_
    refine th_n ?_
    refine xc_ret ?_
    refine body_ret (h' := h) rfl (ro_cellA ty93 rfl rfl (by ((repeat first|exact z_0|assumption|refine z_1 ?_|(refine z_l ?_;(repeat first|exact z_0|assumption|refine z_1 ?_);done)|refine z_r ?_);done)) (by rfl) (by rfl) ro_nil) (by (first|((repeat first|exact s_0|exact s_1|exact s_3|refine s_4 ?_|refine s_5 ?_|refine s_6 ?_|refine s_7 ?_);done)|((repeat first|exact s_0|exact s_1|exact s_3|refine s_4 ?_|refine s_5 ?_|refine s_6 ?_|refine s_8 ?_);done))) ?_
    exact H

end Go.Proofs.YtlpkiolopelpfaaDoor

/-
  Walks.
-/
namespace Go.Proofs.YtlpkiolopelpfaaDoor
open Go Go.H
set_option maxRecDepth 100000
set_option maxHeartbeats 8000000
set_option linter.all false
theorem word_c {f w : List Int} {h : Hp} {R : Ending → Hp → Prop} (hf : f.length = 5) (hw : w.length = 5) (hfb : byt f) (H : R (.returned (S (wordS f w))) h) : ACalls Tryd.prog 46 ⟨[.agg ⟨f.flatMap eB⟩, .agg ⟨w.flatMap eB⟩]⟩ h R := by
  refine calls_of_xc (N := 21) Tryd.func46 rfl (by rfl) ?_
  have hfl := eB_flen f
  have hwl := eB_flen w
  rw [hf] at hfl
  rw [hw] at hwl
  refine xc_seq (xc_region ?_)
  refine xr_op rfl rfl (xv_box rfl (fun bf hbf => ?_))
  refine xr_op rfl rfl (xv_box rfl (fun bw hbw => ?_))
  refine xr_op rfl rfl (xv_assign rfl ?_)
  refine xr_end rfl ?_
  refine th_n ?_
  refine xc_seq ?_
  refine xc_seq (xc_region ?_)
  by_cases hfw : f = w
  · refine xr_op rfl rfl (xv_loadA (l' := f.flatMap eB) ty93 rfl rfl (by ((repeat first|exact z_0|assumption|refine z_1 ?_|(refine z_l ?_;(repeat first|exact z_0|assumption|refine z_1 ?_);done)|refine z_r ?_);done)) (by rw [List.drop_zero]; exact List.take_of_length_le (by show _ ≤ 5; omega)) hfl ?_)
    refine xr_op rfl rfl (xv_loadA (l' := w.flatMap eB) ty93 rfl rfl (by ((repeat first|exact z_0|assumption|refine z_1 ?_|(refine z_l ?_;(repeat first|exact z_0|assumption|refine z_1 ?_);done)|refine z_r ?_);done)) (by rw [List.drop_zero]; exact List.take_of_length_le (by show _ ≤ 5; omega)) hwl ?_)
    refine xr_op rfl rfl (xv_eqA8 (b := true) (flat_array8 Tryd.underlying93 ty5 (flat_int8 Tryd.underlying5) (by decide) rfl) rfl (by kernel_rfl) rfl rfl hfl hwl num8_eB num8_eB (by rw [eqc_eB]; simp [hfw]) ?_)
    refine xr_end rfl ?_
    refine th_n ?_
    refine xc_true rfl ?_
    refine xc_seq (xc_region ?_)
    have hws9 : wordS f w = [46] := if_pos hfw
    refine xr_op rfl rfl (xv_assign rfl ?_)
    refine xr_end rfl ?_
    refine th_n ?_
    refine xc_ret ?_
    refine th_r ?_
    refine body_ret (h' := h) rfl (ro_tmp rfl ro_nil) (by (first|((repeat first|exact s_0|exact s_1|exact s_3|refine s_4 ?_|refine s_5 ?_|refine s_6 ?_|refine s_7 ?_);done)|((repeat first|exact s_0|exact s_1|exact s_3|refine s_4 ?_|refine s_5 ?_|refine s_6 ?_|refine s_8 ?_);done))) ?_
    (rw [hws9] at H; exact H)
  · refine xr_op rfl rfl (xv_loadA (l' := f.flatMap eB) ty93 rfl rfl (by ((repeat first|exact z_0|assumption|refine z_1 ?_|(refine z_l ?_;(repeat first|exact z_0|assumption|refine z_1 ?_);done)|refine z_r ?_);done)) (by rw [List.drop_zero]; exact List.take_of_length_le (by show _ ≤ 5; omega)) hfl ?_)
    refine xr_op rfl rfl (xv_loadA (l' := w.flatMap eB) ty93 rfl rfl (by ((repeat first|exact z_0|assumption|refine z_1 ?_|(refine z_l ?_;(repeat first|exact z_0|assumption|refine z_1 ?_);done)|refine z_r ?_);done)) (by rw [List.drop_zero]; exact List.take_of_length_le (by show _ ≤ 5; omega)) hwl ?_)
    refine xr_op rfl rfl (xv_eqA8 (b := false) (flat_array8 Tryd.underlying93 ty5 (flat_int8 Tryd.underlying5) (by decide) rfl) rfl (by kernel_rfl) rfl rfl hfl hwl num8_eB num8_eB (by rw [eqc_eB]; simp [hfw]) ?_)
    refine xr_end rfl ?_
    refine th_n ?_
    refine xc_false rfl ?_
    refine xc_skip ?_
    refine th_n ?_
    refine xc_seq (xc_region ?_)
    have hdl := dif_lt (by omega) hfw
    refine xr_op rfl rfl (xv_assign rfl ?_)
    refine xr_end rfl ?_
    refine th_n ?_
    refine xc_seq ?_
    refine xc_block ?_
    refine xc_loop (σ := Nat) (fun i => i ≤ dif f w) (fun i => (((emp.put (some 2) (.pointer (some ⟨bf, 0, none⟩))).put (some 3) (.pointer (some ⟨bw, 0, none⟩))).put (some 5) (I i))) (fun i => ((bw, .cells ⟨w.flatMap eB⟩ 93) :: (bf, .cells ⟨f.flatMap eB⟩ 93) :: h)) (fun i => dif f w - i) 0 (Nat.zero_le _) (le_put (le_put (le_put (le_emp _) rfl) rfl) rfl) (by (first|((repeat first|exact s_0|exact s_1|exact s_3|refine s_4 ?_|refine s_5 ?_|refine s_6 ?_|refine s_7 ?_);done)|((repeat first|exact s_0|exact s_1|exact s_3|refine s_4 ?_|refine s_5 ?_|refine s_6 ?_|refine s_8 ?_);done))) ?_
    rintro i hi
    refine xc_seq ?_
    refine xc_seq ?_
    refine xc_draw0 [(0, .S), (1, .S), (2, .R), (3, .S), (4, .S), (5, .R), (6, .O)] mixed (by kernel_rfl) ?_
    have hif : i < f.length := by (first|omega|(dsimp only at *;omega)|(simp at *;omega))
    have hiw : i < w.length := by (first|omega|(dsimp only at *;omega)|(simp at *;omega))
    obtain ⟨xo, hko⟩ : ∃ x, f[i]? = some x := ⟨_, List.getElem?_eq_getElem hif⟩
    obtain ⟨xp, hkp⟩ : ∃ x, w[i]? = some x := ⟨_, List.getElem?_eq_getElem hiw⟩
    refine js_S rfl rfl (.inl rfl) (xv_move rfl ⟨rfl, rfl⟩) ?_
    refine js_S rfl rfl (.inl rfl) (xv_iaA (sz := 1) (j := i) Tryd.underlying93 ty5 rfl rfl rfl (by (first | assumption | with_reducible exact Int.toNat_natCast _ | with_reducible rfl | rfl)) (by (first|omega|(dsimp only at *;omega)|(simp at *;omega))) (by (first|omega|(dsimp only at *;omega)|(simp at *;omega))) ⟨rfl, rfl⟩) ?_
    refine js_R0 rfl rfl (.inl rfl) (xv_load1 ty5 rfl rfl (by ((repeat first|exact z_0|assumption|refine z_1 ?_|(refine z_l ?_;(repeat first|exact z_0|assumption|refine z_1 ?_);done)|refine z_r ?_);done)) (bytes_get hko) ⟨rfl, rfl⟩) ?_
    refine js_S rfl rfl (.inl rfl) (xv_move rfl ⟨rfl, rfl⟩) ?_
    refine js_S rfl rfl (.inl rfl) (xv_iaA (sz := 1) (j := i) Tryd.underlying93 ty5 rfl rfl rfl (by (first | assumption | with_reducible exact Int.toNat_natCast _ | with_reducible rfl | rfl)) (by (first|omega|(dsimp only at *;omega)|(simp at *;omega))) (by (first|omega|(dsimp only at *;omega)|(simp at *;omega))) ⟨rfl, rfl⟩) ?_
    refine js_R0 rfl rfl (.inl rfl) (xv_load1 ty5 rfl rfl (by ((repeat first|exact z_0|assumption|refine z_1 ?_|(refine z_l ?_;(repeat first|exact z_0|assumption|refine z_1 ?_);done)|refine z_r ?_);done)) (bytes_get hkp) ⟨rfl, rfl⟩) ?_
    refine js_O0 rfl rfl (.inl rfl) (xv_eql2 rfl rfl (fun hq => ?_) (fun hq => ?_))
    · refine j_end0 ?_
      refine th_n ?_
      refine xc_true rfl ?_
      refine xc_skip ?_
      refine th_n ?_
      refine xc_block ?_
      refine xc_region ?_
      refine xr_op rfl rfl (xv_move rfl ?_)
      refine xr_op rfl rfl (xv_add rfl rfl (wrap_i64 (by (first|omega|(dsimp only at *;omega)|(simp at *;omega))) (by (first|omega|(dsimp only at *;omega)|(simp at *;omega)))) ?_)
      refine xr_op rfl rfl (xv_assign rfl ?_)
      refine xr_end rfl ?_
      refine bk_n ?_
      exact rnd (i + 1) (dif_next (by omega) hfw hi hko hkp (by (first|omega|(dsimp only at *;omega)|(simp at *;omega)))) (dif_mu (by omega) hfw hi hko hkp (by (first|omega|(dsimp only at *;omega)|(simp at *;omega)))) (le_put (le_put (le_put (le_emp _) rfl) rfl) rfl) (by (first|((repeat first|exact s_0|exact s_1|exact s_3|refine s_4 ?_|refine s_5 ?_|refine s_6 ?_|refine s_7 ?_);done)|((repeat first|exact s_0|exact s_1|exact s_3|refine s_4 ?_|refine s_5 ?_|refine s_6 ?_|refine s_8 ?_);done)))
    · refine j_end0 ?_
      refine th_n ?_
      refine xc_false rfl ?_
      refine xc_exit ?_
      refine th_x ?_
      refine th_x ?_
      refine bk_same ?_
      refine th_n ?_
      refine xc_seq (xc_region ?_)
      obtain rfl : i = dif f w := dif_end (by omega) hfw hi hko hkp (by (first|omega|(dsimp only at *;omega)|(simp at *;omega)))
      have hws9 : wordS f w = u8 (f.drop (dif f w)) := if_neg hfw
      refine xr_op rfl rfl (xv_move rfl ?_)
      refine xr_op rfl rfl (xv_slArr (n := 5) (m := dif f w) Tryd.underlying93 ty5 rfl rfl rfl (by omega) (by omega) (by omega) ?_)
      refine xr_op rfl rfl (xv_cvB (bs := f.drop (dif f w)) sl23 Tryd.underlying5 Tryd.underlying9 rfl (by rw [List.length_drop]; omega) (fun b9 hb9 => hfb b9 (List.mem_of_mem_drop hb9)) (.inr ⟨bf, dif f w, _, 93, (0, 0), rfl, by ((repeat first|exact z_0|assumption|refine z_1 ?_|(refine z_l ?_;(repeat first|exact z_0|assumption|refine z_1 ?_);done)|refine z_r ?_);done), fun i9 q9 hq9 => bytes_drop hq9⟩) ?_)
      refine xr_op rfl rfl (xv_assign rfl ?_)
      refine xr_end rfl ?_
      refine th_n ?_
      refine xc_ret ?_
      refine body_ret (h' := h) rfl (ro_tmp rfl ro_nil) (by (first|((repeat first|exact s_0|exact s_1|exact s_3|refine s_4 ?_|refine s_5 ?_|refine s_6 ?_|refine s_7 ?_);done)|((repeat first|exact s_0|exact s_1|exact s_3|refine s_4 ?_|refine s_5 ?_|refine s_6 ?_|refine s_8 ?_);done))) ?_
      (rw [hws9] at H; exact H)

end Go.Proofs.YtlpkiolopelpfaaDoor

/-
  Walks.
-/
namespace Go.Proofs.YtlpkiolopelpfaaDoor
open Go Go.H
set_option maxRecDepth 100000
set_option maxHeartbeats 8000000
set_option linter.all false
theorem WriteMeters_c {l : List Leaf} {a : Option Addr} {c : Nat} {h : Hp} {R : Ending → Hp → Prop} (hs : LeavesV h a l) (hl : l.length ≤ 1000000) (hrl : ∀ x ∈ l, x.rds.length ≤ 1000000) (hI : (errL 32 leafOk ltLeaf l) = 0 → ∀ x ∈ l, ItoaC x.house h) (H1 : (errL 32 leafOk ltLeaf l) ≠ 0 → R (.returned (.tuple ⟨[S [], I (errL 32 leafOk ltLeaf l)]⟩)) h)
    (H2 : (errL 32 leafOk ltLeaf l) = 0 → R (.returned (.tuple ⟨[S (mtrS l), I 0]⟩)) h) : ACalls Tryd.prog 13 ⟨[.slice a l.length c]⟩ h R := by
  refine calls_of_xc (N := 50) Tryd.func13 rfl (by rfl) ?_
  refine xc_seq (xc_region ?_)
  refine xr_op rfl rfl (xv_assign rfl ?_)
  refine xr_op rfl rfl (xv_assign rfl ?_)
  refine xr_end rfl ?_
  refine th_n ?_
  refine xc_seq ?_
  refine xc_seq (xc_region ?_)
  refine xr_op rfl rfl (xv_move rfl ?_)
  refine xr_op rfl rfl (xv_calls rfl hb42 (errLeaf_c hs.leaves hl hs.rds hrl (up_ret ?_)))
  refine xr_op rfl rfl (xv_assign rfl ?_)
  refine xr_end rfl ?_
  refine th_n ?_
  refine xc_seq (xc_region ?_)
  refine xr_op rfl rfl (xv_move rfl ?_)
  refine xr_op rfl rfl (xv_neq2 rfl rfl (fun q1 => ?_) (fun q1 => ?_))
  · refine xr_end rfl ?_
    refine th_n ?_
    refine xc_true rfl ?_
    refine xc_seq (xc_region ?_)
    refine xr_op rfl rfl (xv_move rfl ?_)
    refine xr_op rfl rfl (xv_assign rfl ?_)
    refine xr_op rfl rfl (xv_assign rfl ?_)
    refine xr_end rfl ?_
    refine th_n ?_
    refine xc_ret ?_
    refine th_r ?_
    refine body_ret (h' := h) rfl (ro_tmp rfl (ro_tmp rfl ro_nil)) (by (first|((repeat first|exact s_0|exact s_1|exact s_3|refine s_4 ?_|refine s_5 ?_|refine s_6 ?_|refine s_7 ?_);done)|((repeat first|exact s_0|exact s_1|exact s_3|refine s_4 ?_|refine s_5 ?_|refine s_6 ?_|refine s_8 ?_);done))) ?_
    first | exact H1 (by omega) | exact H2 he0
  · refine xr_end rfl ?_
    refine th_n ?_
    refine xc_false rfl ?_
    refine xc_skip ?_
    refine th_n ?_
    refine xc_seq (xc_region ?_)
    have he0 : (errL 32 leafOk ltLeaf l) = 0 := by omega
    obtain ⟨hl32, hok, has9⟩ := errL_is he0
    refine xr_op rfl rfl (xv_alloc ty80 (fun bB hbB => ?_))
    refine xr_end rfl ?_
    refine th_n ?_
    refine xc_seq ?_
    refine xc_seq (xc_region ?_)
    refine xr_op rfl rfl (xv_move rfl ?_)
    refine xr_op rfl rfl (xv_len sl33 rfl ?_)
    refine xr_op rfl rfl (xv_move rfl ?_)
    refine xr_end rfl ?_
    refine th_n ?_
    refine xc_block ?_
    refine xc_loop (σ := Nat × Vec × Option Addr) (fun z => z.1 ≤ l.length ∧ z.2.1.ok 1 (mtrS (l.take z.1)).length ((mtrS (l.take z.1)).flatMap eU) ∧ (z.2.2 = none ∨ z.2.2 = (some ⟨bB, 0, none⟩)) ∧ (mtrS (l.take z.1) = [] → z.2.1 = .nil)) (fun z => ((((emp.put (some 5) (.pointer (some ⟨bB, 0, none⟩))).put (some 18) (.slice a l.length c)).put (some 19) (I l.length)).put (some 20) (I z.1))) (fun z => (z.2.1.hp 5 (List.flatMap eU (mtrS (l.take z.1))) ++ (bB, .cells ⟨[.pointer z.2.2, z.2.1.val (List.length (mtrS (l.take z.1)))]⟩ 80) :: h)) (fun z => l.length - z.1) ((0, .nil, none) : Nat × Vec × Option Addr) ⟨Nat.zero_le _, ⟨rfl, rfl⟩, .inl rfl, fun _ => rfl⟩ (le_put (le_put (le_put (le_put (le_emp _) rfl) rfl) rfl) rfl) (by (first|((repeat first|exact s_0|exact s_1|exact s_3|refine s_4 ?_|refine s_5 ?_|refine s_6 ?_|refine s_7 ?_);done)|((repeat first|exact s_0|exact s_1|exact s_3|refine s_4 ?_|refine s_5 ?_|refine s_6 ?_|refine s_8 ?_);done))) ?_
    rintro ⟨k, V, p⟩ ⟨hk, hV, hp, hne⟩
    dsimp only at hk hV hp hne
    have hmd := mtrS_len (l := l.take k) (fun y hy => hok y (List.mem_of_mem_take hy))
    rw [List.length_take] at hmd
    refine xc_seq (xc_region ?_)
    refine xr_op rfl rfl (xv_lss2 rfl rfl (fun q2 => ?_) (fun q2 => ?_))
    · refine xr_end rfl ?_
      refine th_n ?_
      refine xc_seq ?_
      refine xc_true rfl ?_
      refine xc_skip ?_
      refine th_n ?_
      refine xc_seq ?_
      refine xc_block ?_
      refine xc_seq (xc_region ?_)
      have hlto : k < l.length := by (first|omega|(dsimp only at *;omega)|(simp at *;omega))
      obtain ⟨bo, oo, lo, to, fzo, hao, hmo, hxo⟩ := (hs.leaves).at hlto
      obtain ⟨xo, hko⟩ : ∃ qq_, l[k]? = some qq_ := ⟨_, List.getElem?_eq_getElem hlto⟩
      have hxok := hok xo (List.mem_of_getElem? hko)
      have hlfx := lfS_len hxok
      have hr8 := hxok.2.1
      have hxrd := hs.rds xo (List.mem_of_getElem? hko)
      refine xr_op rfl rfl (xv_ia (sz := 2) (j := k) sl33 ty72 rfl (by rw [hao]; rfl) rfl (by (first | assumption | with_reducible exact Int.toNat_natCast _ | with_reducible rfl | rfl)) (by (first|omega|(dsimp only at *;omega)|(simp at *;omega))) (by (first|omega|(dsimp only at *;omega)|(simp at *;omega))) ?_)
      refine xr_op rfl rfl (xv_loadA ty72 rfl rfl (by ((repeat first|exact z_0|assumption|refine z_1 ?_|(refine z_l ?_;(repeat first|exact z_0|assumption|refine z_1 ?_);done)|refine z_r ?_);done)) (hxo (k) xo hko) rfl ?_)
      refine xr_op rfl rfl (xv_alloc ty72 (fun bX hbX => ?_))
      refine xr_op rfl rfl (xv_s ty72 rfl rfl (by (first|(apply u_3;(repeat first|exact u_0|assumption|apply u_1|apply u_2);done)|((repeat first|exact u_0|assumption|apply u_1|apply u_2);done)|(apply u_3;apply u_3;(repeat first|exact u_0|assumption|apply u_1|apply u_2);done)|((repeat first|exact u_0|assumption|apply u_3|apply u_1);done))) (by ((try apply evl_some rfl);(repeat (first|exact (rfl : _ = [])|apply evl_cons rfl (by (first|exact v_1|exact v_2|exact v_3|exact v_4|exact v_5|exact v_6|exact v_7|exact v_8|exact v_9|exact rfl))|exact rfl)))) (by rfl) (by rfl) (by rfl) (by ((try apply evl_some rfl);(repeat (first|exact (rfl : _ = [])|apply evl_cons rfl (by (first|exact v_1|exact v_2|exact v_3|exact v_4|exact v_5|exact v_6|exact v_7|exact v_8|exact v_9|exact rfl))|exact rfl)))) ?_)
      refine xr_end rfl ?_
      refine th_n ?_
      refine xc_seq (xc_region ?_)
      refine xr_op rfl rfl (xv_faddr fl72_0 rfl ?_)
      refine xr_op rfl rfl (xv_load1 ty3 rfl rfl (by ((repeat first|exact z_0|assumption|refine z_1 ?_|(refine z_l ?_;(repeat first|exact z_0|assumption|refine z_1 ?_);done)|refine z_r ?_);done)) (by rfl) ?_)
      refine xr_op rfl rfl ((al_buildSlice sl60 ty3 rfl rfl rfl rfl rfl (by ((try apply evl_some rfl);(repeat (first|exact (rfl : _ = [])|apply evl_cons rfl (by (first|exact v_1|exact v_2|exact v_3|exact v_4|exact v_5|exact v_6|exact v_7|exact v_8|exact v_9|exact rfl))|exact rfl))))).xv (fun bR hbR => ?_))
      refine xr_op rfl rfl (xv_calls rfl hb40 (text_c (l := [xo.house]) (slvL eI_len (by ((repeat first|exact z_0|assumption|refine z_1 ?_|(refine z_l ?_;(repeat first|exact z_0|assumption|refine z_1 ?_);done)|refine z_r ?_);done))) (by show 1 ≤ 1000; decide) (fun n9 hn9 => by rw [List.mem_singleton.1 hn9]; exact (hI he0 xo (List.mem_of_getElem? hko)).sub (by intro z9 hz9; ((repeat first|exact z_0|assumption|refine z_1 ?_|(refine z_l ?_;(repeat first|exact z_0|assumption|refine z_1 ?_);done)|refine z_r ?_);done))) (fun V1 hV1 => up_ret ?_)))
      refine xr_op rfl rfl (xv_assign rfl ?_)
      refine xr_end rfl ?_
      refine th_n ?_
      refine xc_seq (xc_region ?_)
      refine xr_op rfl rfl (xv_alloc ty93 (fun bW hbW => ?_))
      refine xr_end rfl ?_
      refine th_n ?_
      refine xc_seq ?_
      refine xc_seq (xc_region ?_)
      refine xr_op rfl rfl (xv_faddr fl72_1 rfl ?_)
      refine xr_op rfl rfl (xv_load1 ty60 rfl rfl (by ((repeat first|exact z_0|assumption|refine z_1 ?_|(refine z_l ?_;(repeat first|exact z_0|assumption|refine z_1 ?_);done)|refine z_r ?_);done)) (by rfl) ?_)
      refine xr_op rfl rfl (xv_len sl60 rfl ?_)
      refine xr_op rfl rfl (xv_move rfl ?_)
      refine xr_end rfl ?_
      refine th_n ?_
      refine xc_block ?_
      refine XC.perm (h := (V1.hp 9 ((lfW xo 0).flatMap eStr) ++ (bW, .cells ⟨(prevF xo.rds 0).flatMap eB⟩ 93) :: (bR, .cells ⟨[I xo.house]⟩ 3) :: (bX, .cells ⟨eLeaf xo⟩ 72) :: (V.hp 5 (List.flatMap eU (mtrS (l.take k))) ++ (bB, .cells ⟨[.pointer p, V.val (List.length (mtrS (l.take k)))]⟩ 80) :: h))) List.perm_middle ?_
      refine xc_loop (σ := Nat × Vec) (fun z => z.1 ≤ xo.rds.length ∧ z.2.ok 1 (z.1 + 1) ((lfW xo z.1).flatMap eStr)) (fun z => (((((((((emp.put (some 5) (.pointer (some ⟨bB, 0, none⟩))).put (some 18) (.slice a l.length c)).put (some 19) (I l.length)).put (some 20) (I k)).put (some 8) (z.2.val (z.1 + 1))).put (some 9) (.pointer (some ⟨bW, 0, none⟩))).put (some 29) (.slice xo.ra xo.rds.length xo.rc)).put (some 30) (I xo.rds.length)).put (some 31) (I z.1))) (fun z => (z.2.hp 9 ((lfW xo z.1).flatMap eStr) ++ (bW, .cells ⟨(prevF xo.rds z.1).flatMap eB⟩ 93) :: (bR, .cells ⟨[I xo.house]⟩ 3) :: (bX, .cells ⟨eLeaf xo⟩ 72) :: (V.hp 5 (List.flatMap eU (mtrS (l.take k))) ++ (bB, .cells ⟨[.pointer p, V.val (List.length (mtrS (l.take k)))]⟩ 80) :: h))) (fun z => xo.rds.length - z.1) ((0, V1) : Nat × Vec) ⟨Nat.zero_le _, hV1⟩ (le_put (le_put (le_put (le_put (le_put (le_put (le_put (le_put (le_put (le_emp _) rfl) rfl) rfl) rfl) (by exact congrArg some (Vec.val_ad hV1).symm)) rfl) rfl) rfl) rfl) (by (first|((repeat first|exact s_0|exact s_1|exact s_3|refine s_4 ?_|refine s_5 ?_|refine s_6 ?_|refine s_7 ?_);done)|((repeat first|exact s_0|exact s_1|exact s_3|refine s_4 ?_|refine s_5 ?_|refine s_6 ?_|refine s_8 ?_);done))) ?_
      rintro ⟨j, W⟩ ⟨hj, hW⟩
      dsimp only at hj hW
      refine xc_seq (xc_region ?_)
      refine xr_op rfl rfl (xv_lss2 rfl rfl (fun q3 => ?_) (fun q3 => ?_))
      · refine xr_end rfl ?_
        refine th_n ?_
        refine xc_seq ?_
        refine xc_true rfl ?_
        refine xc_skip ?_
        refine th_n ?_
        refine xc_seq ?_
        refine xc_block ?_
        refine xc_seq (xc_region ?_)
        have hltp : j < xo.rds.length := by (first|omega|(dsimp only at *;omega)|(simp at *;omega))
        obtain ⟨bp, op, lp, tp, fzp, hap, hmp, hxp⟩ := (hxrd).at hltp
        obtain ⟨xp, hkp⟩ : ∃ qq_, xo.rds[j]? = some qq_ := ⟨_, List.getElem?_eq_getElem hltp⟩
        have hpok := hxok.2.2 xp (List.mem_of_getElem? hkp)
        unfold rdOk at hpok
        refine xr_op rfl rfl (xv_ia (sz := 1) (j := j) sl60 ty3 rfl (by rw [hap]; rfl) rfl (by (first | assumption | with_reducible exact Int.toNat_natCast _ | with_reducible rfl | rfl)) (by (first|omega|(dsimp only at *;omega)|(simp at *;omega))) (by (first|omega|(dsimp only at *;omega)|(simp at *;omega))) ?_)
        refine xr_op rfl rfl (xv_load1 ty3 rfl rfl (by ((repeat first|exact z_0|assumption|refine z_1 ?_|(refine z_l ?_;(repeat first|exact z_0|assumption|refine z_1 ?_);done)|refine z_r ?_);done)) (show _ = some (I ((xp.toNat : Nat) : Int)) by rw [show ((xp.toNat : Nat) : Int) = xp by omega]; exact take_get (hxp j xp hkp) (j := 0) rfl) ?_)
        refine xr_op rfl rfl (xv_assign rfl ?_)
        refine xr_end rfl ?_
        refine th_n ?_
        refine xc_seq (xc_region ?_)
        refine xr_op rfl rfl (xv_move rfl ?_)
        refine xr_op rfl rfl (xv_calls rfl hb45 (figures_c (n := xp.toNat) (by omega) (up_ret ?_)))
        refine xr_op rfl rfl (xv_alloc ty93 (fun bN hbN => ?_))
        refine xr_op rfl rfl (xv_s ty93 rfl rfl (by (first|(apply u_3;(repeat first|exact u_0|assumption|apply u_1|apply u_2);done)|((repeat first|exact u_0|assumption|apply u_1|apply u_2);done)|(apply u_3;apply u_3;(repeat first|exact u_0|assumption|apply u_1|apply u_2);done)|((repeat first|exact u_0|assumption|apply u_3|apply u_1);done))) (by ((try apply evl_some rfl);(repeat (first|exact (rfl : _ = [])|apply evl_cons rfl (by (first|exact v_1|exact v_2|exact v_3|exact v_4|exact v_5|exact v_6|exact v_7|exact v_8|exact v_9|exact rfl))|exact rfl)))) (by rfl) (by rfl) (by rfl) (by ((try apply evl_some rfl);(repeat (first|exact (rfl : _ = [])|apply evl_cons rfl (by (first|exact v_1|exact v_2|exact v_3|exact v_4|exact v_5|exact v_6|exact v_7|exact v_8|exact v_9|exact rfl))|exact rfl)))) ?_)
        refine xr_end rfl ?_
        refine th_n ?_
        refine xc_drawX0 [(6, [(bN, fun o => o = .cells ⟨(figs xp.toNat).flatMap eB⟩ 93 (0, 0))])] [(0, .S), (1, .R), (2, .R), (3, .R), (4, .P), (6, .S), (4, .A), (5, .O), (7, .S), (8, .O)] mixed (by kernel_rfl) (iv_cons (holds1 (by ((repeat first|exact z_0|assumption|refine z_1 ?_|(refine z_l ?_;(repeat first|exact z_0|assumption|refine z_1 ?_);done)|refine z_r ?_);done)) rfl) iv_nil) ?_
        refine jx_S rfl rfl (.inl rfl) (xv_move rfl ⟨rfl, rfl⟩) ?_
        refine jx_R rfl rfl (.inl rfl) (xv_loadA (l' := (figs xp.toNat).flatMap eB) ty93 rfl rfl (by ((repeat first|exact z_0|assumption|refine z_1 ?_|(refine z_l ?_;(repeat first|exact z_0|assumption|refine z_1 ?_);done)|refine z_r ?_);done)) rfl rfl ⟨rfl, rfl⟩) ?_
        refine jx_R rfl rfl (.inl rfl) (xv_loadA (l' := (prevF xo.rds j).flatMap eB) ty93 rfl rfl (by ((repeat first|exact z_0|assumption|refine z_1 ?_|(refine z_l ?_;(repeat first|exact z_0|assumption|refine z_1 ?_);done)|refine z_r ?_);done)) (by rw [List.drop_zero]; exact List.take_of_length_le (by show _ ≤ 5; rw [eB_flen, prevF_len]; exact Nat.le_refl _)) (by rw [eB_flen, prevF_len]) ⟨rfl, rfl⟩) ?_
        refine jx_R rfl rfl (.inl rfl) (xv_calls rfl hb46 (word_c (f := figs xp.toNat) (w := prevF xo.rds j) rfl (prevF_len _ _) (figs_byt _) (up_ret ⟨rfl, rfl⟩))) ?_
        refine jx_P rfl rfl rfl (al_buildSlice sl86 ty9 rfl rfl rfl rfl rfl (by ((try apply evl_some rfl);(repeat (first|exact (rfl : _ = [])|apply evl_cons rfl (by (first|exact v_1|exact v_2|exact v_3|exact v_4|exact v_5|exact v_6|exact v_7|exact v_8|exact v_9|exact rfl))|exact rfl))))) ?_
        refine jx_I rfl rfl (.inl rfl) (fun hh hv => by have hv2 : Holds [(bN, fun o => o = .cells ⟨(figs xp.toNat).flatMap eB⟩ 93 (0, 0))] hh := hv; obtain ⟨o9, hm9, e9⟩ := hv2 _ _ List.mem_cons_self; subst e9; exact xv_loadA (l' := (figs xp.toNat).flatMap eB) ty93 rfl rfl hm9 rfl rfl ⟨rfl, rfl⟩) ?_
        refine jx_A rfl rfl rfl rfl rfl ⟨rfl, trivial⟩ (fun bM hbM => ?_)
        refine jx_O rfl rfl (.inl rfl) (xv_append (V := W) (n := j + 1) (xs := (lfW xo j).flatMap eStr) sl86 ty9 rfl rfl rfl hW (.there (.there .here)) (by ((repeat first|exact z_0|assumption|refine z_1 ?_|(refine z_l ?_;(repeat first|exact z_0|assumption|refine z_1 ?_);done)|refine z_r ?_);done)) (by ((try apply evl_some rfl);(repeat (first|exact (rfl : _ = [])|apply evl_cons rfl (by (first|exact v_1|exact v_2|exact v_3|exact v_4|exact v_5|exact v_6|exact v_7|exact v_8|exact v_9|exact rfl))|exact rfl)))) rfl rfl (by (first|omega|(dsimp only at *;omega)|(simp at *;omega))) (by simp only []; (first|omega|(dsimp only at *;omega)|(simp at *;omega))) (by (first|omega|(dsimp only at *;omega)|(simp at *;omega))) (fun W2 hW2 => ?_))
        refine ⟨(kp_in (holds1 (by ((repeat first|exact z_0|assumption|refine z_1 ?_|(refine z_l ?_;(repeat first|exact z_0|assumption|refine z_1 ?_);done)|refine z_r ?_);done)) rfl) kp_nil), ?_⟩
        refine jx_S rfl rfl (.inl rfl) (xv_assign rfl ⟨rfl, rfl⟩) ?_
        refine jx_O rfl rfl (.inl rfl) (xv_s (l' := (figs xp.toNat).flatMap eB) (vs := (figs xp.toNat).flatMap eB) ty93 rfl rfl (by (first|(apply u_3;(repeat first|exact u_0|assumption|apply u_1|apply u_2);done)|((repeat first|exact u_0|assumption|apply u_1|apply u_2);done)|(apply u_3;apply u_3;(repeat first|exact u_0|assumption|apply u_1|apply u_2);done)|((repeat first|exact u_0|assumption|apply u_3|apply u_1);done))) rfl rfl rfl (by rw [eB_flen, prevF_len]; rfl) (splice_all (by rw [eB_flen, eB_flen, prevF_len]; rfl)) ?_)
        refine ⟨(kp_go (by kernel_rfl) kp_nil), ?_⟩
        refine jx_end ?_
        refine bk_n ?_
        refine th_n ?_
        refine xc_region ?_
        refine xr_op rfl rfl (xv_add rfl rfl (wrap_i64 (by (first|omega|(dsimp only at *;omega)|(simp at *;omega))) (by (first|omega|(dsimp only at *;omega)|(simp at *;omega)))) ?_)
        refine xr_op rfl rfl (xv_move rfl ?_)
        refine xr_end rfl ?_
        have epf := prevF_succ hkp
        have ewd : (lfW xo (j + 1)).flatMap eStr = (lfW xo j).flatMap eStr ++ [S (wordS (figs xp.toNat) (prevF xo.rds j))] := by rw [show lfW xo (j + 1) = lfW xo j ++ [wordS (prevF xo.rds (j + 1)) (prevF xo.rds j)] from rfl, epf, List.flatMap_append]; rfl
        exact rnd ((j + 1, W2) : Nat × Vec) ⟨by (first|omega|(dsimp only at *;omega)|(simp at *;omega)), by dsimp only; rw [ewd]; exact hW2⟩ (by (first|omega|(dsimp only at *;omega)|(simp at *;omega))) (le_put (le_put (le_put (le_put (le_put (le_put (le_put (le_put (le_put (le_emp _) rfl) rfl) rfl) rfl) rfl) rfl) rfl) rfl) rfl) (by dsimp only; rw [ewd, epf]; (first|((repeat first|exact s_0|exact s_1|exact s_3|refine s_4 ?_|refine s_5 ?_|refine s_6 ?_|refine s_7 ?_);done)|((repeat first|exact s_0|exact s_1|exact s_3|refine s_4 ?_|refine s_5 ?_|refine s_6 ?_|refine s_8 ?_);done)))
      · refine xr_end rfl ?_
        refine th_n ?_
        refine xc_seq ?_
        refine xc_false rfl ?_
        refine xc_exit ?_
        refine th_x ?_
        refine th_x ?_
        refine bk_same ?_
        refine th_n ?_
        refine xc_region ?_
        obtain rfl : j = xo.rds.length := by (first|omega|(dsimp only at *;omega)|(simp at *;omega))
        have elw : (lfW xo xo.rds.length).length = xo.rds.length + 1 := by rw [lfW, List.length_cons, wdL_len]
        rw [Vec.val_ad hW, ← elw]
        refine xr_op rfl rfl (xv_move rfl ?_)
        refine xr_op rfl rfl (xv_calls rfl hb39 (line_c (ws := lfW xo xo.rds.length) ((Vec.slvA (t := 9) eStr_len elw hW).sub (by intro z9 hz9; ((repeat first|exact z_0|assumption|refine z_1 ?_|(refine z_l ?_;(repeat first|exact z_0|assumption|refine z_1 ?_);done)|refine z_r ?_);done))) (by rw [elw]; exact Vec.le_cp hW) (by rw [elw]; omega) (lfW_short hxok _) (up_ret ?_)))
        refine xr_op rfl rfl (xv_calls rfl hb38 (wstrP_c (V := V) (bs := mtrS (l.take k)) (l := lfS xo) hp hV (by omega) permB3 (fun V2 hV2 => up_ret ?_)))
        refine xr_end rfl ?_
        refine bk_n ?_
        refine th_n ?_
        refine xc_region ?_
        refine xr_op rfl rfl (xv_add rfl rfl (wrap_i64 (by (first|omega|(dsimp only at *;omega)|(simp at *;omega))) (by (first|omega|(dsimp only at *;omega)|(simp at *;omega)))) ?_)
        refine xr_op rfl rfl (xv_move rfl ?_)
        refine xr_end rfl ?_
        have etk : mtrS (l.take (k + 1)) = mtrS (l.take k) ++ lfS xo := by rw [List.take_add_one, hko]; exact mtrS_snoc _ _
        exact rnd ((k + 1, V2, (some ⟨bB, 0, none⟩)) : Nat × Vec × Option Addr) ⟨by (first|omega|(dsimp only at *;omega)|(simp at *;omega)), by dsimp only; rw [etk]; exact hV2, .inr rfl, fun h9 => by (have h8 : mtrS (l.take k) ++ lfS xo = [] := by rw [← etk]; exact h9); unfold lfS lineS at h8; simp at h8⟩ (by (first|omega|(dsimp only at *;omega)|(simp at *;omega))) (le_put (le_put (le_put (le_put (le_emp _) rfl) rfl) rfl) rfl) (by dsimp only; rw [etk]; (first|((repeat first|exact s_0|exact s_1|exact s_3|refine s_4 ?_|refine s_5 ?_|refine s_6 ?_|refine s_7 ?_);done)|((repeat first|exact s_0|exact s_1|exact s_3|refine s_4 ?_|refine s_5 ?_|refine s_6 ?_|refine s_8 ?_);done)))
    · refine xr_end rfl ?_
      refine th_n ?_
      refine xc_seq ?_
      refine xc_false rfl ?_
      refine xc_exit ?_
      refine th_x ?_
      refine th_x ?_
      refine bk_same ?_
      refine th_n ?_
      refine xc_seq (xc_region ?_)
      obtain rfl : k = l.length := by (first|omega|(dsimp only at *;omega)|(simp at *;omega))
      rw [List.take_length] at hV hmd hne ⊢
      refine xr_op rfl rfl (xv_calls rfl hb41 (bstr_c (bs := mtrS l) (g := h) hV hne (by omega) (List.Perm.refl _) (up_ret ?_)))
      refine xr_op rfl rfl (xv_assign rfl ?_)
      refine xr_op rfl rfl (xv_assign rfl ?_)
      refine xr_end rfl ?_
      refine th_n ?_
      refine xc_ret ?_
      refine body_ret (h' := h) rfl (ro_tmp rfl (ro_tmp rfl ro_nil)) (by (first|((repeat first|exact s_0|exact s_1|exact s_3|refine s_4 ?_|refine s_5 ?_|refine s_6 ?_|refine s_7 ?_);done)|((repeat first|exact s_0|exact s_1|exact s_3|refine s_4 ?_|refine s_5 ?_|refine s_6 ?_|refine s_8 ?_);done))) ?_
      first | exact H1 (by omega) | exact H2 he0

end Go.Proofs.YtlpkiolopelpfaaDoor

/-
  Walks.
-/
namespace Go.Proofs.YtlpkiolopelpfaaDoor
open Go Go.H
set_option maxRecDepth 100000
set_option maxHeartbeats 8000000
set_option linter.all false
theorem loads_c {h : Hp} {R : Ending → Hp → Prop} (H : ∀ b, R (.returned (.slice (some ⟨b, 0, none⟩) 3 3)) ((b, .cells ⟨exL.flatMap eLoad⟩ 75) :: h)) : ACalls Tryd.prog 14 ⟨[]⟩ h R := by
  refine calls_of_xc (N := 5) Tryd.func14 rfl (by rfl) ?_
  refine xc_seq (xc_region ?_)
  refine xr_op rfl rfl (xv_assign rfl ?_)
  refine xr_end rfl ?_
  refine th_n ?_
  refine xc_seq (xc_region ?_)
  refine xr_op rfl rfl (xv_build bt75 rfl (by ((try apply evl_some rfl);(repeat (first|exact (rfl : _ = [])|apply evl_cons rfl (by (first|exact v_1|exact v_2|exact v_3|exact v_4|exact v_5|exact v_6|exact v_7|exact v_8|exact v_9|exact rfl))|exact rfl)))) ?_)
  refine xr_op rfl rfl (xv_build bt75 rfl (by ((try apply evl_some rfl);(repeat (first|exact (rfl : _ = [])|apply evl_cons rfl (by (first|exact v_1|exact v_2|exact v_3|exact v_4|exact v_5|exact v_6|exact v_7|exact v_8|exact v_9|exact rfl))|exact rfl)))) ?_)
  refine xr_op rfl rfl (xv_build bt75 rfl (by ((try apply evl_some rfl);(repeat (first|exact (rfl : _ = [])|apply evl_cons rfl (by (first|exact v_1|exact v_2|exact v_3|exact v_4|exact v_5|exact v_6|exact v_7|exact v_8|exact v_9|exact rfl))|exact rfl)))) ?_)
  refine xr_op rfl rfl ((al_buildSlice sl32 ty75 rfl rfl rfl rfl rfl (by ((try apply evl_some rfl);(repeat (first|exact (rfl : _ = [])|apply evl_cons rfl (by (first|exact v_1|exact v_2|exact v_3|exact v_4|exact v_5|exact v_6|exact v_7|exact v_8|exact v_9|exact rfl))|exact rfl))))).xv (fun bs hbs => ?_))
  refine xr_op rfl rfl (xv_assign rfl ?_)
  refine xr_end rfl ?_
  refine th_n ?_
  refine xc_ret ?_
  refine body_ret (h' := ((bs, .cells ⟨exL.flatMap eLoad⟩ 75) :: h)) rfl (ro_tmp rfl ro_nil) (by (first|((repeat first|exact s_0|exact s_1|exact s_3|refine s_4 ?_|refine s_5 ?_|refine s_6 ?_|refine s_7 ?_);done)|((repeat first|exact s_0|exact s_1|exact s_3|refine s_4 ?_|refine s_5 ?_|refine s_6 ?_|refine s_8 ?_);done))) ?_
  exact H bs

theorem sights_c {h : Hp} {R : Ending → Hp → Prop} (H : ∀ b, R (.returned (.slice (some ⟨b, 0, none⟩) 3 3)) ((b, .cells ⟨exS.flatMap eSight⟩ 44) :: h)) : ACalls Tryd.prog 15 ⟨[]⟩ h R := by
  refine calls_of_xc (N := 5) Tryd.func15 rfl (by rfl) ?_
  refine xc_seq (xc_region ?_)
  refine xr_op rfl rfl (xv_assign rfl ?_)
  refine xr_end rfl ?_
  refine th_n ?_
  refine xc_seq (xc_region ?_)
  refine xr_op rfl rfl (xv_build bt44 rfl (by ((try apply evl_some rfl);(repeat (first|exact (rfl : _ = [])|apply evl_cons rfl (by (first|exact v_1|exact v_2|exact v_3|exact v_4|exact v_5|exact v_6|exact v_7|exact v_8|exact v_9|exact rfl))|exact rfl)))) ?_)
  refine xr_op rfl rfl (xv_build bt44 rfl (by ((try apply evl_some rfl);(repeat (first|exact (rfl : _ = [])|apply evl_cons rfl (by (first|exact v_1|exact v_2|exact v_3|exact v_4|exact v_5|exact v_6|exact v_7|exact v_8|exact v_9|exact rfl))|exact rfl)))) ?_)
  refine xr_op rfl rfl (xv_build bt44 rfl (by ((try apply evl_some rfl);(repeat (first|exact (rfl : _ = [])|apply evl_cons rfl (by (first|exact v_1|exact v_2|exact v_3|exact v_4|exact v_5|exact v_6|exact v_7|exact v_8|exact v_9|exact rfl))|exact rfl)))) ?_)
  refine xr_op rfl rfl ((al_buildSlice sl22 ty44 rfl rfl rfl rfl rfl (by ((try apply evl_some rfl);(repeat (first|exact (rfl : _ = [])|apply evl_cons rfl (by (first|exact v_1|exact v_2|exact v_3|exact v_4|exact v_5|exact v_6|exact v_7|exact v_8|exact v_9|exact rfl))|exact rfl))))).xv (fun bs hbs => ?_))
  refine xr_op rfl rfl (xv_assign rfl ?_)
  refine xr_end rfl ?_
  refine th_n ?_
  refine xc_ret ?_
  refine body_ret (h' := ((bs, .cells ⟨exS.flatMap eSight⟩ 44) :: h)) rfl (ro_tmp rfl ro_nil) (by (first|((repeat first|exact s_0|exact s_1|exact s_3|refine s_4 ?_|refine s_5 ?_|refine s_6 ?_|refine s_7 ?_);done)|((repeat first|exact s_0|exact s_1|exact s_3|refine s_4 ?_|refine s_5 ?_|refine s_6 ?_|refine s_8 ?_);done))) ?_
  exact H bs

theorem leaves_c {h : Hp} {R : Ending → Hp → Prop} (H : ∀ b b2, R (.returned (.slice (some ⟨b, 0, none⟩) 1 1)) ((b, .cells ⟨(exM b2).flatMap eLeaf⟩ 72) :: (b2, .cells ⟨[I 1234, I 1240, I 1240, I 11240]⟩ 3) :: h)) : ACalls Tryd.prog 16 ⟨[]⟩ h R := by
  refine calls_of_xc (N := 4) Tryd.func16 rfl (by rfl) ?_
  refine xc_seq (xc_region ?_)
  refine xr_op rfl rfl (xv_assign rfl ?_)
  refine xr_end rfl ?_
  refine th_n ?_
  refine xc_seq (xc_region ?_)
  refine xr_op rfl rfl ((al_buildSlice sl60 ty3 rfl rfl rfl rfl rfl (by ((try apply evl_some rfl);(repeat (first|exact (rfl : _ = [])|apply evl_cons rfl (by (first|exact v_1|exact v_2|exact v_3|exact v_4|exact v_5|exact v_6|exact v_7|exact v_8|exact v_9|exact rfl))|exact rfl))))).xv (fun br hbr => ?_))
  refine xr_op rfl rfl (xv_build bt72 rfl (by ((try apply evl_some rfl);(repeat (first|exact (rfl : _ = [])|apply evl_cons rfl (by (first|exact v_1|exact v_2|exact v_3|exact v_4|exact v_5|exact v_6|exact v_7|exact v_8|exact v_9|exact rfl))|exact rfl)))) ?_)
  refine xr_op rfl rfl ((al_buildSlice sl33 ty72 rfl rfl rfl rfl rfl (by ((try apply evl_some rfl);(repeat (first|exact (rfl : _ = [])|apply evl_cons rfl (by (first|exact v_1|exact v_2|exact v_3|exact v_4|exact v_5|exact v_6|exact v_7|exact v_8|exact v_9|exact rfl))|exact rfl))))).xv (fun bs hbs => ?_))
  refine xr_op rfl rfl (xv_assign rfl ?_)
  refine xr_end rfl ?_
  refine th_n ?_
  refine xc_ret ?_
  refine body_ret (h' := ((bs, .cells ⟨(exM br).flatMap eLeaf⟩ 72) :: (br, .cells ⟨[I 1234, I 1240, I 1240, I 11240]⟩ 3) :: h)) rfl (ro_tmp rfl ro_nil) (by (first|((repeat first|exact s_0|exact s_1|exact s_3|refine s_4 ?_|refine s_5 ?_|refine s_6 ?_|refine s_7 ?_);done)|((repeat first|exact s_0|exact s_1|exact s_3|refine s_4 ?_|refine s_5 ?_|refine s_6 ?_|refine s_8 ?_);done))) ?_
  exact H bs br

theorem SightsT_c {a a2 : Option Addr} {c c2 n n2 : Nat} {xs ys : List Sight} {h : Hp} {R : Ending → Hp → Prop} (hn : n = xs.length) (hn2 : n2 = ys.length) (hs : SlV h 2 eSight a xs) (hs2 : SlV h 2 eSight a2 ys) (he : xs = ys) (hl : n ≤ 1000000) (H : R (.returned (.bool true)) h) : ACalls Tryd.prog 10 ⟨[.slice a n c, .slice a2 n2 c2]⟩ h R := by
  subst hn hn2
  refine Sights_c hs hs2 hl (by rw [← he]; omega) ?_
  rw [decide_eq_true he]; exact H

theorem alive_c {h : Hp} {R : Ending → Hp → Prop} (H : R (.returned (.bool true)) h) : ACalls Tryd.prog 5 ⟨[]⟩ h R := by
  refine calls_of_xc (N := 61) Tryd.func5 rfl (by rfl) ?_
  refine xc_seq (xc_region ?_)
  refine xr_op rfl rfl (xv_assign rfl ?_)
  refine xr_end rfl ?_
  refine th_n ?_
  refine xc_seq (xc_region ?_)
  refine xr_op rfl rfl (xv_calls rfl hb14 (loads_c (fun bl => up_ret ?_)))
  refine xr_op rfl rfl (xv_calls rfl hb12 (WriteCharges_c (l := exL) (slvL eLoad_len (by ((repeat first|exact z_0|assumption|refine z_1 ?_|(refine z_l ?_;(repeat first|exact z_0|assumption|refine z_1 ?_);done)|refine z_r ?_);done))) (by decide) (fun _ n9 hn9 => itoaS (ex_small n9 hn9).1 (ex_small n9 hn9).2) (fun h9 => absurd exL_ok h9) (fun _hc => up_ret ?_)))
  refine xr_op rfl rfl (xv_move rfl ?_)
  refine xr_op rfl rfl (xv_extract rfl rfl ?_)
  refine xr_op rfl rfl (xv_extract rfl rfl ?_)
  refine xr_op rfl rfl (xv_assign rfl ?_)
  refine xr_op rfl rfl (xv_assign rfl ?_)
  refine xr_end rfl ?_
  refine th_n ?_
  refine xc_seq (xc_region ?_)
  refine xr_op rfl rfl (xv_calls rfl hb15 (sights_c (fun bg => up_ret ?_)))
  refine xr_op rfl rfl (xv_calls rfl hb6 (WriteLog_c (xs := exS) (slvL eSight_len (by ((repeat first|exact z_0|assumption|refine z_1 ?_|(refine z_l ?_;(repeat first|exact z_0|assumption|refine z_1 ?_);done)|refine z_r ?_);done))) (by decide) (fun h9 => absurd exS_ok h9) (fun _hc V1 hV1 => up_ret ?_)))
  refine xr_op rfl rfl (xv_move rfl ?_)
  refine xr_op rfl rfl (xv_extract rfl rfl ?_)
  refine xr_op rfl rfl (xv_extract rfl rfl ?_)
  refine xr_op rfl rfl (xv_assign rfl ?_)
  refine xr_op rfl rfl (xv_assign rfl ?_)
  refine xr_end rfl ?_
  refine th_n ?_
  refine xc_seq (xc_region ?_)
  refine xr_op rfl rfl (xv_calls rfl hb16 (leaves_c (fun bv br => up_ret ?_)))
  refine xr_op rfl rfl (xv_calls rfl hb13 (WriteMeters_c (l := exM br) ⟨slvL eLeaf_len (by ((repeat first|exact z_0|assumption|refine z_1 ?_|(refine z_l ?_;(repeat first|exact z_0|assumption|refine z_1 ?_);done)|refine z_r ?_);done)), fun x9 hx9 => by rw [List.mem_singleton.1 hx9]; exact slvL eI_len (xs := [1234, 1240, 1240, 11240]) (by ((repeat first|exact z_0|assumption|refine z_1 ?_|(refine z_l ?_;(repeat first|exact z_0|assumption|refine z_1 ?_);done)|refine z_r ?_);done))⟩ (by show 1 ≤ 1000000; decide) (fun x9 hx9 => by rw [List.mem_singleton.1 hx9]; show 4 ≤ 1000000; decide) (fun _ x9 hx9 => by rw [List.mem_singleton.1 hx9]; exact itoaS (by show (0 : Int) ≤ 12; decide) (by show (12 : Int) < 100; decide)) (fun h9 => absurd (exM_ok br) h9) (fun _hc => up_ret ?_)))
  refine xr_op rfl rfl (xv_move rfl ?_)
  refine xr_op rfl rfl (xv_extract rfl rfl ?_)
  refine xr_op rfl rfl (xv_extract rfl rfl ?_)
  refine xr_op rfl rfl (xv_assign rfl ?_)
  refine xr_op rfl rfl (xv_assign rfl ?_)
  refine xr_end rfl ?_
  refine th_n ?_
  refine xc_seq (xc_region ?_)
  refine xr_op rfl rfl (xv_move rfl ?_)
  refine xr_op rfl rfl (xv_calls rfl hb8 (ReadLog_c (bs := logB exS) ((Vec.slvA (t := 5) eB_len rfl hV1).sub (by intro z9 hz9; ((repeat first|exact z_0|assumption|refine z_1 ?_|(refine z_l ?_;(repeat first|exact z_0|assumption|refine z_1 ?_);done)|refine z_r ?_);done))) (by rw [log_ex]; decide) (logB_byt _) (fun h9 => by rw [rd_log exS_ok] at h9; cases h9) (fun l2 V2 hrd hV2 => up_ret ?_)))
  refine xr_op rfl rfl (xv_move rfl ?_)
  refine xr_op rfl rfl (xv_extract rfl rfl ?_)
  refine xr_op rfl rfl (xv_extract rfl rfl ?_)
  refine xr_op rfl rfl (xv_assign rfl ?_)
  refine xr_op rfl rfl (xv_assign rfl ?_)
  refine xr_end rfl ?_
  refine th_n ?_
  refine xc_seq (xc_region ?_)
  obtain rfl : l2 = exS := by rw [rd_log exS_ok] at hrd; exact (Option.some.inj hrd).symm
  rw [Vec.val_ad hV2]
  refine xr_op rfl rfl (xv_move rfl ?_)
  refine xr_op rfl rfl (xv_eqS (a := chgS exL) (c := [53, 32, 49, 32, 48, 32, 54, 10, 53, 32, 50, 32, 49, 32, 55, 10, 54, 32, 49, 32, 48, 32, 54, 10, 116, 111, 116, 97, 108, 32, 51, 32, 49, 57, 10]) rfl rfl (decide_eq_true chg_ex) ?_)
  refine xr_op rfl rfl (xv_move rfl ?_)
  refine xr_gd rfl rfl rfl (xv_move rfl ?_)
  refine xr_gd rfl rfl rfl (xv_eqlT rfl rfl rfl ?_)
  refine xr_op rfl rfl (xv_pick rfl rfl ?_)
  refine xr_op rfl rfl (xv_move rfl ?_)
  refine xr_gd rfl rfl rfl (xv_move rfl ?_)
  refine xr_gd rfl rfl rfl (xv_cvB (bs := logB exS) sl23 Tryd.underlying5 Tryd.underlying9 rfl rfl (logB_byt _) ((Vec.slvA (t := 5) eB_len rfl hV1).sub (by intro z9 hz9; ((repeat first|exact z_0|assumption|refine z_1 ?_|(refine z_l ?_;(repeat first|exact z_0|assumption|refine z_1 ?_);done)|refine z_r ?_);done))) ?_)
  refine xr_gd rfl rfl rfl (xv_eqS (a := u8 (logB exS)) (c := [53, 164, 4, 39, 161]) rfl rfl (decide_eq_true log_exU) ?_)
  refine xr_op rfl rfl (xv_pick rfl rfl ?_)
  refine xr_op rfl rfl (xv_move rfl ?_)
  refine xr_gd rfl rfl rfl (xv_move rfl ?_)
  refine xr_gd rfl rfl rfl (xv_eqlT rfl rfl rfl ?_)
  refine xr_op rfl rfl (xv_pick rfl rfl ?_)
  refine xr_op rfl rfl (xv_move rfl ?_)
  refine xr_gd rfl rfl rfl (xv_move rfl ?_)
  refine xr_gd rfl rfl rfl (xv_eqS (a := mtrS (exM br)) (c := [49, 50, 32, 48, 49, 50, 51, 52, 32, 52, 48, 32, 46, 32, 49, 49, 50, 52, 48, 10]) rfl rfl (decide_eq_true (mtr_ex br)) ?_)
  refine xr_op rfl rfl (xv_pick rfl rfl ?_)
  refine xr_op rfl rfl (xv_move rfl ?_)
  refine xr_gd rfl rfl rfl (xv_move rfl ?_)
  refine xr_gd rfl rfl rfl (xv_eqlT rfl rfl rfl ?_)
  refine xr_op rfl rfl (xv_pick rfl rfl ?_)
  refine xr_op rfl rfl (xv_move rfl ?_)
  refine xr_gd rfl rfl rfl (xv_move rfl ?_)
  refine xr_gd rfl rfl rfl (xv_calls rfl hb15 (sights_c (fun bg2 => up_ret ?_)))
  refine xr_gd rfl rfl rfl (xv_calls rfl hb10 (SightsT_c rfl rfl ((Vec.slvA (t := 44) eSight_len rfl hV2).sub (by intro z9 hz9; ((repeat first|exact z_0|assumption|refine z_1 ?_|(refine z_l ?_;(repeat first|exact z_0|assumption|refine z_1 ?_);done)|refine z_r ?_);done))) (slvL eSight_len (by ((repeat first|exact z_0|assumption|refine z_1 ?_|(refine z_l ?_;(repeat first|exact z_0|assumption|refine z_1 ?_);done)|refine z_r ?_);done))) rfl (by decide) (up_ret ?_)))
  refine xr_op rfl rfl (xv_pick rfl rfl ?_)
  refine xr_op rfl rfl (xv_move rfl ?_)
  refine xr_gd rfl rfl rfl (xv_move rfl ?_)
  refine xr_gd rfl rfl rfl (xv_eqlT rfl rfl rfl ?_)
  refine xr_op rfl rfl (xv_pick rfl rfl ?_)
  refine xr_op rfl rfl (xv_assign rfl ?_)
  refine xr_end rfl ?_
  refine th_n ?_
  refine xc_ret ?_
  refine body_ret (h' := h) rfl (ro_tmp rfl ro_nil) (by (first|((repeat first|exact s_0|exact s_1|exact s_3|refine s_4 ?_|refine s_5 ?_|refine s_6 ?_|refine s_7 ?_);done)|((repeat first|exact s_0|exact s_1|exact s_3|refine s_4 ?_|refine s_5 ?_|refine s_6 ?_|refine s_8 ?_);done))) ?_
  exact H

end Go.Proofs.YtlpkiolopelpfaaDoor

/-
  Walks.
-/
namespace Go.Proofs.YtlpkiolopelpfaaDoor
open Go Go.H
set_option maxRecDepth 100000
set_option maxHeartbeats 8000000
set_option linter.all false
end Go.Proofs.YtlpkiolopelpfaaDoor

/-
  Numbers below 2^32 as any kind; a table of figures; a part of an array.
-/
set_option linter.all false
namespace Go.H
section
variable {P : Program} {r : Option Nat} {E : Env} {h h' g : Hp} {K : Value → Hp → Prop} {T : List PanicEntry → Hp → Prop} {dst : Option Nat} {ty : TypeId} {pos : String} {af : Array Edge} {gd : Option (Nat × Bool)}
def SmK (k : IntKind) : Prop := ∀ n : Nat, n ≤ 4294967295 → k.wrap (n : Int) = (n : Int)
theorem sm64 : SmK .i64 := fun n h => wrap_i64 (by omega) (by omega)
theorem smU64 : SmK .u64 := fun n h => wrap_u64 (by omega) (by omega)
theorem smU32 : SmK .u32 := fun n h => by rw [IntKind.wrap_u32]; omega
theorem xv_quoN {xt yt : TypeId} {x y : Operand} {k : IntKind} {a m : Nat} (hk : SmK k) (hx : ev E x = some (.int k (a : Int))) (hy : ev E y = some (.int k (m : Int))) (h0 : 0 < m) (ha : a ≤ 4294967295) (H : K (.int k ((a / m : Nat) : Int)) h) : XV P r ⟨dst, .binOp .quo xt x y yt, ty, pos, af, gd⟩ K T E h :=
  xv_quo hx hy (by omega) (by rw [show ((a : Int)).tdiv (m : Int) = ((a / m : Nat) : Int) from rfl]; exact hk _ (Nat.le_trans (Nat.div_le_self _ _) ha)) H
theorem xv_remN {xt yt : TypeId} {x y : Operand} {k : IntKind} {a m : Nat} (hx : ev E x = some (.int k (a : Int))) (hy : ev E y = some (.int k (m : Int))) (h0 : 0 < m) (H : K (.int k ((a % m : Nat) : Int)) h) : XV P r ⟨dst, .binOp .rem xt x y yt, ty, pos, af, gd⟩ K T E h :=
  xv_rem hx hy (by omega) rfl H
theorem xv_mulN {xt yt : TypeId} {x y : Operand} {k : IntKind} {a m : Nat} (hk : SmK k) (hx : ev E x = some (.int k (a : Int))) (hy : ev E y = some (.int k (m : Int))) (ha : m * a ≤ 4294967295) (H : K (.int k ((m * a : Nat) : Int)) h) : XV P r ⟨dst, .binOp .mul xt x y yt, ty, pos, af, gd⟩ K T E h :=
  xv_mul hx hy (by rw [← Int.natCast_mul, Nat.mul_comm]; exact hk _ ha) H
theorem xv_addN {xt yt : TypeId} {x y : Operand} {k : IntKind} {a m : Nat} (hk : SmK k) (hx : ev E x = some (.int k (a : Int))) (hy : ev E y = some (.int k (m : Int))) (ha : a + m ≤ 4294967295) (H : K (.int k ((a + m : Nat) : Int)) h) : XV P r ⟨dst, .binOp .add xt x y yt, ty, pos, af, gd⟩ K T E h :=
  xv_add hx hy (by rw [← Int.natCast_add]; exact hk _ ha) H
theorem xv_subN {xt yt : TypeId} {x y : Operand} {k : IntKind} {a m : Nat} (hk : SmK k) (hx : ev E x = some (.int k (a : Int))) (hy : ev E y = some (.int k (m : Int))) (ham : m ≤ a) (ha : a ≤ 4294967295) (H : K (.int k ((a - m : Nat) : Int)) h) : XV P r ⟨dst, .binOp .sub xt x y yt, ty, pos, af, gd⟩ K T E h :=
  xv_sub hx hy (by rw [← Int.ofNat_sub ham]; exact hk _ (by omega)) H
theorem xv_shrN {xt yt : TypeId} {x y : Operand} {k yk : IntKind} {a s : Nat} (hx : ev E x = some (.int k (a : Int))) (hy : ev E y = some (.int yk (s : Int))) (hs : s ≤ k.bits) (H : K (.int k ((a / 2 ^ s : Nat) : Int)) h) : XV P r ⟨dst, .binOp .shr xt x y yt, ty, pos, af, gd⟩ K T E h :=
  xv_shrK hx hy hs (by rw [Int.fdiv_eq_ediv_of_nonneg _ (by exact Int.le_of_lt (Int.pow_pos (by decide)))]; push_cast; rfl) H
def twos (j : Nat) : Nat := 48 + (if j % 2 = 0 then j / 2 / 10 else j / 2 % 10)
theorem xv_ix0 {x y : Operand} {t : TypeId} {s : ByteArray} {k : IntKind} {a : Nat} (ht : P.underlying t = some .string) (hx : ev E x = some (.string s)) (hy : ev E y = some (.int k ((2 * a : Nat) : Int))) (ha : a < 100) (h2 : (List.range 200).all (fun j => if h : j < s.size then s[j] == UInt8.ofNat (twos j) else false) = true)
    (H : K (.int .u8 ((48 + a / 10 : Nat) : Int)) h) : XV P r ⟨dst, .index t x y, ty, pos, af, gd⟩ K T E h :=
  xv_indexT ht hx hy (by omega) (by omega) h2 (by
    have e : (UInt8.ofNat (twos (((2 * a : Nat) : Int)).toNat)).toNat = 48 + a / 10 := by
      rw [Int.toNat_natCast, UInt8.toNat_ofNat']; unfold twos; rw [if_pos (by omega)]; omega
    rw [e]; exact H)
theorem xv_ix1 {x y : Operand} {t : TypeId} {s : ByteArray} {k : IntKind} {a : Nat} (ht : P.underlying t = some .string) (hx : ev E x = some (.string s)) (hy : ev E y = some (.int k ((2 * a + 1 : Nat) : Int))) (ha : a < 100) (h2 : (List.range 200).all (fun j => if h : j < s.size then s[j] == UInt8.ofNat (twos j) else false) = true)
    (H : K (.int .u8 ((48 + a % 10 : Nat) : Int)) h) : XV P r ⟨dst, .index t x y, ty, pos, af, gd⟩ K T E h :=
  xv_indexT ht hx hy (by omega) (by omega) h2 (by
    have e : (UInt8.ofNat (twos (((2 * a + 1 : Nat) : Int)).toNat)).toNat = 48 + a % 10 := by
      rw [Int.toNat_natCast, UInt8.toNat_ofNat']; unfold twos; rw [if_neg (by omega)]; omega
    rw [e]; exact H)
theorem xv_slArr2 {x y z : Operand} {t e : TypeId} {d : TD} {b n m q : Nat} {k k' : IntKind} {i j : Int} (ht : P.underlying t = some (.array n e)) (hd : TyOk P e d) (hsz : d.size = 1) (hx : ev E x = some (.pointer (some ⟨b, 0, none⟩))) (hy : ev E y = some (.int k i)) (hz : ev E z = some (.int k' j)) (hi : i = (m : Int)) (hj : j = (q : Int)) (h1 : m ≤ q) (h2 : q ≤ n) (h3 : m < n)
    (H : K (.slice (some ⟨b, m, none⟩) (q - m) (n - m)) h) : XV P r ⟨dst, .slice t x (some y) (some z) none, ty, pos, af, gd⟩ K T E h := by
  subst hi; subst hj
  exact xv_of_run (by simp [plainOp]) fun w ρ ho he => ⟨_, h, w, by
    have hne : ¬ n = m := by omega
    have hb1 := run_sliceBoundH (P := P) (k := k) (i := (m : Int)) (y := q) (code := .sliceB) (w := w) (by omega) (by omega)
    have hb2 := run_sliceBoundH (P := P) (k := k') (i := (q : Int)) (y := n) (code := .sliceAlen) (w := w) (by omega) (by omega)
    simp only [execOp, he _ _ hx, Option.map_none, Option.map_some, he _ _ hy, he _ _ hz]
    simp [Instr.sliceAt, Instr.sureAddr, run_underlying ht, Instr.sliceBounds, hb1, hb2, hd.run_size, hsz, hne, addr_add], H, .refl ho⟩
end
end Go.H

/-
  Numbers in figures: how many, and which.
-/
set_option linter.all false
namespace Go.Proofs.YtlpkiolopelpfaaDoor
open Go Go.H Go.Sort
theorem bl_shift {n k : Nat} (h : 2 ^ k ≤ n) : bitsLen n = bitsLen (n / 2 ^ k) + k := by
  have hk : ¬ bitsLen n ≤ k := fun hc => by have := (bitsLen_le_iff n k).1 hc; omega
  have h2 : ∀ j, bitsLen (n / 2 ^ k) ≤ j ↔ bitsLen n ≤ j + k := fun j => by
    rw [bitsLen_le_iff, bitsLen_le_iff, Nat.pow_add, Nat.div_lt_iff_lt_mul (Nat.pow_pos (by decide))]
  have a1 := (h2 (bitsLen n - k)).2 (by omega)
  have a2 := (h2 (bitsLen (n / 2 ^ k))).1 (Nat.le_refl _)
  omega
theorem bl_256 {n : Nat} (h : n < 256) : (UInt8.ofNat (bitsLen n)).toNat = bitsLen n := by
  have hb : bitsLen n ≤ 8 := (bitsLen_le_iff n 8).2 h
  rw [UInt8.toNat_ofNat']; omega
theorem bl_le {n : Nat} (h : n < 134217728) : bitsLen n ≤ 27 := (bitsLen_le_iff n 27).2 h
theorem dec_lenN : ∀ (d : Nat) {n : Nat}, (d = 0 ∨ 10 ^ d ≤ n) → n < 10 ^ (d + 1) → (dec n).length = d + 1
  | 0, n, _, h => by rw [dec_small (by simpa using h)]; rfl
  | d + 1, n, h0, h => by
    have h1 : 10 ^ (d + 1) ≤ n := by
      rcases h0 with h0 | h0
      · omega
      · exact h0
    rw [Nat.pow_succ] at h1 h
    have hp : 0 < 10 ^ d := Nat.pow_pos (by decide)
    rw [dec, dif_pos (by omega), List.length_append, List.length_singleton, dec_lenN d (n := n / 10) (.inr (by omega)) (by omega)]
def l10 (n : Nat) : Nat := bitsLen n * 78913 / 262144
theorem l10_le {n : Nat} (h : n < 134217728) : l10 n ≤ 8 := by have := bl_le h; unfold l10; omega
theorem nd_eq {n : Nat} (h1 : 1 ≤ n) (h : n < 100000000) : l10 n + (if 10 ^ l10 n ≤ n then 1 else 0) = (dec n).length := by
  have hb : bitsLen n ≤ 27 := bl_le (by omega)
  have hlo : ¬ n < 2 ^ (bitsLen n - 1) := fun hc => by
    have := (bitsLen_le_iff n (bitsLen n - 1)).2 hc
    have h0 : 0 < bitsLen n := Nat.pos_of_ne_zero (fun h0 => by have := lt_two_pow_bitsLen n; rw [h0] at this; simp at this; omega)
    omega
  have hhi := lt_two_pow_bitsLen n
  have hpos : 0 < bitsLen n := Nat.pos_of_ne_zero (fun h0 => by rw [h0] at hhi; simp at hhi; omega)
  unfold l10
  have key : ∀ t, bitsLen n * 78913 / 262144 = t → t ≤ 8 → (t = 0 ∨ 10 ^ (t - 1) ≤ n) → n < 10 ^ (t + 1) → t + (if 10 ^ t ≤ n then 1 else 0) = (dec n).length := fun t _ ht h2 h3 => by
    split
    · rename_i h4
      rw [dec_lenN t (.inr h4) h3]
    · rename_i h4
      cases t with
      | zero => simp at h4; omega
      | succ t =>
        have h5 : 10 ^ t ≤ n := by
          rcases h2 with h2 | h2
          · omega
          · simpa using h2
        rw [dec_lenN t (.inr h5) (by omega)]
  generalize hL : bitsLen n = L at *
  have hc : L = 1 ∨ L = 2 ∨ L = 3 ∨ L = 4 ∨ L = 5 ∨ L = 6 ∨ L = 7 ∨ L = 8 ∨ L = 9 ∨ L = 10 ∨ L = 11 ∨ L = 12 ∨ L = 13 ∨ L = 14 ∨ L = 15 ∨ L = 16 ∨ L = 17 ∨ L = 18 ∨ L = 19 ∨ L = 20 ∨ L = 21 ∨ L = 22 ∨ L = 23 ∨ L = 24 ∨ L = 25 ∨ L = 26 ∨ L = 27 := by omega
  rcases hc with rfl | rfl | rfl | rfl | rfl | rfl | rfl | rfl | rfl | rfl | rfl | rfl | rfl | rfl | rfl | rfl | rfl | rfl | rfl | rfl | rfl | rfl | rfl | rfl | rfl | rfl | rfl <;> exact key _ rfl (by decide) (by simp at hlo hhi ⊢ <;> omega) (by simp at hlo hhi ⊢ <;> omega)
theorem pow_at {n : Nat} (h : n ≤ 8) : (powL.map (Value.int IntKind.u64))[0 + n * 1]? = some (.int .u64 ((10 ^ n : Nat) : Int)) := by
  rcases (show n = 0 ∨ n = 1 ∨ n = 2 ∨ n = 3 ∨ n = 4 ∨ n = 5 ∨ n = 6 ∨ n = 7 ∨ n = 8 by omega) with rfl | rfl | rfl | rfl | rfl | rfl | rfl | rfl | rfl <;> rfl
def dl (d n : Nat) : List Int := (List.range d).map fun i => 48 + ((n / 10 ^ (d - 1 - i) % 10 : Nat) : Int)
theorem dl_byt (d n : Nat) : byt (dl d n) := fun b hb => by
  obtain ⟨j, _, rfl⟩ := List.mem_map.1 hb
  omega
theorem dl_len (d n : Nat) : (dl d n).length = d := by simp [dl]
theorem dl_succ (d n : Nat) : dl (d + 1) n = dl d (n / 10) ++ [48 + ((n % 10 : Nat) : Int)] := by
  unfold dl
  rw [List.range_succ, List.map_append, List.map_cons, List.map_nil]
  congr 1
  · refine List.map_congr_left fun i hi => ?_
    have hi := List.mem_range.1 hi
    rw [show d + 1 - 1 - i = (d - 1 - i) + 1 by omega, Nat.pow_succ, Nat.mul_comm, ← Nat.div_div_eq_div_mul]
  · simp
theorem dec_dl (n : Nat) : dec n = u8 (dl (dec n).length n) := by
  induction n using Nat.strongRecOn with
  | _ n ih =>
    rw [dec]
    split
    · rename_i h
      have := ih (n / 10) (by omega)
      rw [List.length_append, List.length_singleton, dl_succ, u8, List.map_append, ← u8, ← this]
      rfl
    · rw [List.nil_append, List.length_singleton, dl_succ]
      rfl
def tl (d j n : Nat) : List Int := (List.range 24).map fun i => if d - j < i ∧ i ≤ d then 48 + ((n / 10 ^ (d - i) % 10 : Nat) : Int) else 0
theorem tl_len (d j n : Nat) : (tl d j n).length = 24 := by simp [tl]
theorem tl_0 (d n : Nat) : tl d 0 n = List.replicate 24 0 := by
  unfold tl
  rw [show (fun i : Nat => if d - 0 < i ∧ i ≤ d then (48 + ((n / 10 ^ (d - i) % 10 : Nat) : Int)) else 0) = fun _ => 0 from funext fun i => if_neg (by omega)]
  rfl
theorem tl_at {d j n i : Nat} (h : i < 24) : (tl d j n)[i]? = some (if d - j < i ∧ i ≤ d then 48 + ((n / 10 ^ (d - i) % 10 : Nat) : Int) else 0) := by
  unfold tl
  rw [List.getElem?_map, List.getElem?_range h]; rfl
theorem tl_set {d j n i : Nat} {v : Int} (hj : j + 1 ≤ d) (hd : d < 24) (hi : i = d - j) (hv : v = ((48 + n / 10 ^ j % 10 : Nat) : Int)) : (tl d j n).set i v = tl d (j + 1) n := by
  subst hi; subst hv
  refine List.ext_getElem? fun q => ?_
  rw [List.getElem?_set, tl_len]
  by_cases hq : q < 24
  · rw [tl_at hq, tl_at hq]
    by_cases h1 : d - j = q
    · subst h1
      rw [if_pos rfl, if_pos (by omega), if_pos (by omega), show d - (d - j) = j by omega]
      congr 1
    · rw [if_neg h1]
      congr 1
      by_cases h2 : d - j < q ∧ q ≤ d
      · rw [if_pos h2, if_pos (by omega)]
      · rw [if_neg h2, if_neg (by omega)]
  · rw [if_neg (by omega), List.getElem?_eq_none (by rw [tl_len]; omega), List.getElem?_eq_none (by rw [tl_len]; omega)]
theorem eB_map (l : List Int) : l.flatMap eB = l.map U8 := by
  induction l with
  | nil => rfl
  | cons x l ih => rw [List.flatMap_cons, ih]; rfl
theorem bytes_setO {l : List Int} {o k : Nat} {v : Int} : (l.flatMap eB).set (o + k * 1) (U8 v) = (l.set (o + k) v).flatMap eB := by
  rw [eB_map, eB_map, Nat.mul_one, List.map_set]
theorem bytes_tl {d j n k : Nat} {v : Int} (hj : j + 1 ≤ d) (hd : d < 24) (hi : 1 + k = d - j) (hv : v = ((48 + n / 10 ^ j % 10 : Nat) : Int)) : ((tl d j n).flatMap eB).set (1 + k * 1) (U8 v) = (tl d (j + 1) n).flatMap eB := by
  rw [bytes_setO, tl_set hj hd hi hv]
theorem dec_top {n d : Nat} (h : (dec n).length = d) : n < 10 ^ d := by
  rcases Nat.lt_or_ge n (10 ^ d) with h1 | h1
  · exact h1
  · exfalso
    obtain ⟨e, he, he2⟩ : ∃ e, 10 ^ e ≤ n ∧ n < 10 ^ (e + 1) ∧ d ≤ e := by
      have : ∀ k, n < 10 ^ (d + k) → ∃ e, 10 ^ e ≤ n ∧ n < 10 ^ (e + 1) ∧ d ≤ e := by
        intro k
        induction k with
        | zero => intro h2; simp at h2; omega
        | succ k ih =>
          intro h2
          by_cases h3 : n < 10 ^ (d + k)
          · exact ih h3
          · exact ⟨d + k, by omega, h2, by omega⟩
      refine this n (Nat.lt_of_lt_of_le (Nat.lt_pow_self (by decide : 1 < 10)) (Nat.pow_le_pow_right (by decide) (by omega)))
    have := dec_lenN e (.inr he) he2.1
    omega
theorem acc_wrap {a b c : Nat} (h : a + b = c) (hc : c ≤ 27) : IntKind.i64.wrap ((a : Int) + (b : Int)) = (c : Int) := by
  rw [← Int.natCast_add, h]; exact sm64 _ (by omega)
theorem nd_val {t n d : Nat} (h : t + (if 10 ^ t ≤ n then 1 else 0) = d) (hd : d ≤ 100) : IntKind.i64.wrap (((t : Nat) : Int) + (if decide (((10 ^ t : Nat) : Int) ≤ (n : Int)) = true then 1 else 0)) = (d : Int) := by
  by_cases hq : 10 ^ t ≤ n
  · rw [if_pos hq] at h
    rw [if_pos (decide_eq_true (Int.ofNat_le.2 hq)), show ((t : Nat) : Int) + 1 = ((t + 1 : Nat) : Int) from rfl, h]; exact sm64 _ (by omega)
  · rw [if_neg hq] at h
    rw [if_neg (fun h => hq (Int.ofNat_le.1 (of_decide_eq_true h))), show ((t : Nat) : Int) + 0 = ((t + 0 : Nat) : Int) from rfl, h]; exact sm64 _ (by omega)
theorem tl_slv {h : Hp} {b d n : Nat} {l : List Value} (hd : d < 24) (hl : l = (tl d d n).flatMap eB) (hm : (b, .cells ⟨l⟩ 131 (0, 0)) ∈ h) : SlV h 1 eB (some ⟨b, 1, none⟩) (dl d n) := by
  subst hl
  refine .inr ⟨b, 1, _, 131, (0, 0), rfl, hm, fun i q hq => ?_⟩
  have hi : i < d := by
    rcases Nat.lt_or_ge i d with h1 | h1
    · exact h1
    · rw [List.getElem?_eq_none (by rw [dl_len]; exact h1)] at hq; cases hq
  have h2 : (tl d d n)[1 + i]? = some q := by
    rw [tl_at (by omega), if_pos (by omega)]
    unfold dl at hq
    rw [List.getElem?_map, List.getElem?_range hi] at hq
    rw [← hq, show d - (1 + i) = d - 1 - i by omega]; rfl
  have := flat_at eB_len [] (tl d d n) (1 + i) h2
  rw [List.append_nil] at this
  rw [Nat.mul_one] at this ⊢
  simpa using this
end Go.Proofs.YtlpkiolopelpfaaDoor
