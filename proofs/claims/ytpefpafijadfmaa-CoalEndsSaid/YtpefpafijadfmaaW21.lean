/-
  A yard that was played: the blocks of its layers, the parts of its draws.
-/
import Derived.Test.YtpefpafijadfmaaP12
import Derived.Test.YtpefpafijadfmaaW10
import Derived.Test.YtpefpafijadfmaaHT
set_option linter.all false
namespace Go.Proofs.Ytpefpafijadfmaa
open Go Go.H
structure PH where
  a : Option Addr
  m : List Part
  c : Nat
def ePH (z : PH) : List Value := [.slice z.a z.m.length z.c]
theorem ePH_len (z : PH) : (ePH z).length = 1 := rfl
def eLp (b : Nat) : List Value := [.pointer (some ⟨b, 0, none⟩)]
theorem eLp_len (b : Nat) : (eLp b).length = 1 := rfl
/-! ### The blocks of the layers, the newest one first -/
def layHp (bs : List Nat) (f : Nat → List Value) : Hp := (bs.zipIdx.map fun z => (z.1, Obj.cells ⟨f z.2⟩ 107 (0, 0))).reverse
theorem layHp_snoc (bs : List Nat) (b : Nat) (f : Nat → List Value) : layHp (bs ++ [b]) f = (b, .cells ⟨f bs.length⟩ 107 (0, 0)) :: layHp bs f := by
  simp [layHp, List.zipIdx_append]
theorem layHp_congr {bs : List Nat} {f g : Nat → List Value} (h : ∀ i, i < bs.length → f i = g i) : layHp bs f = layHp bs g := by
  induction bs using snoc_ind with
  | h0 => rfl
  | h1 bs b ih =>
    rw [List.length_append, List.length_singleton] at h
    rw [layHp_snoc, layHp_snoc, h bs.length (by omega), ih fun i hi => h i (by omega)]
theorem layHp_upd {bs : List Nat} {f g : Nat → List Value} {i b : Nat} (hb : bs[i]? = some b) (h : ∀ j, j < bs.length → j ≠ i → g j = f j) : Upd (layHp bs f) b (.cells ⟨f i⟩ 107 (0, 0)) (.cells ⟨g i⟩ 107 (0, 0)) (layHp bs g) := by
  induction bs using snoc_ind with
  | h0 => simp at hb
  | h1 bs c ih =>
    rw [List.length_append, List.length_singleton] at h
    rw [layHp_snoc, layHp_snoc]
    by_cases hi : i < bs.length
    · rw [List.getElem?_append_left hi] at hb
      rw [h bs.length (by omega) (by omega)]
      exact .there (ih hb fun j hj hne => h j (by omega) hne)
    · have hlt := (List.getElem?_eq_some_iff.1 hb).1
      rw [List.length_append, List.length_singleton] at hlt
      obtain rfl : i = bs.length := by omega
      rw [List.getElem?_append_right (by omega), Nat.sub_self] at hb
      cases hb
      rw [layHp_congr (f := g) (g := f) fun j hj => h j (by omega) (by omega)]
      exact .here
theorem layHp_mem {bs : List Nat} {f : Nat → List Value} {i b : Nat} (hb : bs[i]? = some b) : (b, .cells ⟨f i⟩ 107 (0, 0)) ∈ layHp bs f := (layHp_upd (g := f) hb fun _ _ _ => rfl).mem
/-! ### What lies in a layer's block -/
def layF (ms : List Move) (k : Nat) (lf : Nat → Int) (i : Nat) : List Value := (contF 6 (ms.take k) (i : Int)).flatMap eI ++ [I (lf i)]
section
variable {ms : List Move} {k o off : Nat} {lf lf' : Nat → Int} {v x : Int}
theorem layF_len : (layF ms k lf o).length = 7 := by unfold layF; rw [List.length_append, ints_len, contF_len]; rfl
theorem layF_get {c : Nat} (h : (contF 6 (ms.take k) (o : Int))[c]? = some v) (ho : off = c) : (layF ms k lf o)[off]? = some (I v) := by
  subst ho
  have hlt := (List.getElem?_eq_some_iff.1 h).1
  unfold layF
  rw [List.getElem?_append_left (by rw [ints_len]; exact hlt)]
  have := ints_get h
  simpa using this
theorem layF_left (ho : off = 6) : (layF ms k lf o)[off]? = some (I (lf o)) := by
  subst ho
  unfold layF
  rw [List.getElem?_append_right (by rw [ints_len, contF_len]; exact Nat.le_refl _), ints_len, contF_len]; rfl
theorem layF_set2 (ho : off = 6) (h : lf' o = x) : (layF ms k lf o).set off (I x) = layF ms k lf' o := by
  subst ho h
  unfold layF
  rw [List.set_append_right _ _ (by rw [ints_len, contF_len]; exact Nat.le_refl _), ints_len, contF_len]; rfl
theorem layF_set1 {m : Move} {c : Nat} (hk : ms[k]? = some m) (hc : m.coal ≠ -1) (hl : ((opn (ms.take (k + 1))).1 : Int) - 1 = (o : Int)) (hcc : m.coal.toNat = c) (hv : (contF 6 (ms.take k) (o : Int))[c]? = some v) (ho : off = c) : (layF ms k lf o).set off (I (v + m.tons)) = layF ms (k + 1) lf o := by
  subst ho hcc
  have hlt := (List.getElem?_eq_some_iff.1 hv).1
  unfold layF
  rw [contF_take hk, if_pos ⟨hc, hl⟩, List.set_append_left _ _ (by rw [ints_len]; exact hlt)]
  have := ints_setN (v := v + m.tons) hlt
  simp only [Nat.zero_add, Nat.mul_one] at this
  rw [this]
  congr 4
  rw [List.getD_eq_getElem?_getD, hv]; rfl
theorem layF_other {m : Move} {i : Nat} (hk : ms[k]? = some m) (hl : ((opn (ms.take (k + 1))).1 : Int) - 1 = (o : Int)) (hi : i ≠ o) : layF ms (k + 1) lf i = layF ms k lf i := by
  unfold layF
  rw [contF_take hk, if_neg (fun hq => hi (by have := hq.2; omega))]
theorem layF_drawn {m : Move} {i : Nat} (hk : ms[k]? = some m) (hc : m.coal = -1) (h : lf i = lf' i) : layF ms k lf i = layF ms (k + 1) lf' i := by
  unfold layF
  rw [contF_take hk, if_neg (fun hq => hq.1 hc), h]
end
theorem movesOk_le {n q : Nat} (h : n ≤ q) : ∀ {l : List Move} {last : Int}, movesOk n last l → movesOk q last l
  | [], _, _ => trivial
  | m :: l, _, ⟨⟨a, ⟨b, c⟩, d⟩, e⟩ => ⟨⟨a, ⟨b, by omega⟩, d⟩, movesOk_le h e⟩
theorem opn_pos (l : List Move) (h : 0 ≤ (opn l).2) : 1 ≤ (opn l).1 := by
  induction l using snoc_ind with
  | h0 => exact absurd h (by decide)
  | h1 l m ih =>
    rw [opn_snoc] at h ⊢
    unfold stepO at h ⊢
    split at h
    · dsimp only at h; omega
    · rename_i h1
      rw [if_neg h1]
      split at h
      · rename_i h2; rw [if_pos h2]; exact ih h
      · rename_i h2; rw [if_neg h2]; dsimp only; omega
theorem opn_takes (l : List Move) : ∀ d k : Nat, (opn (l.take k)).1 ≤ (opn (l.take (k + d))).1
  | 0, k => Nat.le_refl _
  | d + 1, k => by
    refine Nat.le_trans (opn_takes l d k) ?_
    rw [← Nat.add_assoc]
    cases h : l[k + d]? with
    | none => rw [List.take_add_one, h]; simp
    | some m => rw [List.take_add_one, h]; exact opn_mono _ m
theorem opn_all (l : List Move) (k : Nat) : (opn (l.take k)).1 ≤ (opn l).1 := by
  by_cases h : k ≤ l.length
  · have := opn_takes l (l.length - k) k
    rwa [show k + (l.length - k) = l.length by omega, List.take_length] at this
  · rw [List.take_of_length_le (by omega)]; exact Nat.le_refl _
/-! ### What is left of a layer -/
theorem getD_none {v : List Int} {j : Nat} (h : v.length ≤ j) : v.getD j 0 = 0 := by rw [List.getD_eq_getElem?_getD, List.getElem?_eq_none h]; rfl
theorem taken_zero {prev : List (List Int)} {j L : Nat} (h : ∀ v ∈ prev, v.length = L) (hj : L ≤ j) : takenR prev j = 0 := by
  unfold takenR
  have : ∀ x ∈ prev.map (·.getD j 0), x = 0 := fun x hx => by
    obtain ⟨v, hv, rfl⟩ := List.mem_map.1 hx
    exact getD_none (by rw [h v hv]; exact hj)
  rw [List.eq_replicate_iff.2 ⟨rfl, this⟩]
  exact sumI_rep _
theorem room_zero {n k : Nat} {ms : List Move} {prev : List (List Int)} (H : PInv n ms (opn ms).1 k prev) {j : Nat} (hj : (opn (ms.take k)).1 ≤ j) : roomR n ms k prev j = 0 := by
  have hz : sumI (contF n (ms.take k) (j : Int)) = 0 := by rw [contF_zero _ (by omega)]; exact sumI_rep _
  have ht := taken_bd H.bd j
  by_cases hl : j < (opn ms).1
  · have := H.room j hl
    unfold roomR at *; omega
  · unfold roomR
    rw [hz, taken_zero H.len (by omega)]; rfl
theorem room_nn {n k : Nat} {ms : List Move} {prev : List (List Int)} (H : PInv n ms (opn ms).1 k prev) (j : Nat) : 0 ≤ roomR n ms k prev j := by
  by_cases hl : j < (opn ms).1
  · exact H.room j hl
  · rw [room_zero H (by have := opn_all ms k; omega)]; exact Int.le_refl _
theorem room_le {n k : Nat} {ms : List Move} {prev : List (List Int)} (hm : movesOk n 0 ms) (H : PInv n ms (opn ms).1 k prev) (j : Nat) : roomR n ms k prev j ≤ (n : Int) * (1048576 * (k : Int)) := by
  have h1 := sumI_bd (contF_bd (j := (j : Int)) (movesOk_mono k hm))
  have ht := taken_bd H.bd j
  rw [contF_len, List.length_take] at h1
  have h2 : (n : Int) * (1048576 * ((min k ms.length : Nat) : Int)) ≤ (n : Int) * (1048576 * (k : Int)) := Int.mul_le_mul_of_nonneg_left (by omega) (by omega)
  unfold roomR; omega
/-- A coal arrives in the last layer. -/
theorem room_in {n k : Nat} {ms : List Move} {prev : List (List Int)} {m : Move} {o : Nat} (hm : movesOk n 0 ms) (hk : ms[k]? = some m) (hc : m.coal ≠ -1) (hl : ((opn (ms.take (k + 1))).1 : Int) - 1 = (o : Int)) :
    roomR n ms (k + 1) prev o = roomR n ms k prev o + m.tons ∧ ∀ i, i ≠ o → roomR n ms (k + 1) prev i = roomR n ms k prev i := by
  obtain ⟨_, ⟨c1, c2⟩, t1, t2⟩ := movesOk_at hm hk
  unfold roomR
  refine ⟨?_, fun i hi => by rw [contF_take hk, if_neg (fun hq => hi (by have := hq.2; omega))]⟩
  have hlen := contF_len n (ms.take k) (o : Int)
  obtain ⟨v, hv⟩ : ∃ v, (contF n (ms.take k) (o : Int))[m.coal.toNat]? = some v := ⟨_, List.getElem?_eq_getElem (by omega)⟩
  rw [contF_take hk, if_pos ⟨hc, hl⟩]
  have hg : (contF n (ms.take k) (o : Int)).getD m.coal.toNat 0 = v := by rw [List.getD_eq_getElem?_getD, hv]; rfl
  rw [hg, sumI_set hv]; omega
/-! ### A draw -/
def vF (room : Nat → Int) (t : Int) (j : Nat) : Int := min (room j) (vecR room j t).2
def lfJ (room : Nat → Int) (t : Int) (j i : Nat) : Int := if i < j then room i - vF room t i else room i
theorem vecR_2 (room : Nat → Int) (t : Int) (j : Nat) : (vecR room (j + 1) t).2 = (vecR room j t).2 - vF room t j := rfl
theorem vecR_get {room : Nat → Int} {t : Int} : ∀ {L j : Nat}, j < L → (vecR room L t).1.getD j 0 = vF room t j
  | L + 1, j, h => by
    have hl := vecR_len room t L
    rw [vecR, List.getD_eq_getElem?_getD]
    by_cases hq : j < L
    · rw [List.getElem?_append_left (by omega), ← List.getD_eq_getElem?_getD]; exact vecR_get hq
    · obtain rfl : j = L := by omega
      rw [List.getElem?_append_right (by omega), hl, Nat.sub_self]; rfl
theorem draw_done {room : Nat → Int} {t : Int} {c L : Nat} (hc : c ≤ L) (hz : ∀ j, c ≤ j → room j = 0) (h0 : 0 ≤ (vecR room c t).2) :
    (vecR room L t).2 = (vecR room c t).2 ∧ nzF (fun i => (vecR room L t).1.getD i 0) L = nzF (vF room t) c := by
  obtain ⟨d, rfl⟩ : ∃ d, L = c + d := ⟨L - c, by omega⟩
  have hm := vecR_more hz h0 d
  refine ⟨by rw [hm], ?_⟩
  have e1 : nzF (fun i => (vecR room (c + d) t).1.getD i 0) (c + d) = nzF (vF room t) (c + d) := nzF_congr fun j hj => vecR_get hj
  rw [e1]
  refine nzF_more (fun j hj => ?_) d
  unfold vF
  rw [hz j hj]; omega
theorem lfJ_0 (room : Nat → Int) (t : Int) : lfJ room t 0 = room := funext fun i => if_neg (Nat.not_lt_zero _)
theorem lfJ_at (room : Nat → Int) (t : Int) (j : Nat) : lfJ room t j j = room j := if_neg (Nat.lt_irrefl _)
theorem lfJ_next (room : Nat → Int) (t : Int) (j : Nat) : lfJ room t (j + 1) j = room j - vF room t j := if_pos (Nat.lt_succ_self _)
theorem lfJ_other {room : Nat → Int} {t : Int} {j i : Nat} (h : i ≠ j) : lfJ room t (j + 1) i = lfJ room t j i := by
  unfold lfJ
  by_cases hq : i < j
  · rw [if_pos hq, if_pos (by omega)]
  · rw [if_neg hq, if_neg (by omega)]
theorem lfJ_same {room : Nat → Int} {t : Int} {j : Nat} (h : vF room t j = 0) : lfJ room t (j + 1) = lfJ room t j := funext fun i => by
  by_cases hi : i = j
  · subst hi; rw [lfJ_next, lfJ_at, h]; omega
  · exact lfJ_other hi
theorem lfJ_end {n k : Nat} {ms : List Move} {prev : List (List Int)} {m : Move} {i c : Nat} (hm : movesOk n 0 ms) (hk : ms[k]? = some m) (hc : m.coal = -1) (hi : i < c) (hL : c ≤ (opn ms).1) :
    lfJ (roomR n ms k prev) m.tons c i = roomR n ms (k + 1) (prev ++ [(vecR (roomR n ms k prev) (opn ms).1 m.tons).1]) i := by
  unfold lfJ
  rw [if_pos hi]
  have h1 := (cont_sum_mono hm hk (i : Int)).2 hc
  have h2 : (vecR (roomR n ms k prev) (opn ms).1 m.tons).1.getD i 0 = vF (roomR n ms k prev) m.tons i := vecR_get (by omega)
  generalize (vecR (roomR n ms k prev) (opn ms).1 m.tons).1 = v at h2 ⊢
  generalize vF (roomR n ms k prev) m.tons i = q at h2 ⊢
  unfold roomR
  rw [h1, taken_snoc, h2]; omega
theorem nzF_eq (f : Nat → Int) (j : Nat) (h : ¬ f j > 0) : nzF f (j + 1) = nzF f j := by rw [nzF_succ, if_neg h]
theorem nzF_app {f : Nat → Int} {j : Nat} (h : f j > 0) : (nzF f (j + 1)).flatMap ePart = (nzF f j).flatMap ePart ++ [I (j : Int), I (f j)] := by rw [nzF_succ, if_pos h]; simp [ePart]
theorem nzF_lenS {f : Nat → Int} {j : Nat} (h : f j > 0) : (nzF f (j + 1)).length = (nzF f j).length + 1 := by rw [nzF_succ, if_pos h]; simp
/-! ### Where the blocks lie -/
theorem Tk.app {a h r : Hp} (f : Hp) (H : Tk a h r) : Tk a (h ++ f) (r ++ f) := by
  induction H with
  | here => rw [List.append_assoc]; exact .here
  | there _ ih => exact .there ih
  | skip _ ih => rw [List.append_assoc, List.append_assoc]; exact .skip ih
theorem permR {a b c : Hp} : List.Perm ((a ++ b) ++ c) (a ++ (b ++ c)) := by rw [List.append_assoc]
theorem permA {V W L G : Hp} {x y z m : Nat × Obj} : List.Perm ((V ++ (x :: y :: z :: (W ++ (L ++ G)))) ++ [m]) (x :: m :: z :: (V ++ (W ++ ((y :: L) ++ G)))) := by
  classical
  refine List.perm_iff_count.2 fun a => ?_
  simp only [List.count_append, List.count_cons, List.count_nil]; omega
theorem permB {U V W L P G : Hp} {x y z : Nat × Obj} : List.Perm (W ++ (x :: (U ++ (y :: z :: (V ++ (L ++ (P ++ G))))))) (x :: y :: z :: (V ++ (W ++ (L ++ ((U ++ P) ++ G))))) := by
  classical
  refine List.perm_iff_count.2 fun a => ?_
  simp only [List.count_append, List.count_cons, List.count_nil]; omega
/-! ### The yard that was played -/
theorem vec_cap {V : Vec} {sz n : Nat} {xs : List Value} (h : V.ok sz n xs) : n ≤ V.cp := by
  cases V with
  | nil => obtain ⟨_, h⟩ := h; rw [h]; exact Nat.zero_le _
  | «at» b c sp => exact h.2.1
structure ShedV (h : Hp) (y : Yard) (vs : List (List Int)) (b : Nat) (la : Option Addr) (lc : Nat) (bs : List Nat) (da : Option Addr) (dc : Nat) (ds : List PH) : Prop where
  top : (b, .cells ⟨[.slice y.ca y.coals.length y.cc, .slice la bs.length lc, .slice da ds.length dc]⟩ 73 (0, 0)) ∈ h
  lays : SlV h 1 eLp la bs
  lay : ∀ (i c : Nat), bs[i]? = some c → (c, .cells ⟨layF y.moves y.moves.length (roomR y.coals.length y.moves y.moves.length vs) i⟩ 107 (0, 0)) ∈ h
  len : bs.length = (opn y.moves).1
  draws : SlV h 1 ePH da ds
  cap : ds.length ≤ dc
  parts : ∀ z ∈ ds, SlV h 2 ePart z.a z.m
  are : ds.map PH.m = vs.map fun v => nzF (fun i => v.getD i 0) (opn y.moves).1
  inv : PInv y.coals.length y.moves (opn y.moves).1 y.moves.length vs
theorem ShedV.sub {h g : Hp} {y : Yard} {vs : List (List Int)} {b : Nat} {la : Option Addr} {lc : Nat} {bs : List Nat} {da : Option Addr} {dc : Nat} {ds : List PH} (H : ShedV h y vs b la lc bs da dc ds) (hs : h ⊆ g) : ShedV g y vs b la lc bs da dc ds :=
  ⟨hs H.top, H.lays.sub hs, fun i c hc => hs (H.lay i c hc), H.len, H.draws.sub hs, H.cap, fun z hz => (H.parts z hz).sub hs, H.are, H.inv⟩
end Go.Proofs.Ytpefpafijadfmaa

/-
  Walks.
-/
namespace Go.Proofs.Ytpefpafijadfmaa
open Go Go.H
set_option maxRecDepth 100000
set_option maxHeartbeats 8000000
set_option linter.all false
theorem newShed_c {y : Yard} {h : Hp} {R : Ending → Hp → Prop} (hy : YardV h y) (hs : Small y) (H1 : ¬ GoodYard y → R (.returned (.tuple ⟨[.pointer none, I 1]⟩)) h) (H2 : GoodYard y → vecsR y = none → R (.returned (.tuple ⟨[.pointer none, I 10]⟩)) h)
    (H3 : ∀ (vs : List (List Int)) (b : Nat) (la : Option Addr) (lc : Nat) (bs : List Nat) (da : Option Addr) (dc : Nat) (ds : List PH) (G : Hp), GoodYard y → vecsR y = some vs → ShedV G y vs b la lc bs da dc ds → R (.returned (.tuple ⟨[.pointer (some ⟨b, 0, none⟩), I 0]⟩)) (G ++ h)) :
    ACalls Try.prog 30 ⟨[.agg ⟨eYard y⟩]⟩ h R := by
  refine calls_of_xc (N := 135) Try.func30 rfl (by rfl) ?_
  obtain ⟨hs1, hs2⟩ := id hs
  refine xc_seq (xc_region ?_)
  refine xr_op rfl rfl (xv_box rfl (fun b1 hb1 => ?_))
  refine xr_op rfl rfl (xv_assign rfl ?_)
  refine xr_op rfl rfl (xv_assign rfl ?_)
  refine xr_end rfl ?_
  refine th_n ?_
  refine xc_scope ?_
  refine xc_seq ?_
  refine xc_seq (xc_region ?_)
  refine xr_op rfl rfl (xv_loadA ty25 rfl rfl (by ((repeat first|exact z_0|assumption|refine z_1 ?_|(refine z_l ?_;(repeat first|exact z_0|assumption|refine z_1 ?_);done)|refine z_r ?_);done)) (by ((try apply evl_some rfl);(repeat (first|exact (rfl : _ = [])|apply evl_cons rfl (by (first|exact v_1|exact v_2|exact v_3|exact v_4|exact v_5|exact v_6|exact v_7|exact v_8|exact v_9|exact rfl))|exact rfl)))) (by rfl) ?_)
  refine xr_op rfl rfl (xv_calls rfl hb52 (isYard_c (hy.sub (by intro z hz; ((repeat first|exact z_0|assumption|refine z_1 ?_|(refine z_l ?_;(repeat first|exact z_0|assumption|refine z_1 ?_);done)|refine z_r ?_);done))) hs (fun hgy => up_ret ?_) (fun hgy => up_ret ?_)))
  · refine xr_op rfl rfl (xv_not rfl ?_)
    refine xr_end rfl ?_
    refine th_n ?_
    refine xc_false rfl ?_
    refine xc_skip ?_
    refine th_n ?_
    refine xc_seq (xc_region ?_)
    refine xr_op rfl rfl (xv_faddr fl25_0 rfl ?_)
    refine xr_op rfl rfl (xv_load1 ty22 rfl rfl (by ((repeat first|exact z_0|assumption|refine z_1 ?_|(refine z_l ?_;(repeat first|exact z_0|assumption|refine z_1 ?_);done)|refine z_r ?_);done)) (by rfl) ?_)
    refine xr_op rfl rfl (xv_build bt73 rfl (by ((try apply evl_some rfl);(repeat (first|exact (rfl : _ = [])|apply evl_cons rfl (by (first|exact v_1|exact v_2|exact v_3|exact v_4|exact v_5|exact v_6|exact v_7|exact v_8|exact v_9|exact rfl))|exact rfl)))) ?_)
    refine xr_op rfl rfl (xv_box rfl (fun b19 hb19 => ?_))
    refine xr_op rfl rfl (xv_assign rfl ?_)
    refine xr_end rfl ?_
    refine th_n ?_
    refine xc_seq (xc_region ?_)
    refine xr_op rfl rfl (xv_assign rfl ?_)
    refine xr_end rfl ?_
    refine th_n ?_
    refine xc_seq ?_
    refine xc_label ?_
    refine th_n ?_
    refine xc_seq ?_
    refine xc_seq (xc_region ?_)
    refine xr_op rfl rfl (xv_faddr fl25_1 rfl ?_)
    refine xr_op rfl rfl (xv_load1 ty23 rfl rfl (by ((repeat first|exact z_0|assumption|refine z_1 ?_|(refine z_l ?_;(repeat first|exact z_0|assumption|refine z_1 ?_);done)|refine z_r ?_);done)) (by rfl) ?_)
    refine xr_op rfl rfl (xv_len sl23 rfl ?_)
    refine xr_op rfl rfl (xv_move rfl ?_)
    refine xr_end rfl ?_
    refine th_n ?_
    refine xc_block ?_
    obtain ⟨hg1, hmv, ⟨hn1, hn6⟩, hl32⟩ := id hgy
    refine xc_loop (σ := Nat × List (List Int) × List Nat × Vec × List PH × Vec × Hp) (fun z => z.1 ≤ y.moves.length ∧ PInv y.coals.length y.moves (opn y.moves).1 z.1 z.2.1 ∧ z.2.2.1.length = (opn (y.moves.take z.1)).1 ∧ z.2.2.2.1.ok 1 z.2.2.1.length (z.2.2.1.flatMap eLp) ∧ z.2.2.2.2.2.1.ok 1 z.2.2.2.2.1.length (z.2.2.2.2.1.flatMap ePH) ∧ (z.2.2.2.2.1.map PH.m = z.2.1.map fun v => nzF (fun i => v.getD i 0) (opn y.moves).1) ∧ ∀ w ∈ z.2.2.2.2.1, SlV z.2.2.2.2.2.2 2 ePart w.a w.m) (fun z => ((((((emp.put (some 1) (.pointer (some ⟨b1, 0, none⟩))).put (some 4) (.pointer (some ⟨b19, 0, none⟩))).put (some 5) (I (opn (y.moves.take z.1)).2)).put (some 21) (.slice y.ma y.moves.length y.mc)).put (some 22) (I y.moves.length)).put (some 23) (I z.1))) (fun z => ((b19, .cells ⟨[.slice y.ca y.coals.length y.cc, .slice z.2.2.2.1.ad z.2.2.1.length z.2.2.2.1.cp, .slice z.2.2.2.2.2.1.ad z.2.2.2.2.1.length z.2.2.2.2.2.1.cp]⟩ 73) :: (z.2.2.2.1.hp 105 (z.2.2.1.flatMap eLp) ++ (z.2.2.2.2.2.1.hp 39 (z.2.2.2.2.1.flatMap ePH) ++ (layHp z.2.2.1 (layF y.moves z.1 (roomR y.coals.length y.moves z.1 z.2.1)) ++ (z.2.2.2.2.2.2 ++ (b1, .cells ⟨eYard y⟩ 25) :: h)))))) (fun z => y.moves.length - z.1) ((0, [], [], .nil, [], .nil, []) : Nat × List (List Int) × List Nat × Vec × List PH × Vec × Hp) ⟨Nat.zero_le _, pinv_0, rfl, ⟨rfl, rfl⟩, ⟨rfl, rfl⟩, rfl, fun w hw => (List.not_mem_nil hw).elim⟩ (le_put (le_put (le_put (le_put (le_put (le_put (le_emp _) rfl) rfl) rfl) rfl) rfl) rfl) (by (first|((repeat first|exact s_0|exact s_1|exact s_3|refine s_4 ?_|refine s_5 ?_|refine s_6 ?_|refine s_7 ?_);done)|((repeat first|exact s_0|exact s_1|exact s_3|refine s_4 ?_|refine s_5 ?_|refine s_6 ?_|refine s_8 ?_);done))) ?_
    rintro ⟨k, prev, bs, V, ds, W, P⟩ ⟨hk, hP, hbl, hV, hW, hD, hS⟩
    dsimp only at hk hP hbl hV hW hD hS
    refine xc_seq (xc_region ?_)
    refine xr_op rfl rfl (xv_lss2 rfl rfl (fun q1 => ?_) (fun q1 => ?_))
    · refine xr_end rfl ?_
      refine th_n ?_
      refine xc_seq ?_
      refine xc_true rfl ?_
      refine xc_skip ?_
      refine th_n ?_
      refine xc_seq ?_
      refine xc_block ?_
      refine xc_seq (xc_region ?_)
      have hlto : k < y.moves.length := by (first | omega | (dsimp only at *; omega) | (simp at *; omega))
      obtain ⟨bo, oo, lo, to, fzo, hao, hmo, hxo⟩ := (hy.moves).at hlto
      obtain ⟨xo, hko⟩ : ∃ qq_, y.moves[k]? = some qq_ := ⟨_, List.getElem?_eq_getElem hlto⟩
      obtain ⟨⟨mh1, mh2⟩, ⟨mc1, mc2⟩, mt1, mt2⟩ := movesOk_at hmv hko
      have hob := opn_all y.moves k
      have hob2 := opn_all y.moves (k + 1)
      have hobm := opn_le y.moves
      have hz := fun j hj => room_zero hP (j := j) hj
      have hnn := fun j => room_nn hP j
      have hle := fun j => room_le hmv hP j
      have hbig : (y.coals.length : Int) * (1048576 * (k : Int)) ≤ 6 * (1048576 * 32) := Int.mul_le_mul (by omega) (by omega) (by omega) (by omega)
      have hol := opn_le (y.moves.take k)
      rw [List.length_take] at hol
      have hdl : ds.length = prev.length := by rw [← List.length_map (f := PH.m), hD, List.length_map]
      have hfw := hP.few
      refine xr_op rfl rfl (xv_ia (sz := 3) (j := k) sl23 ty63 rfl (by rw [hao]; rfl) rfl (by (first | assumption | with_reducible exact Int.toNat_natCast _ | with_reducible rfl | rfl)) (by (first | omega | (dsimp only at *; omega) | (simp at *; omega))) (by (first | omega | (dsimp only at *; omega) | (simp at *; omega))) ?_)
      refine xr_op rfl rfl (xv_loadA ty63 rfl rfl (by ((repeat first|exact z_0|assumption|refine z_1 ?_|(refine z_l ?_;(repeat first|exact z_0|assumption|refine z_1 ?_);done)|refine z_r ?_);done)) (hxo (k) xo hko) rfl ?_)
      refine xr_op rfl rfl (xv_alloc ty63 (fun b7 hb7 => ?_))
      refine xr_op rfl rfl (xv_s ty63 rfl rfl (by (first|(apply u_3;(repeat first|exact u_0|assumption|apply u_1|apply u_2);done)|((repeat first|exact u_0|assumption|apply u_1|apply u_2);done)|(apply u_3;apply u_3;(repeat first|exact u_0|assumption|apply u_1|apply u_2);done)|((repeat first|exact u_0|assumption|apply u_3|apply u_1);done))) (by ((try apply evl_some rfl);(repeat (first|exact (rfl : _ = [])|apply evl_cons rfl (by (first|exact v_1|exact v_2|exact v_3|exact v_4|exact v_5|exact v_6|exact v_7|exact v_8|exact v_9|exact rfl))|exact rfl)))) (by rfl) (by rfl) (by rfl) (by ((try apply evl_some rfl);(repeat (first|exact (rfl : _ = [])|apply evl_cons rfl (by (first|exact v_1|exact v_2|exact v_3|exact v_4|exact v_5|exact v_6|exact v_7|exact v_8|exact v_9|exact rfl))|exact rfl)))) ?_)
      refine xr_end rfl ?_
      refine th_n ?_
      refine xc_seq ?_
      refine xc_seq (xc_region ?_)
      refine xr_op rfl rfl (xv_faddr fl63_1 rfl ?_)
      refine xr_op rfl rfl (xv_load1 ty3 rfl rfl (by ((repeat first|exact z_0|assumption|refine z_1 ?_|(refine z_l ?_;(repeat first|exact z_0|assumption|refine z_1 ?_);done)|refine z_r ?_);done)) (by rfl) ?_)
      refine xr_op rfl rfl (xv_neq2 rfl rfl (fun q2 => ?_) (fun q2 => ?_))
      · refine xr_end rfl ?_
        refine th_n ?_
        refine xc_true rfl ?_
        have hh0 := lastH_0le (movesOk_mono k hmv) (Nat.le_refl k)
        refine xc_join (σ := List Nat × Vec) (fun g => g.1.length = (opn (y.moves.take (k + 1))).1 ∧ g.2.ok 1 g.1.length (g.1.flatMap eLp)) (fun g => (((((((emp.put (some 1) (.pointer (some ⟨b1, 0, none⟩))).put (some 4) (.pointer (some ⟨b19, 0, none⟩))).put (some 5) (I (opn (y.moves.take (k + 1))).2)).put (some 7) (.pointer (some ⟨b7, 0, none⟩))).put (some 21) (.slice y.ma y.moves.length y.mc)).put (some 22) (I y.moves.length)).put (some 23) (I k))) (fun g => ((b7, .cells ⟨[I xo.hour, I xo.coal, I xo.tons]⟩ 63) :: (b19, .cells ⟨[.slice y.ca y.coals.length y.cc, .slice g.2.ad g.1.length g.2.cp, .slice W.ad ds.length W.cp]⟩ 73) :: (g.2.hp 105 (g.1.flatMap eLp) ++ (W.hp 39 (ds.flatMap ePH) ++ (layHp g.1 (layF y.moves k (roomR y.coals.length y.moves k prev)) ++ (P ++ (b1, .cells ⟨eYard y⟩ 25) :: h)))))) ?_ ?_
        · refine xc_seq (xc_region ?_)
          refine xr_op rfl rfl (xv_move rfl ?_)
          refine xr_op rfl rfl (xv_faddr fl63_0 rfl ?_)
          refine xr_op rfl rfl (xv_load1 ty3 rfl rfl (by ((repeat first|exact z_0|assumption|refine z_1 ?_|(refine z_l ?_;(repeat first|exact z_0|assumption|refine z_1 ?_);done)|refine z_r ?_);done)) (by rfl) ?_)
          refine xr_op rfl rfl (xv_neq2 rfl rfl (fun q3 => ?_) (fun q3 => ?_))
          · refine xr_end rfl ?_
            refine th_n ?_
            refine xc_true rfl ?_
            refine xc_draw [(0, .S), (1, .S), (2, .S), (3, .S), (4, .R), (5, .S), (9, .S), (10, .S), (6, .P), (6, .A), (7, .P), (7, .A), (8, .O), (11, .S), (12, .S), (13, .O), (14, .S)] [(b7, .cells ⟨[I xo.hour, I xo.coal, I xo.tons]⟩ 63)] ((b19, .cells ⟨[.slice y.ca y.coals.length y.cc, .slice V.ad bs.length V.cp, .slice W.ad ds.length W.cp]⟩ 73) :: (V.hp 105 (bs.flatMap eLp) ++ (W.hp 39 (ds.flatMap ePH) ++ (layHp bs (layF y.moves k (roomR y.coals.length y.moves k prev)) ++ (P ++ (b1, .cells ⟨eYard y⟩ 25) :: h))))) mixed (by kernel_rfl) (List.perm_append_singleton _ _) ?_
            refine js_S rfl rfl (.inl rfl) (xv_move rfl ⟨rfl, rfl⟩) ?_
            refine js_S rfl rfl (.inl rfl) (xv_move rfl ⟨rfl, rfl⟩) ?_
            refine js_S rfl rfl (.inl rfl) (xv_nilp rfl ⟨rfl, rfl⟩) ?_
            refine js_S rfl rfl (.inl rfl) (xv_faddr fl73_1 rfl ⟨rfl, rfl⟩) ?_
            refine js_R rfl rfl (.inl rfl) (xv_load1 ty70 rfl rfl (by ((repeat first|exact z_0|assumption|refine z_1 ?_|(refine z_l ?_;(repeat first|exact z_0|assumption|refine z_1 ?_);done)|refine z_r ?_);done)) (by rfl) ⟨rfl, rfl⟩) ?_
            refine js_S rfl rfl (.inl rfl) (xv_build bt107 rfl (by ((try apply evl_some rfl);(repeat (first|exact (rfl : _ = [])|apply evl_cons rfl (by (first|exact v_1|exact v_2|exact v_3|exact v_4|exact v_5|exact v_6|exact v_7|exact v_8|exact v_9|exact rfl))|exact rfl)))) ⟨rfl, rfl⟩) ?_
            refine js_S rfl rfl (.inl rfl) (xv_faddr fl63_0 rfl ⟨rfl, rfl⟩) ?_
            refine js_S rfl rfl (.inl rfl) (xv_load1 ty3 rfl rfl (by ((repeat first|exact z_0|assumption|refine z_1 ?_|(refine z_l ?_;(repeat first|exact z_0|assumption|refine z_1 ?_);done)|refine z_r ?_);done)) (by rfl) ⟨rfl, rfl⟩) ?_
            refine js_P rfl rfl rfl (al_box rfl) ?_
            refine js_A rfl rfl rfl rfl rfl ⟨rfl, trivial⟩ (fun b40 hb40 => ?_)
            refine js_P rfl rfl rfl (al_buildSlice sl70 ty105 rfl rfl rfl rfl rfl (by ((try apply evl_some rfl);(repeat (first|exact (rfl : _ = [])|apply evl_cons rfl (by (first|exact v_1|exact v_2|exact v_3|exact v_4|exact v_5|exact v_6|exact v_7|exact v_8|exact v_9|exact rfl))|exact rfl))))) ?_
            refine js_A rfl rfl rfl rfl rfl ⟨rfl, trivial⟩ (fun b41 hb41 => ?_)
            refine js_O rfl rfl (.inl rfl) (xv_append (V := V) (n := bs.length) (xs := bs.flatMap eLp) sl70 ty105 rfl (by rw [Vec.val_ad hV]; rfl) rfl hV (Tk.app _ (.there (.there (.there .here)))) (by ((repeat first|exact z_0|assumption|refine z_1 ?_|(refine z_l ?_;(repeat first|exact z_0|assumption|refine z_1 ?_);done)|refine z_r ?_);done)) (by ((try apply evl_some rfl);(repeat (first|exact (rfl : _ = [])|apply evl_cons rfl (by (first|exact v_1|exact v_2|exact v_3|exact v_4|exact v_5|exact v_6|exact v_7|exact v_8|exact v_9|exact rfl))|exact rfl)))) rfl rfl (by (first | omega | (dsimp only at *; omega) | (simp at *; omega))) (by simp only []; (first | omega | (dsimp only at *; omega) | (simp at *; omega))) (by (first | omega | (dsimp only at *; omega) | (simp at *; omega))) (fun V2 hV2 => ?_))
            refine jo_atL _ permR .nil ?_
            rw [Vec.val_ad hV2]
            refine js_S rfl rfl (.inl rfl) (xv_nilp rfl ⟨rfl, rfl⟩) ?_
            refine js_S rfl rfl (.inl rfl) (xv_faddr fl73_1 rfl ⟨rfl, rfl⟩) ?_
            refine js_O rfl rfl (.inl rfl) (xv_s1 ty70 rfl rfl rfl (by (first|(apply u_3;(repeat first|exact u_0|assumption|apply u_1|apply u_2);done)|((repeat first|exact u_0|assumption|apply u_1|apply u_2);done)|(apply u_3;apply u_3;(repeat first|exact u_0|assumption|apply u_1|apply u_2);done)|((repeat first|exact u_0|assumption|apply u_3|apply u_1);done))) (by (first | rfl | exact Vec.one _ _)) (by (first | decide | exact Nat.le_of_ble_eq_true rfl | (simp only [List.length_cons, List.length_nil]; omega) | (simp; done))) (by ((try apply evl_some rfl);(repeat (first|exact (rfl : _ = [])|apply evl_cons rfl (by (first|exact v_1|exact v_2|exact v_3|exact v_4|exact v_5|exact v_6|exact v_7|exact v_8|exact v_9|exact rfl))|exact rfl)))) ?_)
            refine jo_same ?_
            refine js_S rfl rfl (.inl rfl) (xv_assign rfl ⟨rfl, rfl⟩) ?_
            refine j_endp permA ?_
            have hst : opn (y.moves.take (k + 1)) = ((opn (y.moves.take k)).1 + 1, xo.hour) := by
              rw [opn_take hko]; unfold stepO
              first | (rw [if_neg (by (first | omega | (dsimp only at *; omega) | (simp at *; omega))), if_pos (by (first | omega | (dsimp only at *; omega) | (simp at *; omega)))]; done) | (rw [if_neg (by (first | omega | (dsimp only at *; omega) | (simp at *; omega))), if_neg (by (first | omega | (dsimp only at *; omega) | (simp at *; omega)))]; done)
            have hz0 : layF y.moves k (roomR y.coals.length y.moves k prev) bs.length = [I 0, I 0, I 0, I 0, I 0, I 0, I 0] := by
              unfold layF
              rw [contF_zero _ (by omega), hz bs.length (by omega)]; rfl
            have hbl2 : (bs ++ [b40]).flatMap eLp = bs.flatMap eLp ++ [.pointer (some ⟨b40, 0, none⟩)] := by simp [eLp]
            exact jn_n ((bs ++ [b40], V2) : List Nat × Vec) ⟨by dsimp only; rw [hst, List.length_append, hbl]; rfl, by dsimp only; rw [hbl2, List.length_append]; exact hV2⟩ (le_put (le_put (le_put (le_put (le_put (le_put (le_put (le_emp _) rfl) rfl) (by rw [hst]; rfl)) rfl) rfl) rfl) rfl) (by dsimp only; rw [hbl2, List.length_append, layHp_snoc, hz0]; (first|((repeat first|exact s_0|exact s_1|exact s_3|refine s_4 ?_|refine s_5 ?_|refine s_6 ?_|refine s_7 ?_);done)|((repeat first|exact s_0|exact s_1|exact s_3|refine s_4 ?_|refine s_5 ?_|refine s_6 ?_|refine s_8 ?_);done)))
          · refine xr_end rfl ?_
            refine th_n ?_
            refine xc_false rfl ?_
            refine xc_skip ?_
            have hst : opn (y.moves.take (k + 1)) = opn (y.moves.take k) := by
              rw [opn_take hko]; unfold stepO
              first | (rw [if_neg (by (first | omega | (dsimp only at *; omega) | (simp at *; omega))), if_pos (by (first | omega | (dsimp only at *; omega) | (simp at *; omega)))]; done) | (rw [if_neg (by (first | omega | (dsimp only at *; omega) | (simp at *; omega))), if_neg (by (first | omega | (dsimp only at *; omega) | (simp at *; omega)))]; done)
            exact jn_n ((bs, V) : List Nat × Vec) ⟨by dsimp only; rw [hst]; exact hbl, hV⟩ (le_put (le_put (le_put (le_put (le_put (le_put (le_put (le_emp _) rfl) rfl) (by rw [hst]; rfl)) rfl) rfl) rfl) rfl) (by (first|((repeat first|exact s_0|exact s_1|exact s_3|refine s_4 ?_|refine s_5 ?_|refine s_6 ?_|refine s_7 ?_);done)|((repeat first|exact s_0|exact s_1|exact s_3|refine s_4 ?_|refine s_5 ?_|refine s_6 ?_|refine s_8 ?_);done)))
        · rintro ⟨cs, X⟩ ⟨hcl, hX⟩
          dsimp only at hcl hX
          have hop := opn_open (l := y.moves) (k := k + 1) (by omega) hko
          rw [if_neg (by (first | omega | (dsimp only at *; omega) | (simp at *; omega)))] at hop
          have hpos := opn_pos (y.moves.take (k + 1)) (by rw [hop]; omega)
          have hlo : ((opn (y.moves.take (k + 1))).1 : Int) - 1 = ((cs.length - 1 : Nat) : Int) := by omega
          refine xc_seq ?_
          refine xc_draw0 [(0, .S), (1, .S), (2, .S), (3, .R), (4, .S), (5, .S), (6, .S), (7, .R), (8, .S), (9, .S), (10, .S), (11, .R), (12, .S)] mixed (by kernel_rfl) ?_
          have hltl : (cs.length - 1) < cs.length := by omega
          obtain ⟨bl, ol, ll, tl, fzl, hal, hml, hxl⟩ := (Vec.slvA (t := 105) eLp_len rfl hX).at hltl
          obtain ⟨xl, hkl⟩ : ∃ qq_, cs[(cs.length - 1)]? = some qq_ := ⟨_, List.getElem?_eq_getElem hltl⟩
          obtain ⟨hr1, hr2⟩ := room_in (prev := prev) hmv hko (by (first | omega | (dsimp only at *; omega) | (simp at *; omega))) hlo
          have hlen6 := contF_len 6 (y.moves.take k) ((cs.length - 1 : Nat) : Int)
          obtain ⟨v, hkv⟩ : ∃ v, (contF 6 (y.moves.take k) ((cs.length - 1 : Nat) : Int))[xo.coal.toNat]? = some v := ⟨_, List.getElem?_eq_getElem (by omega)⟩
          have hvb := contF_bd (j := ((cs.length - 1 : Nat) : Int)) (movesOk_le hn6 (movesOk_mono k hmv)) v (List.mem_of_getElem? hkv)
          rw [List.length_take] at hvb
          have hr3 := hnn (cs.length - 1)
          have hr4 := hle (cs.length - 1)
          have hml : (xl, .cells ⟨layF y.moves k (roomR y.coals.length y.moves k prev) (cs.length - 1)⟩ 107 (0, 0)) ∈ layHp cs (layF y.moves k (roomR y.coals.length y.moves k prev)) := layHp_mem hkl
          have hu1 := u_3 (f := (P ++ (b1, .cells ⟨eYard y⟩ 25) :: h)) (layHp_upd (f := layF y.moves k (roomR y.coals.length y.moves k prev)) (g := layF y.moves (k + 1) (roomR y.coals.length y.moves k prev)) hkl (fun j _ hne => layF_other hko hlo hne))
          have hml2 : (xl, .cells ⟨layF y.moves (k + 1) (roomR y.coals.length y.moves k prev) (cs.length - 1)⟩ 107 (0, 0)) ∈ layHp cs (layF y.moves (k + 1) (roomR y.coals.length y.moves k prev)) := layHp_mem hkl
          have hu2 := u_3 (f := (P ++ (b1, .cells ⟨eYard y⟩ 25) :: h)) (layHp_upd (f := layF y.moves (k + 1) (roomR y.coals.length y.moves k prev)) (g := layF y.moves (k + 1) (roomR y.coals.length y.moves (k + 1) prev)) hkl (fun j _ hne => by unfold layF; rw [hr2 j hne]))
          refine js_S rfl rfl (.inl rfl) (xv_move rfl ⟨rfl, rfl⟩) ?_
          refine js_S rfl rfl (.inl rfl) (xv_nilp rfl ⟨rfl, rfl⟩) ?_
          refine js_S rfl rfl (.inl rfl) (xv_faddr fl73_1 rfl ⟨rfl, rfl⟩) ?_
          refine js_R0 rfl rfl (.inl rfl) (xv_load1 ty70 rfl rfl (by ((repeat first|exact z_0|assumption|refine z_1 ?_|(refine z_l ?_;(repeat first|exact z_0|assumption|refine z_1 ?_);done)|refine z_r ?_);done)) (by rfl) ⟨rfl, rfl⟩) ?_
          refine js_S rfl rfl (.inl rfl) (xv_move rfl ⟨rfl, rfl⟩) ?_
          refine js_S rfl rfl (.inl rfl) (xv_nilp rfl ⟨rfl, rfl⟩) ?_
          refine js_S rfl rfl (.inl rfl) (xv_faddr fl73_1 rfl ⟨rfl, rfl⟩) ?_
          refine js_R0 rfl rfl (.inl rfl) (xv_load1 ty70 rfl rfl (by ((repeat first|exact z_0|assumption|refine z_1 ?_|(refine z_l ?_;(repeat first|exact z_0|assumption|refine z_1 ?_);done)|refine z_r ?_);done)) (by rfl) ⟨rfl, rfl⟩) ?_
          refine js_S rfl rfl (.inl rfl) (xv_len sl70 rfl ⟨rfl, rfl⟩) ?_
          refine js_S rfl rfl (.inl rfl) (xv_sub rfl rfl (wrap_i64 (by (first | omega | (dsimp only at *; omega) | (simp at *; omega))) (by (first | omega | (dsimp only at *; omega) | (simp at *; omega)))) ⟨rfl, rfl⟩) ?_
          refine js_S rfl rfl (.inl rfl) (xv_ia (sz := 1) (j := (cs.length - 1)) sl70 ty105 rfl (by rw [hal]; rfl) rfl (by (first | omega | (dsimp only at *; omega) | (simp at *; omega))) (by (first | omega | (dsimp only at *; omega) | (simp at *; omega))) (by (first | omega | (dsimp only at *; omega) | (simp at *; omega))) ⟨rfl, rfl⟩) ?_
          refine js_R0 rfl rfl (.inl rfl) (xv_load1 ty105 rfl rfl (by ((repeat first|exact z_0|assumption|refine z_1 ?_|(refine z_l ?_;(repeat first|exact z_0|assumption|refine z_1 ?_);done)|refine z_r ?_);done)) (take_get (hxl (cs.length - 1) xl hkl) (j := 0) rfl) ⟨rfl, rfl⟩) ?_
          refine js_S rfl rfl (.inl rfl) (xv_assign rfl ⟨rfl, rfl⟩) ?_
          refine j_end0 ?_
          refine th_n ?_
          refine xc_seq ?_
          refine xc_draw0 [(0, .S), (1, .S), (2, .R), (3, .S), (4, .S), (5, .S), (6, .R), (7, .S), (8, .R), (9, .S), (10, .S), (11, .S), (12, .S), (13, .O)] mixed (by kernel_rfl) ?_
          refine js_S rfl rfl (.inl rfl) (xv_move rfl ⟨rfl, rfl⟩) ?_
          refine js_S rfl rfl (.inl rfl) (xv_faddr fl63_1 rfl ⟨rfl, rfl⟩) ?_
          refine js_R0 rfl rfl (.inl rfl) (xv_load1 ty3 rfl rfl (by ((repeat first|exact z_0|assumption|refine z_1 ?_|(refine z_l ?_;(repeat first|exact z_0|assumption|refine z_1 ?_);done)|refine z_r ?_);done)) (by rfl) ⟨rfl, rfl⟩) ?_
          refine js_S rfl rfl (.inl rfl) (xv_nilp rfl ⟨rfl, rfl⟩) ?_
          refine js_S rfl rfl (.inl rfl) (xv_faddr fl107_0 rfl ⟨rfl, rfl⟩) ?_
          refine js_S rfl rfl (.inl rfl) (xv_iaA (sz := 1) (j := xo.coal.toNat) Try.underlying80 ty3 rfl rfl rfl (by omega) (by (first | omega | (dsimp only at *; omega) | (simp at *; omega))) (by (first | omega | (dsimp only at *; omega) | (simp at *; omega))) ⟨rfl, rfl⟩) ?_
          refine js_R0 rfl rfl (.inl rfl) (xv_load1 ty3 rfl rfl (by ((repeat first|exact z_0|assumption|refine z_1 ?_|(refine z_l ?_;(repeat first|exact z_0|assumption|refine z_1 ?_);done)|refine z_r ?_);done)) (layF_get hkv (by omega)) ⟨rfl, rfl⟩) ?_
          refine js_S rfl rfl (.inl rfl) (xv_faddr fl63_2 rfl ⟨rfl, rfl⟩) ?_
          refine js_R0 rfl rfl (.inl rfl) (xv_load1 ty3 rfl rfl (by ((repeat first|exact z_0|assumption|refine z_1 ?_|(refine z_l ?_;(repeat first|exact z_0|assumption|refine z_1 ?_);done)|refine z_r ?_);done)) (by rfl) ⟨rfl, rfl⟩) ?_
          refine js_S rfl rfl (.inl rfl) (xv_add rfl rfl (wrap_i64 (by (first | omega | (dsimp only at *; omega) | (simp at *; omega))) (by (first | omega | (dsimp only at *; omega) | (simp at *; omega)))) ⟨rfl, rfl⟩) ?_
          refine js_S rfl rfl (.inl rfl) (xv_nilp rfl ⟨rfl, rfl⟩) ?_
          refine js_S rfl rfl (.inl rfl) (xv_faddr fl107_0 rfl ⟨rfl, rfl⟩) ?_
          refine js_S rfl rfl (.inl rfl) (xv_iaA (sz := 1) (j := xo.coal.toNat) Try.underlying80 ty3 rfl rfl rfl (by omega) (by (first | omega | (dsimp only at *; omega) | (simp at *; omega))) (by (first | omega | (dsimp only at *; omega) | (simp at *; omega))) ⟨rfl, rfl⟩) ?_
          refine js_O0 rfl rfl (.inl rfl) (xv_s1 (l := layF y.moves k (roomR y.coals.length y.moves k prev) (cs.length - 1)) (l' := layF y.moves (k + 1) (roomR y.coals.length y.moves k prev) (cs.length - 1)) ty3 rfl rfl rfl (by (first|(apply u_3;(repeat first|exact u_0|assumption|apply u_1|apply u_2);done)|((repeat first|exact u_0|assumption|apply u_1|apply u_2);done)|(apply u_3;apply u_3;(repeat first|exact u_0|assumption|apply u_1|apply u_2);done)|((repeat first|exact u_0|assumption|apply u_3|apply u_1);done))) rfl (by rw [layF_len]; omega) (layF_set1 hko (by (first | omega | (dsimp only at *; omega) | (simp at *; omega))) hlo rfl hkv (by omega)) ?_)
          refine j_end0 ?_
          refine th_n ?_
          refine xc_seq ?_
          refine xc_draw0 [(0, .S), (1, .S), (2, .S), (3, .R), (4, .S), (5, .R), (6, .S), (7, .S), (8, .S), (9, .O)] mixed (by kernel_rfl) ?_
          refine js_S rfl rfl (.inl rfl) (xv_move rfl ⟨rfl, rfl⟩) ?_
          refine js_S rfl rfl (.inl rfl) (xv_nilp rfl ⟨rfl, rfl⟩) ?_
          refine js_S rfl rfl (.inl rfl) (xv_faddr fl107_1 rfl ⟨rfl, rfl⟩) ?_
          refine js_R0 rfl rfl (.inl rfl) (xv_load1 ty3 rfl rfl (by ((repeat first|exact z_0|assumption|refine z_1 ?_|(refine z_l ?_;(repeat first|exact z_0|assumption|refine z_1 ?_);done)|refine z_r ?_);done)) (layF_left (by omega)) ⟨rfl, rfl⟩) ?_
          refine js_S rfl rfl (.inl rfl) (xv_faddr fl63_2 rfl ⟨rfl, rfl⟩) ?_
          refine js_R0 rfl rfl (.inl rfl) (xv_load1 ty3 rfl rfl (by ((repeat first|exact z_0|assumption|refine z_1 ?_|(refine z_l ?_;(repeat first|exact z_0|assumption|refine z_1 ?_);done)|refine z_r ?_);done)) (by rfl) ⟨rfl, rfl⟩) ?_
          refine js_S rfl rfl (.inl rfl) (xv_add rfl rfl (wrap_i64 (by (first | omega | (dsimp only at *; omega) | (simp at *; omega))) (by (first | omega | (dsimp only at *; omega) | (simp at *; omega)))) ⟨rfl, rfl⟩) ?_
          refine js_S rfl rfl (.inl rfl) (xv_nilp rfl ⟨rfl, rfl⟩) ?_
          refine js_S rfl rfl (.inl rfl) (xv_faddr fl107_1 rfl ⟨rfl, rfl⟩) ?_
          refine js_O0 rfl rfl (.inl rfl) (xv_s1 (l := layF y.moves (k + 1) (roomR y.coals.length y.moves k prev) (cs.length - 1)) (l' := layF y.moves (k + 1) (roomR y.coals.length y.moves (k + 1) prev) (cs.length - 1)) ty3 rfl rfl rfl (by (first|(apply u_3;(repeat first|exact u_0|assumption|apply u_1|apply u_2);done)|((repeat first|exact u_0|assumption|apply u_1|apply u_2);done)|(apply u_3;apply u_3;(repeat first|exact u_0|assumption|apply u_1|apply u_2);done)|((repeat first|exact u_0|assumption|apply u_3|apply u_1);done))) rfl (by rw [layF_len]; omega) (layF_set2 (by omega) hr1) ?_)
          refine j_end0 ?_
          refine th_n ?_
          refine xc_exit ?_
          refine th_x ?_
          refine bk_same ?_
          refine th_n ?_
          refine xc_region ?_
          refine xr_op rfl rfl (xv_add rfl rfl (wrap_i64 (by (first | omega | (dsimp only at *; omega) | (simp at *; omega))) (by (first | omega | (dsimp only at *; omega) | (simp at *; omega)))) ?_)
          refine xr_op rfl rfl (xv_move rfl ?_)
          refine xr_end rfl ?_
          exact rnd ((k + 1, prev, cs, X, ds, W, P) : Nat × List (List Int) × List Nat × Vec × List PH × Vec × Hp) ⟨by (first | omega | (dsimp only at *; omega) | (simp at *; omega)), hP.skip hmv hko (by (first | omega | (dsimp only at *; omega) | (simp at *; omega))), hcl, hX, hW, hD, hS⟩ (by (first | omega | (dsimp only at *; omega) | (simp at *; omega))) (le_put (le_put (le_put (le_put (le_put (le_put (le_emp _) rfl) rfl) rfl) rfl) rfl) rfl) (by (first|((repeat first|exact s_0|exact s_1|exact s_3|refine s_4 ?_|refine s_5 ?_|refine s_6 ?_|refine s_7 ?_);done)|((repeat first|exact s_0|exact s_1|exact s_3|refine s_4 ?_|refine s_5 ?_|refine s_6 ?_|refine s_8 ?_);done)))
      · refine xr_end rfl ?_
        refine th_n ?_
        refine xc_false rfl ?_
        refine xc_skip ?_
        refine th_n ?_
        refine xc_seq (xc_region ?_)
        refine xr_op rfl rfl (xv_assign rfl ?_)
        refine xr_end rfl ?_
        refine th_n ?_
        refine xc_seq (xc_region ?_)
        refine xr_op rfl rfl (xv_assign rfl ?_)
        refine xr_end rfl ?_
        refine th_n ?_
        refine xc_seq ?_
        refine xc_seq (xc_region ?_)
        refine xr_op rfl rfl (xv_move rfl ?_)
        refine xr_op rfl rfl (xv_nilp rfl ?_)
        refine xr_op rfl rfl (xv_faddr fl73_1 rfl ?_)
        refine xr_op rfl rfl (xv_load1 ty70 rfl rfl (by ((repeat first|exact z_0|assumption|refine z_1 ?_|(refine z_l ?_;(repeat first|exact z_0|assumption|refine z_1 ?_);done)|refine z_r ?_);done)) (by rfl) ?_)
        refine xr_op rfl rfl (xv_len sl70 rfl ?_)
        refine xr_op rfl rfl (xv_move rfl ?_)
        refine xr_end rfl ?_
        refine th_n ?_
        refine xc_block ?_
        refine xc_loop (σ := Nat × Vec) (fun q => q.1 ≤ bs.length ∧ q.2.ok 2 (nzF (vF (roomR y.coals.length y.moves k prev) xo.tons) q.1).length ((nzF (vF (roomR y.coals.length y.moves k prev) xo.tons) q.1).flatMap ePart)) (fun q => (((((((((((emp.put (some 1) (.pointer (some ⟨b1, 0, none⟩))).put (some 4) (.pointer (some ⟨b19, 0, none⟩))).put (some 5) (I (-1))).put (some 7) (.pointer (some ⟨b7, 0, none⟩))).put (some 9) (.slice q.2.ad (nzF (vF (roomR y.coals.length y.moves k prev) xo.tons) q.1).length q.2.cp)).put (some 21) (.slice y.ma y.moves.length y.mc)).put (some 22) (I y.moves.length)).put (some 23) (I k)).put (some 84) (.slice V.ad bs.length V.cp)).put (some 85) (I bs.length)).put (some 86) (I q.1))) (fun q => (q.2.hp 43 (nzF (vF (roomR y.coals.length y.moves k prev) xo.tons) q.1 |>.flatMap ePart) ++ (b7, .cells ⟨[I xo.hour, I xo.coal, I (vecR (roomR y.coals.length y.moves k prev) q.1 xo.tons).2]⟩ 63) :: (b19, .cells ⟨[.slice y.ca y.coals.length y.cc, .slice V.ad bs.length V.cp, .slice W.ad ds.length W.cp]⟩ 73) :: (V.hp 105 (bs.flatMap eLp) ++ (W.hp 39 (ds.flatMap ePH) ++ (layHp bs (layF y.moves k (lfJ (roomR y.coals.length y.moves k prev) xo.tons q.1)) ++ (P ++ (b1, .cells ⟨eYard y⟩ 25) :: h)))))) (fun q => bs.length - q.1) ((0, .nil) : Nat × Vec) ⟨Nat.zero_le _, ⟨rfl, rfl⟩⟩ (le_put (le_put (le_put (le_put (le_put (le_put (le_put (le_put (le_put (le_put (le_put (le_emp _) rfl) rfl) rfl) rfl) rfl) rfl) rfl) rfl) rfl) rfl) rfl) (by dsimp only; rw [lfJ_0]; (first|((repeat first|exact s_0|exact s_1|exact s_3|refine s_4 ?_|refine s_5 ?_|refine s_6 ?_|refine s_7 ?_);done)|((repeat first|exact s_0|exact s_1|exact s_3|refine s_4 ?_|refine s_5 ?_|refine s_6 ?_|refine s_8 ?_);done))) ?_
        rintro ⟨j, U⟩ ⟨hj, hU⟩
        dsimp only at hj hU
        refine xc_seq (xc_region ?_)
        refine xr_op rfl rfl (xv_lss2 rfl rfl (fun q6 => ?_) (fun q6 => ?_))
        · refine xr_end rfl ?_
          refine th_n ?_
          refine xc_seq ?_
          refine xc_true rfl ?_
          refine xc_skip ?_
          refine th_n ?_
          refine xc_seq ?_
          refine xc_block ?_
          refine xc_seq (xc_region ?_)
          have hltl : j < bs.length := by (first | omega | (dsimp only at *; omega) | (simp at *; omega))
          obtain ⟨bl, ol, ll, tl, fzl, hal, hml, hxl⟩ := (Vec.slvA (t := 105) eLp_len rfl hV).at hltl
          obtain ⟨xl, hkl⟩ : ∃ qq_, bs[j]? = some qq_ := ⟨_, List.getElem?_eq_getElem hltl⟩
          have hml : (xl, .cells ⟨layF y.moves k (lfJ (roomR y.coals.length y.moves k prev) xo.tons j) j⟩ 107 (0, 0)) ∈ layHp bs (layF y.moves k (lfJ (roomR y.coals.length y.moves k prev) xo.tons j)) := layHp_mem hkl
          have hlj := lfJ_at (roomR y.coals.length y.moves k prev) xo.tons j
          have hu1 := u_3 (f := (P ++ (b1, .cells ⟨eYard y⟩ 25) :: h)) (layHp_upd (f := layF y.moves k (lfJ (roomR y.coals.length y.moves k prev) xo.tons j)) (g := layF y.moves k (lfJ (roomR y.coals.length y.moves k prev) xo.tons (j + 1))) hkl (fun i _ hne => by unfold layF; rw [lfJ_other hne]))
          obtain ⟨⟨va, vb⟩, vc, vd⟩ := vecR_bd (room := (roomR y.coals.length y.moves k prev)) (t := xo.tons) (by omega) j (fun i _ => hnn i)
          have hrj := hnn j
          have hrj2 := hle j
          have hvf : (vF (roomR y.coals.length y.moves k prev) xo.tons j) = min ((roomR y.coals.length y.moves k prev) j) (vecR (roomR y.coals.length y.moves k prev) j xo.tons).2 := rfl
          refine xr_op rfl rfl (xv_move rfl ?_)
          refine xr_op rfl rfl (xv_ia (sz := 1) (j := j) sl70 ty105 rfl (by rw [hal]; rfl) rfl (by (first | assumption | with_reducible exact Int.toNat_natCast _ | with_reducible rfl | rfl)) (by (first | omega | (dsimp only at *; omega) | (simp at *; omega))) (by (first | omega | (dsimp only at *; omega) | (simp at *; omega))) ?_)
          refine xr_op rfl rfl (xv_load1 ty105 rfl rfl (by ((repeat first|exact z_0|assumption|refine z_1 ?_|(refine z_l ?_;(repeat first|exact z_0|assumption|refine z_1 ?_);done)|refine z_r ?_);done)) (take_get (hxl (j) xl hkl) (j := 0) rfl) ?_)
          refine xr_op rfl rfl (xv_assign rfl ?_)
          refine xr_op rfl rfl (xv_assign rfl ?_)
          refine xr_end rfl ?_
          refine th_n ?_
          refine xc_seq ?_
          refine xc_draw0 [(0, .S), (1, .S), (2, .S), (3, .R), (4, .S), (5, .R), (6, .S), (7, .S)] mixed (by kernel_rfl) ?_
          refine js_S rfl rfl (.inl rfl) (xv_move rfl ⟨rfl, rfl⟩) ?_
          refine js_S rfl rfl (.inl rfl) (xv_nilp rfl ⟨rfl, rfl⟩) ?_
          refine js_S rfl rfl (.inl rfl) (xv_faddr fl107_1 rfl ⟨rfl, rfl⟩) ?_
          refine js_R0 rfl rfl (.inl rfl) (xv_load1 ty3 rfl rfl (by ((repeat first|exact z_0|assumption|refine z_1 ?_|(refine z_l ?_;(repeat first|exact z_0|assumption|refine z_1 ?_);done)|refine z_r ?_);done)) ((layF_left (by omega)).trans (by rw [hlj])) ⟨rfl, rfl⟩) ?_
          refine js_S rfl rfl (.inl rfl) (xv_faddr fl63_2 rfl ⟨rfl, rfl⟩) ?_
          refine js_R0 rfl rfl (.inl rfl) (xv_load1 ty3 rfl rfl (by ((repeat first|exact z_0|assumption|refine z_1 ?_|(refine z_l ?_;(repeat first|exact z_0|assumption|refine z_1 ?_);done)|refine z_r ?_);done)) (by rfl) ⟨rfl, rfl⟩) ?_
          refine js_S rfl rfl (.inl rfl) (xv_min rfl rfl rfl ⟨rfl, rfl⟩) ?_
          refine js_S rfl rfl (.inl rfl) (xv_assign rfl ⟨rfl, rfl⟩) ?_
          refine j_end0 ?_
          refine th_n ?_
          refine xc_seq (xc_region ?_)
          refine xr_op rfl rfl (xv_move rfl ?_)
          refine xr_op rfl rfl (xv_gtr2 rfl rfl (fun q7 => ?_) (fun q7 => ?_))
          · refine xr_end rfl ?_
            refine th_n ?_
            refine xc_true rfl ?_
            refine xc_seq (xc_region ?_)
            have hvp : (vF (roomR y.coals.length y.moves k prev) xo.tons j) > 0 := by (first | omega | (dsimp only at *; omega) | (simp at *; omega))
            have hul := nzF_len (vF (roomR y.coals.length y.moves k prev) xo.tons) j
            refine xr_op rfl rfl (xv_move rfl ?_)
            refine xr_op rfl rfl (xv_move rfl ?_)
            refine xr_op rfl rfl (xv_move rfl ?_)
            refine xr_op rfl rfl (xv_build bt43 rfl (by ((try apply evl_some rfl);(repeat (first|exact (rfl : _ = [])|apply evl_cons rfl (by (first|exact v_1|exact v_2|exact v_3|exact v_4|exact v_5|exact v_6|exact v_7|exact v_8|exact v_9|exact rfl))|exact rfl)))) ?_)
            refine xr_op rfl rfl ((al_buildSlice sl39 ty43 rfl rfl rfl rfl rfl (by ((try apply evl_some rfl);(repeat (first|exact (rfl : _ = [])|apply evl_cons rfl (by (first|exact v_1|exact v_2|exact v_3|exact v_4|exact v_5|exact v_6|exact v_7|exact v_8|exact v_9|exact rfl))|exact rfl))))).xv (fun b104 hb104 => ?_))
            refine xr_op rfl rfl (xv_append (V := U) (n := (nzF (vF (roomR y.coals.length y.moves k prev) xo.tons) j).length) (xs := (nzF (vF (roomR y.coals.length y.moves k prev) xo.tons) j).flatMap ePart) sl39 ty43 rfl (by rw [Vec.val_ad hU]; rfl) rfl hU (.there .here) (by ((repeat first|exact z_0|assumption|refine z_1 ?_|(refine z_l ?_;(repeat first|exact z_0|assumption|refine z_1 ?_);done)|refine z_r ?_);done)) (by ((try apply evl_some rfl);(repeat (first|exact (rfl : _ = [])|apply evl_cons rfl (by (first|exact v_1|exact v_2|exact v_3|exact v_4|exact v_5|exact v_6|exact v_7|exact v_8|exact v_9|exact rfl))|exact rfl)))) rfl rfl (by (first | omega | (dsimp only at *; omega) | (simp at *; omega))) (by simp only []; (first | omega | (dsimp only at *; omega) | (simp at *; omega))) (by (first | omega | (dsimp only at *; omega) | (simp at *; omega))) (fun U2 hU2 => ?_))
            rw [Vec.val_ad hU2]
            refine xr_op rfl rfl (xv_assign rfl ?_)
            refine xr_end rfl ?_
            refine th_n ?_
            refine xc_seq (xc_region ?_)
            refine xr_op rfl rfl (xv_move rfl ?_)
            refine xr_op rfl rfl (xv_nilp rfl ?_)
            refine xr_op rfl rfl (xv_faddr fl107_1 rfl ?_)
            refine xr_op rfl rfl (xv_load1 ty3 rfl rfl (by ((repeat first|exact z_0|assumption|refine z_1 ?_|(refine z_l ?_;(repeat first|exact z_0|assumption|refine z_1 ?_);done)|refine z_r ?_);done)) ((layF_left (by omega)).trans (by rw [hlj])) ?_)
            refine xr_op rfl rfl (xv_move rfl ?_)
            refine xr_op rfl rfl (xv_sub rfl rfl (wrap_i64 (by (first | omega | (dsimp only at *; omega) | (simp at *; omega))) (by (first | omega | (dsimp only at *; omega) | (simp at *; omega)))) ?_)
            refine xr_op rfl rfl (xv_nilp rfl ?_)
            refine xr_op rfl rfl (xv_faddr fl107_1 rfl ?_)
            refine xr_op rfl rfl (xv_s1 (l := layF y.moves k (lfJ (roomR y.coals.length y.moves k prev) xo.tons j) j) (l' := layF y.moves k (lfJ (roomR y.coals.length y.moves k prev) xo.tons (j + 1)) j) ty3 rfl rfl rfl (by (first|(apply u_3;(repeat first|exact u_0|assumption|apply u_1|apply u_2);done)|((repeat first|exact u_0|assumption|apply u_1|apply u_2);done)|(apply u_3;apply u_3;(repeat first|exact u_0|assumption|apply u_1|apply u_2);done)|((repeat first|exact u_0|assumption|apply u_3|apply u_1);done))) rfl (by rw [layF_len]; omega) (layF_set2 (by omega) (lfJ_next _ _ _)) ?_)
            refine xr_end rfl ?_
            refine th_n ?_
            refine xc_region ?_
            refine xr_op rfl rfl (xv_faddr fl63_2 rfl ?_)
            refine xr_op rfl rfl (xv_load1 ty3 rfl rfl (by ((repeat first|exact z_0|assumption|refine z_1 ?_|(refine z_l ?_;(repeat first|exact z_0|assumption|refine z_1 ?_);done)|refine z_r ?_);done)) (by rfl) ?_)
            refine xr_op rfl rfl (xv_move rfl ?_)
            refine xr_op rfl rfl (xv_sub rfl rfl (wrap_i64 (by (first | omega | (dsimp only at *; omega) | (simp at *; omega))) (by (first | omega | (dsimp only at *; omega) | (simp at *; omega)))) ?_)
            refine xr_op rfl rfl (xv_faddr fl63_2 rfl ?_)
            refine xr_op rfl rfl (xv_s1 ty3 rfl rfl rfl (by (first|(apply u_3;(repeat first|exact u_0|assumption|apply u_1|apply u_2);done)|((repeat first|exact u_0|assumption|apply u_1|apply u_2);done)|(apply u_3;apply u_3;(repeat first|exact u_0|assumption|apply u_1|apply u_2);done)|((repeat first|exact u_0|assumption|apply u_3|apply u_1);done))) (by (first | rfl | exact Vec.one _ _)) (by (first | decide | exact Nat.le_of_ble_eq_true rfl | (simp only [List.length_cons, List.length_nil]; omega) | (simp; done))) (by ((try apply evl_some rfl);(repeat (first|exact (rfl : _ = [])|apply evl_cons rfl (by (first|exact v_1|exact v_2|exact v_3|exact v_4|exact v_5|exact v_6|exact v_7|exact v_8|exact v_9|exact rfl))|exact rfl)))) ?_)
            refine xr_end rfl ?_
            refine bk_n ?_
            refine th_n ?_
            refine xc_region ?_
            refine xr_op rfl rfl (xv_add rfl rfl (wrap_i64 (by (first | omega | (dsimp only at *; omega) | (simp at *; omega))) (by (first | omega | (dsimp only at *; omega) | (simp at *; omega)))) ?_)
            refine xr_op rfl rfl (xv_move rfl ?_)
            refine xr_end rfl ?_
            exact rnd ((j + 1, U2) : Nat × Vec) ⟨by (first | omega | (dsimp only at *; omega) | (simp at *; omega)), by dsimp only; rw [nzF_app hvp, nzF_lenS hvp]; exact hU2⟩ (by (first | omega | (dsimp only at *; omega) | (simp at *; omega))) (le_put (le_put (le_put (le_put (le_put (le_put (le_put (le_put (le_put (le_put (le_put (le_emp _) rfl) rfl) rfl) rfl) (by dsimp only; rw [nzF_lenS hvp]; rfl)) rfl) rfl) rfl) rfl) rfl) rfl) (by dsimp only; rw [nzF_app hvp, vecR_2]; (first|((repeat first|exact s_0|exact s_1|exact s_3|refine s_4 ?_|refine s_5 ?_|refine s_6 ?_|refine s_7 ?_);done)|((repeat first|exact s_0|exact s_1|exact s_3|refine s_4 ?_|refine s_5 ?_|refine s_6 ?_|refine s_8 ?_);done)))
          · refine xr_end rfl ?_
            refine th_n ?_
            refine xc_false rfl ?_
            refine xc_skip ?_
            refine bk_n ?_
            refine th_n ?_
            refine xc_region ?_
            have hvp : ¬ (vF (roomR y.coals.length y.moves k prev) xo.tons j) > 0 := by (first | omega | (dsimp only at *; omega) | (simp at *; omega))
            have hv0 : (vF (roomR y.coals.length y.moves k prev) xo.tons j) = 0 := by (first | omega | (dsimp only at *; omega) | (simp at *; omega))
            refine xr_op rfl rfl (xv_add rfl rfl (wrap_i64 (by (first | omega | (dsimp only at *; omega) | (simp at *; omega))) (by (first | omega | (dsimp only at *; omega) | (simp at *; omega)))) ?_)
            refine xr_op rfl rfl (xv_move rfl ?_)
            refine xr_end rfl ?_
            exact rnd ((j + 1, U) : Nat × Vec) ⟨by (first | omega | (dsimp only at *; omega) | (simp at *; omega)), by dsimp only; rw [nzF_eq _ _ hvp]; exact hU⟩ (by (first | omega | (dsimp only at *; omega) | (simp at *; omega))) (le_put (le_put (le_put (le_put (le_put (le_put (le_put (le_put (le_put (le_put (le_put (le_emp _) rfl) rfl) rfl) rfl) (by dsimp only; rw [nzF_eq _ _ hvp]; rfl)) rfl) rfl) rfl) rfl) rfl) rfl) (by dsimp only; rw [nzF_eq _ _ hvp, vecR_2, hv0, Int.sub_zero, lfJ_same hv0]; (first|((repeat first|exact s_0|exact s_1|exact s_3|refine s_4 ?_|refine s_5 ?_|refine s_6 ?_|refine s_7 ?_);done)|((repeat first|exact s_0|exact s_1|exact s_3|refine s_4 ?_|refine s_5 ?_|refine s_6 ?_|refine s_8 ?_);done)))
        · refine xr_end rfl ?_
          refine th_n ?_
          refine xc_seq ?_
          refine xc_false rfl ?_
          refine xc_exit ?_
          refine th_x ?_
          refine th_x ?_
          refine bk_same ?_
          refine th_n ?_
          refine xc_seq ?_
          refine xc_seq (xc_region ?_)
          obtain rfl : j = bs.length := by (first | omega | (dsimp only at *; omega) | (simp at *; omega))
          obtain ⟨⟨va, vb⟩, vc, vd⟩ := vecR_bd (room := (roomR y.coals.length y.moves k prev)) (t := xo.tons) (by omega) bs.length (fun i _ => hnn i)
          obtain ⟨hv2, hnz⟩ := draw_done (room := (roomR y.coals.length y.moves k prev)) (t := xo.tons) (c := bs.length) (L := (opn y.moves).1) (by omega) (fun j hj => hz j (by omega)) va
          refine xr_op rfl rfl (xv_faddr fl63_2 rfl ?_)
          refine xr_op rfl rfl (xv_load1 ty3 rfl rfl (by ((repeat first|exact z_0|assumption|refine z_1 ?_|(refine z_l ?_;(repeat first|exact z_0|assumption|refine z_1 ?_);done)|refine z_r ?_);done)) (by rfl) ?_)
          refine xr_op rfl rfl (xv_gtr2 rfl rfl (fun q8 => ?_) (fun q8 => ?_))
          · refine xr_end rfl ?_
            refine th_n ?_
            refine xc_true rfl ?_
            refine xc_seq (xc_region ?_)
            refine xr_op rfl rfl (xv_assign rfl ?_)
            refine xr_op rfl rfl (xv_assign rfl ?_)
            refine xr_end rfl ?_
            refine th_n ?_
            refine xc_ret ?_
            refine th_r ?_
            refine bk_r ?_
            refine th_r ?_
            refine th_r ?_
            refine bk_r ?_
            refine th_r ?_
            refine sc_r ?_
            refine body_ret (h' := h) rfl (ro_tmp rfl (ro_tmp rfl ro_nil)) (by first | (first|((repeat first|exact s_0|exact s_1|exact s_3|refine s_4 ?_|refine s_5 ?_|refine s_6 ?_|refine s_7 ?_);done)|((repeat first|exact s_0|exact s_1|exact s_3|refine s_4 ?_|refine s_5 ?_|refine s_6 ?_|refine s_8 ?_);done)) | (simp only [List.cons_append, List.append_assoc]; (first|((repeat first|exact s_0|exact s_1|exact s_3|refine s_4 ?_|refine s_5 ?_|refine s_6 ?_|refine s_7 ?_);done)|((repeat first|exact s_0|exact s_1|exact s_3|refine s_4 ?_|refine s_5 ?_|refine s_6 ?_|refine s_8 ?_);done)))) ?_
            first | exact H1 hgy | exact H2 hgy (parts_end (parts_bad hP.is hko (by (first | omega | (dsimp only at *; omega) | (simp at *; omega))) (by (first | omega | (dsimp only at *; omega) | (simp at *; omega)))) (by (first | omega | (dsimp only at *; omega) | (simp at *; omega)))) | exact H3 prev b19 V.ad V.cp bs W.ad W.cp ds _ hgy hvs hsh
          · refine xr_end rfl ?_
            refine th_n ?_
            refine xc_false rfl ?_
            refine xc_skip ?_
            refine th_n ?_
            refine xc_region ?_
            have hnm : ¬ (vecR (roomR y.coals.length y.moves k prev) (opn y.moves).1 xo.tons).2 > 0 := by (first | omega | (dsimp only at *; omega) | (simp at *; omega))
            have hst : opn (y.moves.take (k + 1)) = ((opn (y.moves.take k)).1, -1) := by rw [opn_take hko]; unfold stepO; rw [if_pos (by (first | omega | (dsimp only at *; omega) | (simp at *; omega)))]
            have e27 : (ds ++ [(⟨U.ad, nzF (vF (roomR y.coals.length y.moves k prev) xo.tons) bs.length, U.cp⟩ : PH)]).flatMap ePH = ds.flatMap ePH ++ [.slice U.ad (nzF (vF (roomR y.coals.length y.moves k prev) xo.tons) bs.length).length U.cp] := by simp [ePH]
            have hlend : layHp bs (layF y.moves k (lfJ (roomR y.coals.length y.moves k prev) xo.tons bs.length)) = layHp bs (layF y.moves (k + 1) (roomR y.coals.length y.moves (k + 1) (prev ++ [(vecR (roomR y.coals.length y.moves k prev) (opn y.moves).1 xo.tons).1]))) := layHp_congr (fun i hi => layF_drawn hko (by (first | omega | (dsimp only at *; omega) | (simp at *; omega))) (lfJ_end hmv hko (by (first | omega | (dsimp only at *; omega) | (simp at *; omega))) hi (by omega)))
            refine xr_op rfl rfl (xv_move rfl ?_)
            refine xr_op rfl rfl (xv_move rfl ?_)
            refine xr_op rfl rfl (xv_nilp rfl ?_)
            refine xr_op rfl rfl (xv_faddr fl73_2 rfl ?_)
            refine xr_op rfl rfl (xv_load1 ty71 rfl rfl (by ((repeat first|exact z_0|assumption|refine z_1 ?_|(refine z_l ?_;(repeat first|exact z_0|assumption|refine z_1 ?_);done)|refine z_r ?_);done)) (by rfl) ?_)
            refine xr_op rfl rfl (xv_move rfl ?_)
            refine xr_op rfl rfl ((al_buildSlice sl71 ty39 rfl rfl rfl rfl rfl (by ((try apply evl_some rfl);(repeat (first|exact (rfl : _ = [])|apply evl_cons rfl (by (first|exact v_1|exact v_2|exact v_3|exact v_4|exact v_5|exact v_6|exact v_7|exact v_8|exact v_9|exact rfl))|exact rfl))))).xv (fun b129 hb129 => ?_))
            refine xr_op rfl rfl (xv_append (V := W) (n := ds.length) (xs := ds.flatMap ePH) sl71 ty39 rfl (by rw [Vec.val_ad hW]; rfl) rfl hW (.there (.skip (.there (.there (.skip .here))))) (by ((repeat first|exact z_0|assumption|refine z_1 ?_|(refine z_l ?_;(repeat first|exact z_0|assumption|refine z_1 ?_);done)|refine z_r ?_);done)) (by ((try apply evl_some rfl);(repeat (first|exact (rfl : _ = [])|apply evl_cons rfl (by (first|exact v_1|exact v_2|exact v_3|exact v_4|exact v_5|exact v_6|exact v_7|exact v_8|exact v_9|exact rfl))|exact rfl)))) rfl rfl (by (first | omega | (dsimp only at *; omega) | (simp at *; omega))) (by simp only []; (first | omega | (dsimp only at *; omega) | (simp at *; omega))) (by (first | omega | (dsimp only at *; omega) | (simp at *; omega))) (fun W2 hW2 => ?_))
            rw [Vec.val_ad hW2]
            refine xr_op rfl rfl (xv_nilp rfl ?_)
            refine xr_op rfl rfl (xv_faddr fl73_2 rfl ?_)
            refine xr_op rfl rfl (xv_s1 ty71 rfl rfl rfl (by (first|(apply u_3;(repeat first|exact u_0|assumption|apply u_1|apply u_2);done)|((repeat first|exact u_0|assumption|apply u_1|apply u_2);done)|(apply u_3;apply u_3;(repeat first|exact u_0|assumption|apply u_1|apply u_2);done)|((repeat first|exact u_0|assumption|apply u_3|apply u_1);done))) (by (first | rfl | exact Vec.one _ _)) (by (first | decide | exact Nat.le_of_ble_eq_true rfl | (simp only [List.length_cons, List.length_nil]; omega) | (simp; done))) (by ((try apply evl_some rfl);(repeat (first|exact (rfl : _ = [])|apply evl_cons rfl (by (first|exact v_1|exact v_2|exact v_3|exact v_4|exact v_5|exact v_6|exact v_7|exact v_8|exact v_9|exact rfl))|exact rfl)))) ?_)
            refine xr_end rfl ?_
            refine bk_n ?_
            refine th_n ?_
            refine xc_region ?_
            refine XR.perm permB.symm ?_
            refine xr_op rfl rfl (xv_add rfl rfl (wrap_i64 (by (first | omega | (dsimp only at *; omega) | (simp at *; omega))) (by (first | omega | (dsimp only at *; omega) | (simp at *; omega)))) ?_)
            refine xr_op rfl rfl (xv_move rfl ?_)
            refine xr_end rfl ?_
            exact rnd ((k + 1, prev ++ [(vecR (roomR y.coals.length y.moves k prev) (opn y.moves).1 xo.tons).1], bs, V, ds ++ [⟨U.ad, nzF (vF (roomR y.coals.length y.moves k prev) xo.tons) bs.length, U.cp⟩], W2, U.hp 43 ((nzF (vF (roomR y.coals.length y.moves k prev) xo.tons) bs.length).flatMap ePart) ++ P) : Nat × List (List Int) × List Nat × Vec × List PH × Vec × Hp) ⟨by (first | omega | (dsimp only at *; omega) | (simp at *; omega)), hP.more hmv hko (by (first | omega | (dsimp only at *; omega) | (simp at *; omega))) hnm, by rw [hst]; exact hbl, hV, by dsimp only; rw [List.length_append, e27]; exact hW2, by dsimp only; rw [List.map_append, List.map_append, hD, List.map_singleton, List.map_singleton, hnz], fun w hw => by
              rcases List.mem_append.1 hw with hw | hw
              · exact (hS w hw).sub (fun z hz => List.mem_append_right _ hz)
              · rw [List.mem_singleton.1 hw]; exact (Vec.slvA ePart_len rfl hU).sub (fun z hz => List.mem_append_left _ hz)⟩ (by (first | omega | (dsimp only at *; omega) | (simp at *; omega))) (le_put (le_put (le_put (le_put (le_put (le_put (le_emp _) rfl) rfl) (by rw [hst]; rfl)) rfl) rfl) rfl) (by dsimp only; rw [List.length_append, e27, ← hlend]; (first|((repeat first|exact s_0|exact s_1|exact s_3|refine s_4 ?_|refine s_5 ?_|refine s_6 ?_|refine s_7 ?_);done)|((repeat first|exact s_0|exact s_1|exact s_3|refine s_4 ?_|refine s_5 ?_|refine s_6 ?_|refine s_8 ?_);done)))
    · refine xr_end rfl ?_
      refine th_n ?_
      refine xc_seq ?_
      refine xc_false rfl ?_
      refine xc_exit ?_
      refine th_x ?_
      refine th_x ?_
      refine bk_same ?_
      refine th_n ?_
      refine xc_seq (xc_region ?_)
      obtain rfl : y.moves.length = k := by (first | omega | (dsimp only at *; omega) | (simp at *; omega))
      have hvs : vecsR y = some prev := hP.is
      have hsh : ShedV ((b19, .cells ⟨[.slice y.ca y.coals.length y.cc, .slice V.ad bs.length V.cp, .slice W.ad ds.length W.cp]⟩ 73) :: (V.hp 105 (bs.flatMap eLp) ++ (W.hp 39 (ds.flatMap ePH) ++ (layHp bs (layF y.moves y.moves.length (roomR y.coals.length y.moves y.moves.length prev)) ++ P)))) y prev b19 V.ad V.cp bs W.ad W.cp ds := by
        refine ⟨List.mem_cons_self, (Vec.slvA (t := 105) eLp_len rfl hV).sub (by intro z hz; ((repeat first|exact z_0|assumption|refine z_1 ?_|(refine z_l ?_;(repeat first|exact z_0|assumption|refine z_1 ?_);done)|refine z_r ?_);done)), fun i c hc => ?_, by rw [hbl, List.take_length], (Vec.slvA (t := 39) ePH_len rfl hW).sub (by intro z hz; ((repeat first|exact z_0|assumption|refine z_1 ?_|(refine z_l ?_;(repeat first|exact z_0|assumption|refine z_1 ?_);done)|refine z_r ?_);done)), vec_cap hW, fun z hz => (hS z hz).sub (fun x hx => ?_), hD, hP⟩
        · have := layHp_mem (f := layF y.moves y.moves.length (roomR y.coals.length y.moves y.moves.length prev)) hc
          exact z_1 (z_r (z_r (z_l this)))
        · exact z_1 (z_r (z_r (z_r hx)))
      refine xr_op rfl rfl (xv_move rfl ?_)
      refine xr_op rfl rfl (xv_assign rfl ?_)
      refine xr_op rfl rfl (xv_assign rfl ?_)
      refine xr_end rfl ?_
      refine th_n ?_
      refine xc_ret ?_
      refine sc_r ?_
      refine body_ret (h' := (((b19, .cells ⟨[.slice y.ca y.coals.length y.cc, .slice V.ad bs.length V.cp, .slice W.ad ds.length W.cp]⟩ 73) :: (V.hp 105 (bs.flatMap eLp) ++ (W.hp 39 (ds.flatMap ePH) ++ (layHp bs (layF y.moves y.moves.length (roomR y.coals.length y.moves y.moves.length prev)) ++ P)))) ++ h)) rfl (ro_tmp rfl (ro_tmp rfl ro_nil)) (by first | (first|((repeat first|exact s_0|exact s_1|exact s_3|refine s_4 ?_|refine s_5 ?_|refine s_6 ?_|refine s_7 ?_);done)|((repeat first|exact s_0|exact s_1|exact s_3|refine s_4 ?_|refine s_5 ?_|refine s_6 ?_|refine s_8 ?_);done)) | (simp only [List.cons_append, List.append_assoc]; (first|((repeat first|exact s_0|exact s_1|exact s_3|refine s_4 ?_|refine s_5 ?_|refine s_6 ?_|refine s_7 ?_);done)|((repeat first|exact s_0|exact s_1|exact s_3|refine s_4 ?_|refine s_5 ?_|refine s_6 ?_|refine s_8 ?_);done)))) ?_
      first | exact H1 hgy | exact H2 hgy (parts_end (parts_bad hP.is hko (by (first | omega | (dsimp only at *; omega) | (simp at *; omega))) (by (first | omega | (dsimp only at *; omega) | (simp at *; omega)))) (by (first | omega | (dsimp only at *; omega) | (simp at *; omega)))) | exact H3 prev b19 V.ad V.cp bs W.ad W.cp ds _ hgy hvs hsh
  · refine xr_op rfl rfl (xv_not rfl ?_)
    refine xr_end rfl ?_
    refine th_n ?_
    refine xc_true rfl ?_
    refine xc_seq (xc_region ?_)
    refine xr_op rfl rfl (xv_assign rfl ?_)
    refine xr_op rfl rfl (xv_assign rfl ?_)
    refine xr_end rfl ?_
    refine th_n ?_
    refine xc_ret ?_
    refine th_r ?_
    refine sc_r ?_
    refine body_ret (h' := h) rfl (ro_tmp rfl (ro_tmp rfl ro_nil)) (by first | (first|((repeat first|exact s_0|exact s_1|exact s_3|refine s_4 ?_|refine s_5 ?_|refine s_6 ?_|refine s_7 ?_);done)|((repeat first|exact s_0|exact s_1|exact s_3|refine s_4 ?_|refine s_5 ?_|refine s_6 ?_|refine s_8 ?_);done)) | (simp only [List.cons_append, List.append_assoc]; (first|((repeat first|exact s_0|exact s_1|exact s_3|refine s_4 ?_|refine s_5 ?_|refine s_6 ?_|refine s_7 ?_);done)|((repeat first|exact s_0|exact s_1|exact s_3|refine s_4 ?_|refine s_5 ?_|refine s_6 ?_|refine s_8 ?_);done)))) ?_
    first | exact H1 hgy | exact H2 hgy (parts_end (parts_bad hP.is hko (by (first | omega | (dsimp only at *; omega) | (simp at *; omega))) (by (first | omega | (dsimp only at *; omega) | (simp at *; omega)))) (by (first | omega | (dsimp only at *; omega) | (simp at *; omega)))) | exact H3 prev b19 V.ad V.cp bs W.ad W.cp ds _ hgy hvs hsh

end Go.Proofs.Ytpefpafijadfmaa

/-
  One round of the document's least.
-/
set_option linter.all false
namespace Go.Proofs.Ytpefpafijadfmaa
open Go Go.H
def subL (r l : List Int) : List Int := (r.zip l).map fun z => z.1 - z.2
theorem subL_len {r l : List Int} (h : l.length = r.length) : (subL r l).length = r.length := by simp [subL, h]
theorem subL_get {r l : List Int} {i : Nat} {a b : Int} (h : r[i]? = some a) (h2 : l[i]? = some b) : (subL r l)[i]? = some (a - b) := by
  unfold subL
  rw [List.getElem?_map, (List.getElem?_zip_eq_some (z := (a, b))).2 ⟨h, h2⟩]; rfl
theorem subL_set : ∀ {r l : List Int} {k : Nat} {a b n : Int}, r[k]? = some a → l[k]? = some b → subL r (l.set k (b - n)) = (subL r l).set k ((a - b) + n)
  | [], l, k, a, b, n, h, _ => by simp at h
  | x :: r, [], k, a, b, n, _, h => by simp at h
  | x :: r, y :: l, 0, a, b, n, h, h2 => by
    simp at h h2; subst h h2
    have e : subL (x :: r) ((y :: l).set 0 (y - n)) = (x - (y - n)) :: subL r l := rfl
    have e2 : (subL (x :: r) (y :: l)).set 0 (x - y + n) = (x - y + n) :: subL r l := rfl
    rw [e, e2]; congr 1; omega
  | x :: r, y :: l, k + 1, a, b, n, h, h2 => by
    have e : subL (x :: r) ((y :: l).set (k + 1) (b - n)) = (x - y) :: subL r (l.set k (b - n)) := rfl
    have e2 : (subL (x :: r) (y :: l)).set (k + 1) (a - b + n) = (x - y) :: (subL r l).set k (a - b + n) := rfl
    rw [e, e2, subL_set (by simpa using h) (by simpa using h2)]
theorem mul_bdE {n e N : Int} (h0 : 0 ≤ n) (h1 : n ≤ N) (he : -100000 ≤ e ∧ e ≤ 100000) : -(100000 * N) ≤ n * e ∧ n * e ≤ 100000 * N := by
  have m1 := Int.mul_le_mul_of_nonneg_left he.1 h0
  have m2 := Int.mul_le_mul_of_nonneg_left he.2 h0
  omega
structure LInv (room each : List Int) (need0 need : Int) (lf : List Int) : Prop where
  len : lf.length = room.length
  gr : Greedy room each (need0 - need) (subL room lf)
  sum : sumI lf = sumI room - (need0 - need)
  nn : ∀ a ∈ lf, 0 ≤ a
  n0 : 0 ≤ need
theorem LInv.next {room each lf : List Int} {need0 need lb eb : Int} {b : Nat} (H : LInv room each need0 need lf) (hb : lf[b]? = some lb) (h0 : 0 < lb) (he : each[b]? = some eb) (hmin : ∀ (j : Nat) (l e : Int), lf[j]? = some l → 0 < l → each[j]? = some e → eb ≤ e) (hn : 0 < need) :
    LInv room each need0 (need - min need lb) (lf.set b (lb - min need lb)) ∧ dotI (subL room (lf.set b (lb - min need lb))) each = dotI (subL room lf) each + min need lb * eb := by
  have hlt := (List.getElem?_eq_some_iff.1 hb).1
  obtain ⟨rb, hrb⟩ : ∃ r, room[b]? = some r := ⟨_, List.getElem?_eq_getElem (by rw [← H.len]; exact hlt)⟩
  have hs := subL_get hrb hb
  have e := subL_set (n := min need lb) hrb hb
  have hg := H.gr
  have hbb := hg.bd b _ rb hs hrb
  refine ⟨⟨by rw [List.length_set]; exact H.len, ?_, ?_, fun a ha => ?_, by omega⟩, by rw [e]; exact dot_set hs he⟩
  · rw [e]
    have hlen : b < (subL room lf).length := by rw [subL_len H.len, ← H.len]; exact hlt
    refine ⟨by rw [List.length_set]; exact hg.len, fun i a r ha hr => ?_, by rw [sumI_set hs, hg.sum]; omega, fun i j a r ei d ej ha hr hei hd hej hlt2 hpos => ?_⟩
    · rw [List.getElem?_set] at ha
      split at ha
      · rename_i h9; subst h9
        rw [hrb] at hr; cases hr
        first
        | (rw [if_pos hlen] at ha; cases ha; omega)
        | (cases ha; omega)
      · exact hg.bd i a r ha hr
    · rw [List.getElem?_set] at ha hd
      by_cases hi : b = i
      · subst hi
        rw [he] at hei; cases hei
        -- something dearer than b is taken: not before b is full
        by_cases hj : b = j
        · subst hj; rw [he] at hej; cases hej; omega
        · rw [if_neg hj] at hd
          have := hg.fst b j _ rb eb d ej hs hrb he hd hej hlt2 hpos
          omega
      · rw [if_neg hi] at ha
        by_cases hj : b = j
        · subst hj
          rw [he] at hej; cases hej
          -- what is cheaper than b has nothing left
          obtain ⟨li, hli⟩ : ∃ l, lf[i]? = some l := ⟨_, List.getElem?_eq_getElem (by have := (List.getElem?_eq_some_iff.1 hr).1; rw [H.len]; exact this)⟩
          have h8 := subL_get hr hli
          rw [ha] at h8
          have h7 := Option.some.inj h8
          have h6 := H.nn li (List.mem_of_getElem? hli)
          by_cases h5 : 0 < li
          · have := hmin i li ei hli h5 hei; omega
          · omega
        · rw [if_neg hj] at hd
          exact hg.fst i j a r ei d ej ha hr hei hd hej hlt2 hpos
  · have := sumI_set (d := -(min need lb)) hb
    rw [show lb + -(min need lb) = lb - min need lb by omega] at this
    rw [this, H.sum]; omega
  · rcases List.mem_or_eq_of_mem_set ha with h | h
    · exact H.nn a h
    · subst h; omega
theorem LInv.some {room each lf : List Int} {need0 need : Int} (H : LInv room each need0 need lf) (hn : 0 < need) (hr : need0 ≤ sumI room) : ∃ (i : Nat) (a : Int), lf[i]? = some a ∧ 0 < a := by
  refine Classical.byContradiction fun hx => ?_
  have h0 : ∀ a ∈ lf, 0 ≤ a ∧ a ≤ 0 := fun a ha => by
    obtain ⟨i, hi⟩ := List.getElem?_of_mem ha
    refine ⟨H.nn a ha, ?_⟩
    by_cases h : 0 < a
    · exact absurd ⟨i, a, hi, h⟩ hx
    · omega
  have := (sumI_bd h0).2
  have := H.sum
  omega
theorem dot_bd {x e : List Int} (hx : ∀ a ∈ x, 0 ≤ a) (he : ∀ b ∈ e, -100000 ≤ b ∧ b ≤ 100000) : -100000 * sumI x ≤ dotI x e ∧ dotI x e ≤ 100000 * sumI x := by
  induction x generalizing e with
  | nil => simp [dotI, sumI]
  | cons a x ih =>
    have e1 : sumI (a :: x) = a + sumI x := by unfold sumI; simp
    have hx2 : ∀ y ∈ x, 0 ≤ y := fun y hy => hx y (List.mem_cons_of_mem _ hy)
    have ha := hx a List.mem_cons_self
    have hs := sumI_nn hx2
    cases e with
    | nil => rw [e1]; have : dotI (a :: x) [] = 0 := rfl; rw [this]; omega
    | cons b e =>
      have := ih (e := e) hx2 fun y hy => he y (List.mem_cons_of_mem _ hy)
      have hb := he b List.mem_cons_self
      have m1 := Int.mul_le_mul_of_nonneg_left hb.1 ha
      have m2 := Int.mul_le_mul_of_nonneg_left hb.2 ha
      rw [e1, dot_cons]; omega
end Go.Proofs.Ytpefpafijadfmaa

/-
  The yield of some draws, as the document sums it.
-/
set_option linter.all false
namespace Go.Proofs.Ytpefpafijadfmaa
open Go Go.H
open Classical in
noncomputable def gval (room each : List Int) (need : Int) : Int := if h : ∃ x, Greedy room each need x then dotI h.choose each else 0
theorem gval_eq {room each x : List Int} {need : Int} (he : each.length = room.length) (h : Greedy room each need x) : dotI x each = gval room each need := by
  have hx : ∃ x, Greedy room each need x := ⟨x, h⟩
  unfold gval
  rw [dif_pos hx]
  exact greedy_same he h hx.choose_spec
theorem gval_bd {room each : List Int} {need : Int} (he : each.length = room.length) (heb : ∀ b ∈ each, -100000 ≤ b ∧ b ≤ 100000) (hn : 0 ≤ need) : -100000 * need ≤ gval room each need ∧ gval room each need ≤ 100000 * need := by
  by_cases hx : ∃ x, Greedy room each need x
  · obtain ⟨x, h⟩ := hx
    have h2 : ∀ a ∈ x, 0 ≤ a := fun a ha => by
      obtain ⟨i, hi⟩ := List.getElem?_of_mem ha
      obtain ⟨r, hr⟩ : ∃ r, room[i]? = some r := ⟨_, List.getElem?_eq_getElem (by have := (List.getElem?_eq_some_iff.1 hi).1; rw [h.len] at this; exact this)⟩
      exact (h.bd i a r hi hr).1
    have := dot_bd h2 heb
    rw [h.sum, gval_eq he h] at this
    exact this
  · unfold gval; rw [dif_neg hx]; omega
theorem taken_app (a b : List (List Int)) (j : Nat) : takenR (a ++ b) j = takenR a j + takenR b j := by
  unfold takenR; rw [List.map_append, List.sum_append_int]
theorem taken_part {vs : List (List Int)} (h : ∀ v ∈ vs, ∀ x ∈ v, 0 ≤ x ∧ x ≤ 1048576) (f n j : Nat) : 0 ≤ takenR ((vs.drop f).take n) j ∧ takenR ((vs.drop f).take n) j ≤ takenR vs j := by
  have e1 := taken_app (vs.take f) (vs.drop f) j
  have e2 := taken_app ((vs.drop f).take n) ((vs.drop f).drop n) j
  rw [List.take_append_drop] at e1 e2
  have b1 := taken_bd (prev := vs.take f) (fun v hv => h v (List.mem_of_mem_take hv)) j
  have b2 := taken_bd (prev := (vs.drop f).take n) (fun v hv => h v (List.mem_of_mem_drop (List.mem_of_mem_take hv))) j
  have b3 := taken_bd (prev := (vs.drop f).drop n) (fun v hv => h v (List.mem_of_mem_drop (List.mem_of_mem_drop hv))) j
  omega
def lows (y : Yard) (w : Int) : List Int := y.coals.map fun c => (ofF c w).lo
def highs (y : Yard) (w : Int) : List Int := y.coals.map fun c => -(ofF c w).hi
noncomputable def yLo (y : Yard) (w : Int) (need : Nat → Int) : Nat → Int
  | 0 => 0
  | j + 1 => yLo y w need j + gval (contE y j) (lows y w) (need j)
noncomputable def yHi (y : Yard) (w : Int) (need : Nat → Int) : Nat → Int
  | 0 => 0
  | j + 1 => yHi y w need j - gval (contE y j) (highs y w) (need j)
theorem ofF_ok {c : Coal} {w : Int} (h : coalOk c) (h0 : 0 ≤ w) (h1 : w ≤ 3) : spanOk (ofF c w) := by
  have hm := List.mem_of_getElem? (ofL_get (c := c) h0 h1)
  unfold ofL at hm
  simp only [List.mem_cons, List.not_mem_nil, or_false] at hm
  obtain ⟨a, b, d, e⟩ := h
  rcases hm with q | q | q | q <;> rw [q] <;> assumption
theorem lows_bd {y : Yard} {w : Int} (h : CoalsOk y.coals) (h0 : 0 ≤ w) (h1 : w ≤ 3) : ∀ b ∈ lows y w, -100000 ≤ b ∧ b ≤ 100000 := fun b hb => by
  obtain ⟨c, hc, rfl⟩ := List.mem_map.1 hb
  obtain ⟨a, d, e⟩ := ofF_ok (h c hc) h0 h1
  omega
theorem highs_bd {y : Yard} {w : Int} (h : CoalsOk y.coals) (h0 : 0 ≤ w) (h1 : w ≤ 3) : ∀ b ∈ highs y w, -100000 ≤ b ∧ b ≤ 100000 := fun b hb => by
  obtain ⟨c, hc, rfl⟩ := List.mem_map.1 hb
  obtain ⟨a, d, e⟩ := ofF_ok (h c hc) h0 h1
  omega
theorem lows_len (y : Yard) (w : Int) : (lows y w).length = y.coals.length := by simp [lows]
theorem highs_len (y : Yard) (w : Int) : (highs y w).length = y.coals.length := by simp [highs]
def needF (vs : List (List Int)) (f t : Int) (j : Nat) : Int := takenR ((vs.drop f.toNat).take (t.toNat + 1 - f.toNat)) j
noncomputable def yieldA (y : Yard) (f t w : Int) : Span × Int :=
  if GoodYard y then (match vecsR y with
    | none => (⟨0, 0⟩, 10)
    | some vs => if (0 ≤ f ∧ f ≤ t ∧ t < (vs.length : Int)) ∧ 0 ≤ w ∧ w ≤ 3 then (⟨yLo y w (needF vs f t) (opn y.moves).1, yHi y w (needF vs f t) (opn y.moves).1⟩, 0) else (⟨0, 0⟩, 2)) else (⟨0, 0⟩, 1)
section
variable {y : Yard} {f t w : Int} {vs : List (List Int)}
theorem yieldA_1 (h : ¬ GoodYard y) : yieldA y f t w = (⟨0, 0⟩, 1) := by unfold yieldA; exact if_neg h
theorem yieldA_10 (h : GoodYard y) (h2 : vecsR y = none) : yieldA y f t w = (⟨0, 0⟩, 10) := by unfold yieldA; rw [if_pos h, h2]
theorem yieldA_2 (h : GoodYard y) (h2 : vecsR y = some vs) (h3 : ¬ ((0 ≤ f ∧ f ≤ t ∧ t < (vs.length : Int)) ∧ 0 ≤ w ∧ w ≤ 3)) : yieldA y f t w = (⟨0, 0⟩, 2) := by unfold yieldA; rw [if_pos h, h2]; exact if_neg h3
theorem yieldA_0 (h : GoodYard y) (h2 : vecsR y = some vs) (h3 : (0 ≤ f ∧ f ≤ t ∧ t < (vs.length : Int)) ∧ 0 ≤ w ∧ w ≤ 3) : yieldA y f t w = (⟨yLo y w (needF vs f t) (opn y.moves).1, yHi y w (needF vs f t) (opn y.moves).1⟩, 0) := by unfold yieldA; rw [if_pos h, h2]; exact if_pos h3
end
end Go.Proofs.Ytpefpafijadfmaa

/-
  What some draws take of each layer together; what the program's parts yields.
-/
set_option linter.all false
namespace Go.Proofs.Ytpefpafijadfmaa
open Go Go.H
theorem ShedV.part {h : Hp} {y : Yard} {vs : List (List Int)} {b : Nat} {la : Option Addr} {lc : Nat} {bs : List Nat} {da : Option Addr} {dc : Nat} {ds : List PH} (H : ShedV h y vs b la lc bs da dc ds) {i : Nat} {z : PH} (hz : ds[i]? = some z) : ∃ v, vs[i]? = some v ∧ z.m = nzF (fun i => v.getD i 0) (opn y.moves).1 := by
  have h1 : (ds.map PH.m)[i]? = some z.m := by rw [List.getElem?_map, hz]; rfl
  rw [H.are, List.getElem?_map] at h1
  cases hv : vs[i]? with
  | none => rw [hv] at h1; cases h1
  | some v => rw [hv] at h1; exact ⟨v, rfl, (Option.some.inj h1).symm⟩
theorem ShedV.cnt {h : Hp} {y : Yard} {vs : List (List Int)} {b : Nat} {la : Option Addr} {lc : Nat} {bs : List Nat} {da : Option Addr} {dc : Nat} {ds : List PH} (H : ShedV h y vs b la lc bs da dc ds) : ds.length = vs.length := by
  have := congrArg List.length H.are
  simpa using this
def addP (l : List Part) (i : Nat) : Int := (l.map fun p => if p.layer = (i : Int) then p.tons else 0).sum
theorem addP_take {l : List Part} {k i : Nat} {p : Part} (h : l[k]? = some p) : addP (l.take (k + 1)) i = addP (l.take k) i + if p.layer = (i : Int) then p.tons else 0 := by
  unfold addP; rw [List.take_add_one, h, List.map_append, List.sum_append_int]; simp
theorem addP_nil (i : Nat) : addP [] i = 0 := rfl
theorem addP_app (a b : List Part) (i : Nat) : addP (a ++ b) i = addP a i + addP b i := by unfold addP; rw [List.map_append, List.sum_append_int]
theorem addP_nn {l : List Part} (h : ∀ p ∈ l, 0 ≤ p.tons) (i : Nat) : 0 ≤ addP l i := by
  refine sumI_nn fun x hx => ?_
  obtain ⟨p, hp, rfl⟩ := List.mem_map.1 hx
  split
  · exact h p hp
  · exact Int.le_refl _
theorem addP_bd {l : List Part} (h : ∀ p ∈ l, 0 ≤ p.tons) (i k : Nat) : 0 ≤ addP (l.take k) i ∧ addP (l.take k) i ≤ addP l i := by
  have h1 := addP_nn (l := l.take k) (fun p hp => h p (List.mem_of_mem_take hp)) i
  have h2 := addP_nn (l := l.drop k) (fun p hp => h p (List.mem_of_mem_drop hp)) i
  have h3 := addP_app (l.take k) (l.drop k) i
  rw [List.take_append_drop] at h3
  omega
theorem addP_nz {f : Nat → Int} (h : ∀ j, 0 ≤ f j) (i : Nat) : ∀ L, addP (nzF f L) i = if i < L then f i else 0
  | 0 => rfl
  | L + 1 => by
    have ih := addP_nz h i L
    have hf := h L
    rw [nzF_succ]
    by_cases hp : f L > 0
    · rw [if_pos hp, addP_app, ih]
      have e : addP [⟨(L : Int), f L⟩] i = if (L : Int) = (i : Int) then f L else 0 := by simp [addP]
      rw [e]
      by_cases hi : i < L
      · rw [if_pos hi, if_neg (by omega), if_pos (by omega)]; omega
      · by_cases he : i = L
        · subst he; rw [if_neg hi, if_pos rfl, if_pos (by omega)]; omega
        · rw [if_neg hi, if_neg (by omega), if_neg (by omega)]; rfl
    · rw [if_neg hp, ih]
      by_cases hi : i < L
      · rw [if_pos hi, if_pos (by omega)]
      · by_cases he : i = L
        · subst he; rw [if_neg hi, if_pos (by omega)]; omega
        · rw [if_neg hi, if_neg (by omega)]
theorem nzF_mem {f : Nat → Int} {L : Nat} {p : Part} (h : p ∈ nzF f L) : 0 < p.tons ∧ 0 ≤ p.layer ∧ p.layer < (L : Int) ∧ p.tons = f p.layer.toNat := by
  unfold nzF at h
  rw [List.mem_filterMap] at h
  obtain ⟨j, hj, he⟩ := h
  rw [List.mem_range] at hj
  split at he
  · cases he; exact ⟨by assumption, by dsimp only; omega, by dsimp only; omega, rfl⟩
  · cases he
def tkV (L : Nat) (us : List (List Int)) (l : List Part) : List Int := (List.range L).map fun i => takenR us i + addP l i
theorem tkV_len (L : Nat) (us : List (List Int)) (l : List Part) : (tkV L us l).length = L := by simp [tkV]
theorem tkV_get {L : Nat} {us : List (List Int)} {l : List Part} {i : Nat} (h : i < L) : (tkV L us l)[i]? = some (takenR us i + addP l i) := by simp [tkV, h]
theorem tkV_set {L : Nat} {us : List (List Int)} {l : List Part} {k i : Nat} {p : Part} (hp : l[k]? = some p) (he : p.layer = (i : Int)) (h : i < L) : (tkV L us (l.take k)).set i (takenR us i + addP (l.take k) i + p.tons) = tkV L us (l.take (k + 1)) := by
  refine List.ext_getElem? fun j => ?_
  rw [List.getElem?_set]
  by_cases hj : j < L
  · rw [tkV_get hj, tkV_get hj, addP_take hp]
    by_cases hi : i = j
    · subst hi; rw [if_pos rfl, if_pos (by rw [tkV_len]; omega), if_pos he, Int.add_assoc]
    · rw [if_neg hi, if_neg (by omega), Int.add_zero]
  · have : ¬ i = j := by omega
    rw [if_neg this, List.getElem?_eq_none (by rw [tkV_len]; omega), List.getElem?_eq_none (by rw [tkV_len]; omega)]
theorem tkV_next {L k : Nat} {us : List (List Int)} {v : List Int} (h : us[k]? = some v) (hl : v.length = L) (hn : ∀ x ∈ v, 0 ≤ x) : tkV L (us.take k) (nzF (fun i => v.getD i 0) L) = tkV L (us.take (k + 1)) [] := by
  refine List.map_congr_left fun i hi => ?_
  rw [List.mem_range] at hi
  rw [addP_nz (fun j => by
    rw [List.getD_eq_getElem?_getD]
    cases hg : v[j]? with
    | none => simp
    | some y => simpa using hn y (List.mem_of_getElem? hg)), if_pos hi, taken_take h, addP_nil, Int.add_zero]
theorem tkV_0 (L : Nat) : tkV L [] [] = List.replicate L 0 := by
  refine List.eq_replicate_iff.2 ⟨tkV_len _ _ _, fun x hx => ?_⟩
  simp only [tkV, List.mem_map] at hx
  obtain ⟨i, _, rfl⟩ := hx
  rfl
/-- What parts yields of the first layers. -/
def partsN (y : Yard) (us : List (List Int)) (i : Nat) : List (List Int × Int) := (List.range i).filterMap fun j => if takenR us j > 0 then some (contF 6 (y.moves.take y.moves.length) (j : Int), takenR us j) else none
def partsL (y : Yard) (us : List (List Int)) : List (List Int × Int) := partsN y us (opn y.moves).1
def ePc (z : List Int × Int) : List Value := [.agg ⟨z.1.flatMap eI⟩, I z.2]
theorem partsN_succ (y : Yard) (us : List (List Int)) (j : Nat) : partsN y us (j + 1) = if takenR us j > 0 then partsN y us j ++ [(contF 6 (y.moves.take y.moves.length) (j : Int), takenR us j)] else partsN y us j := by
  unfold partsN
  rw [List.range_succ, List.filterMap_append]
  by_cases h : takenR us j > 0 <;> simp [h]
theorem partsN_more (y : Yard) (us : List (List Int)) (j : Nat) : ∀ d, ∃ r, partsN y us (j + d) = partsN y us j ++ r
  | 0 => ⟨[], by simp⟩
  | d + 1 => by
    obtain ⟨r, hr⟩ := partsN_more y us j d
    rw [← Nat.add_assoc, partsN_succ, hr]
    split
    · exact ⟨r ++ [_], by rw [List.append_assoc]⟩
    · exact ⟨r, rfl⟩
theorem partsN_at {y : Yard} {us : List (List Int)} {j : Nat} (h : takenR us j > 0) (hj : j < (opn y.moves).1) : (partsL y us)[(partsN y us j).length]? = some (contF 6 (y.moves.take y.moves.length) (j : Int), takenR us j) := by
  obtain ⟨r, hr⟩ := partsN_more y us (j + 1) ((opn y.moves).1 - (j + 1))
  rw [show j + 1 + ((opn y.moves).1 - (j + 1)) = (opn y.moves).1 by omega] at hr
  unfold partsL
  rw [hr, partsN_succ, if_pos h, List.append_assoc, List.getElem?_append_right (Nat.le_refl _), Nat.sub_self]; rfl
theorem partsN_lenS {y : Yard} {us : List (List Int)} {j : Nat} (h : takenR us j > 0) : (partsN y us (j + 1)).length = (partsN y us j).length + 1 := by rw [partsN_succ, if_pos h]; simp
theorem partsN_eq {y : Yard} {us : List (List Int)} {j : Nat} (h : ¬ takenR us j > 0) : partsN y us (j + 1) = partsN y us j := by rw [partsN_succ, if_neg h]
/-- A part of the draws. -/
structure SubV (core : Hp) (y : Yard) (us : List (List Int)) (a : Option Addr) (es : List PH) : Prop where
  sl : SlV core 1 ePH a es
  parts : ∀ z ∈ es, SlV core 2 ePart z.a z.m
  are : es.map PH.m = us.map fun v => nzF (fun i => v.getD i 0) (opn y.moves).1
  len : ∀ v ∈ us, v.length = (opn y.moves).1
  bd : ∀ v ∈ us, ∀ x ∈ v, 0 ≤ x ∧ x ≤ 1048576
  few : us.length ≤ 32
  lay : (opn y.moves).1 ≤ 32
theorem SubV.part {core : Hp} {y : Yard} {us : List (List Int)} {a : Option Addr} {es : List PH} (H : SubV core y us a es) {i : Nat} {z : PH} (hz : es[i]? = some z) : ∃ v, us[i]? = some v ∧ z.m = nzF (fun i => v.getD i 0) (opn y.moves).1 := by
  have h1 : (es.map PH.m)[i]? = some z.m := by rw [List.getElem?_map, hz]; rfl
  rw [H.are, List.getElem?_map] at h1
  cases hv : us[i]? with
  | none => rw [hv] at h1; cases h1
  | some v => rw [hv] at h1; exact ⟨v, rfl, (Option.some.inj h1).symm⟩
theorem SubV.cnt {core : Hp} {y : Yard} {us : List (List Int)} {a : Option Addr} {es : List PH} (H : SubV core y us a es) : es.length = us.length := by
  have := congrArg List.length H.are
  simpa using this
end Go.Proofs.Ytpefpafijadfmaa

/-
  Walks.
-/
namespace Go.Proofs.Ytpefpafijadfmaa
open Go Go.H
set_option maxRecDepth 100000
set_option maxHeartbeats 8000000
set_option linter.all false
theorem Drawn_c {y : Yard} {h : Hp} {R : Ending → Hp → Prop} (hy : YardV h y) (hs : Small y) {draw : Int} (H : ∀ a c G, SlV G 2 ePart a (drawnA y draw).1 → R (.returned (.tuple ⟨[.slice a (drawnA y draw).1.length c, I (drawnA y draw).2]⟩)) (G ++ h)) : ACalls Try.prog 19 ⟨[.agg ⟨eYard y⟩, I draw]⟩ h R := by
  refine calls_of_xc (N := 34) Try.func19 rfl (by rfl) ?_
  obtain ⟨hs1, hs2⟩ := id hs
  refine xc_seq (xc_region ?_)
  refine xr_op rfl rfl (xv_box rfl (fun b2 hb2 => ?_))
  refine xr_op rfl rfl (xv_assign rfl ?_)
  refine xr_op rfl rfl (xv_assign rfl ?_)
  refine xr_end rfl ?_
  refine th_n ?_
  refine xc_seq (xc_region ?_)
  refine xr_op rfl rfl (xv_loadA ty25 rfl rfl (by ((repeat first|exact z_0|assumption|refine z_1 ?_|(refine z_l ?_;(repeat first|exact z_0|assumption|refine z_1 ?_);done)|refine z_r ?_);done)) (by ((try apply evl_some rfl);(repeat (first|exact (rfl : _ = [])|apply evl_cons rfl (by (first|exact v_1|exact v_2|exact v_3|exact v_4|exact v_5|exact v_6|exact v_7|exact v_8|exact v_9|exact rfl))|exact rfl)))) (by rfl) ?_)
  refine xr_op rfl rfl (xv_calls rfl hb30 (newShed_c (hy.sub (by intro z hz; ((repeat first|exact z_0|assumption|refine z_1 ?_|(refine z_l ?_;(repeat first|exact z_0|assumption|refine z_1 ?_);done)|refine z_r ?_);done))) hs (fun hng => up_ret ?_) (fun hgy hpn => up_ret ?_) (fun vs b la lc bs da dc ds G hgy hvs hsh => up_ret ?_)))
  · refine xr_op rfl rfl (xv_move rfl ?_)
    refine xr_op rfl rfl (xv_extract rfl rfl ?_)
    refine xr_op rfl rfl (xv_extract rfl rfl ?_)
    refine xr_op rfl rfl (xv_assign rfl ?_)
    refine xr_op rfl rfl (xv_assign rfl ?_)
    refine xr_end rfl ?_
    refine th_n ?_
    refine xc_seq ?_
    refine xc_block ?_
    refine xc_seq (xc_region ?_)
    refine xr_op rfl rfl (xv_move rfl ?_)
    refine xr_op rfl rfl (xv_neqT rfl rfl (by decide) ?_)
    refine xr_op rfl rfl (xv_assign rfl ?_)
    refine xr_end rfl ?_
    refine th_n ?_
    refine xc_true rfl ?_
    refine xc_seq (xc_region ?_)
    refine xr_op rfl rfl (xv_move rfl ?_)
    refine xr_op rfl rfl (xv_assign rfl ?_)
    refine xr_op rfl rfl (xv_assign rfl ?_)
    refine xr_end rfl ?_
    refine th_n ?_
    refine xc_ret ?_
    refine bk_r ?_
    refine th_r ?_
    refine body_ret (h' := ([] ++ h)) rfl (ro_tmp rfl (ro_tmp rfl ro_nil)) (by (first|((repeat first|exact s_0|exact s_1|exact s_3|refine s_4 ?_|refine s_5 ?_|refine s_6 ?_|refine s_7 ?_);done)|((repeat first|exact s_0|exact s_1|exact s_3|refine s_4 ?_|refine s_5 ?_|refine s_6 ?_|refine s_8 ?_);done))) ?_
    first | (rw [eans] at H; exact H xw.a xw.c G (hsh.parts xw (List.mem_of_getElem? hkw))) | (rw [drawnA_1 hng] at H; exact H none 0 [] (.inl rfl)) | (rw [drawnA_10 hgy hpn] at H; exact H none 0 [] (.inl rfl)) | (rw [drawnA_2 hgy hvs (by omega)] at H; exact H none 0 [] (.inl rfl))
  · refine xr_op rfl rfl (xv_move rfl ?_)
    refine xr_op rfl rfl (xv_extract rfl rfl ?_)
    refine xr_op rfl rfl (xv_extract rfl rfl ?_)
    refine xr_op rfl rfl (xv_assign rfl ?_)
    refine xr_op rfl rfl (xv_assign rfl ?_)
    refine xr_end rfl ?_
    refine th_n ?_
    refine xc_seq ?_
    refine xc_block ?_
    refine xc_seq (xc_region ?_)
    refine xr_op rfl rfl (xv_move rfl ?_)
    refine xr_op rfl rfl (xv_neqT rfl rfl (by decide) ?_)
    refine xr_op rfl rfl (xv_assign rfl ?_)
    refine xr_end rfl ?_
    refine th_n ?_
    refine xc_true rfl ?_
    refine xc_seq (xc_region ?_)
    refine xr_op rfl rfl (xv_move rfl ?_)
    refine xr_op rfl rfl (xv_assign rfl ?_)
    refine xr_op rfl rfl (xv_assign rfl ?_)
    refine xr_end rfl ?_
    refine th_n ?_
    refine xc_ret ?_
    refine bk_r ?_
    refine th_r ?_
    refine body_ret (h' := ([] ++ h)) rfl (ro_tmp rfl (ro_tmp rfl ro_nil)) (by (first|((repeat first|exact s_0|exact s_1|exact s_3|refine s_4 ?_|refine s_5 ?_|refine s_6 ?_|refine s_7 ?_);done)|((repeat first|exact s_0|exact s_1|exact s_3|refine s_4 ?_|refine s_5 ?_|refine s_6 ?_|refine s_8 ?_);done))) ?_
    first | (rw [eans] at H; exact H xw.a xw.c G (hsh.parts xw (List.mem_of_getElem? hkw))) | (rw [drawnA_1 hng] at H; exact H none 0 [] (.inl rfl)) | (rw [drawnA_10 hgy hpn] at H; exact H none 0 [] (.inl rfl)) | (rw [drawnA_2 hgy hvs (by omega)] at H; exact H none 0 [] (.inl rfl))
  · refine xr_op rfl rfl (xv_move rfl ?_)
    refine xr_op rfl rfl (xv_extract rfl rfl ?_)
    refine xr_op rfl rfl (xv_extract rfl rfl ?_)
    refine xr_op rfl rfl (xv_assign rfl ?_)
    refine xr_op rfl rfl (xv_assign rfl ?_)
    refine xr_end rfl ?_
    refine th_n ?_
    refine xc_seq ?_
    refine xc_block ?_
    refine xc_seq (xc_region ?_)
    refine xr_op rfl rfl (xv_move rfl ?_)
    refine xr_op rfl rfl (xv_neqF rfl rfl rfl ?_)
    refine xr_op rfl rfl (xv_assign rfl ?_)
    refine xr_end rfl ?_
    refine th_n ?_
    refine xc_false rfl ?_
    refine xc_seq (xc_region ?_)
    have hcn := hsh.cnt
    have hml := hsh.inv.few
    have hyl : y.moves.length ≤ 32 := hgy.2.2.2
    refine xr_op rfl rfl (xv_move rfl ?_)
    refine xr_op rfl rfl (xv_move rfl ?_)
    refine xr_op rfl rfl (xv_nilp rfl ?_)
    refine xr_op rfl rfl (xv_faddr fl73_2 rfl ?_)
    refine xr_op rfl rfl (xv_load1 ty71 rfl rfl (z_l hsh.top) (by rfl) ?_)
    refine xr_op rfl rfl (xv_len sl71 rfl ?_)
    refine xr_op rfl rfl (xv_sub rfl rfl (wrap_i64 (by (first | omega | (dsimp only at *; omega) | (simp at *; omega))) (by (first | omega | (dsimp only at *; omega) | (simp at *; omega)))) ?_)
    refine xr_op rfl rfl (xv_calls rfl hb31 (within_c _ _ _ (fun hl1 hu2 => up_ret ?_) (fun hn3 => up_ret ?_)))
    · refine xr_op rfl rfl (xv_not rfl ?_)
      refine xr_op rfl rfl (xv_assign rfl ?_)
      refine xr_end rfl ?_
      refine th_n ?_
      refine xc_false rfl ?_
      refine xc_skip ?_
      refine bk_n ?_
      refine th_n ?_
      refine xc_seq (xc_region ?_)
      have hdn : draw.toNat < ds.length := by (first | omega | (dsimp only at *; omega) | (simp at *; omega))
      have hltw : draw.toNat < ds.length := hdn
      obtain ⟨bw, ow, lw, tw, fzw, haw, hmw, hxw⟩ := (hsh.draws).at hltw
      obtain ⟨xw, hkw⟩ : ∃ qq_, ds[draw.toNat]? = some qq_ := ⟨_, List.getElem?_eq_getElem hltw⟩
      obtain ⟨v, hv, hvm⟩ := hsh.part hkw
      have eans := drawnA_0 (draw := draw) hgy hvs (by omega)
      rw [show vs.getD draw.toNat [] = v from by rw [List.getD_eq_getElem?_getD, hv]; rfl, ← hvm] at eans
      refine xr_op rfl rfl (xv_move rfl ?_)
      refine xr_op rfl rfl (xv_nilp rfl ?_)
      refine xr_op rfl rfl (xv_faddr fl73_2 rfl ?_)
      refine xr_op rfl rfl (xv_load1 ty71 rfl rfl (z_l hsh.top) (by rfl) ?_)
      refine xr_op rfl rfl (xv_move rfl ?_)
      refine xr_op rfl rfl (xv_ia (sz := 1) (j := draw.toNat) sl71 ty39 rfl (by rw [haw]; rfl) rfl (by (first | assumption | with_reducible exact Int.toNat_natCast _ | with_reducible rfl | rfl)) (by (first | omega | (dsimp only at *; omega) | (simp at *; omega))) (by (first | omega | (dsimp only at *; omega) | (simp at *; omega))) ?_)
      refine xr_op rfl rfl (xv_load1 ty39 rfl rfl (by ((repeat first|exact z_0|assumption|refine z_1 ?_|(refine z_l ?_;(repeat first|exact z_0|assumption|refine z_1 ?_);done)|refine z_r ?_);done)) (take_get (hxw (draw.toNat) xw hkw) (j := 0) rfl) ?_)
      refine xr_op rfl rfl (xv_assign rfl ?_)
      refine xr_op rfl rfl (xv_assign rfl ?_)
      refine xr_end rfl ?_
      refine th_n ?_
      refine xc_ret ?_
      refine body_ret (h' := (G ++ h)) rfl (ro_tmp rfl (ro_tmp rfl ro_nil)) (by (first|((repeat first|exact s_0|exact s_1|exact s_3|refine s_4 ?_|refine s_5 ?_|refine s_6 ?_|refine s_7 ?_);done)|((repeat first|exact s_0|exact s_1|exact s_3|refine s_4 ?_|refine s_5 ?_|refine s_6 ?_|refine s_8 ?_);done))) ?_
      first | (rw [eans] at H; exact H xw.a xw.c G (hsh.parts xw (List.mem_of_getElem? hkw))) | (rw [drawnA_1 hng] at H; exact H none 0 [] (.inl rfl)) | (rw [drawnA_10 hgy hpn] at H; exact H none 0 [] (.inl rfl)) | (rw [drawnA_2 hgy hvs (by omega)] at H; exact H none 0 [] (.inl rfl))
    · refine xr_op rfl rfl (xv_not rfl ?_)
      refine xr_op rfl rfl (xv_assign rfl ?_)
      refine xr_end rfl ?_
      refine th_n ?_
      refine xc_true rfl ?_
      refine xc_seq (xc_region ?_)
      refine xr_op rfl rfl (xv_assign rfl ?_)
      refine xr_op rfl rfl (xv_assign rfl ?_)
      refine xr_end rfl ?_
      refine th_n ?_
      refine xc_ret ?_
      refine bk_r ?_
      refine th_r ?_
      refine body_ret (h' := ([] ++ h)) rfl (ro_tmp rfl (ro_tmp rfl ro_nil)) (by (first|((repeat first|exact s_0|exact s_1|exact s_3|refine s_4 ?_|refine s_5 ?_|refine s_6 ?_|refine s_7 ?_);done)|((repeat first|exact s_0|exact s_1|exact s_3|refine s_4 ?_|refine s_5 ?_|refine s_6 ?_|refine s_8 ?_);done))) ?_
      first | (rw [eans] at H; exact H xw.a xw.c G (hsh.parts xw (List.mem_of_getElem? hkw))) | (rw [drawnA_1 hng] at H; exact H none 0 [] (.inl rfl)) | (rw [drawnA_10 hgy hpn] at H; exact H none 0 [] (.inl rfl)) | (rw [drawnA_2 hgy hvs (by omega)] at H; exact H none 0 [] (.inl rfl))

end Go.Proofs.Ytpefpafijadfmaa
