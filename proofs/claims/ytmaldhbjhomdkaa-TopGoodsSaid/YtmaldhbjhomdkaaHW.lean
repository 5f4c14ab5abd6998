/-
  The blend of a draw, as the document sums it.
-/
import Derived.Test.YtmaldhbjhomdkaaCoalP12
import Derived.Test.YtmaldhbjhomdkaaHT
set_option linter.all false
namespace Go.Proofs.Ytmaldhbjhomdkaa.Coal
open Go Go.H
def bLo (v : Nat → Int) (ct : Nat → List Int) (i : Nat) : Nat → Int
  | 0 => 0
  | j + 1 => bLo v ct i j + max 0 (v j - (sumI (ct j) - (ct j).getD i 0))
def bHi (v : Nat → Int) (ct : Nat → List Int) (i : Nat) : Nat → Int
  | 0 => 0
  | j + 1 => bHi v ct i j + min (v j) ((ct j).getD i 0)
def bSp (v : Nat → Int) (ct : Nat → List Int) (j i : Nat) : Span := ⟨bLo v ct i j, bHi v ct i j⟩
theorem getD_bd {l : List Int} {B : Int} (hB : 0 ≤ B) (h : ∀ x ∈ l, 0 ≤ x ∧ x ≤ B) (i : Nat) : 0 ≤ l.getD i 0 ∧ l.getD i 0 ≤ B := by
  rw [List.getD_eq_getElem?_getD]
  cases hg : l[i]? with
  | none => simpa using hB
  | some y => simpa using h y (List.mem_of_getElem? hg)
theorem getD_sum {l : List Int} (h : ∀ x ∈ l, 0 ≤ x) (i : Nat) : l.getD i 0 ≤ sumI l := by
  unfold sumI
  induction l generalizing i with
  | nil => simp
  | cons x l ih =>
    have hx := h x List.mem_cons_self
    have hl := sumI_nn (l := l) fun y hy => h y (List.mem_cons_of_mem _ hy)
    unfold sumI at hl
    rw [List.sum_cons]
    cases i with
    | zero => simp; omega
    | succ i => have := ih (fun y hy => h y (List.mem_cons_of_mem _ hy)) i; simp at this ⊢; omega
def contE (y : Yard) (j : Nat) : List Int := contF y.coals.length (y.moves.take y.moves.length) (j : Int)
section
variable {y : Yard} {draw : Int} {vs : List (List Int)}
end
theorem contE_len (y : Yard) (j : Nat) : (contE y j).length = y.coals.length := contF_len _ _ _
end Go.Proofs.Ytmaldhbjhomdkaa.Coal

/-
  A yard that was played: the blocks of its layers, the parts of its draws.
-/
set_option linter.all false
namespace Go.Proofs.Ytmaldhbjhomdkaa.Coal
open Go Go.H
structure PH where
  a : Option Addr
  m : List Part
  c : Nat
def ePH (z : PH) : List Value := [.slice z.a z.m.length z.c]
theorem ePH_len (z : PH) : (ePH z).length = 1 := rfl
def eLp (b : Nat) : List Value := [.pointer (some ⟨b, 0, none⟩)]
theorem eLp_len (b : Nat) : (eLp b).length = 1 := rfl
def layHp (bs : List Nat) (f : Nat → List Value) : Hp := (bs.zipIdx.map fun z => (z.1, Obj.cells ⟨f z.2⟩ 100 (0, 0))).reverse
theorem layHp_snoc (bs : List Nat) (b : Nat) (f : Nat → List Value) : layHp (bs ++ [b]) f = (b, .cells ⟨f bs.length⟩ 100 (0, 0)) :: layHp bs f := by
  simp [layHp, List.zipIdx_append]
theorem layHp_congr {bs : List Nat} {f g : Nat → List Value} (h : ∀ i, i < bs.length → f i = g i) : layHp bs f = layHp bs g := by
  induction bs using snoc_ind with
  | h0 => rfl
  | h1 bs b ih =>
    rw [List.length_append, List.length_singleton] at h
    rw [layHp_snoc, layHp_snoc, h bs.length (by omega), ih fun i hi => h i (by omega)]
theorem layHp_upd {bs : List Nat} {f g : Nat → List Value} {i b : Nat} (hb : bs[i]? = some b) (h : ∀ j, j < bs.length → j ≠ i → g j = f j) : Upd (layHp bs f) b (.cells ⟨f i⟩ 100 (0, 0)) (.cells ⟨g i⟩ 100 (0, 0)) (layHp bs g) := by
  induction bs using snoc_ind with
  | h0 => simp at hb
  | h1 bs c ih =>
    rw [List.length_append, List.length_singleton] at h
    rw [layHp_snoc, layHp_snoc]
    by_cases hi : i < bs.length
    · rw [List.getElem?_append_left hi] at hb
      rw [h bs.length (by omega) (by omega)]
      exact .there (ih hb fun j hj hne => h j (by omega) hne)
    · have hlt := (List.getElem?_eq_some_iff.1 hb).1
      rw [List.length_append, List.length_singleton] at hlt
      obtain rfl : i = bs.length := by omega
      rw [List.getElem?_append_right (by omega), Nat.sub_self] at hb
      cases hb
      rw [layHp_congr (f := g) (g := f) fun j hj => h j (by omega) (by omega)]
      exact .here
theorem layHp_mem {bs : List Nat} {f : Nat → List Value} {i b : Nat} (hb : bs[i]? = some b) : (b, .cells ⟨f i⟩ 100 (0, 0)) ∈ layHp bs f := (layHp_upd (g := f) hb fun _ _ _ => rfl).mem
def layF (ms : List Move) (k : Nat) (lf : Nat → Int) (i : Nat) : List Value := (contF 6 (ms.take k) (i : Int)).flatMap eI ++ [I (lf i)]
section
variable {ms : List Move} {k o off : Nat} {lf lf' : Nat → Int} {v x : Int}
theorem layF_len : (layF ms k lf o).length = 7 := by unfold layF; rw [List.length_append, ints_len, contF_len]; rfl
theorem layF_get {c : Nat} (h : (contF 6 (ms.take k) (o : Int))[c]? = some v) (ho : off = c) : (layF ms k lf o)[off]? = some (I v) := by
  subst ho
  have hlt := (List.getElem?_eq_some_iff.1 h).1
  unfold layF
  rw [List.getElem?_append_left (by rw [ints_len]; exact hlt)]
  have := ints_get h
  simpa using this
theorem layF_left (ho : off = 6) : (layF ms k lf o)[off]? = some (I (lf o)) := by
  subst ho
  unfold layF
  rw [List.getElem?_append_right (by rw [ints_len, contF_len]; exact Nat.le_refl _), ints_len, contF_len]; rfl
theorem layF_set2 (ho : off = 6) (h : lf' o = x) : (layF ms k lf o).set off (I x) = layF ms k lf' o := by
  subst ho h
  unfold layF
  rw [List.set_append_right _ _ (by rw [ints_len, contF_len]; exact Nat.le_refl _), ints_len, contF_len]; rfl
theorem layF_set1 {m : Move} {c : Nat} (hk : ms[k]? = some m) (hc : m.coal ≠ -1) (hl : ((opn (ms.take (k + 1))).1 : Int) - 1 = (o : Int)) (hcc : m.coal.toNat = c) (hv : (contF 6 (ms.take k) (o : Int))[c]? = some v) (ho : off = c) : (layF ms k lf o).set off (I (v + m.tons)) = layF ms (k + 1) lf o := by
  subst ho hcc
  have hlt := (List.getElem?_eq_some_iff.1 hv).1
  unfold layF
  rw [contF_take hk, if_pos ⟨hc, hl⟩, List.set_append_left _ _ (by rw [ints_len]; exact hlt)]
  have := ints_setN (v := v + m.tons) hlt
  simp only [Nat.zero_add, Nat.mul_one] at this
  rw [this]
  congr 4
  rw [List.getD_eq_getElem?_getD, hv]; rfl
theorem layF_other {m : Move} {i : Nat} (hk : ms[k]? = some m) (hl : ((opn (ms.take (k + 1))).1 : Int) - 1 = (o : Int)) (hi : i ≠ o) : layF ms (k + 1) lf i = layF ms k lf i := by
  unfold layF
  rw [contF_take hk, if_neg (fun hq => hi (by have := hq.2; omega))]
theorem layF_drawn {m : Move} {i : Nat} (hk : ms[k]? = some m) (hc : m.coal = -1) (h : lf i = lf' i) : layF ms k lf i = layF ms (k + 1) lf' i := by
  unfold layF
  rw [contF_take hk, if_neg (fun hq => hq.1 hc), h]
end
theorem movesOk_le {n q : Nat} (h : n ≤ q) : ∀ {l : List Move} {last : Int}, movesOk n last l → movesOk q last l
  | [], _, _ => trivial
  | m :: l, _, ⟨⟨a, ⟨b, c⟩, d⟩, e⟩ => ⟨⟨a, ⟨b, by omega⟩, d⟩, movesOk_le h e⟩
theorem opn_pos (l : List Move) (h : 0 ≤ (opn l).2) : 1 ≤ (opn l).1 := by
  induction l using snoc_ind with
  | h0 => exact absurd h (by decide)
  | h1 l m ih =>
    rw [opn_snoc] at h ⊢
    unfold stepO at h ⊢
    split at h
    · dsimp only at h; omega
    · rename_i h1
      rw [if_neg h1]
      split at h
      · rename_i h2; rw [if_pos h2]; exact ih h
      · rename_i h2; rw [if_neg h2]; dsimp only; omega
theorem opn_takes (l : List Move) : ∀ d k : Nat, (opn (l.take k)).1 ≤ (opn (l.take (k + d))).1
  | 0, k => Nat.le_refl _
  | d + 1, k => by
    refine Nat.le_trans (opn_takes l d k) ?_
    rw [← Nat.add_assoc]
    cases h : l[k + d]? with
    | none => rw [List.take_add_one, h]; simp
    | some m => rw [List.take_add_one, h]; exact opn_mono _ m
theorem opn_all (l : List Move) (k : Nat) : (opn (l.take k)).1 ≤ (opn l).1 := by
  by_cases h : k ≤ l.length
  · have := opn_takes l (l.length - k) k
    rwa [show k + (l.length - k) = l.length by omega, List.take_length] at this
  · rw [List.take_of_length_le (by omega)]; exact Nat.le_refl _
theorem getD_none {v : List Int} {j : Nat} (h : v.length ≤ j) : v.getD j 0 = 0 := by rw [List.getD_eq_getElem?_getD, List.getElem?_eq_none h]; rfl
theorem taken_zero {prev : List (List Int)} {j L : Nat} (h : ∀ v ∈ prev, v.length = L) (hj : L ≤ j) : takenR prev j = 0 := by
  unfold takenR
  have : ∀ x ∈ prev.map (·.getD j 0), x = 0 := fun x hx => by
    obtain ⟨v, hv, rfl⟩ := List.mem_map.1 hx
    exact getD_none (by rw [h v hv]; exact hj)
  rw [List.eq_replicate_iff.2 ⟨rfl, this⟩]
  exact sumI_rep _
theorem room_zero {n k : Nat} {ms : List Move} {prev : List (List Int)} (H : PInv n ms (opn ms).1 k prev) {j : Nat} (hj : (opn (ms.take k)).1 ≤ j) : roomR n ms k prev j = 0 := by
  have hz : sumI (contF n (ms.take k) (j : Int)) = 0 := by rw [contF_zero _ (by omega)]; exact sumI_rep _
  have ht := taken_bd H.bd j
  by_cases hl : j < (opn ms).1
  · have := H.room j hl
    unfold roomR at *; omega
  · unfold roomR
    rw [hz, taken_zero H.len (by omega)]; rfl
theorem room_nn {n k : Nat} {ms : List Move} {prev : List (List Int)} (H : PInv n ms (opn ms).1 k prev) (j : Nat) : 0 ≤ roomR n ms k prev j := by
  by_cases hl : j < (opn ms).1
  · exact H.room j hl
  · rw [room_zero H (by have := opn_all ms k; omega)]; exact Int.le_refl _
theorem room_le {n k : Nat} {ms : List Move} {prev : List (List Int)} (hm : movesOk n 0 ms) (H : PInv n ms (opn ms).1 k prev) (j : Nat) : roomR n ms k prev j ≤ (n : Int) * (1048576 * (k : Int)) := by
  have h1 := sumI_bd (contF_bd (j := (j : Int)) (movesOk_mono k hm))
  have ht := taken_bd H.bd j
  rw [contF_len, List.length_take] at h1
  have h2 : (n : Int) * (1048576 * ((min k ms.length : Nat) : Int)) ≤ (n : Int) * (1048576 * (k : Int)) := Int.mul_le_mul_of_nonneg_left (by omega) (by omega)
  unfold roomR; omega
theorem room_in {n k : Nat} {ms : List Move} {prev : List (List Int)} {m : Move} {o : Nat} (hm : movesOk n 0 ms) (hk : ms[k]? = some m) (hc : m.coal ≠ -1) (hl : ((opn (ms.take (k + 1))).1 : Int) - 1 = (o : Int)) :
    roomR n ms (k + 1) prev o = roomR n ms k prev o + m.tons ∧ ∀ i, i ≠ o → roomR n ms (k + 1) prev i = roomR n ms k prev i := by
  obtain ⟨_, ⟨c1, c2⟩, t1, t2⟩ := movesOk_at hm hk
  unfold roomR
  refine ⟨?_, fun i hi => by rw [contF_take hk, if_neg (fun hq => hi (by have := hq.2; omega))]⟩
  have hlen := contF_len n (ms.take k) (o : Int)
  obtain ⟨v, hv⟩ : ∃ v, (contF n (ms.take k) (o : Int))[m.coal.toNat]? = some v := ⟨_, List.getElem?_eq_getElem (by omega)⟩
  rw [contF_take hk, if_pos ⟨hc, hl⟩]
  have hg : (contF n (ms.take k) (o : Int)).getD m.coal.toNat 0 = v := by rw [List.getD_eq_getElem?_getD, hv]; rfl
  rw [hg, sumI_set hv]; omega
def vF (room : Nat → Int) (t : Int) (j : Nat) : Int := min (room j) (vecR room j t).2
def lfJ (room : Nat → Int) (t : Int) (j i : Nat) : Int := if i < j then room i - vF room t i else room i
theorem vecR_2 (room : Nat → Int) (t : Int) (j : Nat) : (vecR room (j + 1) t).2 = (vecR room j t).2 - vF room t j := rfl
theorem vecR_get {room : Nat → Int} {t : Int} : ∀ {L j : Nat}, j < L → (vecR room L t).1.getD j 0 = vF room t j
  | L + 1, j, h => by
    have hl := vecR_len room t L
    rw [vecR, List.getD_eq_getElem?_getD]
    by_cases hq : j < L
    · rw [List.getElem?_append_left (by omega), ← List.getD_eq_getElem?_getD]; exact vecR_get hq
    · obtain rfl : j = L := by omega
      rw [List.getElem?_append_right (by omega), hl, Nat.sub_self]; rfl
theorem draw_done {room : Nat → Int} {t : Int} {c L : Nat} (hc : c ≤ L) (hz : ∀ j, c ≤ j → room j = 0) (h0 : 0 ≤ (vecR room c t).2) :
    (vecR room L t).2 = (vecR room c t).2 ∧ nzF (fun i => (vecR room L t).1.getD i 0) L = nzF (vF room t) c := by
  obtain ⟨d, rfl⟩ : ∃ d, L = c + d := ⟨L - c, by omega⟩
  have hm := vecR_more hz h0 d
  refine ⟨by rw [hm], ?_⟩
  have e1 : nzF (fun i => (vecR room (c + d) t).1.getD i 0) (c + d) = nzF (vF room t) (c + d) := nzF_congr fun j hj => vecR_get hj
  rw [e1]
  refine nzF_more (fun j hj => ?_) d
  unfold vF
  rw [hz j hj]; omega
theorem lfJ_0 (room : Nat → Int) (t : Int) : lfJ room t 0 = room := funext fun i => if_neg (Nat.not_lt_zero _)
theorem lfJ_at (room : Nat → Int) (t : Int) (j : Nat) : lfJ room t j j = room j := if_neg (Nat.lt_irrefl _)
theorem lfJ_next (room : Nat → Int) (t : Int) (j : Nat) : lfJ room t (j + 1) j = room j - vF room t j := if_pos (Nat.lt_succ_self _)
theorem lfJ_other {room : Nat → Int} {t : Int} {j i : Nat} (h : i ≠ j) : lfJ room t (j + 1) i = lfJ room t j i := by
  unfold lfJ
  by_cases hq : i < j
  · rw [if_pos hq, if_pos (by omega)]
  · rw [if_neg hq, if_neg (by omega)]
theorem lfJ_same {room : Nat → Int} {t : Int} {j : Nat} (h : vF room t j = 0) : lfJ room t (j + 1) = lfJ room t j := funext fun i => by
  by_cases hi : i = j
  · subst hi; rw [lfJ_next, lfJ_at, h]; omega
  · exact lfJ_other hi
theorem lfJ_end {n k : Nat} {ms : List Move} {prev : List (List Int)} {m : Move} {i c : Nat} (hm : movesOk n 0 ms) (hk : ms[k]? = some m) (hc : m.coal = -1) (hi : i < c) (hL : c ≤ (opn ms).1) :
    lfJ (roomR n ms k prev) m.tons c i = roomR n ms (k + 1) (prev ++ [(vecR (roomR n ms k prev) (opn ms).1 m.tons).1]) i := by
  unfold lfJ
  rw [if_pos hi]
  have h1 := (cont_sum_mono hm hk (i : Int)).2 hc
  have h2 : (vecR (roomR n ms k prev) (opn ms).1 m.tons).1.getD i 0 = vF (roomR n ms k prev) m.tons i := vecR_get (by omega)
  generalize (vecR (roomR n ms k prev) (opn ms).1 m.tons).1 = v at h2 ⊢
  generalize vF (roomR n ms k prev) m.tons i = q at h2 ⊢
  unfold roomR
  rw [h1, taken_snoc, h2]; omega
theorem nzF_eq (f : Nat → Int) (j : Nat) (h : ¬ f j > 0) : nzF f (j + 1) = nzF f j := by rw [nzF_succ, if_neg h]
theorem nzF_app {f : Nat → Int} {j : Nat} (h : f j > 0) : (nzF f (j + 1)).flatMap ePart = (nzF f j).flatMap ePart ++ [I (j : Int), I (f j)] := by rw [nzF_succ, if_pos h]; simp [ePart]
theorem nzF_lenS {f : Nat → Int} {j : Nat} (h : f j > 0) : (nzF f (j + 1)).length = (nzF f j).length + 1 := by rw [nzF_succ, if_pos h]; simp
theorem Tk.app {a h r : Hp} (f : Hp) (H : Tk a h r) : Tk a (h ++ f) (r ++ f) := by
  induction H with
  | here => rw [List.append_assoc]; exact .here
  | there _ ih => exact .there ih
  | skip _ ih => rw [List.append_assoc, List.append_assoc]; exact .skip ih
theorem permR {a b c : Hp} : List.Perm ((a ++ b) ++ c) (a ++ (b ++ c)) := by rw [List.append_assoc]
theorem permA {V W L G : Hp} {x y z m : Nat × Obj} : List.Perm ((V ++ (x :: y :: z :: (W ++ (L ++ G)))) ++ [m]) (x :: m :: z :: (V ++ (W ++ ((y :: L) ++ G)))) := by
  classical
  refine List.perm_iff_count.2 fun a => ?_
  simp only [List.count_append, List.count_cons, List.count_nil]; omega
theorem permB {U V W L P G : Hp} {x y z : Nat × Obj} : List.Perm (W ++ (x :: (U ++ (y :: z :: (V ++ (L ++ (P ++ G))))))) (x :: y :: z :: (V ++ (W ++ (L ++ ((U ++ P) ++ G))))) := by
  classical
  refine List.perm_iff_count.2 fun a => ?_
  simp only [List.count_append, List.count_cons, List.count_nil]; omega
theorem vec_cap {V : Vec} {sz n : Nat} {xs : List Value} (h : V.ok sz n xs) : n ≤ V.cp := by
  cases V with
  | nil => obtain ⟨_, h⟩ := h; rw [h]; exact Nat.zero_le _
  | «at» b c sp => exact h.2.1
structure ShedV (h : Hp) (y : Yard) (vs : List (List Int)) (b : Nat) (la : Option Addr) (lc : Nat) (bs : List Nat) (da : Option Addr) (dc : Nat) (ds : List PH) : Prop where
  top : (b, .cells ⟨[.slice y.ca y.coals.length y.cc, .slice la bs.length lc, .slice da ds.length dc]⟩ 70 (0, 0)) ∈ h
  lays : SlV h 1 eLp la bs
  lay : ∀ (i c : Nat), bs[i]? = some c → (c, .cells ⟨layF y.moves y.moves.length (roomR y.coals.length y.moves y.moves.length vs) i⟩ 100 (0, 0)) ∈ h
  len : bs.length = (opn y.moves).1
  draws : SlV h 1 ePH da ds
  cap : ds.length ≤ dc
  parts : ∀ z ∈ ds, SlV h 2 ePart z.a z.m
  are : ds.map PH.m = vs.map fun v => nzF (fun i => v.getD i 0) (opn y.moves).1
  inv : PInv y.coals.length y.moves (opn y.moves).1 y.moves.length vs
theorem ShedV.sub {h g : Hp} {y : Yard} {vs : List (List Int)} {b : Nat} {la : Option Addr} {lc : Nat} {bs : List Nat} {da : Option Addr} {dc : Nat} {ds : List PH} (H : ShedV h y vs b la lc bs da dc ds) (hs : h ⊆ g) : ShedV g y vs b la lc bs da dc ds :=
  ⟨hs H.top, H.lays.sub hs, fun i c hc => hs (H.lay i c hc), H.len, H.draws.sub hs, H.cap, fun z hz => (H.parts z hz).sub hs, H.are, H.inv⟩
end Go.Proofs.Ytmaldhbjhomdkaa.Coal

/-
  The least that so many hundredweights give: any greedy choice.
-/
set_option linter.all false
namespace Go.Proofs.Ytmaldhbjhomdkaa.Coal
open Go Go.H
def ofL (c : Coal) : List Span := [c.gas, c.tar, c.sulphur, c.coke]
def ofF (c : Coal) (w : Int) : Span := (ofL c).getD w.toNat ⟨0, 0⟩
theorem ofL_get {c : Coal} {w : Int} (h0 : 0 ≤ w) (h1 : w ≤ 3) : (ofL c)[w.toNat]? = some (ofF c w) := by
  have hl : w.toNat < (ofL c).length := by show w.toNat < 4; omega
  unfold ofF
  rw [List.getD_eq_getElem?_getD, List.getElem?_eq_getElem hl]; rfl
def dotI (x e : List Int) : Int := ((x.zip e).map fun z => z.1 * z.2).sum
theorem dot_cons (a b : Int) (x e : List Int) : dotI (a :: x) (b :: e) = a * b + dotI x e := by simp [dotI]
structure Greedy (room each : List Int) (need : Int) (x : List Int) : Prop where
  len : x.length = room.length
  bd : ∀ (i : Nat) (a r : Int), x[i]? = some a → room[i]? = some r → 0 ≤ a ∧ a ≤ r
  sum : sumI x = need
  fst : ∀ (i j : Nat) (a r ei b ej : Int), x[i]? = some a → room[i]? = some r → each[i]? = some ei → x[j]? = some b → each[j]? = some ej → ei < ej → 0 < b → a = r
theorem dot_diff : ∀ {x y e : List Int} {c : Int}, x.length = y.length → x.length = e.length → (∀ (i : Nat) (a b d : Int), x[i]? = some a → y[i]? = some b → e[i]? = some d → a ≠ b → d = c) → dotI x e - dotI y e = c * (sumI x - sumI y)
  | [], [], e, c, _, _, _ => by simp [dotI, sumI]
  | a :: x, b :: y, d :: e, c, h, h2, hd => by
    have ih := dot_diff (x := x) (y := y) (e := e) (c := c) (by simpa using h) (by simpa using h2) fun i p q r hp hq hr => hd (i + 1) p q r (by simpa using hp) (by simpa using hq) (by simpa using hr)
    have e1 : sumI (a :: x) = a + sumI x := by unfold sumI; simp
    have e2 : sumI (b :: y) = b + sumI y := by unfold sumI; simp
    rw [dot_cons, dot_cons, e1, e2]
    have key : a * d - b * d = c * (a - b) := by
      by_cases hab : a = b
      · subst hab; simp
      · have := hd 0 a b d rfl rfl rfl hab
        subst this
        rw [Int.mul_sub, Int.mul_comm d a, Int.mul_comm d b]
    have e3 : c * (a + sumI x - (b + sumI y)) = c * (a - b) + c * (sumI x - sumI y) := by rw [← Int.mul_add]; congr 1; omega
    rw [e3]; omega
theorem more_exists : ∀ {x y : List Int}, x.length = y.length → sumI x = sumI y → x ≠ y → (∃ (i : Nat) (a b : Int), x[i]? = some a ∧ y[i]? = some b ∧ a > b) ∧ ∃ (i : Nat) (a b : Int), x[i]? = some a ∧ y[i]? = some b ∧ a < b := by
  have key : ∀ {x y : List Int}, x.length = y.length → (∀ (i : Nat) (a b : Int), x[i]? = some a → y[i]? = some b → a ≤ b) → sumI x ≤ sumI y ∧ (sumI x = sumI y → x = y) := by
    intro x
    induction x with
    | nil => intro y h _; rw [List.length_eq_zero_iff.1 h.symm]; exact ⟨Int.le_refl _, fun _ => rfl⟩
    | cons a x ih =>
      intro y h hle
      cases y with
      | nil => simp at h
      | cons b y =>
        have := ih (y := y) (by simpa using h) fun i p q hp hq => hle (i + 1) p q (by simpa using hp) (by simpa using hq)
        have h0 := hle 0 a b rfl rfl
        have e1 : sumI (a :: x) = a + sumI x := by unfold sumI; simp
        have e2 : sumI (b :: y) = b + sumI y := by unfold sumI; simp
        rw [e1, e2]
        refine ⟨by omega, fun he => ?_⟩
        rw [this.2 (by omega), show a = b by omega]
  intro x y hl hs hne
  refine ⟨Classical.byContradiction fun hn => ?_, Classical.byContradiction fun hn => ?_⟩
  · exact hne ((key hl fun i a b ha hb => by
      by_cases h : a ≤ b
      · exact h
      · exact absurd ⟨i, a, b, ha, hb, by omega⟩ hn).2 hs)
  · exact hne ((key hl.symm fun i a b ha hb => by
      by_cases h : a ≤ b
      · exact h
      · exact absurd ⟨i, b, a, hb, ha, by omega⟩ hn).2 hs.symm).symm
theorem greedy_same {room each : List Int} {need : Int} {x y : List Int} (he : each.length = room.length) (hx : Greedy room each need x) (hy : Greedy room each need y) : dotI x each = dotI y each := by
  by_cases hxy : x = y
  · rw [hxy]
  have hl : x.length = y.length := by rw [hx.len, hy.len]
  have hs : sumI x = sumI y := by rw [hx.sum, hy.sum]
  obtain ⟨⟨p, xp, yp, hxp, hyp, hgt⟩, q, xq, yq, hxq, hyq, hlt⟩ := more_exists hl hs hxy
  have get : ∀ (l : List Int) (i : Nat) (a : Int), l.length = x.length → x[i]? = some a → ∃ b, l[i]? = some b := fun l i a h ha => ⟨_, List.getElem?_eq_getElem (by have := (List.getElem?_eq_some_iff.1 ha).1; omega)⟩
  obtain ⟨ep, hep⟩ := get each p xp (by rw [he, hx.len]) hxp
  obtain ⟨eq, heq⟩ := get each q xq (by rw [he, hx.len]) hxq
  -- two places where one has more and the other less cost the same
  have pair : ∀ (i j : Nat) (a b c d ei ej : Int), x[i]? = some a → y[i]? = some b → x[j]? = some c → y[j]? = some d → each[i]? = some ei → each[j]? = some ej → a > b → c < d → ei = ej := by
    intro i j a b c d ei ej ha hb hc hd hi hj h1 h2
    obtain ⟨ri, hri⟩ := get room i a hx.len.symm ha
    obtain ⟨rj, hrj⟩ := get room j c hx.len.symm hc
    have b1 := hx.bd i a ri ha hri
    have b2 := hy.bd i b ri hb hri
    have b3 := hx.bd j c rj hc hrj
    have b4 := hy.bd j d rj hd hrj
    rcases Int.lt_trichotomy ei ej with h | h | h
    · have := hy.fst i j b ri ei d ej hb hri hi hd hj h (by omega); omega
    · exact h
    · have := hx.fst j i c rj ej a ei hc hrj hj ha hi h (by omega); omega
  have e0 := pair p q xp yp xq yq ep eq hxp hyp hxq hyq hep heq hgt hlt
  have := dot_diff (x := x) (y := y) (e := each) (c := ep) hl (by rw [hx.len, he]) fun i a b d ha hb hd hne => by
    by_cases h : a > b
    · rw [e0]; exact pair i q a b xq yq d eq ha hb hxq hyq hd heq h hlt
    · exact (pair p i xp yp a b ep d hxp hyp ha hb hep hd hgt (by omega)).symm
  rw [hs, Int.sub_self, Int.mul_zero] at this
  omega
end Go.Proofs.Ytmaldhbjhomdkaa.Coal

/-
  One round of the document's least.
-/
set_option linter.all false
namespace Go.Proofs.Ytmaldhbjhomdkaa.Coal
open Go Go.H
def subL (r l : List Int) : List Int := (r.zip l).map fun z => z.1 - z.2
theorem mul_bdE {n e N : Int} (h0 : 0 ≤ n) (h1 : n ≤ N) (he : -100000 ≤ e ∧ e ≤ 100000) : -(100000 * N) ≤ n * e ∧ n * e ≤ 100000 * N := by
  have m1 := Int.mul_le_mul_of_nonneg_left he.1 h0
  have m2 := Int.mul_le_mul_of_nonneg_left he.2 h0
  omega
structure LInv (room each : List Int) (need0 need : Int) (lf : List Int) : Prop where
  len : lf.length = room.length
  gr : Greedy room each (need0 - need) (subL room lf)
  sum : sumI lf = sumI room - (need0 - need)
  nn : ∀ a ∈ lf, 0 ≤ a
  n0 : 0 ≤ need
theorem LInv.some {room each lf : List Int} {need0 need : Int} (H : LInv room each need0 need lf) (hn : 0 < need) (hr : need0 ≤ sumI room) : ∃ (i : Nat) (a : Int), lf[i]? = some a ∧ 0 < a := by
  refine Classical.byContradiction fun hx => ?_
  have h0 : ∀ a ∈ lf, 0 ≤ a ∧ a ≤ 0 := fun a ha => by
    obtain ⟨i, hi⟩ := List.getElem?_of_mem ha
    refine ⟨H.nn a ha, ?_⟩
    by_cases h : 0 < a
    · exact absurd ⟨i, a, hi, h⟩ hx
    · omega
  have := (sumI_bd h0).2
  have := H.sum
  omega
theorem dot_bd {x e : List Int} (hx : ∀ a ∈ x, 0 ≤ a) (he : ∀ b ∈ e, -100000 ≤ b ∧ b ≤ 100000) : -100000 * sumI x ≤ dotI x e ∧ dotI x e ≤ 100000 * sumI x := by
  induction x generalizing e with
  | nil => simp [dotI, sumI]
  | cons a x ih =>
    have e1 : sumI (a :: x) = a + sumI x := by unfold sumI; simp
    have hx2 : ∀ y ∈ x, 0 ≤ y := fun y hy => hx y (List.mem_cons_of_mem _ hy)
    have ha := hx a List.mem_cons_self
    have hs := sumI_nn hx2
    cases e with
    | nil => rw [e1]; have : dotI (a :: x) [] = 0 := rfl; rw [this]; omega
    | cons b e =>
      have := ih (e := e) hx2 fun y hy => he y (List.mem_cons_of_mem _ hy)
      have hb := he b List.mem_cons_self
      have m1 := Int.mul_le_mul_of_nonneg_left hb.1 ha
      have m2 := Int.mul_le_mul_of_nonneg_left hb.2 ha
      rw [e1, dot_cons]; omega
end Go.Proofs.Ytmaldhbjhomdkaa.Coal

/-
  The yield of some draws, as the document sums it.
-/
set_option linter.all false
namespace Go.Proofs.Ytmaldhbjhomdkaa.Coal
open Go Go.H
open Classical in
noncomputable def gval (room each : List Int) (need : Int) : Int := if h : ∃ x, Greedy room each need x then dotI h.choose each else 0
theorem gval_eq {room each x : List Int} {need : Int} (he : each.length = room.length) (h : Greedy room each need x) : dotI x each = gval room each need := by
  have hx : ∃ x, Greedy room each need x := ⟨x, h⟩
  unfold gval
  rw [dif_pos hx]
  exact greedy_same he h hx.choose_spec
theorem gval_bd {room each : List Int} {need : Int} (he : each.length = room.length) (heb : ∀ b ∈ each, -100000 ≤ b ∧ b ≤ 100000) (hn : 0 ≤ need) : -100000 * need ≤ gval room each need ∧ gval room each need ≤ 100000 * need := by
  by_cases hx : ∃ x, Greedy room each need x
  · obtain ⟨x, h⟩ := hx
    have h2 : ∀ a ∈ x, 0 ≤ a := fun a ha => by
      obtain ⟨i, hi⟩ := List.getElem?_of_mem ha
      obtain ⟨r, hr⟩ : ∃ r, room[i]? = some r := ⟨_, List.getElem?_eq_getElem (by have := (List.getElem?_eq_some_iff.1 hi).1; rw [h.len] at this; exact this)⟩
      exact (h.bd i a r hi hr).1
    have := dot_bd h2 heb
    rw [h.sum, gval_eq he h] at this
    exact this
  · unfold gval; rw [dif_neg hx]; omega
theorem taken_app (a b : List (List Int)) (j : Nat) : takenR (a ++ b) j = takenR a j + takenR b j := by
  unfold takenR; rw [List.map_append, List.sum_append_int]
theorem taken_part {vs : List (List Int)} (h : ∀ v ∈ vs, ∀ x ∈ v, 0 ≤ x ∧ x ≤ 1048576) (f n j : Nat) : 0 ≤ takenR ((vs.drop f).take n) j ∧ takenR ((vs.drop f).take n) j ≤ takenR vs j := by
  have e1 := taken_app (vs.take f) (vs.drop f) j
  have e2 := taken_app ((vs.drop f).take n) ((vs.drop f).drop n) j
  rw [List.take_append_drop] at e1 e2
  have b1 := taken_bd (prev := vs.take f) (fun v hv => h v (List.mem_of_mem_take hv)) j
  have b2 := taken_bd (prev := (vs.drop f).take n) (fun v hv => h v (List.mem_of_mem_drop (List.mem_of_mem_take hv))) j
  have b3 := taken_bd (prev := (vs.drop f).drop n) (fun v hv => h v (List.mem_of_mem_drop (List.mem_of_mem_drop hv))) j
  omega
def lows (y : Yard) (w : Int) : List Int := y.coals.map fun c => (ofF c w).lo
def highs (y : Yard) (w : Int) : List Int := y.coals.map fun c => -(ofF c w).hi
noncomputable def yLo (y : Yard) (w : Int) (need : Nat → Int) : Nat → Int
  | 0 => 0
  | j + 1 => yLo y w need j + gval (contE y j) (lows y w) (need j)
noncomputable def yHi (y : Yard) (w : Int) (need : Nat → Int) : Nat → Int
  | 0 => 0
  | j + 1 => yHi y w need j - gval (contE y j) (highs y w) (need j)
theorem ofF_ok {c : Coal} {w : Int} (h : coalOk c) (h0 : 0 ≤ w) (h1 : w ≤ 3) : spanOk (ofF c w) := by
  have hm := List.mem_of_getElem? (ofL_get (c := c) h0 h1)
  unfold ofL at hm
  simp only [List.mem_cons, List.not_mem_nil, or_false] at hm
  obtain ⟨a, b, d, e⟩ := h
  rcases hm with q | q | q | q <;> rw [q] <;> assumption
theorem lows_bd {y : Yard} {w : Int} (h : CoalsOk y.coals) (h0 : 0 ≤ w) (h1 : w ≤ 3) : ∀ b ∈ lows y w, -100000 ≤ b ∧ b ≤ 100000 := fun b hb => by
  obtain ⟨c, hc, rfl⟩ := List.mem_map.1 hb
  obtain ⟨a, d, e⟩ := ofF_ok (h c hc) h0 h1
  omega
theorem highs_bd {y : Yard} {w : Int} (h : CoalsOk y.coals) (h0 : 0 ≤ w) (h1 : w ≤ 3) : ∀ b ∈ highs y w, -100000 ≤ b ∧ b ≤ 100000 := fun b hb => by
  obtain ⟨c, hc, rfl⟩ := List.mem_map.1 hb
  obtain ⟨a, d, e⟩ := ofF_ok (h c hc) h0 h1
  omega
theorem lows_len (y : Yard) (w : Int) : (lows y w).length = y.coals.length := by simp [lows]
theorem highs_len (y : Yard) (w : Int) : (highs y w).length = y.coals.length := by simp [highs]
def needF (vs : List (List Int)) (f t : Int) (j : Nat) : Int := takenR ((vs.drop f.toNat).take (t.toNat + 1 - f.toNat)) j
noncomputable def yieldA (y : Yard) (f t w : Int) : Span × Int :=
  if GoodYard y then (match vecsR y with
    | none => (⟨0, 0⟩, 10)
    | some vs => if (0 ≤ f ∧ f ≤ t ∧ t < (vs.length : Int)) ∧ 0 ≤ w ∧ w ≤ 3 then (⟨yLo y w (needF vs f t) (opn y.moves).1, yHi y w (needF vs f t) (opn y.moves).1⟩, 0) else (⟨0, 0⟩, 2)) else (⟨0, 0⟩, 1)
section
variable {y : Yard} {f t w : Int} {vs : List (List Int)}
theorem yieldA_1 (h : ¬ GoodYard y) : yieldA y f t w = (⟨0, 0⟩, 1) := by unfold yieldA; exact if_neg h
theorem yieldA_10 (h : GoodYard y) (h2 : vecsR y = none) : yieldA y f t w = (⟨0, 0⟩, 10) := by unfold yieldA; rw [if_pos h, h2]
theorem yieldA_2 (h : GoodYard y) (h2 : vecsR y = some vs) (h3 : ¬ ((0 ≤ f ∧ f ≤ t ∧ t < (vs.length : Int)) ∧ 0 ≤ w ∧ w ≤ 3)) : yieldA y f t w = (⟨0, 0⟩, 2) := by unfold yieldA; rw [if_pos h, h2]; exact if_neg h3
theorem yieldA_0 (h : GoodYard y) (h2 : vecsR y = some vs) (h3 : (0 ≤ f ∧ f ≤ t ∧ t < (vs.length : Int)) ∧ 0 ≤ w ∧ w ≤ 3) : yieldA y f t w = (⟨yLo y w (needF vs f t) (opn y.moves).1, yHi y w (needF vs f t) (opn y.moves).1⟩, 0) := by unfold yieldA; rw [if_pos h, h2]; exact if_pos h3
end
end Go.Proofs.Ytmaldhbjhomdkaa.Coal

/-
  What some draws take of each layer together; what the program's parts yields.
-/
set_option linter.all false
namespace Go.Proofs.Ytmaldhbjhomdkaa.Coal
open Go Go.H
theorem ShedV.part {h : Hp} {y : Yard} {vs : List (List Int)} {b : Nat} {la : Option Addr} {lc : Nat} {bs : List Nat} {da : Option Addr} {dc : Nat} {ds : List PH} (H : ShedV h y vs b la lc bs da dc ds) {i : Nat} {z : PH} (hz : ds[i]? = some z) : ∃ v, vs[i]? = some v ∧ z.m = nzF (fun i => v.getD i 0) (opn y.moves).1 := by
  have h1 : (ds.map PH.m)[i]? = some z.m := by rw [List.getElem?_map, hz]; rfl
  rw [H.are, List.getElem?_map] at h1
  cases hv : vs[i]? with
  | none => rw [hv] at h1; cases h1
  | some v => rw [hv] at h1; exact ⟨v, rfl, (Option.some.inj h1).symm⟩
theorem ShedV.cnt {h : Hp} {y : Yard} {vs : List (List Int)} {b : Nat} {la : Option Addr} {lc : Nat} {bs : List Nat} {da : Option Addr} {dc : Nat} {ds : List PH} (H : ShedV h y vs b la lc bs da dc ds) : ds.length = vs.length := by
  have := congrArg List.length H.are
  simpa using this
def addP (l : List Part) (i : Nat) : Int := (l.map fun p => if p.layer = (i : Int) then p.tons else 0).sum
theorem addP_take {l : List Part} {k i : Nat} {p : Part} (h : l[k]? = some p) : addP (l.take (k + 1)) i = addP (l.take k) i + if p.layer = (i : Int) then p.tons else 0 := by
  unfold addP; rw [List.take_add_one, h, List.map_append, List.sum_append_int]; simp
theorem addP_nil (i : Nat) : addP [] i = 0 := rfl
theorem addP_app (a b : List Part) (i : Nat) : addP (a ++ b) i = addP a i + addP b i := by unfold addP; rw [List.map_append, List.sum_append_int]
theorem addP_nn {l : List Part} (h : ∀ p ∈ l, 0 ≤ p.tons) (i : Nat) : 0 ≤ addP l i := by
  refine sumI_nn fun x hx => ?_
  obtain ⟨p, hp, rfl⟩ := List.mem_map.1 hx
  split
  · exact h p hp
  · exact Int.le_refl _
theorem addP_bd {l : List Part} (h : ∀ p ∈ l, 0 ≤ p.tons) (i k : Nat) : 0 ≤ addP (l.take k) i ∧ addP (l.take k) i ≤ addP l i := by
  have h1 := addP_nn (l := l.take k) (fun p hp => h p (List.mem_of_mem_take hp)) i
  have h2 := addP_nn (l := l.drop k) (fun p hp => h p (List.mem_of_mem_drop hp)) i
  have h3 := addP_app (l.take k) (l.drop k) i
  rw [List.take_append_drop] at h3
  omega
theorem addP_nz {f : Nat → Int} (h : ∀ j, 0 ≤ f j) (i : Nat) : ∀ L, addP (nzF f L) i = if i < L then f i else 0
  | 0 => rfl
  | L + 1 => by
    have ih := addP_nz h i L
    have hf := h L
    rw [nzF_succ]
    by_cases hp : f L > 0
    · rw [if_pos hp, addP_app, ih]
      have e : addP [⟨(L : Int), f L⟩] i = if (L : Int) = (i : Int) then f L else 0 := by simp [addP]
      rw [e]
      by_cases hi : i < L
      · rw [if_pos hi, if_neg (by omega), if_pos (by omega)]; omega
      · by_cases he : i = L
        · subst he; rw [if_neg hi, if_pos rfl, if_pos (by omega)]; omega
        · rw [if_neg hi, if_neg (by omega), if_neg (by omega)]; rfl
    · rw [if_neg hp, ih]
      by_cases hi : i < L
      · rw [if_pos hi, if_pos (by omega)]
      · by_cases he : i = L
        · subst he; rw [if_neg hi, if_pos (by omega)]; omega
        · rw [if_neg hi, if_neg (by omega)]
theorem nzF_mem {f : Nat → Int} {L : Nat} {p : Part} (h : p ∈ nzF f L) : 0 < p.tons ∧ 0 ≤ p.layer ∧ p.layer < (L : Int) ∧ p.tons = f p.layer.toNat := by
  unfold nzF at h
  rw [List.mem_filterMap] at h
  obtain ⟨j, hj, he⟩ := h
  rw [List.mem_range] at hj
  split at he
  · cases he; exact ⟨by assumption, by dsimp only; omega, by dsimp only; omega, rfl⟩
  · cases he
def tkV (L : Nat) (us : List (List Int)) (l : List Part) : List Int := (List.range L).map fun i => takenR us i + addP l i
theorem tkV_len (L : Nat) (us : List (List Int)) (l : List Part) : (tkV L us l).length = L := by simp [tkV]
theorem tkV_get {L : Nat} {us : List (List Int)} {l : List Part} {i : Nat} (h : i < L) : (tkV L us l)[i]? = some (takenR us i + addP l i) := by simp [tkV, h]
theorem tkV_set {L : Nat} {us : List (List Int)} {l : List Part} {k i : Nat} {p : Part} (hp : l[k]? = some p) (he : p.layer = (i : Int)) (h : i < L) : (tkV L us (l.take k)).set i (takenR us i + addP (l.take k) i + p.tons) = tkV L us (l.take (k + 1)) := by
  refine List.ext_getElem? fun j => ?_
  rw [List.getElem?_set]
  by_cases hj : j < L
  · rw [tkV_get hj, tkV_get hj, addP_take hp]
    by_cases hi : i = j
    · subst hi; rw [if_pos rfl, if_pos (by rw [tkV_len]; omega), if_pos he, Int.add_assoc]
    · rw [if_neg hi, if_neg (by omega), Int.add_zero]
  · have : ¬ i = j := by omega
    rw [if_neg this, List.getElem?_eq_none (by rw [tkV_len]; omega), List.getElem?_eq_none (by rw [tkV_len]; omega)]
theorem tkV_next {L k : Nat} {us : List (List Int)} {v : List Int} (h : us[k]? = some v) (hl : v.length = L) (hn : ∀ x ∈ v, 0 ≤ x) : tkV L (us.take k) (nzF (fun i => v.getD i 0) L) = tkV L (us.take (k + 1)) [] := by
  refine List.map_congr_left fun i hi => ?_
  rw [List.mem_range] at hi
  rw [addP_nz (fun j => by
    rw [List.getD_eq_getElem?_getD]
    cases hg : v[j]? with
    | none => simp
    | some y => simpa using hn y (List.mem_of_getElem? hg)), if_pos hi, taken_take h, addP_nil, Int.add_zero]
theorem tkV_0 (L : Nat) : tkV L [] [] = List.replicate L 0 := by
  refine List.eq_replicate_iff.2 ⟨tkV_len _ _ _, fun x hx => ?_⟩
  simp only [tkV, List.mem_map] at hx
  obtain ⟨i, _, rfl⟩ := hx
  rfl
def partsN (y : Yard) (us : List (List Int)) (i : Nat) : List (List Int × Int) := (List.range i).filterMap fun j => if takenR us j > 0 then some (contF 6 (y.moves.take y.moves.length) (j : Int), takenR us j) else none
def partsL (y : Yard) (us : List (List Int)) : List (List Int × Int) := partsN y us (opn y.moves).1
def ePc (z : List Int × Int) : List Value := [.agg ⟨z.1.flatMap eI⟩, I z.2]
theorem partsN_succ (y : Yard) (us : List (List Int)) (j : Nat) : partsN y us (j + 1) = if takenR us j > 0 then partsN y us j ++ [(contF 6 (y.moves.take y.moves.length) (j : Int), takenR us j)] else partsN y us j := by
  unfold partsN
  rw [List.range_succ, List.filterMap_append]
  by_cases h : takenR us j > 0 <;> simp [h]
theorem partsN_more (y : Yard) (us : List (List Int)) (j : Nat) : ∀ d, ∃ r, partsN y us (j + d) = partsN y us j ++ r
  | 0 => ⟨[], by simp⟩
  | d + 1 => by
    obtain ⟨r, hr⟩ := partsN_more y us j d
    rw [← Nat.add_assoc, partsN_succ, hr]
    split
    · exact ⟨r ++ [_], by rw [List.append_assoc]⟩
    · exact ⟨r, rfl⟩
theorem partsN_at {y : Yard} {us : List (List Int)} {j : Nat} (h : takenR us j > 0) (hj : j < (opn y.moves).1) : (partsL y us)[(partsN y us j).length]? = some (contF 6 (y.moves.take y.moves.length) (j : Int), takenR us j) := by
  obtain ⟨r, hr⟩ := partsN_more y us (j + 1) ((opn y.moves).1 - (j + 1))
  rw [show j + 1 + ((opn y.moves).1 - (j + 1)) = (opn y.moves).1 by omega] at hr
  unfold partsL
  rw [hr, partsN_succ, if_pos h, List.append_assoc, List.getElem?_append_right (Nat.le_refl _), Nat.sub_self]; rfl
theorem partsN_lenS {y : Yard} {us : List (List Int)} {j : Nat} (h : takenR us j > 0) : (partsN y us (j + 1)).length = (partsN y us j).length + 1 := by rw [partsN_succ, if_pos h]; simp
theorem partsN_eq {y : Yard} {us : List (List Int)} {j : Nat} (h : ¬ takenR us j > 0) : partsN y us (j + 1) = partsN y us j := by rw [partsN_succ, if_neg h]
structure SubV (core : Hp) (y : Yard) (us : List (List Int)) (a : Option Addr) (es : List PH) : Prop where
  sl : SlV core 1 ePH a es
  parts : ∀ z ∈ es, SlV core 2 ePart z.a z.m
  are : es.map PH.m = us.map fun v => nzF (fun i => v.getD i 0) (opn y.moves).1
  len : ∀ v ∈ us, v.length = (opn y.moves).1
  bd : ∀ v ∈ us, ∀ x ∈ v, 0 ≤ x ∧ x ≤ 1048576
  few : us.length ≤ 32
  lay : (opn y.moves).1 ≤ 32
theorem SubV.part {core : Hp} {y : Yard} {us : List (List Int)} {a : Option Addr} {es : List PH} (H : SubV core y us a es) {i : Nat} {z : PH} (hz : es[i]? = some z) : ∃ v, us[i]? = some v ∧ z.m = nzF (fun i => v.getD i 0) (opn y.moves).1 := by
  have h1 : (es.map PH.m)[i]? = some z.m := by rw [List.getElem?_map, hz]; rfl
  rw [H.are, List.getElem?_map] at h1
  cases hv : us[i]? with
  | none => rw [hv] at h1; cases h1
  | some v => rw [hv] at h1; exact ⟨v, rfl, (Option.some.inj h1).symm⟩
theorem SubV.cnt {core : Hp} {y : Yard} {us : List (List Int)} {a : Option Addr} {es : List PH} (H : SubV core y us a es) : es.length = us.length := by
  have := congrArg List.length H.are
  simpa using this
end Go.Proofs.Ytmaldhbjhomdkaa.Coal

/-
  The program's first: shares in order.
-/
set_option linter.all false
namespace Go.Proofs.Ytmaldhbjhomdkaa.Coal
open Go Go.H
def fstP (l : List Share) (need : Int) : Int × Int := l.foldl (fun z x => (z.1 + min z.2 x.tons * x.each, z.2 - min z.2 x.tons)) (0, need)
theorem fstP_take {l : List Share} {need : Int} {k : Nat} {x : Share} (h : l[k]? = some x) : fstP (l.take (k + 1)) need = ((fstP (l.take k) need).1 + min (fstP (l.take k) need).2 x.tons * x.each, (fstP (l.take k) need).2 - min (fstP (l.take k) need).2 x.tons) := by
  rw [List.take_add_one, h]
  unfold fstP
  rw [List.foldl_append]; rfl
def ShareOk (x : Share) : Prop := 0 ≤ x.tons ∧ -100000 ≤ x.each ∧ x.each ≤ 100000
theorem fstP_bd {l : List Share} {need : Int} (hn : 0 ≤ need) (h : ∀ x ∈ l, ShareOk x) : ∀ k : Nat, (0 ≤ (fstP (l.take k) need).2 ∧ (fstP (l.take k) need).2 ≤ need) ∧ -100000 * (need - (fstP (l.take k) need).2) ≤ (fstP (l.take k) need).1 ∧ (fstP (l.take k) need).1 ≤ 100000 * (need - (fstP (l.take k) need).2)
  | 0 => by simp [fstP, hn]
  | k + 1 => by
    have ih := fstP_bd hn h k
    cases hx : l[k]? with
    | none =>
      have e : l.take (k + 1) = l.take k := by rw [List.take_add_one, hx]; simp
      rw [e]; exact ih
    | some x =>
      rw [fstP_take hx]
      obtain ⟨t0, e0, e1⟩ := h x (List.mem_of_getElem? hx)
      obtain ⟨⟨a, b⟩, c, d⟩ := ih
      have m1 := Int.mul_le_mul_of_nonneg_left e0 (show 0 ≤ min (fstP (l.take k) need).2 x.tons by omega)
      have m2 := Int.mul_le_mul_of_nonneg_left e1 (show 0 ≤ min (fstP (l.take k) need).2 x.tons by omega)
      dsimp only
      omega
end Go.Proofs.Ytmaldhbjhomdkaa.Coal

/-
  Loops that leave marks (ranges over functions within a loop); a slice of a slice; a store of a whole block.
-/
set_option linter.all false
namespace Go.H
open Go
variable {P : Program} {r : Option Nat} {N : Nat} {Q : Post} {E : Env} {D : List Deferred} {h h' : Hp}
theorem splice_all {l vs : List Value} (h : vs.length = l.length) : splice l 0 vs = vs := by
  unfold splice; rw [Nat.zero_add, List.drop_of_length_le (by omega)]; simp
section
variable {K : Value → Hp → Prop} {T : List PanicEntry → Hp → Prop} {dst : Option Nat} {ty : TypeId} {pos : String} {af : Array Edge} {gd : Option (Nat × Bool)}
theorem xv_sAll {t : TypeId} {x y : Operand} {b : Nat} {l vs : List Value} {t' : TypeId} {d : TD} (ht : TyOk P t d) (hx : ev E x = some (.pointer (some ⟨b, 0, none⟩))) (hy : ev E y = some (.agg ⟨vs⟩))
    (hm : Upd h b (.cells ⟨l⟩ t' (0, 0)) (.cells ⟨vs⟩ t' (0, 0)) h') (hn : vs.length = d.size) (hl : l.length = d.size) (h1 : vs.all Value.oneCell' = true) (H : K undef h') : XV P r ⟨dst, .store t x y, ty, pos, af, gd⟩ K T E h :=
  xv_s ht hx hy hm rfl hn h1 (by rw [Nat.zero_add, hl]; exact Nat.ble_eq_true_of_le (Nat.le_refl _)) (splice_all (hn.trans hl.symm)) H
theorem xv_cut {x lo hi : Operand} {t e : TypeId} {d : TD} {b o n c m : Nat} {k1 k2 : IntKind} {f u : Int} (ht : SlT P t e) (hd : TyOk P e d) (hx : ev E x = some (.slice (some ⟨b, o, none⟩) n c)) (hlo : ev E lo = some (.int k1 f)) (hhi : ev E hi = some (.int k2 u))
    (h0 : 0 ≤ f) (h1 : f < u) (h2 : u ≤ n) (h3 : n ≤ c) (hm : u.toNat - f.toNat = m)
    (H : K (.slice (some ⟨b, o + f.toNat * d.size, none⟩) m (c - f.toNat)) h) : XV P r ⟨dst, .slice t x (some lo) (some hi) none, ty, pos, af, gd⟩ K T E h := by
  subst hm
  exact xv_slice2 (l := some f) (u := some u) ht hd hx (by simp [optInt, hlo]) (by simp [optInt, hhi]) h0 (by dsimp only [Option.getD_some]; omega) (by dsimp only [Option.getD_some]; omega) (by dsimp only [Option.getD_some]; omega) H
end
end Go.H
