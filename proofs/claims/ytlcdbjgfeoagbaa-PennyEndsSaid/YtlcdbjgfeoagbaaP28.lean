/-
  Walks.
-/
import Derived.Test.YtlcdbjgfeoagbaaP22
namespace Go.Proofs.Ytlcdbjgfeoagbaa
open Go Go.H
set_option maxRecDepth 100000
set_option maxHeartbeats 8000000
set_option linter.all false
theorem Coins5_c {f : FuncId} {s : Slot} {h : Hp} {R : Ending → Hp → Prop} (hs : SlotV h s) (hsm : Small s) (hf : f = 15 ∨ f = 19) {l : List Span} {e : Int} (E1 : coS s = l) (E2 : errD s = e) (H : ∀ (V : Vec), l.length ≤ 1000 → V.ok 2 l.length (l.flatMap eSpan) → R (.returned (.tuple ⟨[.slice V.ad l.length V.cp, I e]⟩)) (V.hp 30 (l.flatMap eSpan) ++ h)) : ACalls Try.prog f ⟨[.agg ⟨eSlot s⟩]⟩ h R := by
  subst E1 E2
  refine Coins4_c hs hsm hf (fun V l e1 h1 hV => ?_)
  have e2 : l = coS s := e1
  subst e2
  exact H V h1 hV
theorem Bought3_c {f : FuncId} {s : Slot} {h : Hp} {R : Ending → Hp → Prop} (hs : SlotV h s) (hsm : Small s) (hf : f = 20 ∨ f = 21) {x : Span} {e : Int} (E1 : boS s = x) (E2 : errD s = e) (H : R (.returned (.tuple ⟨[.agg ⟨eSpan x⟩, I e]⟩)) h) : ACalls Try.prog f ⟨[.agg ⟨eSlot s⟩]⟩ h R := by
  subst E1 E2; exact Bought2_c hs hsm hf H
end Go.Proofs.Ytlcdbjgfeoagbaa

/-
  Hours at which the pennies can have been put in; every such course is a division that can be.
-/
set_option linter.all false
namespace Go.Proofs.Ytlcdbjgfeoagbaa
open Go Go.H
structure HoursOk (s : Slot) (hours : List Int) : Prop where
  rng : ∀ x ∈ hours, 0 ≤ x ∧ x ≤ s.now
  fit : ∀ m ∈ s.marks, m.used ≤ s.start + byH s hours m.hour ∧ s.start + byH s hours m.hour ≤ m.used + s.hold
def cntK (s : Slot) (hours : List Int) (k : Nat) : Int := ((hours.filter fun x => force s.tars x = k).length : Nat)
def cntH (s : Slot) (hours : List Int) (k : Nat) (u : Int) : Int := ((hours.filter fun x => force s.tars x = k ∧ x ≤ u).length : Nat)
def cntV (s : Slot) (hours : List Int) : List Int := (List.range s.tars.length).map fun k => cntK s hours k
section
variable {s : Slot}
theorem cntK_cons {x : Int} {l : List Int} {k : Nat} : cntK s (x :: l) k = (if force s.tars x = k then 1 else 0) + cntK s l k := by
  unfold cntK
  by_cases h : force s.tars x = k
  · rw [if_pos h, List.filter_cons_of_pos (by simpa using h), List.length_cons]; omega
  · rw [if_neg h, List.filter_cons_of_neg (by simpa using h)]; omega
theorem cntH_cons {x u : Int} {l : List Int} {k : Nat} : cntH s (x :: l) k u = (if force s.tars x = k ∧ x ≤ u then 1 else 0) + cntH s l k u := by
  unfold cntH
  by_cases h : force s.tars x = k ∧ x ≤ u
  · rw [if_pos h, List.filter_cons_of_pos (by simpa using h), List.length_cons]; omega
  · rw [if_neg h, List.filter_cons_of_neg (by simpa using h)]; omega
theorem cntK_nn (hours : List Int) (k : Nat) : 0 ≤ cntK s hours k := by unfold cntK; omega
theorem cntH_le (k : Nat) (u : Int) : ∀ hours : List Int, 0 ≤ cntH s hours k u ∧ cntH s hours k u ≤ cntK s hours k
  | [] => ⟨Int.le_refl _, Int.le_refl _⟩
  | x :: l => by
    have ih := cntH_le k u l
    rw [cntH_cons, cntK_cons]
    by_cases h : force s.tars x = k
    · rw [if_pos h]; split <;> omega
    · rw [if_neg h, if_neg (fun q => h q.1)]; omega
theorem cntH_mono {k : Nat} {u v : Int} (huv : u ≤ v) : ∀ hours : List Int, cntH s hours k u ≤ cntH s hours k v
  | [] => Int.le_refl _
  | x :: l => by
    have ih := cntH_mono (k := k) huv l
    rw [cntH_cons, cntH_cons]
    by_cases h : force s.tars x = k ∧ x ≤ u
    · rw [if_pos h, if_pos ⟨h.1, by have := h.2; omega⟩]; omega
    · rw [if_neg h]; split <;> omega
theorem cntH_all {k : Nat} {u : Int} : ∀ {hours : List Int}, (∀ x ∈ hours, force s.tars x = k → x ≤ u) → cntH s hours k u = cntK s hours k
  | [], _ => rfl
  | x :: l, h => by
    have ih := cntH_all (k := k) (u := u) fun y hy => h y (List.mem_cons_of_mem _ hy)
    rw [cntH_cons, cntK_cons, ih]
    by_cases hf : force s.tars x = k
    · rw [if_pos ⟨hf, h x List.mem_cons_self hf⟩, if_pos hf]
    · rw [if_neg (fun q => hf q.1), if_neg hf]
theorem cntK_out (hne : s.tars ≠ []) {k : Nat} (hk : s.tars.length ≤ k) : ∀ hours : List Int, cntK s hours k = 0
  | [] => rfl
  | x :: l => by
    have := force_lt hne x
    rw [cntK_cons, if_neg (by omega), cntK_out hne hk l]; omega
theorem cntV_get (hne : s.tars ≠ []) (hours : List Int) (k : Nat) : (cntV s hours).getD k 0 = cntK s hours k := by
  unfold cntV
  rw [List.getD_eq_getElem?_getD, List.getElem?_map]
  by_cases hk : k < s.tars.length
  · rw [List.getElem?_range hk]; rfl
  · rw [List.getElem?_eq_none (by simpa using hk), cntK_out hne (by omega)]; rfl
theorem cntV_len (hours : List Int) : (cntV s hours).length = s.tars.length := by unfold cntV; rw [List.length_map, List.length_range]
def worthF (s : Slot) (f : Nat → Int) : Nat → Int
  | 0 => 0
  | k + 1 => worthF s f k + f k * feetK s k
theorem worthN_F (n : List Int) : ∀ k, worthN s n k = worthF s (fun j => n.getD j 0) k
  | 0 => rfl
  | k + 1 => by rw [worthN, worthF, worthN_F n k]; rfl
theorem worthF_congr {f g : Nat → Int} : ∀ {k : Nat}, (∀ j, j < k → f j = g j) → worthF s f k = worthF s g k
  | 0, _ => rfl
  | k + 1, h => by rw [worthF, worthF, worthF_congr fun j hj => h j (by omega), h k (by omega)]
theorem worthN_V (hne : s.tars ≠ []) (hours : List Int) (k : Nat) : worthN s (cntV s hours) k = worthF s (cntK s hours) k := by
  rw [worthN_F]; exact worthF_congr fun j _ => cntV_get hne hours j
theorem worthF_one {j : Nat} : ∀ k, worthF s (fun i => if j = i then 1 else 0) k = if j < k then feetK s j else 0
  | 0 => rfl
  | k + 1 => by
    rw [worthF, worthF_one k]
    by_cases h : j < k
    · rw [if_pos h, if_neg (by omega), if_pos (by omega)]; omega
    · by_cases e : j = k
      · subst e; rw [if_neg h, if_pos rfl, if_pos (by omega)]; omega
      · rw [if_neg h, if_neg e, if_neg (by omega)]; omega
theorem worthF_add {f g : Nat → Int} : ∀ k, worthF s (fun i => f i + g i) k = worthF s f k + worthF s g k
  | 0 => rfl
  | k + 1 => by rw [worthF, worthF, worthF, worthF_add k, Int.add_mul]; omega
theorem feetAt_K (x : Int) : feetAt s x = feetK s (force s.tars x) := rfl
theorem byH_split (u : Int) : ∀ hours : List Int, byH s hours u = worthF s (cntK s hours) (force s.tars u) + cntH s hours (force s.tars u) u * feetK s (force s.tars u)
  | [] => by
    have : ∀ k, worthF s (cntK s []) k = 0 := fun k => by
      induction k with
      | zero => rfl
      | succ k ih => rw [worthF, ih]; simp [cntK]
    rw [this]; simp [byH, cntH]
  | x :: l => by
    have ih := byH_split u l
    have e : byH s (x :: l) u = (if x ≤ u then feetAt s x else 0) + byH s l u := by unfold byH feetAt; rw [List.map_cons, List.sum_cons]
    rw [e, ih, cntH_cons]
    have e2 : cntK s (x :: l) = fun i => (if force s.tars x = i then 1 else 0) + cntK s l i := funext fun i => cntK_cons
    rw [e2, worthF_add, worthF_one, feetAt_K, Int.add_mul]
    by_cases h1 : x ≤ u
    · have hm := force_mono (l := s.tars) h1
      rw [if_pos h1]
      by_cases h2 : force s.tars x < force s.tars u
      · rw [if_pos h2, if_neg (by omega)]; omega
      · have h3 : force s.tars x = force s.tars u := by omega
        rw [if_neg h2, if_pos ⟨h3, h1⟩, h3]; omega
    · rw [if_neg h1]
      have hm : force s.tars u ≤ force s.tars x := force_mono (by omega)
      rw [if_neg (by omega), if_neg (fun q => h1 q.2)]; omega
theorem forceN_nil {l : List Tariff} {u : Int} {k : Nat} (h : l[k]? = none) : forceN l u (k + 1) = forceN l u k := by rw [forceN, h]
theorem force_frm (hg : GoodSlot s) {u : Int} (h0 : 0 ≤ u) {t : Tariff} (ht : s.tars[force s.tars u]? = some t) : t.frm ≤ u := by
  have key : ∀ k, (∃ x, s.tars[forceN s.tars u k]? = some x ∧ x.frm ≤ u) := fun k => by
    induction k with
    | zero =>
      have hn := List.length_pos_iff.2 hg.ne
      have hx : s.tars[0]? = some s.tars[0] := List.getElem?_eq_getElem hn
      exact ⟨_, hx, by have := frm0_at hg.2.2.1 hx; omega⟩
    | succ k ih =>
      cases hk : s.tars[k]? with
      | none => rw [forceN_nil hk]; exact ih
      | some y =>
        by_cases hy : y.frm ≤ u
        · rw [forceN_in hk hy]; exact ⟨y, hk, hy⟩
        · rw [forceN_out hk hy]; exact ih
  obtain ⟨x, h1, h2⟩ := key s.tars.length
  have : s.tars[force s.tars u]? = some x := h1
  rw [ht] at this; cases this; exact h2
theorem endT_ge (hg : GoodSlot s) {u : Int} (h0 : 0 ≤ u ∧ u ≤ s.now) : u ≤ endT s (force s.tars u) := by
  unfold endT
  cases ht : s.tars[force s.tars u + 1]? with
  | none => exact h0.2
  | some t =>
    dsimp only
    have hlt := (List.getElem?_eq_some_iff.1 ht).1
    rcases Int.lt_or_le u t.frm with q | q
    · omega
    · exfalso
      -- then the next tariff would be in force
      have h1 : force s.tars u + 1 ≤ forceN s.tars u (force s.tars u + 2) := by rw [forceN_in ht q]; exact Nat.le_refl _
      have h2 : ∀ d, forceN s.tars u (force s.tars u + 2) ≤ forceN s.tars u (force s.tars u + 2 + d) := fun d => by
        induction d with
        | zero => exact Nat.le_refl _
        | succ d ih =>
          refine Nat.le_trans ih ?_
          have hle := forceN_le s.tars u (force s.tars u + 2 + d)
          show _ ≤ forceN s.tars u (force s.tars u + 2 + d + 1)
          cases hk : s.tars[force s.tars u + 2 + d]? with
          | none => rw [forceN_nil hk]; exact Nat.le_refl _
          | some y =>
            by_cases hy : y.frm ≤ u
            · rw [forceN_in hk hy]; omega
            · rw [forceN_out hk hy]; exact Nat.le_refl _
      have h3 := h2 (s.tars.length - (force s.tars u + 2))
      rw [show force s.tars u + 2 + (s.tars.length - (force s.tars u + 2)) = s.tars.length by omega] at h3
      have h4 : forceN s.tars u s.tars.length = force s.tars u := rfl
      omega
theorem end_force (hg : GoodSlot s) {k : Nat} (hk : k < s.tars.length) {u : Int} (h1 : ∀ t, s.tars[k]? = some t → t.frm ≤ u) (h2 : u ≤ endT s k) : force s.tars u = k := by
  have hx : s.tars[k]? = some s.tars[k] := List.getElem?_eq_getElem hk
  refine force_eq hx (h1 _ hx) fun j y hj hy => ?_
  have hl := (List.getElem?_eq_some_iff.1 hy).1
  have hz : s.tars[k + 1]? = some (s.tars[k + 1]'(by omega)) := List.getElem?_eq_getElem (by omega)
  rw [endT_p hz] at h2
  have := frm_le hg.2.2.2.1 hj hz hy
  omega
end
theorem needP_le {f L b c : Int} (hf : 1 ≤ f) (h1 : b ≤ c) (h2 : L ≤ c * f) (hb : 0 ≤ b) : needP f L b ≤ c := by
  unfold needP
  split
  · rename_i h
    have hbf := Int.mul_nonneg hb (show 0 ≤ f by omega)
    obtain ⟨_, c2⟩ := ceil_bd hf (show 1 ≤ L by omega)
    have h3 : ((L + f - 1).tdiv f - 1) * f < c * f := by omega
    have := Int.lt_of_mul_lt_mul_right h3 (by omega)
    omega
  · exact h1
theorem fits_of {s : Slot} (hg : GoodSlot s) {hours : List Int} {k : Nat} (hk : k < s.tars.length) {has : Int} (hrng : ∀ x ∈ hours, 0 ≤ x ∧ x ≤ s.now) : ∀ {l : List Mark} {b : Int}, (∀ m ∈ l, force s.tars m.hour = k ∧ m.used ≤ has + cntH s hours k m.hour * feetK s k ∧ has + cntH s hours k m.hour * feetK s k ≤ m.used + s.hold) → strictM l → 0 ≤ b → (∀ m ∈ l, b ≤ cntH s hours k m.hour) → ∃ B, fitsP s k (cntK s hours k) has l b = some B
  | [], b, _, _, _, _ => ⟨b, rfl⟩
  | m :: l, b, hl, hs, h0, hb => by
    obtain ⟨hf1, hf2⟩ := feetK_1 hg hk
    obtain ⟨m1, m2, m3⟩ := hl m List.mem_cons_self
    have hbm := hb m List.mem_cons_self
    have hle := cntH_le (s := s) k m.hour hours
    have hnl := needP_le (L := m.used - has) hf1 hbm (by omega) h0
    have hng := needP_ge (L := m.used - has) hf1 h0
    rw [fitsP_cons]
    have hst : ∃ B, stepP s k (cntK s hours k) has m b = some B ∧ 0 ≤ B ∧ (∀ x ∈ l, B ≤ cntH s hours k x.hour) := by
      unfold stepP
      rw [if_neg (by omega)]
      have hcap : capP s k (cntK s hours k) m (needP (feetK s k) (m.used - has) b) ≤ cntH s hours k m.hour ∧ 0 ≤ capP s k (cntK s hours k) m (needP (feetK s k) (m.used - has) b) := by
        unfold capP
        split
        · rename_i he
          rw [cntH_all fun x hx hxk => by have := endT_ge hg (hrng x hx); rw [hxk] at this; omega]
          exact ⟨Int.le_refl _, cntK_nn _ _⟩
        · omega
      have hmul := Int.mul_le_mul_of_nonneg_right hcap.1 (show 0 ≤ feetK s k by omega)
      rw [if_neg (by omega)]
      refine ⟨_, rfl, hcap.2, fun x hx => ?_⟩
      have h5 := (List.pairwise_cons.1 hs).1 x hx
      have h6 := cntH_mono (s := s) (k := k) (show m.hour ≤ x.hour by omega) hours
      omega
    obtain ⟨B, hB, hB0, hBl⟩ := hst
    rw [hB, Option.bind_some]
    exact fits_of hg hk hrng (fun x hx => hl x (List.mem_cons_of_mem _ hx)) (List.pairwise_cons.1 hs).2 hB0 hBl
theorem sum_cnt {s : Slot} (hne : s.tars ≠ []) : ∀ hours : List Int, (cntV s hours).sum = hours.length
  | [] => by
    have : ∀ l : List Nat, (l.map fun k => cntK s [] k).sum = 0 := fun l => by
      induction l with
      | nil => rfl
      | cons k l ih => rw [List.map_cons, List.sum_cons, ih]; simp [cntK]
    exact this _
  | x :: l => by
    have ih := sum_cnt hne l
    have h1 := force_lt hne x
    unfold cntV at *
    have e : (List.range s.tars.length).map (fun k => cntK s (x :: l) k) = (List.range s.tars.length).map (fun k => (if force s.tars x = k then 1 else 0) + cntK s l k) := List.map_congr_left fun k _ => cntK_cons
    have key : ∀ q : List Nat, (q.map fun k => (if force s.tars x = k then (1 : Int) else 0) + cntK s l k).sum = (q.map fun k => if force s.tars x = k then (1 : Int) else 0).sum + (q.map fun k => cntK s l k).sum := fun q => by
      induction q with
      | nil => rfl
      | cons k q ih => rw [List.map_cons, List.sum_cons, ih, List.map_cons, List.sum_cons, List.map_cons, List.sum_cons]; omega
    have one : ∀ n, ((List.range n).map fun k => if force s.tars x = k then (1 : Int) else 0).sum = if force s.tars x < n then 1 else 0 := fun n => by
      induction n with
      | zero => rfl
      | succ n ih =>
        rw [List.range_succ, List.map_append, List.sum_append_int, ih]
        simp only [List.map_cons, List.map_nil, List.sum_cons, List.sum_nil]
        by_cases h : force s.tars x < n
        · rw [if_pos h, if_neg (by omega), if_pos (by omega)]; omega
        · by_cases e : force s.tars x = n
          · rw [if_neg h, if_pos e, if_pos (by omega)]; omega
          · rw [if_neg h, if_neg e, if_neg (by omega)]; omega
    rw [e, key, one, if_pos h1, ih, List.length_cons]; omega
theorem div_of {s : Slot} (he : errS s = 0) {hours : List Int} (hl : (hours.length : Int) = s.coins) (H : HoursOk s hours) : cntV s hours ∈ divsS s := by
  have hg := (errS_0 he).1
  have hT := hg.2.1.1
  refine allS_in (b := []) (q := cntV s hours) (by rw [cntV_len]; omega) (fun x hx => ?_) (by rw [sum_cnt hg.ne]; exact hl) ?_
  · unfold cntV at hx
    obtain ⟨k, _, rfl⟩ := List.mem_map.1 hx
    exact cntK_nn _ _
  · rw [List.nil_append, possB_fits he fun k _ => by rw [cntV_get hg.ne]; exact cntK_nn _ _]
    intro k hk
    rw [cntV_get hg.ne, worthN_V hg.ne]
    have := fits_of hg hk (has := s.start + worthF s (cntK s hours) k) H.rng (l := ofT s k (dmS s)) (b := 0) (fun m hm => by
      obtain ⟨j, hj⟩ := List.getElem?_of_mem hm
      obtain ⟨h1, h2⟩ := of_mem hj
      have h3 := H.fit m ((dm_mem he).1 h1)
      rw [byH_split, h2] at h3
      exact ⟨h2, by omega, by omega⟩) ((dm_strict s).filter _) (Int.le_refl _) (fun m _ => (cntH_le k m.hour hours).1)
    obtain ⟨B, hB⟩ := this
    unfold fitsB
    rw [hB]; rfl
theorem byH_now {s : Slot} (hg : GoodSlot s) {hours : List Int} (h : ∀ x ∈ hours, 0 ≤ x ∧ x ≤ s.now) : byH s hours s.now = worthN s (cntV s hours) s.tars.length := by
  have hnw := hg.1.2.2.2
  rw [byH_split, worthN_V hg.ne]
  have hlt := force_lt hg.ne s.now
  -- now: the last tariff is in force
  have hlast : force s.tars s.now = s.tars.length - 1 := by
    have hx : s.tars[s.tars.length - 1]? = some (s.tars[s.tars.length - 1]'(by omega)) := List.getElem?_eq_getElem (by omega)
    have hb := (tarsOk_at hg.2.2.2.1 hx).1.2
    exact force_eq hx hb fun j y hj hy => absurd (List.getElem?_eq_some_iff.1 hy).1 (by omega)
  rw [cntH_all fun x hx _ => (h x hx).2, hlast]
  obtain ⟨q, hq⟩ : ∃ q, s.tars.length = q + 1 := ⟨s.tars.length - 1, by omega⟩
  rw [hq]; rfl
end Go.Proofs.Ytlcdbjgfeoagbaa

/-
  Every division that can be is a course that can have been, with each penny as early as it can be needed.
-/
set_option linter.all false
namespace Go.Proofs.Ytlcdbjgfeoagbaa
open Go Go.H
def hoursK (s : Slot) (k : Nat) (pen has : Int) : Int → Int → List Mark → List Int
  | cur, b, [] => List.replicate (pen - b).toNat cur
  | cur, b, m :: l => match stepP s k pen has m b with
    | some B => List.replicate (B - b).toNat cur ++ hoursK s k pen has (min s.now (m.hour + 1)) B l
    | none => []
def leC (u : Int) (l : List Int) : Int := ((l.filter fun x => x ≤ u).length : Nat)
theorem leC_app {u : Int} {l q : List Int} : leC u (l ++ q) = leC u l + leC u q := by unfold leC; rw [List.filter_append, List.length_append]; omega
theorem leC_all {u : Int} {l : List Int} (h : ∀ x ∈ l, x ≤ u) : leC u l = l.length := by unfold leC; rw [List.filter_eq_self.2 fun x hx => by simpa using h x hx]
theorem leC_none {u : Int} {l : List Int} (h : ∀ x ∈ l, u < x) : leC u l = 0 := by unfold leC; rw [List.filter_eq_nil_iff.2 fun x hx => by have := h x hx; simp; omega]; rfl
structure HK (s : Slot) (k : Nat) (pen has cur b : Int) (l : List Mark) : Prop where
  len : ((hoursK s k pen has cur b l).length : Int) = pen - b
  rng : ∀ y ∈ hoursK s k pen has cur b l, cur ≤ y ∧ y ≤ s.now ∧ force s.tars y = k
  fit : ∀ m ∈ l, m.used ≤ has + (b + leC m.hour (hoursK s k pen has cur b l)) * feetK s k ∧ has + (b + leC m.hour (hoursK s k pen has cur b l)) * feetK s k ≤ m.used + s.hold
  mem : ∀ y ∈ hoursK s k pen has cur b l, y = cur ∨ ∃ m ∈ l, y = min s.now (m.hour + 1)
theorem hoursK_ok {s : Slot} (hg : GoodSlot s) {k : Nat} (hk : k < s.tars.length) {pen has : Int} : ∀ {l : List Mark} {cur b : Int}, (∀ m ∈ l, markOk s.now m ∧ force s.tars m.hour = k) → strictM l → (∀ m ∈ l, cur ≤ m.hour) → (0 ≤ cur ∧ cur ≤ s.now) → (0 ≤ b ∧ b ≤ pen) → (b < pen → force s.tars cur = k) → (fitsP s k pen has l b).isSome = true → HK s k pen has cur b l
  | [], cur, b, _, _, _, hc, hb, hf, _ => by
    have e : hoursK s k pen has cur b [] = List.replicate (pen - b).toNat cur := rfl
    have hy : ∀ y ∈ List.replicate (pen - b).toNat cur, y = cur ∧ b < pen := fun y hy => ⟨List.eq_of_mem_replicate hy, by
      have := List.length_pos_of_mem hy; rw [List.length_replicate] at this; omega⟩
    refine ⟨by rw [e, List.length_replicate]; omega, fun y h => ?_, fun m hm => (List.not_mem_nil hm).elim, fun y h => ?_⟩
    · rw [e] at h; obtain ⟨rfl, h2⟩ := hy y h; exact ⟨Int.le_refl _, hc.2, hf h2⟩
    · rw [e] at h; exact .inl (hy y h).1
  | m :: l, cur, b, hm, hs, hcl, hc, hb, hf, hp => by
    obtain ⟨hf1, hf2⟩ := feetK_1 hg hk
    obtain ⟨hmk, hmf⟩ := hm m List.mem_cons_self
    have hcm := hcl m List.mem_cons_self
    obtain ⟨⟨hm1, hm2⟩, hm3, hm4⟩ := id hmk
    rw [fitsP_cons] at hp
    cases hst : stepP s k pen has m b with
    | none => rw [hst] at hp; exact absurd hp (by simp)
    | some B =>
      rw [hst, Option.bind_some] at hp
      obtain ⟨hB1, hB2⟩ := stepP_bd hf1 hb hst
      have hng := needP_ge (L := m.used - has) hf1 hb.1
      -- what the step says
      have hstep : m.used ≤ has + B * feetK s k ∧ has + B * feetK s k ≤ m.used + s.hold ∧ (m.hour = endT s k → B = pen) := by
        have h := hst
        unfold stepP at h
        split at h
        · cases h
        · rename_i h1
          split at h
          · cases h
          · rename_i h2
            have hBe := Option.some.inj h
            rw [hBe] at h2
            have hge : needP (feetK s k) (m.used - has) b ≤ B := by
              rw [← hBe]; unfold capP
              split <;> omega
            have hmul := Int.mul_le_mul_of_nonneg_right hge (show 0 ≤ feetK s k by omega)
            refine ⟨by omega, by omega, fun he => ?_⟩
            rw [← hBe]; exact if_pos he
      obtain ⟨st1, st2, st3⟩ := hstep
      have hend : m.hour ≤ endT s k := by have := endT_ge hg ⟨hm1, hm2⟩; rw [hmf] at this; exact this
      have hB0 : 0 ≤ B := by omega
      have hcur2 : 0 ≤ min s.now (m.hour + 1) ∧ min s.now (m.hour + 1) ≤ s.now := by have := hg.1.2.2.2; omega
      have hfrc : B < pen → m.hour + 1 ≤ endT s k ∧ min s.now (m.hour + 1) = m.hour + 1 ∧ force s.tars (m.hour + 1) = k := fun hlt => by
        have hne : m.hour ≠ endT s k := fun e => by have := st3 e; omega
        have h9 : m.hour + 1 ≤ endT s k := by omega
        have h8 : endT s k ≤ s.now := by
          unfold endT
          cases ht : s.tars[k + 1]? with
          | none => exact Int.le_refl _
          | some t => have := (tarsOk_at hg.2.2.2.1 ht).1; dsimp only; omega
        refine ⟨h9, by omega, end_force hg hk (fun t ht => ?_) h9⟩
        have := force_frm hg (u := m.hour) hm1 (by rw [hmf]; exact ht)
        omega
      have ih := hoursK_ok hg hk (pen := pen) (has := has) (l := l) (cur := min s.now (m.hour + 1)) (b := B) (fun x hx => hm x (List.mem_cons_of_mem _ hx)) (List.pairwise_cons.1 hs).2 (fun x hx => by have := (List.pairwise_cons.1 hs).1 x hx; omega) hcur2 ⟨hB0, hB2⟩ (fun hlt => by rw [(hfrc hlt).2.1]; exact (hfrc hlt).2.2) hp
      have e : hoursK s k pen has cur b (m :: l) = List.replicate (B - b).toNat cur ++ hoursK s k pen has (min s.now (m.hour + 1)) B l := by
        show (match stepP s k pen has m b with
          | some B => List.replicate (B - b).toNat cur ++ hoursK s k pen has (min s.now (m.hour + 1)) B l
          | none => []) = _
        rw [hst]
      have hrep : ∀ u, cur ≤ u → leC u (List.replicate (B - b).toNat cur) = B - b := fun u hu => by
        rw [leC_all fun x hx => by rw [List.eq_of_mem_replicate hx]; exact hu, List.length_replicate]; omega
      refine ⟨?_, fun y hy => ?_, fun x hx => ?_, fun y hy => ?_⟩
      · rw [e, List.length_append, List.length_replicate]; have := ih.len; omega
      · rw [e] at hy
        rcases List.mem_append.1 hy with hy | hy
        · have := List.length_pos_of_mem hy
          rw [List.length_replicate] at this
          rw [List.eq_of_mem_replicate hy]
          exact ⟨Int.le_refl _, hc.2, hf (by omega)⟩
        · have := ih.rng y hy
          refine ⟨by omega, this.2⟩
      · rw [e, leC_app]
        rcases List.mem_cons.1 hx with rfl | hx
        · rw [hrep _ hcm]
          have hz : leC x.hour (hoursK s k pen has (min s.now (x.hour + 1)) B l) = 0 := by
            rcases Int.lt_or_le B pen with hlt | hge
            · refine leC_none fun y hy => ?_
              have := (ih.rng y hy).1
              rw [(hfrc hlt).2.1] at this; omega
            · have h0 : (hoursK s k pen has (min s.now (x.hour + 1)) B l).length = 0 := by have := ih.len; omega
              rw [List.length_eq_zero_iff.1 h0]; rfl
          rw [hz, show b + (B - b + 0) = B by omega]
          exact ⟨st1, st2⟩
        · have h7 := (List.pairwise_cons.1 hs).1 x hx
          rw [hrep _ (by omega)]
          have h6 := ih.fit x hx
          rw [show b + (B - b + leC x.hour (hoursK s k pen has (min s.now (m.hour + 1)) B l)) = B + leC x.hour (hoursK s k pen has (min s.now (m.hour + 1)) B l) by omega]
          exact h6
      · rw [e] at hy
        rcases List.mem_append.1 hy with hy | hy
        · exact .inl (List.eq_of_mem_replicate hy)
        · rcases ih.mem y hy with h | ⟨z, hz, h⟩
          · exact .inr ⟨m, List.mem_cons_self, h⟩
          · exact .inr ⟨z, List.mem_cons_of_mem _ hz, h⟩
def whenL (s : Slot) : List Int := s.tars.map Tariff.frm ++ s.marks.flatMap fun m => [m.hour, min s.now (m.hour + 1)]
theorem cnt_app {s : Slot} {k : Nat} {l q : List Int} : cntK s (l ++ q) k = cntK s l k + cntK s q k := by unfold cntK; rw [List.filter_append, List.length_append]; omega
theorem cntH_app {s : Slot} {k : Nat} {u : Int} {l q : List Int} : cntH s (l ++ q) k u = cntH s l k u + cntH s q k u := by unfold cntH; rw [List.filter_append, List.length_append]; omega
theorem cnt_no {s : Slot} {k : Nat} {l : List Int} (h : ∀ x ∈ l, force s.tars x ≠ k) : cntK s l k = 0 := by unfold cntK; rw [List.filter_eq_nil_iff.2 fun x hx => by simpa using h x hx]; rfl
theorem cnt_yes {s : Slot} {k : Nat} {l : List Int} (h : ∀ x ∈ l, force s.tars x = k) : cntK s l k = l.length := by unfold cntK; rw [List.filter_eq_self.2 fun x hx => by simpa using h x hx]
theorem cntH_no {s : Slot} {k : Nat} {u : Int} {l : List Int} (h : ∀ x ∈ l, force s.tars x ≠ k) : cntH s l k u = 0 := by have := cntH_le (s := s) k u l; rw [cnt_no h] at this; omega
theorem cntH_yes {s : Slot} {k : Nat} {u : Int} {l : List Int} (h : ∀ x ∈ l, force s.tars x = k) : cntH s l k u = leC u l := by
  unfold cntH leC
  congr 2
  refine List.filter_congr fun x hx => ?_
  simp [h x hx]
theorem course_of {s : Slot} (he : errS s = 0) {n : List Int} (hn : n ∈ divsS s) : ∃ hours : List Int, (hours.length : Int) = s.coins ∧ HoursOk s hours ∧ cntV s hours = n ∧ ∀ x ∈ hours, x ∈ whenL s := by
  have hg := (errS_0 he).1
  have hT := hg.2.1.1
  have hcn := hg.1.2.2.1
  obtain ⟨q, e, hl, hb, hsum, hp⟩ := allS_mem hcn.1 hn
  rw [List.nil_append] at e
  subst e
  have hq0 : ∀ k, 0 ≤ n.getD k 0 := fun k => by
    rw [List.getD_eq_getElem?_getD]
    cases hk : n[k]? with
    | none => simp
    | some x => exact (hb x (List.mem_of_getElem? hk)).1
  have hfit := (possB_fits he fun k _ => hq0 k).1 hp
  -- the hours of one tariff
  let C : Nat → List Int := fun k => hoursK s k (n.getD k 0) (s.start + worthN s n k) ((s.tars.map Tariff.frm).getD k 0) 0 (ofT s k (dmS s))
  have hC : ∀ k, k < s.tars.length → HK s k (n.getD k 0) (s.start + worthN s n k) ((s.tars.map Tariff.frm).getD k 0) 0 (ofT s k (dmS s)) := fun k hk => by
    have hx : s.tars[k]? = some s.tars[k] := List.getElem?_eq_getElem hk
    have hfr : (s.tars.map Tariff.frm).getD k 0 = s.tars[k].frm := by rw [List.getD_eq_getElem?_getD, List.getElem?_map, hx]; rfl
    have hbd := frm_bd hg hx
    have htk := (tarsOk_at hg.2.2.2.1 hx).1.2
    refine hoursK_ok hg hk (fun m hm => ?_) ((dm_strict s).filter _) (fun m hm => ?_) (by rw [hfr]; omega) ⟨Int.le_refl _, hq0 k⟩ (fun _ => ?_) (hfit k hk)
    · obtain ⟨j, hj⟩ := List.getElem?_of_mem hm
      obtain ⟨h1, h2⟩ := of_mem hj
      exact ⟨dm_bd he h1, h2⟩
    · obtain ⟨j, hj⟩ := List.getElem?_of_mem hm
      obtain ⟨h1, h2⟩ := of_mem hj
      rw [hfr]
      exact force_frm hg (dm_bd he h1).1.1 (by rw [h2]; exact hx)
    · rw [hfr]
      exact force_eq hx (Int.le_refl _) fun j y hj hy => frm_ltt hg.2.2.2.1 (by omega) hx hy
  have hin : ∀ N, N ≤ s.tars.length → ∀ x ∈ (List.range N).flatMap C, 0 ≤ x ∧ x ≤ s.now ∧ force s.tars x < N ∧ x ∈ whenL s := fun N hN x hx => by
    obtain ⟨k, hk, hxk⟩ := List.mem_flatMap.1 hx
    rw [List.mem_range] at hk
    have hkk : k < s.tars.length := by omega
    have h1 := (hC k hkk).rng x hxk
    have hy : s.tars[k]? = some s.tars[k] := List.getElem?_eq_getElem hkk
    have hfr : (s.tars.map Tariff.frm).getD k 0 = s.tars[k].frm := by rw [List.getD_eq_getElem?_getD, List.getElem?_map, hy]; rfl
    have hbd := frm_bd hg hy
    refine ⟨by rw [hfr] at h1; omega, h1.2.1, by omega, ?_⟩
    rcases (hC k hkk).mem x hxk with h | ⟨m, hm, h⟩
    · rw [h, hfr]; exact List.mem_append_left _ (List.mem_map.2 ⟨_, List.getElem_mem hkk, rfl⟩)
    · obtain ⟨j, hj⟩ := List.getElem?_of_mem hm
      rw [h]
      exact List.mem_append_right _ (List.mem_flatMap.2 ⟨m, (dm_mem he).1 (of_mem hj).1, List.mem_cons_of_mem _ List.mem_cons_self⟩)
  have hcnt : ∀ N, N ≤ s.tars.length → ∀ k, cntK s ((List.range N).flatMap C) k = if k < N then n.getD k 0 else 0 := fun N => by
    induction N with
    | zero => intro _ k; rfl
    | succ N ih =>
      intro hN k
      rw [List.range_succ, List.flatMap_append, cnt_app, ih (by omega) k]
      have hone : (List.flatMap C [N]) = C N := by simp
      rw [hone]
      have hr := hC N (by omega)
      by_cases e : k = N
      · subst e
        rw [if_neg (by omega), if_pos (by omega), cnt_yes fun x hx => (hr.rng x hx).2.2]
        have := hr.len
        show (0 : Int) + ((C k).length : Int) = _
        have h9 : ((C k).length : Int) = n.getD k 0 - 0 := this
        omega
      · rw [cnt_no fun x hx => by rw [(hr.rng x hx).2.2]; omega]
        by_cases hk : k < N
        · rw [if_pos hk, if_pos (by omega)]; omega
        · rw [if_neg hk, if_neg (by omega)]; omega
  have hch : ∀ N, N ≤ s.tars.length → ∀ k u, k < N → cntH s ((List.range N).flatMap C) k u = leC u (C k) := fun N => by
    induction N with
    | zero => intro _ k u hk; omega
    | succ N ih =>
      intro hN k u hk
      rw [List.range_succ, List.flatMap_append, cntH_app]
      have hone : (List.flatMap C [N]) = C N := by simp
      rw [hone]
      have hr := hC N (by omega)
      by_cases e : k = N
      · subst e
        have h8 : cntH s (C k) k u = leC u (C k) := cntH_yes fun x hx => (hr.rng x hx).2.2
        rw [cntH_no fun x hx => by have := (hin k (by omega) x hx).2.2.1; omega, h8]; omega
      · rw [ih (by omega) k u (by omega), cntH_no fun x hx => by rw [(hr.rng x hx).2.2]; omega]; omega
  refine ⟨(List.range s.tars.length).flatMap C, ?_, ⟨fun x hx => ?_, fun m hm => ?_⟩, ?_, fun x hx => (hin _ (Nat.le_refl _) x hx).2.2.2⟩
  · rw [← sum_cnt hg.ne]
    have : cntV s ((List.range s.tars.length).flatMap C) = n := by
      refine List.ext_getElem? fun k => ?_
      unfold cntV
      rw [List.getElem?_map]
      by_cases hk : k < s.tars.length
      · rw [List.getElem?_range hk]
        show some (cntK s ((List.range s.tars.length).flatMap C) k) = _
        rw [hcnt _ (Nat.le_refl _) k, if_pos hk, List.getD_eq_getElem?_getD, List.getElem?_eq_getElem (by omega)]; rfl
      · rw [List.getElem?_eq_none (by simpa using hk), List.getElem?_eq_none (by omega)]; rfl
    rw [this]; exact hsum
  · have := hin _ (Nat.le_refl _) x hx; exact ⟨this.1, this.2.1⟩
  · have hmk := hg.2.2.2.2 m hm
    have hK := force_lt hg.ne m.hour
    have hw : worthF s (cntK s ((List.range s.tars.length).flatMap C)) (force s.tars m.hour) = worthN s n (force s.tars m.hour) := by
      rw [worthN_F]
      exact worthF_congr fun j hj => by rw [hcnt _ (Nat.le_refl _) j, if_pos (by omega)]
    rw [byH_split, hw, hch _ (Nat.le_refl _) _ _ hK]
    have h2 : m.used ≤ s.start + worthN s n (force s.tars m.hour) + (0 + leC m.hour (C (force s.tars m.hour))) * feetK s (force s.tars m.hour) ∧ s.start + worthN s n (force s.tars m.hour) + (0 + leC m.hour (C (force s.tars m.hour))) * feetK s (force s.tars m.hour) ≤ m.used + s.hold := (hC _ hK).fit m (List.mem_filter.2 ⟨(dm_mem he).2 hm, by simp⟩)
    rw [Int.zero_add] at h2
    constructor
    · have := h2.1; omega
    · have := h2.2; omega
  · refine List.ext_getElem? fun k => ?_
    unfold cntV
    rw [List.getElem?_map]
    by_cases hk : k < s.tars.length
    · rw [List.getElem?_range hk]
      show some (cntK s ((List.range s.tars.length).flatMap C) k) = _
      rw [hcnt _ (Nat.le_refl _) k, if_pos hk, List.getD_eq_getElem?_getD, List.getElem?_eq_getElem (by omega)]; rfl
    · rw [List.getElem?_eq_none (by simpa using hk), List.getElem?_eq_none (by omega)]; rfl
end Go.Proofs.Ytlcdbjgfeoagbaa

/-
  Spans of slot meters of which one has more courses than the other; tariffs with the same feet.
-/
set_option linter.all false
namespace Go.Proofs.Ytlcdbjgfeoagbaa
open Go Go.H
theorem spanL_bd {l : List Int} {x : Int} (hx : x ∈ l) : (spanL l).lo ≤ x ∧ x ≤ (spanL l).hi := by
  have key : ∀ (q : List Int) (z : Span), ((q.foldl (fun x n => (⟨min x.lo n, max x.hi n⟩ : Span)) z).lo ≤ z.lo ∧ z.hi ≤ (q.foldl (fun x n => (⟨min x.lo n, max x.hi n⟩ : Span)) z).hi) ∧ ∀ y ∈ q, (q.foldl (fun x n => (⟨min x.lo n, max x.hi n⟩ : Span)) z).lo ≤ y ∧ y ≤ (q.foldl (fun x n => (⟨min x.lo n, max x.hi n⟩ : Span)) z).hi := by
    intro q
    induction q with
    | nil => intro z; exact ⟨⟨Int.le_refl _, Int.le_refl _⟩, fun y hy => (List.not_mem_nil hy).elim⟩
    | cons w q ih =>
      intro z
      rw [List.foldl_cons]
      obtain ⟨⟨h1, h2⟩, h3⟩ := ih ⟨min z.lo w, max z.hi w⟩
      dsimp only at h1 h2
      refine ⟨⟨by omega, by omega⟩, fun y hy => ?_⟩
      rcases List.mem_cons.1 hy with rfl | hy
      · omega
      · exact h3 y hy
  exact (key l _).2 x hx
theorem spanL_mem {l : List Int} (h : l ≠ []) : (spanL l).lo ∈ l ∧ (spanL l).hi ∈ l := spanL_in (P := fun x => x ∈ l) h fun x hx => hx
def Course (s : Slot) (hours : List Int) : Prop := (hours.length : Int) = s.coins ∧ HoursOk s hours
section
variable {s : Slot}
theorem divs_iff (he : errS s = 0) {n : List Int} : n ∈ divsS s ↔ ∃ hours, Course s hours ∧ cntV s hours = n := by
  constructor
  · intro h
    obtain ⟨hours, h1, h2, h3, _⟩ := course_of he h
    exact ⟨hours, ⟨h1, h2⟩, h3⟩
  · rintro ⟨hours, ⟨h1, h2⟩, rfl⟩
    exact div_of he h1 h2
theorem bought_iff (he : errS s = 0) {x : Int} : x ∈ (divsS s).map (fun n => worthN s n n.length) ↔ ∃ hours, Course s hours ∧ byH s hours s.now = x := by
  have hg := (errS_0 he).1
  rw [List.mem_map]
  constructor
  · rintro ⟨n, hn, rfl⟩
    obtain ⟨hours, hc, rfl⟩ := (divs_iff he).1 hn
    exact ⟨hours, hc, by rw [byH_now hg hc.2.rng, cntV_len]⟩
  · rintro ⟨hours, hc, rfl⟩
    exact ⟨_, (divs_iff he).2 ⟨hours, hc, rfl⟩, by rw [byH_now hg hc.2.rng, cntV_len]⟩
theorem coins_iff (he : errS s = 0) {k : Nat} {x : Int} : x ∈ (divsS s).map (fun n => n.getD k 0) ↔ ∃ hours, Course s hours ∧ cntK s hours k = x := by
  have hg := (errS_0 he).1
  rw [List.mem_map]
  constructor
  · rintro ⟨n, hn, rfl⟩
    obtain ⟨hours, hc, rfl⟩ := (divs_iff he).1 hn
    exact ⟨hours, hc, (cntV_get hg.ne _ _).symm⟩
  · rintro ⟨hours, hc, rfl⟩
    exact ⟨_, (divs_iff he).2 ⟨hours, hc, rfl⟩, cntV_get hg.ne _ _⟩
theorem errD_iff (he : errS s = 0) : errD s = 0 ↔ ∃ hours, Course s hours := by
  constructor
  · intro h
    have hd : divsS s ≠ [] := fun q => by rw [errD_6 he q] at h; exact absurd h (by decide)
    obtain ⟨n, l, hl⟩ := List.exists_cons_of_ne_nil hd
    obtain ⟨hours, hc, _⟩ := (divs_iff he).1 (show n ∈ divsS s by rw [hl]; exact List.mem_cons_self)
    exact ⟨hours, hc⟩
  · rintro ⟨hours, hc⟩
    refine errD_0 he fun q => ?_
    have := (divs_iff he).2 ⟨hours, hc, rfl⟩
    rw [q] at this
    exact List.not_mem_nil this
theorem errD_ne (h : errD s = 0) : divsS s ≠ [] := fun q => by rw [errD_6 (errD_errS h) q] at h; exact absurd h (by decide)
theorem coinsS_get {k : Nat} (hk : k < s.tars.length) : (coinsS s)[k]? = some (spanL ((divsS s).map fun n => n.getD k 0)) := by
  unfold coinsS
  rw [List.getElem?_map, List.getElem?_range hk]; rfl
end
def win (x y : Span) : Prop := y.lo ≤ x.lo ∧ x.hi ≤ y.hi
instance (x y : Span) : Decidable (win x y) := by unfold win; infer_instance
theorem last_at {s : Slot} (h : s.marks ≠ []) : ∃ m ∈ s.marks, (∀ x ∈ s.marks, x.hour ≤ m.hour) ∧ lastM s = (m.used, decide (m.hour = s.now)) := by
  have hl : 0 < (sortM s.marks).length := by rw [sortM_len]; exact List.length_pos_iff.2 h
  have hk : (sortM s.marks)[(sortM s.marks).length - 1]? = some ((sortM s.marks)[(sortM s.marks).length - 1]'(by omega)) := List.getElem?_eq_getElem (by omega)
  refine ⟨_, sortM_mem.1 (List.mem_of_getElem? hk), fun x hx => ?_, lastM_p hk⟩
  have key : ∀ {l : List Mark}, srtd l → ∀ {i j : Nat} {a b : Mark}, i ≤ j → l[i]? = some a → l[j]? = some b → a.hour ≤ b.hour := by
    intro l
    induction l with
    | nil => intro _ i j a b _ ha _; simp at ha
    | cons z l ih =>
      intro hs i j a b hij ha hb
      cases i with
      | zero =>
        cases j with
        | zero => rw [ha] at hb; cases hb; exact Int.le_refl _
        | succ j => simp at ha hb; subst ha; exact hs.1 b (List.mem_of_getElem? hb)
      | succ i =>
        cases j with
        | zero => omega
        | succ j => exact ih hs.2 (show i ≤ j by omega) (by simpa using ha) (by simpa using hb)
  obtain ⟨i, hi⟩ := List.getElem?_of_mem (sortM_mem.2 hx)
  exact key (sortM_srtd _) (by have := (List.getElem?_eq_some_iff.1 hi).1; omega) hi hk
theorem last_nil {s : Slot} (h : s.marks = []) : lastM s = (0, false) := by unfold lastM; rw [h]; rfl
theorem credit_ok {s : Slot} (hg : GoodSlot s) {hours : List Int} (hc : HoursOk s hours) : 0 ≤ (creditA s (byH s hours s.now)).lo ∧ (creditA s (byH s hours s.now)).lo ≤ (creditA s (byH s hours s.now)).hi ∧ (creditA s (byH s hours s.now)).hi ≤ s.hold := by
  have hn := hg.1
  have hb0 := byH_bd hg.feet hg.ne s.now hours
  by_cases hm : s.marks = []
  · rw [creditA_f (by rw [last_nil hm]), last_nil hm]; dsimp only; unfold numsOk at hn; omega
  · obtain ⟨m, hmm, hmax, hlm⟩ := last_at hm
    have hf := hc.fit m hmm
    have hmk := hg.2.2.2.2 m hmm
    by_cases he : m.hour = s.now
    · rw [creditA_t (by rw [hlm]; exact decide_eq_true he), hlm]
      rw [he] at hf; dsimp only; omega
    · rw [creditA_f (by rw [hlm]; exact decide_eq_false he), hlm]
      have hmono : byH s hours m.hour ≤ byH s hours s.now := by
        have hms := hmk.1
        clear hc hf hb0
        induction hours with
        | nil => exact Int.le_refl _
        | cons x l ih =>
          have e : ∀ u, byH s (x :: l) u = (if x ≤ u then feetAt s x else 0) + byH s l u := fun u => by unfold byH feetAt; rw [List.map_cons, List.sum_cons]
          have hfb := feetAt_bd hg.feet hg.ne x
          rw [e, e]
          by_cases h1 : x ≤ m.hour
          · rw [if_pos h1, if_pos (by omega)]; omega
          · rw [if_neg h1]; split <;> omega
      unfold numsOk at hn
      dsimp only; omega
theorem credit_mono {s : Slot} {x y : Int} (h : x ≤ y) : (creditA s x).lo ≤ (creditA s y).lo ∧ (creditA s x).hi ≤ (creditA s y).hi := by
  unfold creditA
  split <;> (dsimp only; omega)
end Go.Proofs.Ytlcdbjgfeoagbaa

/-
  A greater Hold, a mark more, a tariff in two.
-/
set_option linter.all false
namespace Go.Proofs.Ytlcdbjgfeoagbaa
open Go Go.H
end Go.Proofs.Ytlcdbjgfeoagbaa

/-
  Words of the law on a mark more, a tariff in two, a greater Hold.
-/
set_option linter.all false
namespace Go.Proofs.Ytlcdbjgfeoagbaa
open Go Go.H
section
variable {s : Slot} {a : Int} {k : Nat} {t : Tariff}
theorem errD_1 (h : errD s = 1) : errS s = 1 := by
  by_cases h0 : errS s = 0
  · unfold errD at h
    rw [if_pos h0] at h
    split at h <;> exact absurd h (by decide)
  · rw [← errD_e h0]; exact h
end
end Go.Proofs.Ytlcdbjgfeoagbaa

/-
  Walks.
-/
namespace Go.Proofs.Ytlcdbjgfeoagbaa
open Go Go.H
set_option maxRecDepth 100000
set_option maxHeartbeats 8000000
set_option linter.all false
theorem co_0 {s : Slot} (h : errD s = 0) : coS s = coinsS s := if_pos h
theorem co_n {s : Slot} (h : errD s ≠ 0) : coS s = [] := if_neg h
end Go.Proofs.Ytlcdbjgfeoagbaa

/-
  A truth: hours, marks, and what Play and the spans say of them.
-/
set_option linter.all false
namespace Go.Proofs.Ytlcdbjgfeoagbaa
open Go Go.H
structure Lv (s : Slot) (hours : List Int) (credit used hour : Int) (ms : List Mark) : Prop where
  cr : 0 ≤ credit ∧ credit ≤ s.hold
  us : 0 ≤ used
  hr : 0 ≤ hour ∧ hour ≤ s.now
  rng : ∀ x ∈ hours, 0 ≤ x ∧ x ≤ s.now
  len : hours.length ≤ 24
  mko : ∀ m ∈ ms, (0 ≤ m.hour ∧ m.hour ≤ hour) ∧ 0 ≤ m.used ∧ m.used ≤ used
  mlen : ms.length ≤ 12
  cro : ∀ a ∈ ms, ∀ b ∈ ms, a.hour < b.hour → a.used ≤ b.used
section
variable {s : Slot} {hours : List Int} {credit used hour : Int} {ms : List Mark}
theorem Lv.start (hg : GoodSlot s) : Lv s [] s.start 0 0 [] := by
  obtain ⟨⟨⟨a1, a2⟩, ⟨a3, a4⟩, a5, a6⟩, _⟩ := hg
  exact ⟨⟨a3, a4⟩, Int.le_refl _, ⟨Int.le_refl _, a6.1⟩, fun _ h => absurd h List.not_mem_nil, Nat.zero_le _, fun _ h => absurd h List.not_mem_nil, Nat.zero_le _, fun _ h => absurd h List.not_mem_nil⟩
theorem Lv.go (H : Lv s hours credit used hour ms) {g : Int} (h1 : hour ≤ g) (h2 : g ≤ s.now) : Lv s hours credit used g ms :=
  ⟨H.cr, H.us, ⟨by have := H.hr.1; omega, h2⟩, H.rng, H.len, fun m hm => ⟨⟨(H.mko m hm).1.1, by have := (H.mko m hm).1.2; omega⟩, (H.mko m hm).2⟩, H.mlen, H.cro⟩
theorem Lv.use (H : Lv s hours credit used hour ms) {n : Int} (h0 : 0 ≤ n) (h1 : n ≤ credit) : Lv s hours (credit - n) (used + n) hour ms :=
  ⟨⟨by omega, by have := H.cr.2; omega⟩, by have := H.us; omega, H.hr, H.rng, H.len, fun m hm => ⟨(H.mko m hm).1, (H.mko m hm).2.1, by have := (H.mko m hm).2.2; omega⟩, H.mlen, H.cro⟩
theorem Lv.mark (H : Lv s hours credit used hour ms) (h2 : ms.length < 12) : Lv s hours credit used hour (ms ++ [⟨hour, used⟩]) :=
  ⟨H.cr, H.us, H.hr, H.rng, H.len, fun m hm => by
    rcases List.mem_append.1 hm with h | h
    · exact H.mko m h
    · rw [List.mem_singleton.1 h]; exact ⟨⟨H.hr.1, Int.le_refl _⟩, H.us, Int.le_refl _⟩, by rw [List.length_append]; exact h2, fun a ha b hb hab => by
    rcases List.mem_append.1 ha with h | h <;> rcases List.mem_append.1 hb with q | q
    · exact H.cro a h b q hab
    · rw [List.mem_singleton.1 q]; exact (H.mko a h).2.2
    · rw [List.mem_singleton.1 h] at hab; exact absurd hab (by have := (H.mko b q).1.2; show ¬ hour < b.hour; omega)
    · rw [List.mem_singleton.1 h, List.mem_singleton.1 q]; exact Int.le_refl _⟩
end
structure Mx (ms l : List Mark) : Prop where
  len : l.length = ms.length
  at' : ∀ (k : Nat) x, l[k]? = some x → ∃ y, ms[k]? = some y ∧ x.hour = y.hour ∧ y.used ≤ x.used ∧ ∃ z ∈ ms, z.hour = x.hour ∧ z.used = x.used
def Dn (ms l : List Mark) (i : Nat) : Prop := ∀ (k : Nat) x, k < i → l[k]? = some x → ∀ z ∈ ms, z.hour = x.hour → z.used ≤ x.used
def Dj (ms l : List Mark) (i j : Nat) : Prop := ∀ x, l[i]? = some x → ∀ (k : Nat) z, k < j → ms[k]? = some z → z.hour = x.hour → z.used ≤ x.used
section
variable {ms l : List Mark} {i j : Nat}
theorem Mx.refl : Mx ms ms := ⟨rfl, fun k x h => ⟨x, h, rfl, Int.le_refl _, x, List.mem_of_getElem? h, rfl, rfl⟩⟩
theorem Dn.zero : Dn ms l 0 := fun k _ h => absurd h (Nat.not_lt_zero k)
theorem Dj.zero : Dj ms l i 0 := fun _ _ k _ h => absurd h (Nat.not_lt_zero k)
theorem Dn.more (H : Dn ms l i) (hj : Dj ms l i ms.length) : Dn ms l (i + 1) := fun k x hk hx z hz hh => by
  by_cases e : k = i
  · subst e
    obtain ⟨n, hn⟩ := List.getElem?_of_mem hz
    exact hj x hx n z (List.getElem?_eq_some_iff.1 hn).1 hn hh
  · exact H k x (by omega) hx z hz hh
theorem Dj.other (M : Mx ms l) {x y : Mark} (hx : l[i]? = some x) (hy : l[j]? = some y) (hne : y.hour ≠ x.hour) (H : Dj ms l i j) : Dj ms l i (j + 1) := fun x' hx' k z hk hz hh => by
  rw [hx] at hx'; cases hx'
  by_cases e : k = j
  · subst e
    obtain ⟨y', h1, h2, _⟩ := M.at' _ _ hy
    rw [hz] at h1; cases h1
    exact absurd (h2.trans hh) hne
  · exact H x hx k z (by omega) hz hh
end
structure LvR (s : Slot) (hours : List Int) (l : List Mark) : Prop where
  rng : ∀ x ∈ hours, 0 ≤ x ∧ x ≤ s.now
  len : hours.length ≤ 24
  mlen : l.length ≤ 12
  mko : ∀ m ∈ l, markOk s.now m
  same : ∀ a ∈ l, ∀ b ∈ l, a.hour = b.hour → a.used = b.used
  cro : ∀ a ∈ l, ∀ b ∈ l, a.hour < b.hour → a.used ≤ b.used
theorem LvR.sub {s : Slot} {hours : List Int} {l q : List Mark} (H : LvR s hours l) (hs : ∀ x ∈ q, x ∈ l) (hl : q.length ≤ 12) : LvR s hours q :=
  ⟨H.rng, H.len, hl, fun m hm => H.mko m (hs m hm), fun a ha b hb => H.same a (hs a ha) b (hs b hb), fun a ha b hb => H.cro a (hs a ha) b (hs b hb)⟩
structure TrueV (s : Slot) (hours : List Int) : Prop where
  bad : errS s = 0
  ok : errD s = 0
  play : playA s hours = (byH s hours s.now, creditA s (byH s hours s.now), s.now, 0)
  bo : (boughtS s).lo ≤ byH s hours s.now ∧ byH s hours s.now ≤ (boughtS s).hi
  le : (leftS s).lo ≤ (creditA s (byH s hours s.now)).lo ∧ (creditA s (byH s hours s.now)).hi ≤ (leftS s).hi
  cr : 0 ≤ (creditA s (byH s hours s.now)).lo ∧ (creditA s (byH s hours s.now)).lo ≤ (creditA s (byH s hours s.now)).hi ∧ (creditA s (byH s hours s.now)).hi ≤ s.hold
  co : ∀ (k : Nat) x, (coinsS s)[k]? = some x → x.lo ≤ cntK s hours k ∧ cntK s hours k ≤ x.hi ∧ x.hi ≤ s.coins
theorem badM_none {s : Slot} {f : Int → Int} : ∀ {l : List Mark}, (∀ m ∈ l, m.used ≤ s.start + f m.hour ∧ s.start + f m.hour ≤ m.used + s.hold) → badM s f l = none
  | [], _ => rfl
  | m :: l, h => by
    have := h m List.mem_cons_self
    rw [badM_cons, if_neg (by omega), if_neg (by omega)]
    exact badM_none fun x hx => h x (List.mem_cons_of_mem _ hx)
theorem cntK_le (s : Slot) (hours : List Int) (k : Nat) : cntK s hours k ≤ hours.length := by
  unfold cntK
  have := List.length_filter_le (fun x => decide (force s.tars x = k)) hours
  exact_mod_cast this
theorem course_true {s : Slot} {hours : List Int} (he : errS s = 0) (hc : Course s hours) : TrueV s hours := by
  have hg := (errS_0 he).1
  have hd := (errD_iff he).2 ⟨hours, hc⟩
  have hb : (boughtS s).lo ≤ byH s hours s.now ∧ byH s hours s.now ≤ (boughtS s).hi := spanL_bd ((bought_iff he).2 ⟨hours, hc, rfl⟩)
  refine ⟨he, hd, playA_0 he ⟨hc.1, hc.2.rng⟩ (badM_none fun m hm => hc.2.fit m (sortM_mem.1 hm)), hb, ⟨(credit_mono hb.1).1, (credit_mono hb.2).2⟩, credit_ok hg hc.2, fun k x hx => ?_⟩
  have hk : k < s.tars.length := by have := (List.getElem?_eq_some_iff.1 hx).1; rw [coins_len] at this; exact this
  rw [coinsS_get hk] at hx
  cases hx
  have h1 := spanL_bd ((coins_iff he).2 ⟨hours, hc, rfl⟩ : cntK s hours k ∈ _)
  refine ⟨h1.1, h1.2, ?_⟩
  obtain ⟨_, h3⟩ := spanL_mem (l := (divsS s).map fun n => n.getD k 0) (fun q => errD_ne hd (List.map_eq_nil_iff.1 q))
  obtain ⟨h2, c2, e2⟩ := (coins_iff he).1 h3
  rw [← e2, ← c2.1]
  exact cntK_le s h2 k
theorem cntV_step {s : Slot} {hours : List Int} {j : Nat} {x : Int} (h : hours[j]? = some x) (hne : s.tars ≠ []) : (cntV s (hours.take j))[force s.tars x]? = some (cntK s (hours.take j) (force s.tars x)) ∧ cntV s (hours.take (j + 1)) = (cntV s (hours.take j)).set (force s.tars x) (cntK s (hours.take j) (force s.tars x) + 1) := by
  have hf := force_lt hne x
  have e0 : ∀ (l : List Int) (k : Nat), k < s.tars.length → (cntV s l)[k]? = some (cntK s l k) := fun l k hk => by
    unfold cntV; rw [List.getElem?_map, List.getElem?_range hk]; rfl
  refine ⟨e0 _ _ hf, List.ext_getElem? fun k => ?_⟩
  have hs : hours.take (j + 1) = hours.take j ++ [x] := by rw [List.take_add_one, h]; rfl
  by_cases hk : k < s.tars.length
  · rw [e0 _ _ hk, hs, cnt_app, cntK_cons]
    by_cases e : force s.tars x = k
    · subst e
      rw [List.getElem?_set_self (by rw [cntV_len]; exact hf), if_pos rfl]
      simp [cntK]
    · rw [List.getElem?_set_ne e, e0 _ _ hk, if_neg e]
      simp [cntK]
  · rw [List.getElem?_eq_none (by rw [cntV_len]; omega), List.getElem?_eq_none (by rw [List.length_set, cntV_len]; omega)]
theorem cntV_at {s : Slot} {hours : List Int} {k : Nat} (hk : k < s.tars.length) : (cntV s hours)[k]? = some (cntK s hours k) := by
  unfold cntV; rw [List.getElem?_map, List.getElem?_range hk]; rfl
theorem cntV_0 {s : Slot} : cntV s [] = List.replicate s.tars.length 0 := by
  unfold cntV
  apply List.ext_getElem?
  intro k
  rw [List.getElem?_map, List.getElem?_replicate]
  by_cases hk : k < s.tars.length
  · rw [List.getElem?_range hk, if_pos hk]; rfl
  · rw [List.getElem?_eq_none (by simpa using hk), if_neg hk]; rfl
end Go.Proofs.Ytlcdbjgfeoagbaa
