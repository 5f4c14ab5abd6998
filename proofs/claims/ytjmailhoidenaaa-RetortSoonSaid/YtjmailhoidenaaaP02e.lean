/-
  The least hour in which a stoke can be, and when a retort can be charged.
-/
import Derived.Test.YtjmailhoidenaaaP02d
set_option linter.all false
namespace Go.Proofs.Ytjmailhoidenaaa
open Go Go.H
def tnK (kind : Int) : Int := if kind = 0 then 1 else 0
def stk (own kind t : Int) : Stoke := ⟨t, own, kind, tnK kind⟩
def Fails (w : House) (S : St) (x : Stoke) : Prop := ∃ e, doStoke w S x = .error e
/-- The least hour found, or none. -/
def Early (w : House) (S : St) (own kind : Int) : Option (Int × St) → Prop
  | some (t, S') => S.last ≤ t ∧ (∀ j, S.last ≤ j → j < t → Fails w S (stk own kind j)) ∧ doStoke w S (stk own kind t) = .ok S'
  | none => ∀ j, S.last ≤ j → j ≤ 1048576 → Fails w S (stk own kind j)
theorem doStoke_good {w : House} {S S' : St} {x : Stoke} (h : doStoke w S x = .ok S') : goodStoke x ∧ S.last ≤ x.hour ∧ S.done x.hour < w.gang ∧ ∃ o', ovDo w (S.ov x.ret.toNat) x = .ok o' ∧ S'.ov = upd S.ov x.ret.toNat o' ∧ S'.done = setd S.done x.hour (S.done x.hour + 1) ∧ S'.last = x.hour := by
  unfold doStoke at h
  repeat' split at h
  all_goals first | (cases h; done) | skip
  rename_i hg hl hga _ S1 hk
  injection h with h
  subst h
  obtain ⟨o', h1, h2, h3, h4⟩ := kindDo_good hk
  exact ⟨by simpa using hg, by omega, by omega, o', h1, h2, rfl, rfl⟩
theorem not_fails {w : House} {S : St} {x : Stoke} {o' : Oven} (hg : goodStoke x) (hl : S.last ≤ x.hour) (hga : S.done x.hour < w.gang) (ho : ovDo w (S.ov x.ret.toNat) x = .ok o') : ¬ Fails w S x := by
  rintro ⟨e, he⟩
  obtain ⟨S1, hk⟩ := kindDo_of ho
  rw [doOk hg (by omega) (by omega) hk] at he
  cases he
/-- What the next free hour is. -/
theorem free_spec {w : House} {S : St} {b f : Int} (hw : goodHouse w) (hS : S.Fr b) : (f ≤ freeHour w S f ∧ S.last ≤ freeHour w S f) ∧ S.done (freeHour w S f) < w.gang ∧ ∀ j, f ≤ j → S.last ≤ j → j < freeHour w S f → w.gang ≤ S.done j := by
  have hga := hw.2.2.2.2.2.2.1
  have hb := freeHour_bound w S f
  refine ⟨⟨hb.1, hb.2.1⟩, ?_, ?_⟩
  · unfold freeHour
    split
    · rw [hS.after _ (by omega)]; omega
    · omega
  · intro j h1 h2 h3
    unfold freeHour at h3
    split at h3
    · have : j = max f S.last := by omega
      rw [this]; assumption
    · omega
/-- If from an hour on only the gang binds, the least hour is the gang's next free one. -/
theorem early_free {w : House} {S : St} {b f own kind : Int} (hw : goodHouse w) (hS : S.Fr b) (hf : 0 ≤ f) (hown : 0 ≤ own ∧ own ≤ 7) (hkd : 0 ≤ kind ∧ kind ≤ 4)
    (hyes : ∀ j, f ≤ j → ∃ o', ovDo w (S.ov own.toNat) (stk own kind j) = .ok o') (hno : ∀ j o', ovDo w (S.ov own.toNat) (stk own kind j) = .ok o' → f ≤ j) :
    (∀ t S', Early w S own kind (some (t, S')) → t = freeHour w S f ∧ t ≤ 1048576) ∧ (Early w S own kind none → 1048576 < freeHour w S f) := by
  have hgd : ∀ j, 0 ≤ j → j ≤ 1048576 → goodStoke (stk own kind j) := fun j h1 h2 => by
    unfold stk tnK goodStoke
    refine ⟨⟨h1, h2⟩, hown, hkd, fun h => ?_, fun h => ?_⟩
    · simp only; rw [if_pos h]; omega
    · simp only; rw [if_neg h]
  obtain ⟨⟨h1, h2⟩, h3, h4⟩ := free_spec (f := f) hw hS
  have hok : freeHour w S f ≤ 1048576 → ¬ Fails w S (stk own kind (freeHour w S f)) := fun hle => by
    obtain ⟨o', ho⟩ := hyes _ h1
    exact not_fails (hgd _ (by omega) hle) h2 h3 ho
  refine ⟨fun t S' ⟨e1, e2, e3⟩ => ?_, fun e1 => ?_⟩
  · obtain ⟨g1, g2, g3, o', g4, _⟩ := doStoke_good e3
    have g5 : f ≤ t := hno t o' g4
    have g6 : S.done t < w.gang := g3
    have g7 : t ≤ 1048576 := g1.1.2
    refine ⟨?_, g7⟩
    rcases Int.lt_trichotomy t (freeHour w S f) with hq | hq | hq
    · have := h4 t g5 e1 hq; omega
    · exact hq
    · exact absurd (e2 _ h2 hq) (hok (by omega))
  · by_cases hle : freeHour w S f ≤ 1048576
    · exact absurd (e1 _ h2 hle) (hok hle)
    · omega
theorem freeHour_congr {w : House} {S P : St} (hd : P.done = S.done) (hl : P.last = S.last) (f : Int) : freeHour w P f = freeHour w S f := by unfold freeHour; rw [hd, hl]
/-- The house after some of the stages, beside the search's own. -/
structure Stage (w : House) (i : Nat) (P S : St) (f r : Int) (b : Int) : Prop where
  done : P.done = S.done
  last : P.last = S.last
  hot : (S.ov i).state = 0
  since : (S.ov i).since = f
  runs : (S.ov i).runs = r
  fr : P.Fr b
  pos : 0 ≤ f
theorem Stage.frS {w : House} {i : Nat} {P S : St} {f r b : Int} (H : Stage w i P S f r b) : S.Fr b :=
  ⟨fun k => by rw [← H.done]; exact H.fr.done k, by rw [← H.last]; exact H.fr.last, fun k hk => by rw [← H.done]; exact H.fr.after k (by rw [H.last]; exact hk)⟩
theorem taken_done {w : House} {P S : St} {t : Int} (hd : P.done = S.done) : (P.taken t).done = setd S.done t (S.done t + 1) := by simp only [St.taken, hd]
theorem taken_fr' {w : House} {S : St} {b t : Int} (hS : S.Fr b) (h1 : S.last ≤ t) (h2 : t ≤ b) : (S.taken t).Fr (b + 1) := by
  have h3 := hS.last
  refine ⟨fun k => ?_, by simp only [St.taken]; omega, fun k hk => ?_⟩
  · have := hS.done k
    have := hS.done t
    simp only [St.taken, setd]
    split <;> omega
  · simp only [St.taken] at hk
    simp only [St.taken, setd]
    rw [if_neg (by omega)]
    exact hS.after k (by omega)
theorem ovDo_empty {w : House} {o : Oven} {own t : Int} : ovDo w o (stk own 1 t) = if o.state ≠ 1 then .error 6 else if t < o.since + w.least then .error 7 else .ok ⟨0, t, 0, o.runs, o.cool⟩ := rfl
theorem ovDo_scour {w : House} {o : Oven} {own t : Int} : ovDo w o (stk own 2 t) = if o.state ≠ 0 then .error 6 else if t < o.since then .error 7 else .ok ⟨o.state, t + w.scurf, o.tons, 0, o.cool⟩ := rfl
theorem ovDo_charge {w : House} {o : Oven} {own t : Int} : ovDo w o (stk own 0 t) = if o.state ≠ 0 then .error 6 else if t < o.since then .error 7 else if w.runs ≤ o.runs then .error 11 else .ok ⟨1, t, 1, o.runs + 1, o.cool⟩ := rfl
/-- Emptied first. -/
theorem stage_empty {w : House} {S S' : St} {own t b : Int} (hw : goodHouse w) (hS : S.Fr b) (hb : 1048576 ≤ b) (hown : 0 ≤ own ∧ own ≤ 7) (hst : (S.ov own.toNat).state = 1) (hs0 : 0 ≤ (S.ov own.toNat).since) (h : Early w S own 1 (some (t, S'))) :
    t = freeHour w S ((S.ov own.toNat).since + w.least) ∧ Stage w own.toNat (S.taken t) S' t (S.ov own.toNat).runs (b + 1) := by
  have hle := hw.2.2.2.1
  have h0 := early_free (own := own) (kind := 1) (f := (S.ov own.toNat).since + w.least) hw hS (by omega) hown (by omega)
    (fun j hj => by rw [ovDo_empty, if_neg (by simp [hst]), if_neg (by omega)]; exact ⟨_, rfl⟩)
    (fun j o' ho => by rw [ovDo_empty, if_neg (by simp [hst])] at ho; split at ho; cases ho; omega)
  obtain ⟨h1, h2⟩ := h0.1 t S' h
  obtain ⟨g1, g2, g3, o', g4, g5, g6, g7⟩ := doStoke_good h.2.2
  have hb1 := freeHour_bound w S ((S.ov own.toNat).since + w.least)
  replace g4 : ovDo w (S.ov own.toNat) (stk own 1 t) = .ok o' := g4
  rw [ovDo_empty, if_neg (by simp [hst])] at g4
  split at g4
  · cases g4
  · injection g4 with g4
    have e1 : S'.ov own.toNat = o' := by rw [g5]; exact upd_same _ _ _
    refine ⟨h1, taken_done (w := w) (S := S) rfl |>.trans g6.symm, g7.symm, by rw [e1, ← g4], by rw [e1, ← g4], by rw [e1, ← g4], taken_fr' (w := w) hS h.1 (by omega), by have := hS.last; have := h.1; omega⟩
/-- Scurfed. -/
theorem stage_scour {w : House} {P S S' : St} {own t f r b : Int} (hw : goodHouse w) (H : Stage w own.toNat P S f r b) (hb : 1048576 ≤ b) (hown : 0 ≤ own ∧ own ≤ 7) (h : Early w S own 2 (some (t, S'))) :
    t = freeHour w P f ∧ Stage w own.toNat (P.taken t) S' (t + w.scurf) 0 (b + 1) := by
  have hsc := hw.2.2.2.2.2.1
  have h0 := early_free (own := own) (kind := 2) (f := f) hw H.frS H.pos hown (by omega)
    (fun j hj => by rw [ovDo_scour, if_neg (by simp [H.hot]), if_neg (by rw [H.since]; omega)]; exact ⟨_, rfl⟩)
    (fun j o' ho => by rw [ovDo_scour, if_neg (by simp [H.hot])] at ho; split at ho; cases ho; rw [H.since] at *; omega)
  obtain ⟨h1, h2⟩ := h0.1 t S' h
  obtain ⟨g1, g2, g3, o', g4, g5, g6, g7⟩ := doStoke_good h.2.2
  replace g4 : ovDo w (S.ov own.toNat) (stk own 2 t) = .ok o' := g4
  rw [ovDo_scour, if_neg (by simp [H.hot])] at g4
  split at g4
  · cases g4
  · injection g4 with g4
    have e1 : S'.ov own.toNat = o' := by rw [g5]; exact upd_same _ _ _
    refine ⟨by rw [freeHour_congr H.done H.last]; exact h1, taken_done (w := w) H.done |>.trans g6.symm, g7.symm, by rw [e1, ← g4]; exact H.hot, by rw [e1, ← g4], by rw [e1, ← g4], taken_fr' (w := w) H.fr (by rw [H.last]; exact h.1) (by omega), by have := H.frS.last; have := h.1; omega⟩
theorem stage_charge {w : House} {P S : St} {own f r b : Int} (hw : goodHouse w) (H : Stage w own.toNat P S f r b) (hown : 0 ≤ own ∧ own ≤ 7) (hr : r < w.runs) :
    (∀ t S', Early w S own 0 (some (t, S')) → t = freeHour w P f ∧ t ≤ 1048576) ∧ (Early w S own 0 none → 1048576 < freeHour w P f) := by
  rw [freeHour_congr H.done H.last]
  exact early_free (own := own) (kind := 0) (f := f) hw H.frS H.pos hown (by omega)
    (fun j hj => by rw [ovDo_charge, if_neg (by simp [H.hot]), if_neg (by rw [H.since]; omega), if_neg (by rw [H.runs]; omega)]; exact ⟨_, rfl⟩)
    (fun j o' ho => by rw [ovDo_charge, if_neg (by simp [H.hot])] at ho; split at ho; cases ho; rw [H.since] at *; omega)
theorem none_scour {w : House} {P S : St} {own f r b : Int} (hw : goodHouse w) (H : Stage w own.toNat P S f r b) (hown : 0 ≤ own ∧ own ≤ 7) (h : Early w S own 2 none) : 1048576 < freeHour w P f := by
  rw [freeHour_congr H.done H.last]
  exact (early_free (own := own) (kind := 2) (f := f) hw H.frS H.pos hown (by omega)
    (fun j hj => by rw [ovDo_scour, if_neg (by simp [H.hot]), if_neg (by rw [H.since]; omega)]; exact ⟨_, rfl⟩)
    (fun j o' ho => by rw [ovDo_scour, if_neg (by simp [H.hot])] at ho; split at ho; cases ho; rw [H.since] at *; omega)).2 h
theorem none_empty {w : House} {S : St} {own b : Int} (hw : goodHouse w) (hS : S.Fr b) (hown : 0 ≤ own ∧ own ≤ 7) (hst : (S.ov own.toNat).state = 1) (hs0 : 0 ≤ (S.ov own.toNat).since) (h : Early w S own 1 none) : 1048576 < freeHour w S ((S.ov own.toNat).since + w.least) := by
  have hle := hw.2.2.2.1
  exact (early_free (own := own) (kind := 1) (f := (S.ov own.toNat).since + w.least) hw hS (by omega) hown (by omega)
    (fun j hj => by rw [ovDo_empty, if_neg (by simp [hst]), if_neg (by omega)]; exact ⟨_, rfl⟩)
    (fun j o' ho => by rw [ovDo_empty, if_neg (by simp [hst])] at ho; split at ho; cases ho; omega)).2 h
/-! ### Beside the program's own search -/
theorem soon_err {w : House} {S : St} {o : Oven} (hst : ¬ (o.state = 2 ∨ o.state = 3)) (h : 1048576 < (soon1 w S o).2 ∨ 1048576 < (soon1 w S o).1.last ∨ 1048576 < (soon2 w (soon1 w S o).1 o (soon1 w S o).2).2 ∨ 1048576 < (soon2 w (soon1 w S o).1 o (soon1 w S o).2).1.last ∨ 1048576 < freeHour w (soon2 w (soon1 w S o).1 o (soon1 w S o).2).1 (soon2 w (soon1 w S o).1 o (soon1 w S o).2).2) (hw : goodHouse w) : soonest w S o = .error 7 := by
  have hsc := hw.2.2.2.2.2.1
  have h1 := freeHour_bound w (soon1 w S o).1 (soon1 w S o).2
  have h2 := freeHour_bound w (soon2 w (soon1 w S o).1 o (soon1 w S o).2).1 (soon2 w (soon1 w S o).1 o (soon1 w S o).2).2
  have h3 : (soon1 w S o).1.last ≤ (soon2 w (soon1 w S o).1 o (soon1 w S o).2).1.last ∧ (soon1 w S o).2 ≤ (soon2 w (soon1 w S o).1 o (soon1 w S o).2).2 := by
    unfold soon2
    split
    · simp only [St.taken]; omega
    · simp only; omega
  unfold soonest
  rw [if_neg hst]
  dsimp only
  rw [if_neg (by omega)]
theorem soon_ok {w : House} {S : St} {o : Oven} {t : Int} (hst : ¬ (o.state = 2 ∨ o.state = 3)) (ht : t = freeHour w (soon2 w (soon1 w S o).1 o (soon1 w S o).2).1 (soon2 w (soon1 w S o).1 o (soon1 w S o).2).2) (h0 : 0 ≤ t) (h1 : t ≤ 1048576) : soonest w S o = .ok t := by
  unfold soonest
  rw [if_neg hst]
  dsimp only
  rw [← ht, if_pos ⟨h0, h1⟩]
/-! ### One stoke more -/
theorem PlayI.full {w : House} {l : List Stoke} {S : St} (H : PlayI w l l.length S) : playFrom w .init l 0 = .ok S := by
  rw [H.run, List.drop_eq_nil_of_le (Nat.le_refl _)]; rfl
theorem PlayI.of {w : House} (hw : goodHouse w) : ∀ (n : Nat) {l : List Stoke} {S : St}, n = l.length → playFrom w .init l 0 = .ok S → PlayI w l l.length S := by
  intro n l S _ h
  have key : ∀ k, k ≤ l.length → ∃ S', PlayI w l k S' := by
    intro k
    induction k with
    | zero => intro _; exact ⟨_, PlayI.init hw l⟩
    | succ k ih =>
      intro hk
      obtain ⟨S1, h1⟩ := ih (by omega)
      obtain ⟨x, hx⟩ : ∃ x, l[k]? = some x := ⟨_, List.getElem?_eq_getElem (by omega)⟩
      cases hd : doStoke w S1 x with
      | ok S2 => exact ⟨S2, h1.step hw hx hd⟩
      | error e =>
        have := pf_err h1.run (drop_at hx) hd
        rw [h] at this; cases this
  obtain ⟨S', h'⟩ := key l.length (Nat.le_refl _)
  have := h'.full
  rw [h] at this
  cases this
  exact h'
theorem play_from {w : House} {l : List Stoke} {S : St} (h : play w l = .ok S) : playFrom w .init l 0 = .ok S := by
  have hp := play_ok h
  unfold play at h
  rwa [if_neg (by simpa using hp.1), if_neg (by omega)] at h
theorem last_run {w : House} {l : List Stoke} {S : St} (H : PlayI w l l.length S) (x : Stoke) : playFrom w .init (l ++ [x]) 0 = (match doStoke w S x with
    | .ok S' => .ok S'
    | .error e => .error (l.length, e)) := by
  rw [playFrom_append, H.full]
  simp only [playFrom, Nat.zero_add]
  cases doStoke w S x <;> rfl
theorem last_ok {w : House} {l : List Stoke} {S S' : St} {x : Stoke} (H : PlayI w l l.length S) (h : playFrom w .init (l ++ [x]) 0 = .ok S') : doStoke w S x = .ok S' := by
  rw [last_run H] at h
  cases hd : doStoke w S x with
  | ok S1 => rw [hd] at h; cases h; rfl
  | error e => rw [hd] at h; cases h
theorem last_err {w : House} {l : List Stoke} {S : St} {x : Stoke} {i : Nat} {e : Int} (H : PlayI w l l.length S) (h : playFrom w .init (l ++ [x]) 0 = .error (i, e)) : Fails w S x := by
  rw [last_run H] at h
  cases hd : doStoke w S x with
  | ok S1 => rw [hd] at h; cases h
  | error e => exact ⟨e, hd⟩
theorem PlayI.snoc {w : House} (hw : goodHouse w) {l : List Stoke} {S S' : St} {x : Stoke} (H : PlayI w l l.length S) (h : doStoke w S x = .ok S') : PlayI w (l ++ [x]) (l ++ [x]).length S' :=
  PlayI.of hw _ rfl (by rw [last_run H, h])
/-- What a slice of stokes reads as, all of it. -/
theorem slv_flat {α : Type} {enc : α → List Value} {sz : Nat} (henc : ∀ x, (enc x).length = sz) : ∀ {xs : List α} {l : List Value} {o : Nat}, (∀ (i : Nat) (x : α), xs[i]? = some x → (l.drop (o + i * sz)).take sz = enc x) → (l.drop o).take (xs.length * sz) = xs.flatMap enc
  | [], l, o, _ => by simp
  | x :: xs, l, o, h => by
    have h0 := h 0 x rfl
    rw [Nat.zero_mul, Nat.add_zero] at h0
    have ih := slv_flat henc (xs := xs) (l := l) (o := o + sz) (fun i y hy => by have := h (i + 1) y (by simpa using hy); rwa [Nat.add_mul, Nat.one_mul, Nat.add_comm (i * sz) sz, ← Nat.add_assoc] at this)
    rw [List.flatMap_cons, ← h0, ← ih, List.length_cons, Nat.add_mul, Nat.one_mul, Nat.add_comm (xs.length * sz) sz, List.take_add, List.drop_drop]
theorem flat_one {α : Type} {enc : α → List Value} (h1 : ∀ x, (enc x).all Value.oneCell' = true) (xs : List α) : (xs.flatMap enc).all Value.oneCell' = true := by
  induction xs with
  | nil => rfl
  | cons x xs ih => rw [List.flatMap_cons, List.all_append, h1, ih]; rfl
theorem flat_len' {α : Type} {enc : α → List Value} {sz : Nat} (henc : ∀ x, (enc x).length = sz) (xs : List α) : (xs.flatMap enc).length = xs.length * sz := by
  induction xs with
  | nil => simp
  | cons x xs ih => rw [List.flatMap_cons, List.length_append, henc, ih, List.length_cons, Nat.add_mul]; omega
end Go.Proofs.Ytjmailhoidenaaa
