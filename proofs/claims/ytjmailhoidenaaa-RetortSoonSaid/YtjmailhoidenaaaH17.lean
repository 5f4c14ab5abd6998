/-
  '==' of structs and arrays of numbers; ranges over maps.
-/
import Derived.Test.YtjmailhoidenaaaH16
import Derived.Laws.StructEq
import Derived.Maps.RangeRun
set_option linter.all false
namespace Go.H
open Go
variable {P : Program} {r : Option Nat} {N : Nat} {Q : Post} {E : Env} {D : List Deferred} {h h' : Hp}
variable {K : Value → Hp → Prop} {T : List PanicEntry → Hp → Prop} {dst : Option Nat} {ty : TypeId} {pos : String} {af : Array Edge} {gd : Option (Nat × Bool)}
def eqc : List Value → List Value → Bool
  | [], [] => true
  | .int _ a :: xs, .int _ b :: ys => a == b && eqc xs ys
  | .bool a :: xs, .bool b :: ys => a == b && eqc xs ys
  | _, _ => false
def Num (v : Value) : Prop := ∃ n, v = .int .i64 n
def pk : Bool → List Value → Value
  | true, xs => .agg ⟨xs⟩
  | false, x :: _ => x
  | false, [] => undef
/-- A type's values are compared number by number. -/
def Flat (P : Program) (n : Nat) (t : TypeId) (sz : Nat) (agg : Bool) : Prop :=
  ∀ d, n ≤ d → ∀ xs ys : List Value, xs.length = sz → ys.length = sz → (∀ x ∈ xs, Num x) → (∀ y ∈ ys, Num y) → ∀ w, (Op.equalIn d t (pk agg xs) (pk agg ys)).run P w = .ok (eqc xs ys) w
theorem flat_int {t : TypeId} (ht : P.underlying t = some (.int .i64)) : Flat P 1 t 1 false := by
  intro d hd xs ys hx hy nx ny w
  obtain ⟨d, rfl⟩ : ∃ e, d = e + 1 := ⟨d - 1, by omega⟩
  match xs, ys, hx, hy with
  | [x], [y], _, _ =>
    obtain ⟨a, rfl⟩ := nx x List.mem_cons_self
    obtain ⟨b, rfl⟩ := ny y List.mem_cons_self
    simp only [pk]
    rw [run_equalIn_int w d t .i64 .i64 a b ht]
    simp [eqc]
theorem eqc_append : ∀ {xs ys us vs : List Value}, xs.length = ys.length → (∀ x ∈ xs, Num x) → (∀ y ∈ ys, Num y) → eqc (xs ++ us) (ys ++ vs) = (eqc xs ys && eqc us vs)
  | [], [], us, vs, _, _, _ => by simp [eqc]
  | x :: xs, y :: ys, us, vs, hl, hx, hy => by
    obtain ⟨a, rfl⟩ := hx x List.mem_cons_self
    obtain ⟨b, rfl⟩ := hy y List.mem_cons_self
    have := eqc_append (us := us) (vs := vs) (by simpa using hl) (fun x h => hx x (List.mem_cons_of_mem _ h)) (fun y h => hy y (List.mem_cons_of_mem _ h))
    simp only [List.cons_append, eqc, this, Bool.and_assoc]
/-- Fields, one behind the other. -/
inductive FlatF (P : Program) (n : Nat) : List Field → Nat → Nat → Prop
  | nil {o : Nat} : FlatF P n [] o o
  | cons {f : Field} {fs : List Field} {o s e : Nat} {d : TD} (hn : f.name ≠ "_") (ho : f.offset = o) (hd : TyOk P f.type d) (hs : d.size = s) (hf : Flat P n f.type s (aggB d.und)) (h0 : 0 < s) (h1 : (aggB d.und || Nat.beq s 1) = true) (hr : FlatF P n fs (o + s) e) : FlatF P n (f :: fs) o e
theorem FlatF.le {n : Nat} {fs : List Field} {o e : Nat} (H : FlatF P n fs o e) : o ≤ e := by
  induction H with
  | nil => exact Nat.le_refl _
  | cons _ _ _ _ _ _ _ ih => omega
theorem part_run {t : TypeId} {d : TD} (ht : TyOk P t d) {xs : List Value} {o : Nat} (h0 : 0 < d.size) (hl : o + d.size ≤ xs.length) (h1 : aggB d.und = false → d.size = 1) (w : World) : (part t ⟨xs⟩ o).run P w = .ok (pk (aggB d.und) ((xs.drop o).take d.size)) w := by
  cases ha : aggB d.und with
  | true => simp [part, ht.run_agg, ha, ht.run_size, pk]
  | false =>
    have h1 := h1 ha
    have hlt : o < xs.length := by omega
    rw [h1]
    have e : (xs.drop o).take 1 = [xs[o]] := by rw [List.drop_eq_getElem_cons hlt]; rfl
    rw [e]
    simp [part, ht.run_agg, ha, pk, hlt]
theorem seg_num {xs : List Value} (hx : ∀ x ∈ xs, Num x) (o n : Nat) : ∀ x ∈ (xs.drop o).take n, Num x := fun x hm => hx x (List.mem_of_mem_drop (List.mem_of_mem_take hm))
theorem seg_split (xs : List Value) (o s : Nat) : xs.drop o = (xs.drop o).take s ++ xs.drop (o + s) := by
  rw [← List.drop_drop, List.take_append_drop]
theorem flatF_run {n : Nat} : ∀ {fs : List Field} {o e : Nat}, FlatF P n fs o e → ∀ d, n ≤ d → ∀ xs ys : List Value, xs.length = e → ys.length = e → (∀ x ∈ xs, Num x) → (∀ y ∈ ys, Num y) → ∀ w, (Op.eqFields d ⟨xs⟩ ⟨ys⟩ fs).run P w = .ok (eqc (xs.drop o) (ys.drop o)) w := by
  intro fs o e H
  induction H with
  | nil =>
    intro d hd xs ys hx hy nx ny w
    rw [List.drop_eq_nil_of_le (by omega), List.drop_eq_nil_of_le (by omega)]
    simp [Op.eqFields, eqc]
  | @cons f fs o s e td hn ho hd hs hf h0 h1 hr ih =>
    intro d hdn xs ys hx hy nx ny w
    have hle := hr.le
    subst hs
    have hs1 : aggB td.und = false → td.size = 1 := fun ha => by simpa [ha] using h1
    have lx : ((xs.drop o).take td.size).length = td.size := by simp; omega
    have ly : ((ys.drop o).take td.size).length = td.size := by simp; omega
    have pa := part_run hd (xs := xs) (o := o) h0 (by omega) hs1 w
    have pb := part_run hd (xs := ys) (o := o) h0 (by omega) hs1 w
    have pe := hf d hdn _ _ lx ly (seg_num nx o _) (seg_num ny o _) w
    have hrest := ih d hdn xs ys hx hy nx ny w
    rw [seg_split xs o td.size, seg_split ys o td.size, eqc_append (by rw [lx, ly]) (seg_num nx o _) (seg_num ny o _)]
    simp only [Op.eqFields, if_pos hn, ho, Sem.run_bind, pa, pb, pe, Result.andThen_ok]
    cases eqc ((xs.drop o).take td.size) ((ys.drop o).take td.size)
    · simp
    · simpa using hrest
theorem flat_struct {n : Nat} {t : TypeId} {fs : Array Field} {sz : Nat} (hu : P.underlying t = some (.struct fs)) (hp : P.stoodInHeld t = false) (hf : FlatF P n fs.toList 0 sz) : Flat P (n + 1) t sz true := by
  intro d hd xs ys hx hy nx ny w
  obtain ⟨d, rfl⟩ : ∃ e, d = e + 1 := ⟨d - 1, by omega⟩
  have hfo : P.fieldsOf t = fs := by simp [Program.fieldsOf, hu]
  show (Op.equalIn (d + 1) t (.agg ⟨xs⟩) (.agg ⟨ys⟩)).run P w = _
  rw [run_equalIn_struct w d t ⟨xs⟩ ⟨ys⟩ (by rw [hfo]; exact hu) hp, hfo]
  have := flatF_run hf d (by omega) xs ys hx hy nx ny w
  simpa using this
theorem flat_array {n len : Nat} {t e : TypeId} {td : TD} (hu : P.underlying t = some (.array len e)) (hd : TyOk P e td) (hf : Flat P n e td.size (aggB td.und)) (h0 : 0 < td.size) (h1 : (aggB td.und || Nat.beq td.size 1) = true) : Flat P (n + 1) t (len * td.size) true := by
  intro d hdn xs ys hx hy nx ny w
  obtain ⟨d, rfl⟩ : ∃ e, d = e + 1 := ⟨d - 1, by omega⟩
  have hs1 : aggB td.und = false → td.size = 1 := fun ha => by simpa [ha] using h1
  show (Op.equalIn (d + 1) t (.agg ⟨xs⟩) (.agg ⟨ys⟩)).run P w = _
  have hloop : ∀ k i, i + k = len → ((forIn (List.range' i k) ((none, ()) : (Option Bool × Unit)) fun i _ => (do
      if (!(← Op.equalIn d e (← part e ⟨xs⟩ (i * td.size)) (← part e ⟨ys⟩ (i * td.size)))) = true then pure (ForInStep.done (some false, ())) else pure (ForInStep.yield (none, ())) : Sem (ForInStep ((Option Bool × Unit))))) : Sem ((Option Bool × Unit))).run P w =
      .ok (if eqc (xs.drop (i * td.size)) (ys.drop (i * td.size)) then none else some false, ()) w := by
    intro k
    induction k with
    | zero =>
      intro i hi
      rw [List.drop_eq_nil_of_le (by rw [hx]; exact Nat.mul_le_mul_right _ (by omega)), List.drop_eq_nil_of_le (by rw [hy]; exact Nat.mul_le_mul_right _ (by omega))]
      simp [eqc]
    | succ k ih =>
      intro i hi
      have hle : (i + 1) * td.size ≤ len * td.size := Nat.mul_le_mul_right _ (by omega)
      rw [Nat.add_mul] at hle
      have lx : ((xs.drop (i * td.size)).take td.size).length = td.size := by simp; omega
      have ly : ((ys.drop (i * td.size)).take td.size).length = td.size := by simp; omega
      have pa := part_run hd (xs := xs) (o := i * td.size) h0 (by omega) hs1 w
      have pb := part_run hd (xs := ys) (o := i * td.size) h0 (by omega) hs1 w
      have pe := hf d (by omega) _ _ lx ly (seg_num nx _ _) (seg_num ny _ _) w
      have hrest := ih (i + 1) (by omega)
      rw [Nat.add_mul, Nat.one_mul] at hrest
      rw [seg_split xs (i * td.size) td.size, seg_split ys (i * td.size) td.size, eqc_append (by rw [lx, ly]) (seg_num nx _ _) (seg_num ny _ _)]
      rw [List.range'_succ, List.forIn_cons]
      simp only [Sem.run_bind, pa, pb, pe, Result.andThen_ok]
      cases eqc ((xs.drop (i * td.size)).take td.size) ((ys.drop (i * td.size)).take td.size)
      · simp
      · simpa using hrest
  have := hloop len 0 (by omega)
  simp only [Nat.zero_mul, List.drop_zero] at this
  simp only [Op.equalIn, Sem.run_bind, run_underlying hu, Result.andThen_ok, hd.run_size, Std.Legacy.Range.forIn_eq_forIn_range', Std.Legacy.Range.size, Nat.sub_zero, Nat.add_sub_cancel, Nat.div_one]
  rw [this]
  cases eqc xs ys <;> simp
theorem Flat.le {n m sz : Nat} {t : TypeId} {agg : Bool} (H : Flat P n t sz agg) (hm : Nat.ble n m = true) : Flat P m t sz agg := fun d hd => H d (Nat.le_trans (Nat.le_of_ble_eq_true hm) hd)
theorem numNil : ∀ x ∈ ([] : List Value), Num x := fun _ hx => by cases hx
theorem numCons {n : Int} {xs : List Value} (H : ∀ x ∈ xs, Num x) : ∀ x ∈ (Value.int .i64 n :: xs), Num x := fun x hx => by
  rcases List.mem_cons.1 hx with rfl | hx
  · exact ⟨_, rfl⟩
  · exact H x hx
theorem numApp {xs ys : List Value} (H1 : ∀ x ∈ xs, Num x) (H2 : ∀ y ∈ ys, Num y) : ∀ x ∈ xs ++ ys, Num x := fun x hx => (List.mem_append.1 hx).elim (H1 x) (H2 x)
theorem guard_ok {op : BinOp} {t : TypeId} {x y : Operand} {xs ys : List Value} (hg : P.eqGuardType P.depth t = false) (w : World) : (eqGuard op t x y (.agg ⟨xs⟩) (.agg ⟨ys⟩)).run P w = .ok () w := by
  unfold eqGuard
  cases op <;> simp [hg]
theorem xv_eqA {n sz : Nat} {xt yt : TypeId} {x y : Operand} {xs ys : List Value} {b : Bool} (hf : Flat P n xt sz true) (hn : Nat.ble n 10000 = true) (hg : P.eqGuardType P.depth xt = false) (hx : ev E x = some (.agg ⟨xs⟩)) (hy : ev E y = some (.agg ⟨ys⟩)) (lx : xs.length = sz) (ly : ys.length = sz) (nx : ∀ x ∈ xs, Num x) (ny : ∀ y ∈ ys, Num y) (hb : eqc xs ys = b)
    (H : K (.bool b) h) : XV P r ⟨dst, .binOp .eql xt x y yt, ty, pos, af, gd⟩ K T E h :=
  xv_of_run (by simp [plainOp]) fun w ρ ho he => ⟨_, h, w, by
    have hq : (binOp .eql xt (.agg ⟨xs⟩) (.agg ⟨ys⟩)).run P w = .ok (.bool b) w := by
      rw [run_eql_struct, show (Op.equalIn 10000 xt (.agg ⟨xs⟩) (.agg ⟨ys⟩)).run P w = _ from hf 10000 (Nat.le_of_ble_eq_true hn) xs ys lx ly nx ny w, hb]; rfl
    rw [run_bin (he _ _ hx) (he _ _ hy) (guard_ok hg), hq]; rfl, H, .refl ho⟩
theorem xv_neA {n sz : Nat} {xt yt : TypeId} {x y : Operand} {xs ys : List Value} {b : Bool} (hf : Flat P n xt sz true) (hn : Nat.ble n 10000 = true) (hg : P.eqGuardType P.depth xt = false) (hx : ev E x = some (.agg ⟨xs⟩)) (hy : ev E y = some (.agg ⟨ys⟩)) (lx : xs.length = sz) (ly : ys.length = sz) (nx : ∀ x ∈ xs, Num x) (ny : ∀ y ∈ ys, Num y) (hb : (!eqc xs ys) = b)
    (H : K (.bool b) h) : XV P r ⟨dst, .binOp .neq xt x y yt, ty, pos, af, gd⟩ K T E h :=
  xv_of_run (by simp [plainOp]) fun w ρ ho he => ⟨_, h, w, by
    have hq : (binOp .neq xt (.agg ⟨xs⟩) (.agg ⟨ys⟩)).run P w = .ok (.bool b) w := by
      rw [run_neq_struct, show (Op.equalIn 10000 xt (.agg ⟨xs⟩) (.agg ⟨ys⟩)).run P w = _ from hf 10000 (Nat.le_of_ble_eq_true hn) xs ys lx ly nx ny w, ← hb]; rfl
    rw [run_bin (he _ _ hx) (he _ _ hy) (guard_ok hg), hq]; rfl, H, .refl ho⟩
/-! ### Ranges over maps -/
theorem fol_block {w : World} {b : Nat} {o o' : Obj} {Hf : Obj → Hp} (ho : Own h w) (hm : ∀ o', Upd h b o o' (Hf o')) : Fol h w (Hf o') (ChangeMaps.setBlock w b o') := by
  have hg := ho.has _ _ (hm o').mem
  have hlt := (Array.getElem?_eq_some_iff.1 hg).1
  have := Fol.set (o' := o') (w' := { w with heap := w.heap.setIfInBounds b o' }) ho (hm o').mem (by simp [hlt]) (fun k hk => by simp [Array.getElem?_setIfInBounds]; intro e; exact absurd e.symm hk) (by simp) rfl rfl rfl
  rwa [(hm o').set ho.nd] at this
theorem xv_mapRange {t kt et : TypeId} {x : Operand} {m c : Nat} {es : List MapEntry} (ht : P.underlying t = some (.map kt et)) (hx : ev E x = some (.map (some m))) (hm : (m, .map ⟨es⟩ c) ∈ h)
    (H : ∀ b, b ∉ keys h → K (.pointer (some ⟨b, 0, none⟩)) ((b, .mapIter (some m) c #[] c) :: h)) : XV P r ⟨dst, .range t x, ty, pos, af, gd⟩ K T E h :=
  xv_of_run (by simp [plainOp]) fun w ρ ho he => ⟨_, _, w.alloc (.mapIter (some m) c #[] c), by
    have := run_range_map (P := P) w t kt et m ⟨es⟩ c ht (ho.has _ _ hm)
    simp [execOp, he _ _ hx, this], H w.heap.size fun hc => Nat.lt_irrefl _ (ho.lt hc), .alloc ho _⟩
theorem xv_mapNext {x : Operand} {b m since c0 c : Nat} {seen : Array Nat} {es : List MapEntry} {Hf : Obj → Hp} (hx : ev E x = some (.pointer (some ⟨b, 0, none⟩))) (hb : ∀ o', Upd h b (.mapIter (some m) since seen c0) o' (Hf o')) (hm : (m, .map ⟨es⟩ c) ∈ h)
    (hold : ∀ z ∈ es, z.born < since) (hsc : since ≤ c0) (H1 : (leftOf ⟨es⟩ seen).size = 0 → K (.tuple ⟨[.bool false]⟩) h)
    (H2 : ∀ e, e ∈ (leftOf ⟨es⟩ seen).toList → K (.tuple ⟨[.bool true, e.key, e.val]⟩) (Hf (.mapIter (some m) since (seen.push e.born) c))) : XV P r ⟨dst, .next x false, ty, pos, af, gd⟩ K T E h :=
  xv_of_run (by simp [plainOp]) fun w ρ ho he => by
    rcases run_next_at (P := P) w ty b m since c0 seen ⟨es⟩ c (ho.has _ _ (hb (.map #[] 0)).mem) (ho.has _ _ hm) hold hsc with ⟨h0, hr⟩ | ⟨e, hme, w1, hw1, hr⟩
    · exact ⟨_, h, w, by simp [execOp, he _ _ hx, hr], H1 h0, .refl ho⟩
    · refine ⟨.tuple ⟨[.bool true, e.key, e.val]⟩, _, ChangeMaps.setBlock w1 b (.mapIter (some m) since (seen.push e.born) c), by simp [execOp, he _ _ hx, hr], H2 e hme, ?_⟩
      rcases hw1 with rfl | rfl
      · exact fol_block ho hb
      · have := fol_block (o' := .mapIter (some m) since (seen.push e.born) c) (ho.drew (w.drawn + 1)) hb
        exact this.drew
theorem xv_mapEntry {x : Operand} {b m since c : Nat} {seen : Array Nat} {es : List MapEntry} {e : MapEntry} (hx : ev E x = some (.pointer (some ⟨b, 0, none⟩))) (hb : (b, .mapIter (some m) since (seen.push e.born) c) ∈ h) (hm : (m, .map ⟨es⟩ c) ∈ h)
    (hme : e ∈ es) (hn : (es.map (·.born)).Nodup) (H : K (.tuple ⟨[e.key, e.val]⟩) h) : XV P r ⟨dst, .entry x, ty, pos, af, gd⟩ K T E h :=
  xv_of_run (by simp [plainOp]) fun w ρ ho he => ⟨_, h, w, by
    have := run_entry_at (P := P) w b m since seen ⟨es⟩ c e (ho.has _ _ hb) (ho.has _ _ hm) hme hn
    simp [execOp, he _ _ hx, this], H, .refl ho⟩
theorem xv_mapEntry2 {x : Operand} {b m since c : Nat} {seen : Array Nat} {es : List MapEntry} {e : MapEntry} {kv vv : Value} (hx : ev E x = some (.pointer (some ⟨b, 0, none⟩))) (hb : (b, .mapIter (some m) since (seen.push e.born) c) ∈ h) (hm : (m, .map ⟨es⟩ c) ∈ h)
    (hme : e ∈ es) (hn : (es.map (·.born)).Nodup) (hk : e.key = kv) (hv : e.val = vv) (H : K (.tuple ⟨[kv, vv]⟩) h) : XV P r ⟨dst, .entry x, ty, pos, af, gd⟩ K T E h := by
  subst hk hv
  exact xv_mapEntry hx hb hm hme hn H
/-- Entries as a map lays them: stamps below the clock, each once; keys numbers, each once. -/
structure Lay (es : List MapEntry) (c : Nat) : Prop where
  ai : AllInt es
  lt : ∀ e ∈ es, e.born < c
  nd : (es.map (·.born)).Nodup
  kd : es.Pairwise (fun x y => x.key ≠ y.key)
theorem mfind_none {k : Int} : ∀ {es : List MapEntry} {i : Nat}, AllInt es → mfind k es i = none → ∀ e ∈ es, e.key ≠ .int .i64 k
  | [], _, _, _, e, hm => by cases hm
  | x :: es, i, ha, hn, e, hm => by
    obtain ⟨j, hj⟩ := ha x List.mem_cons_self
    simp only [mfind, hj] at hn
    split at hn
    · cases hn
    · rename_i hne
      rcases List.mem_cons.1 hm with rfl | hm
      · rw [hj]; intro hq; injection hq with _ hq; exact hne hq.symm
      · exact mfind_none (fun e he => ha e (List.mem_cons_of_mem _ he)) hn e hm
theorem Lay.empty (c : Nat) : Lay [] c := ⟨fun _ he => (by cases he), fun _ he => (by cases he), List.nodup_nil, List.Pairwise.nil⟩
/-- An entry that is there is what the map says of its key. -/
theorem Lay.get {es : List MapEntry} {c : Nat} (H : Lay es c) {e : MapEntry} (he : e ∈ es) : ∃ k, e.key = .int .i64 k ∧ mget es k = some e.val := by
  obtain ⟨k, hk⟩ := H.ai e he
  refine ⟨k, hk, ?_⟩
  have hkd := H.kd
  have hai := H.ai
  clear H
  unfold mget
  suffices hs : ∀ i, (mfind k es i).map (·.2) = some e.val from hs 0
  induction es with
  | nil => cases he
  | cons x es ih =>
    intro i
    obtain ⟨j, hj⟩ := hai x List.mem_cons_self
    obtain ⟨h1, h2⟩ := List.pairwise_cons.1 hkd
    simp only [mfind, hj]
    rcases List.mem_cons.1 he with rfl | he
    · rw [hj] at hk; injection hk with _ hk; rw [if_pos hk.symm]; rfl
    · have hne : ¬ k = j := fun hq => h1 e he (by rw [hj, hk, hq])
      rw [if_neg hne]
      exact ih he h2 (fun e he => hai e (List.mem_cons_of_mem _ he)) (i + 1)
theorem mget_some {es : List MapEntry} {k : Int} {v : Value} (ha : AllInt es) (hg : mget es k = some v) : ∃ e ∈ es, e.key = .int .i64 k ∧ e.val = v := by
  unfold mget at hg
  cases hf : mfind k es 0 with
  | none => rw [hf] at hg; cases hg
  | some p =>
    obtain ⟨n, u⟩ := p
    rw [hf] at hg
    simp at hg
    subst hg
    obtain ⟨_, e, he, hk, hv⟩ := mfind_shift k es 0 n u hf
    exact ⟨e, List.mem_of_getElem? he, hk, hv⟩
theorem xv_mapSetL {t kt et : TypeId} {x y z : Operand} {m c : Nat} {es : List MapEntry} {k : Int} {v : Value} {Hf : Obj → Hp} (ht : P.underlying t = some (.map kt et)) (hk : P.underlying kt = some (.int .i64))
    (hx : ev E x = some (.map (some m))) (hy : ev E y = some (.int .i64 k)) (hz : ev E z = some v) (hm : ∀ o', Upd h m (.map ⟨es⟩ c) o' (Hf o')) (hL : Lay es c)
    (H : ∀ es' c', MSet es k v es' → Lay es' c' → K undef (Hf (.map ⟨es'⟩ c'))) : XV P r ⟨dst, .mapUpdate t x y z, ty, pos, af, gd⟩ K T E h :=
  xv_of_skip (by simp [plainOp]) fun w ρ ho he => by
    have ha := hL.ai
    have hg := ho.has _ _ (hm (.map ⟨es⟩ c)).mem
    have hgo : (getObj m).run P w = .ok (.map ⟨es⟩ c) w := by simp [getObj, Sem.run, hg]
    have hset : ∀ o, (setObj m o).run P w = .ok () (ChangeMaps.setBlock w m o) := fun o => by simp [setObj, Sem.run, hg, ChangeMaps.setBlock]
    have hf := run_findKeyI (P := P) (k := k) (w := w) hk ha
    cases hfi : mfind k es 0 with
    | none =>
      rw [hfi] at hf
      have hnk := mfind_none ha hfi
      refine ⟨Hf (.map ⟨es ++ [{ key := .int .i64 k, val := v, born := c }]⟩ (c + 1)), _, ?_, H _ _ ⟨?_, fun j => ?_⟩ ⟨?_, ?_, ?_, ?_⟩, fol_block ho hm⟩
      · simp [execOp, he _ _ hx, he _ _ hy, he _ _ hz, Instr.mapUpdate, run_underlying ht, hgo, run_checkKeyI (P := P) (n := 9999) hk, hf, hset]
      · intro e he'
        rcases List.mem_append.1 he' with h1 | h1
        · exact ha e h1
        · simp at h1; exact ⟨k, by rw [h1]⟩
      · exact mfind_push k v c es 0 ha hfi j
      · intro e he'
        rcases List.mem_append.1 he' with h1 | h1
        · exact ha e h1
        · simp at h1; exact ⟨k, by rw [h1]⟩
      · intro e he'
        rcases List.mem_append.1 he' with h1 | h1
        · have := hL.lt e h1; omega
        · simp at h1; rw [h1]; exact Nat.lt_succ_self _
      · rw [List.map_append, List.nodup_append]
        refine ⟨hL.nd, by simp, fun a ha b hb => ?_⟩
        obtain ⟨e, he, rfl⟩ := List.mem_map.1 ha
        simp at hb; subst hb
        have := hL.lt e he; omega
      · rw [List.pairwise_append]
        refine ⟨hL.kd, by simp, fun a ha b hb => ?_⟩
        simp at hb; subst hb
        exact hnk a ha
    | some p =>
      obtain ⟨n, u⟩ := p
      rw [hfi] at hf
      obtain ⟨_, e0, he0, hk0, hv0⟩ := mfind_shift k es 0 n u hfi
      simp only [Nat.sub_zero] at he0
      have hmem : ∀ e ∈ es.modify n (fun e => { e with key := .int .i64 k, val := v }), ∃ e' ∈ es, e.key = e'.key ∧ e.born = e'.born := by
        intro e he'
        obtain ⟨i, hi⟩ := List.mem_iff_getElem?.1 he'
        rw [List.getElem?_modify] at hi
        cases hq : es[i]? with
        | none => simp [hq] at hi
        | some e1 =>
          simp only [hq] at hi
          by_cases hni : n = i
          · subst hni; rw [he0] at hq; cases hq; simp at hi; exact ⟨e0, List.mem_of_getElem? he0, by rw [← hi, hk0], by rw [← hi]⟩
          · simp [hni] at hi; exact ⟨e1, List.mem_of_getElem? hq, by rw [hi], by rw [hi]⟩
      have hmapb : (es.modify n (fun e => { e with key := .int .i64 k, val := v })).map (·.born) = es.map (·.born) := by
        apply List.ext_getElem?
        intro i
        rw [List.getElem?_map, List.getElem?_map, List.getElem?_modify]
        cases es[i]? with
        | none => simp
        | some e1 => by_cases hni : n = i <;> simp [hni]
      have hmapk : (es.modify n (fun e => { e with key := .int .i64 k, val := v })).map (·.key) = es.map (·.key) := by
        apply List.ext_getElem?
        intro i
        rw [List.getElem?_map, List.getElem?_map, List.getElem?_modify]
        cases hq : es[i]? with
        | none => simp
        | some e1 =>
          by_cases hni : n = i
          · subst hni; rw [he0] at hq; cases hq; simp [hk0]
          · simp [hni]
      have hai : AllInt (es.modify n (fun e => { e with key := .int .i64 k, val := v })) := by
        intro e he'
        obtain ⟨e', h1, h2, _⟩ := hmem e he'
        obtain ⟨j, hj⟩ := ha e' h1
        exact ⟨j, by rw [h2, hj]⟩
      refine ⟨Hf (.map ⟨es.modify n fun e => { e with key := .int .i64 k, val := v }⟩ c), _, ?_, H _ _ ⟨hai, fun j => ?_⟩ ⟨hai, ?_, ?_, ?_⟩, fol_block ho hm⟩
      · simp [execOp, he _ _ hx, he _ _ hy, he _ _ hz, Instr.mapUpdate, run_underlying ht, hgo, run_checkKeyI (P := P) (n := 9999) hk, hf, hset, he0, hk0, Instr.keyThatStays, Instr.sameBits]
      · have := mfind_modify k v es 0 n u ha hfi j
        unfold mget
        simpa using this
      · intro e he'
        obtain ⟨e', h1, _, h3⟩ := hmem e he'
        rw [h3]; exact hL.lt e' h1
      · rw [hmapb]; exact hL.nd
      · have hp := hL.kd
        have e1 : ∀ l : List MapEntry, l.Pairwise (fun x y => x.key ≠ y.key) ↔ (l.map (·.key)).Pairwise (fun a b => a ≠ b) := fun l => by rw [List.pairwise_map]
        rw [e1] at hp ⊢
        rw [hmapk]; exact hp
/-- The guard's own operation was not carried out. -/
theorem xr_nu {ops : Array Oper} {i : Nat} {op : Op} {j : Nat} {t : Bool} (hi : ops[i]? = some ⟨dst, op, ty, pos, af, some (j, t)⟩) (hg : gv ops E j = some undef) (hd : dstOk N dst = true)
    (H : XR P r N ops (i + 1) Q (E.put dst undef) D h) : XR P r N ops i Q E D h := by
  unfold XR
  rw [range'_at hi]
  intro w a ho ha hda
  simp only [wpOpsIn, hi]
  have hy : yielded ops a.tmps j = none := by
    unfold gv at hg
    unfold yielded
    cases hd : (ops[j]?).bind (·.dst) with
    | none => rfl
    | some d =>
      rw [hd] at hg
      have := ha.val d _ hg
      simp [this, undef]
  have hw : ¬ Region.wanted ⟨dst, op, ty, pos, af, some (j, t)⟩ (yielded ops a.tmps) = true := by
    simp [Region.wanted, hy]
  rw [if_neg hw]
  refine ⟨fun _ _ => trivial, ?_⟩
  have hda' : (a.put dst undef).defers = D := by cases dst <;> exact hda
  exact H w _ ho (ha.put (dstOk_lt hd)) hda'
end Go.H
