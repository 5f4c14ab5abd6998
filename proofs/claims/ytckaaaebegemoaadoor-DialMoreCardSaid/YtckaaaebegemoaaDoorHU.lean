/-
  Rules: maps with structs as keys (sets), calls of methods through interfaces.
-/
import Derived.Test.YtckaaaebegemoaaDoorHT
set_option linter.all false
namespace Go.H
open Go
section
variable {P : Program} {r : Option Nat} {E : Env} {h : Hp}
variable {K : Value → Hp → Prop} {T : List PanicEntry → Hp → Prop} {dst : Option Nat} {ty : TypeId} {pos : String} {af : Array Edge} {gd : Option (Nat × Bool)}
/-- A type's method that takes the value itself. -/
def MethOk (P : Program) (t : TypeId) (name : String) (f : FuncId) : Prop :=
  (P.info? t).map (fun i => (i.methods.find? (·.name == name)).map fun m => (m.path.toList, m.func)) = some (some ([], some (f, false)))
def notPtr : TypeDesc → Bool
  | .pointer _ => false
  | _ => true
theorem run_method {t : TypeId} {name : String} {f : FuncId} {v : Value} {d : TD} (hd : TyOk P t d) (hp : notPtr d.und = true) (hm : MethOk P t name f) (n : Nat) (w : World) : (method (n + 1) t v name).run P w = .ok (f, v) w := by
  unfold MethOk at hm
  cases hi : P.info? t with
  | none => simp [hi] at hm
  | some i =>
    cases hq : i.methods.find? (·.name == name) with
    | none => simp [hi, hq] at hm
    | some m =>
      simp [hi, hq] at hm
      obtain ⟨hpa, hf⟩ := hm
      have hti : (typeInfo t).run P w = .ok i w := by simp [typeInfo, hi]
      have hu := hd.run_und w
      unfold method
      simp only [Sem.run_bind, hti, Result.andThen_ok, hq]
      simp only [hpa, Array.toList_empty, follow, Sem.run_bind, Sem.run_pure, Result.andThen_ok, hf, receiverAt, hu]
      cases hx : d.und <;> simp [hx, notPtr] at hp <;> simp [Place.get]
theorem xv_invoke {c : Operand} {name : String} {t : TypeId} {v : Value} {d : TD} {g : FuncId} {vs : List Value} {args : Array Operand} {at_ : Array TypeId} (hd : TyOk P t d) (hp : notPtr d.und = true) (hm : MethOk P t name g)
    (hx : ev E c = some (.iface t v)) (ha : evs E args.toList = some vs) (hb : HasBody P g) (H : ACalls P g ⟨v :: vs⟩ h (Up K T)) : XV P r ⟨dst, .call ⟨.invoke c name, args, at_⟩, ty, pos, af, gd⟩ K T E h := by
  refine xv_enter (by simp [plainOp]) (fun w ρ he => ?_) H
  have hma := evs_arr he ha
  have hr := run_method (v := v) hd hp hm (P.types.size + 99) w
  have hr' : (method (P.types.size + Made.depth) t v name).run P w = .ok (g, v) w := hr
  have hb' := hb ⟨v :: vs⟩ w
  have e1 : (#[Value.iface t v] ++ (⟨vs⟩ : Array Value)).extract 1 (#[Value.iface t v] ++ (⟨vs⟩ : Array Value)).size = ⟨vs⟩ := by
    apply Array.ext'; simp
  simp only [execOp, resolve, he _ _ hx, hma, Sem.run_bind, Sem.run_pure, Result.andThen_ok, invoke]
  simp [e1, callMethod, hr', hb']
theorem run_nilAhead {t : TypeId} {name : String} {f : FuncId} {v : Value} {d : TD} (hd : TyOk P t d) (hp : notPtr d.und = true) (hm : MethOk P t name f) (n : Nat) (w : World) : (nilAhead (n + 1) t v name).run P w = .ok (some false) w := by
  unfold MethOk at hm
  cases hi : P.info? t with
  | none => simp [hi] at hm
  | some i =>
    cases hq : i.methods.find? (·.name == name) with
    | none => simp [hi, hq] at hm
    | some m =>
      simp [hi, hq] at hm
      obtain ⟨hpa, hf⟩ := hm
      have hti : (typeInfo t).run P w = .ok i w := by simp [typeInfo, hi]
      have hu := hd.run_und w
      unfold nilAhead
      simp only [Sem.run_bind, hti, Result.andThen_ok, hq]
      simp only [hpa, Array.toList_empty, followBlind, Sem.run_bind, Sem.run_pure, Result.andThen_ok, hf, hu]
      cases hx : d.und <;> simp [hx, notPtr] at hp <;> simp
/-- A method's value is not nil if the thing in the interface is no pointer. -/
theorem xv_nilm {x : Operand} {name : String} {t : TypeId} {v : Value} {d : TD} {g : FuncId} {us : List Value} (hd : TyOk P t d) (hp : notPtr d.und = true) (hm : MethOk P t name g) (hx : ev E x = some (.func (.method name) ⟨[.iface t v]⟩ ⟨us⟩))
    (H : K (.func (.method name) ⟨[.iface t v]⟩ ⟨us⟩) h) : XV P r ⟨dst, .nilCheck x, ty, pos, af, gd⟩ K T E h :=
  xv_of_run (by simp [plainOp]) fun w ρ ho he => ⟨_, h, w, by
    have hr := run_nilAhead (v := v) hd hp hm (P.types.size + 99) w
    have hr' : (nilAhead (P.types.size + Made.depth) t v name).run P w = .ok (some false) w := hr
    simp [execOp, he _ _ hx, hr'], H, .refl ho⟩
/-! ### Sets: maps from structs -/
/-- A map's entries: these keys, in this order, each with the same value. -/
def Keys {α : Type} (enc : α → List Value) (v : Value) (ks : List α) (es : List MapEntry) : Prop := es.map (fun e => (e.key, e.val)) = ks.map fun c => (.agg ⟨enc c⟩, v)
def KeyOk (P : Program) (kt : TypeId) (sz : Nat) : Prop := ∀ b xs, xs.length = sz → (∀ x ∈ xs, Num x) → ∀ w, (Instr.checkKey b 10000 kt (.agg ⟨xs⟩)).run P w = .ok () w
def structB : TypeDesc → Bool
  | .struct _ => true
  | _ => false
theorem findNow_agg {kind : TypeDesc} {k : Value} (hk : structB kind = true) : ∀ (es : List MapEntry) i, es ≠ [] → Instr.findNow kind k es i = none := by
  intro es i he
  cases es with
  | nil => exact absurd rfl he
  | cons e es => cases kind <;> simp [structB] at hk; simp [Instr.findNow, Instr.sameNow]
theorem run_findAsking {α : Type} [DecidableEq α] {enc : α → List Value} {v : Value} {n sz : Nat} {kt : TypeId} (hf : Flat P n kt sz true) (hn : Nat.ble n 10000 = true) (hl : ∀ x, (enc x).length = sz) (hN : ∀ x, ∀ y ∈ enc x, Num y) (hq : ∀ x y, eqc (enc x) (enc y) = decide (x = y)) (c : α) (w : World) :
    ∀ (ks : List α) (es : List MapEntry) (i : Nat), Keys enc v ks es → ∃ q, (Instr.findAsking kt (.agg ⟨enc c⟩) es i).run P w = .ok q w ∧ q.map (·.2) = if c ∈ ks then some v else none
  | [], es, i, hk => by
    have : es = [] := by simpa [Keys] using hk
    subst this
    exact ⟨none, by simp [Instr.findAsking], by simp⟩
  | k :: ks, [], i, hk => by simp [Keys] at hk
  | k :: ks, e :: es, i, hk => by
    simp only [Keys, List.map_cons, List.cons.injEq, Prod.mk.injEq] at hk
    obtain ⟨⟨hek, hev⟩, hks⟩ := hk
    have hqq : (Op.equal kt (.agg ⟨enc c⟩) e.key).run P w = .ok (decide (c = k)) w := by
      rw [hek, ← hq]
      exact hf 10000 (Nat.le_of_ble_eq_true hn) (enc c) (enc k) (hl c) (hl k) (hN c) (hN k) w
    unfold Instr.findAsking
    simp only [Sem.run_bind, hqq, Result.andThen_ok]
    by_cases hck : c = k
    · subst hck
      exact ⟨some (i, e.val), by simp, by simp [hev]⟩
    · obtain ⟨q, h1, h2⟩ := run_findAsking hf hn hl hN hq c w ks es (i + 1) hks
      refine ⟨q, by simp [hck, h1], ?_⟩
      rw [h2]; simp [hck]
theorem run_findKeyA {α : Type} [DecidableEq α] {enc : α → List Value} {v : Value} {n sz : Nat} {kt : TypeId} {d : TD} (hd : TyOk P kt d) (hs : structB d.und = true) (hf : Flat P n kt sz true) (hn : Nat.ble n 10000 = true) (hl : ∀ x, (enc x).length = sz) (hN : ∀ x, ∀ y ∈ enc x, Num y) (hq : ∀ x y, eqc (enc x) (enc y) = decide (x = y)) (c : α) (w : World)
    {ks : List α} {es : List MapEntry} (hk : Keys enc v ks es) : ∃ q, (Instr.findKey kt (.agg ⟨enc c⟩) es).run P w = .ok q w ∧ q.map (·.2) = if c ∈ ks then some v else none := by
  cases es with
  | nil =>
    have : ks = [] := List.map_eq_nil_iff.1 (show [] = _ from hk).symm
    subst this
    exact ⟨none, by simp only [Instr.findKey, Sem.run_bind, hd.run_und, Result.andThen_ok, Instr.findNow, Sem.run_pure], by simp⟩
  | cons e es =>
    obtain ⟨q, h1, h2⟩ := run_findAsking hf hn hl hN hq c w ks (e :: es) 0 hk
    exact ⟨q, by simp [Instr.findKey, hd.run_und, findNow_agg hs, h1], h2⟩
theorem xv_has {α : Type} [DecidableEq α] {enc : α → List Value} {t kt et : TypeId} {x y : Operand} {m c n sz : Nat} {es : List MapEntry} {ks : List α} {a : α} {d dk : TD} {v u : Value} (ht : P.underlying t = some (.map kt et)) (hdk : TyOk P kt dk) (hs : structB dk.und = true) (hko : KeyOk P kt sz) (hf : Flat P n kt sz true) (hn : Nat.ble n 10000 = true)
    (hl : ∀ x, (enc x).length = sz) (hN : ∀ x, ∀ y ∈ enc x, Num y) (hq : ∀ x y, eqc (enc x) (enc y) = decide (x = y)) (hd : TyOk P et d)
    (hx : ev E x = some (.map (some m))) (hy : ev E y = some (.agg ⟨enc a⟩)) (hm : (m, .map ⟨es⟩ c) ∈ h) (hk : Keys enc v ks es) (hv : (if a ∈ ks then v else d.zero) = u) (H : K u h) : XV P r ⟨dst, .lookup t x y false, ty, pos, af, gd⟩ K T E h :=
  xv_of_run (by simp [plainOp]) fun w ρ ho he => ⟨u, h, w, by
    have hg := ho.has _ _ hm
    have hgo : (getObj m).run P w = .ok (.map ⟨es⟩ c) w := by simp [getObj, Sem.run, hg]
    subst hv
    obtain ⟨q, h1, h2⟩ := run_findKeyA hdk hs hf hn hl hN hq a w hk
    simp only [execOp, he _ _ hx, he _ _ hy, Instr.lookup, Sem.run_bind, run_underlying ht, Result.andThen_ok, hgo, Sem.run_pure, hko _ _ (hl a) (hN a), h1]
    cases q with
    | none =>
      by_cases ha : a ∈ ks
      · simp [ha] at h2
      · simp [ha, hd.run_zero]
    | some p =>
      by_cases ha : a ∈ ks
      · simp [ha] at h2; simp [ha, h2]
      · simp [ha] at h2, H, .refl ho⟩
theorem xv_addKey {α : Type} [DecidableEq α] {enc : α → List Value} {t kt et : TypeId} {x y z : Operand} {m c n sz : Nat} {es : List MapEntry} {ks : List α} {a : α} {dk : TD} {v : Value} {Hf : Obj → Hp} (ht : P.underlying t = some (.map kt et)) (hdk : TyOk P kt dk) (hs : structB dk.und = true) (hko : KeyOk P kt sz) (hf : Flat P n kt sz true) (hn : Nat.ble n 10000 = true)
    (hl : ∀ x, (enc x).length = sz) (hN : ∀ x, ∀ y ∈ enc x, Num y) (hq : ∀ x y, eqc (enc x) (enc y) = decide (x = y))
    (hx : ev E x = some (.map (some m))) (hy : ev E y = some (.agg ⟨enc a⟩)) (hz : ev E z = some v) (hm : ∀ o', Upd h m (.map ⟨es⟩ c) o' (Hf o')) (hk : Keys enc v ks es) (hna : a ∉ ks)
    (H : ∀ es' c', Keys enc v (ks ++ [a]) es' → K undef (Hf (.map ⟨es'⟩ c'))) : XV P r ⟨dst, .mapUpdate t x y z, ty, pos, af, gd⟩ K T E h :=
  xv_of_skip (by simp [plainOp]) fun w ρ ho he => by
    have hg := ho.has _ _ (hm (.map ⟨es⟩ c)).mem
    have hlt := (Array.getElem?_eq_some_iff.1 hg).1
    have hgo : (getObj m).run P w = .ok (.map ⟨es⟩ c) w := by simp [getObj, Sem.run, hg]
    have hset : ∀ o, (setObj m o).run P w = .ok () { w with heap := w.heap.setIfInBounds m o } := fun o => by simp [setObj, Sem.run, hg]
    obtain ⟨q, h1, h2⟩ := run_findKeyA hdk hs hf hn hl hN hq a w hk
    have hfol : ∀ o', Fol h w (Hf o') { w with heap := w.heap.setIfInBounds m o' } := by
      intro o'
      have := Fol.set (o' := o') (w' := { w with heap := w.heap.setIfInBounds m o' }) ho (hm o').mem (by simp [hlt]) (fun k hk => by simp [Array.getElem?_setIfInBounds]; intro e; exact absurd e.symm hk) (by simp) rfl rfl rfl
      rwa [(hm o').set ho.nd] at this
    cases q with
    | some p => simp [hna] at h2
    | none =>
      refine ⟨Hf (.map ⟨es ++ [{ key := .agg ⟨enc a⟩, val := v, born := c }]⟩ (c + 1)), _, ?_, H _ _ ?_, hfol _⟩
      · simp [execOp, he _ _ hx, he _ _ hy, he _ _ hz, Instr.mapUpdate, run_underlying ht, hgo, hko _ _ (hl a) (hN a), h1, hset]
      · simp only [Keys, List.map_append, List.map_cons, List.map_nil] at hk ⊢
        rw [hk]
/-- A struct of three numbers is a key. -/
theorem keyOk3 {kt : TypeId} {f1 f2 f3 : Field} {d : TD} (hu : P.underlying kt = some (.struct #[f1, f2, f3])) (h1 : f1.type = f2.type) (h2 : f1.type = f3.type) (hd : TyOk P f1.type d) (hi : d.und = .int .i64) (hsz : d.size = 1) (o1 : f1.offset = 0) (o2 : f2.offset = 1) (o3 : f3.offset = 2) : KeyOk P kt 3 := by
  intro b xs hl hN w
  match xs, hl with
  | [x, y, z], _ =>
    obtain ⟨a, rfl⟩ := hN x (by simp)
    obtain ⟨a2, rfl⟩ := hN y (by simp)
    obtain ⟨a3, rfl⟩ := hN z (by simp)
    have hp : ∀ o k, [Value.int .i64 a, .int .i64 a2, .int .i64 a3][o]? = some (.int .i64 k) → (part f1.type ⟨[Value.int .i64 a, .int .i64 a2, .int .i64 a3]⟩ o).run P w = .ok (.int .i64 k) w := by
      intro o k ho
      have hlt := (List.getElem?_eq_some_iff.1 ho).1
      have := part_run hd (xs := [Value.int .i64 a, .int .i64 a2, .int .i64 a3]) (o := o) (by omega) (by simp only [List.length_cons, List.length_nil] at hlt ⊢; omega) (fun _ => hsz) w
      rw [hi, hsz] at this
      rw [this, List.drop_eq_getElem_cons hlt]
      have e := (List.getElem?_eq_some_iff.1 ho).2
      rw [e]; rfl
    have hc : ∀ k, (Instr.checkKey b 9999 f1.type (.int .i64 k)).run P w = .ok () w := by
      intro k
      have hu := hd.run_und w
      rw [hi] at hu
      unfold Instr.checkKey
      simp only [Sem.run_bind, hu, Result.andThen_ok, Sem.run_pure]
    have e2 : f2.type = f1.type := h1.symm
    have e3 : f3.type = f1.type := h2.symm
    have p0 := hp 0 a rfl
    have p1 := hp 1 a2 rfl
    have p2 := hp 2 a3 rfl
    unfold Instr.checkKey
    simp only [Sem.run_bind, run_underlying hu, Result.andThen_ok]
    by_cases n1 : f1.name = "_" <;> by_cases n2 : f2.name = "_" <;> by_cases n3 : f3.name = "_" <;>
      simp [n1, n2, n3, e2, e3, o1, o2, o3, p0, p1, p2, hc]
/-! ### Parts of a list -/
theorem SlV.drop {α : Type} {sz : Nat} {enc : α → List Value} {b o : Nat} {xs : List α} (H : SlV h sz enc (some ⟨b, o, none⟩) xs) (k : Nat) : SlV h sz enc (some ⟨b, o + k * sz, none⟩) (xs.drop k) := by
  rcases H with rfl | ⟨b2, o2, l, t, fz, h1, h2, h3⟩
  · exact .inl (by simp)
  · cases h1
    refine .inr ⟨b, o + k * sz, l, t, fz, rfl, h2, fun i x hx => ?_⟩
    rw [List.getElem?_drop] at hx
    have := h3 (k + i) x hx
    rw [Nat.add_mul] at this
    rw [Nat.add_assoc]; exact this
def dropA (a : Option Addr) (c m sz : Nat) : Option Addr := if c = m then a else a.map fun z => z.add (m * sz)
theorem slv_dropA {α : Type} {enc : α → List Value} {a : Option Addr} {c m sz : Nat} {l : List α} (hl : SlV h sz enc a l) (hc : l.length ≤ c) : SlV h sz enc (dropA a c m sz) (l.drop m) := by
  by_cases hlt : m < l.length
  · obtain ⟨b, o, li, t9, fz, ha, hm, hx9⟩ := hl.at hlt
    subst ha
    unfold dropA
    split
    · omega
    · have := SlV.drop hl m
      have e : (⟨b, o, none⟩ : Addr).add (m * sz) = ⟨b, o + m * sz, none⟩ := addr_add _ _ _
      simp only [Option.map_some, e]
      exact this
  · exact .inl (List.drop_eq_nil_of_le (by omega))
theorem xv_sliceFrom {x y : Operand} {t e : TypeId} {d : TD} {a : Option Addr} {n c m sz : Nat} {k : IntKind} {i : Int} (ht : SlT P t e) (hd : TyOk P e d) (hsz : d.size = sz) (hx : ev E x = some (.slice a n c)) (hy : ev E y = some (.int k i)) (hm : i.toNat = m) (h0 : 0 ≤ i) (h1 : i ≤ n)
    (H : K (.slice (dropA a c m sz) (n - m) (c - m)) h) : XV P r ⟨dst, .slice t x (some y) none none, ty, pos, af, gd⟩ K T E h := by
  subst hsz hm
  refine xv_of_run (by simp [plainOp]) fun w ρ ho he => ⟨_, h, w, ?_, H, .refl ho⟩
  have hb := run_sliceBoundH (P := P) (k := k) (y := n) (code := .sliceB) (w := w) h0 h1
  simp only [execOp, he _ _ hx, Option.map_none, Option.map_some, he _ _ hy]
  simp [Instr.sliceAt, run_underlying ht, Instr.slice, Instr.sliceBounds, hb, hd.run_size, dropA]
theorem xv_appendNL {α : Type} {enc : α → List Value} {x y : Operand} {t e : TypeId} {d : TD} {a a' : Option Addr} {m k' c' sz : Nat} {l ys : List α} (ht : SlT P t e) (hd : TyOk P e d) (hzs : d.zero.cells.size = d.size) (hsz : d.size = sz) (hln : l.length = m)
    (hx : ev E x = some (.slice a m m)) (hy : ev E y = some (.slice a' k' c')) (hk' : k' = ys.length) (hl0 : SlV h sz enc a l) (hl : SlV h sz enc a' ys) (henc : ∀ x, (enc x).length = sz) (h1 : ∀ x, (enc x).all Value.oneCell' = true)
    (hb : 2 * (l.length + ys.length) * d.bytes ≤ 281474976710656) (h63 : l.length + ys.length ≤ 9223372036854775807)
    (H : ∀ a2 c2 G, SlV (G ++ h) sz enc a2 (l ++ ys) → (l ++ ys).length ≤ c2 → K (.slice a2 (l ++ ys).length c2) (G ++ h)) : XV P r ⟨dst, .call ⟨.builtin .append, #[x, y], #[t, t]⟩, ty, pos, af, gd⟩ K T E h := by
  subst hsz hln hk'
  cases ys with
  | nil => exact xv_append0 ht hd hx hy (Nat.le_refl _) (by simpa using H a l.length [] (by simpa using hl0) (by simp))
  | cons y0 ys0 =>
    obtain ⟨b9, o9, li, t9, fz9, ha, hm, hx9⟩ := hl.at (i := 0) (by simp)
    subst ha
    refine xv_appendN ht hd hzs rfl hx hy hl0 henc hm (slv_flat2 henc hx9) (flat_lenM henc _) (flat_all h1 _) (by simp) hb h63 fun b cap sp hV => ?_
    have := H (some ⟨b, 0, none⟩) cap [(b, .cells ⟨(l.flatMap enc ++ (y0 :: ys0).flatMap enc) ++ sp⟩ e (0, 0))] ?_ (by rw [List.length_append]; exact hV.2.1)
    · rw [List.length_append] at this; exact this
    · refine .inr ⟨b, 0, _, e, (0, 0), rfl, List.mem_append_left _ List.mem_cons_self, fun i x hx => ?_⟩
      rw [← List.flatMap_append]
      exact flat_at henc sp (l ++ y0 :: ys0) i hx
end
end Go.H
