/-
  Rules on operations: slices that grow, maps, interfaces, panics, allocations in drawn regions.
-/
import Derived.Test.YtjmailhoidenaaaH8
set_option linter.all false
namespace Go.H
open Go
variable {P : Program} {r : Option Nat} {N : Nat} {Q : Post} {E : Env} {D : List Deferred} {h h' : Hp}
variable {K : Value → Hp → Prop} {T : List PanicEntry → Hp → Prop} {dst : Option Nat} {ty : TypeId} {pos : String} {af : Array Edge} {gd : Option (Nat × Bool)}
theorem al_buildSlice {t e : TypeId} {d : TD} {n : Nat} {ps : Array (Nat × Operand)} {vs : List (Nat × Value)} {zl l : List Value} (ht : SlT P t e) (hd : TyOk P e d) (hz : d.zero.cells.toList = zl) (hzs : zl.length = d.size) (h0 : Nat.blt 0 d.size = true) (hn : Nat.ble (n * d.size) 16777216 = true)
    (hv : evps E ps.toList = some vs) (hl : bld (zeros zl n) (fun i => some (i * d.size, d.size)) vs = some l) :
    AL P ⟨dst, .buildSlice t n ps, ty, pos, af, gd⟩ E (fun b => .slice (some ⟨b, 0, none⟩) n n) (.cells ⟨l⟩ e) :=
  ⟨by simp [plainOp], fun w ρ he => by
    have hm := evps_map he _ _ hv
    have hmm : (ps.map fun (i, x) => (i, ρ x)).toList = vs := by rw [← hm]; simp
    have := run_buildSlice (P := P) (n := n) (parts := ps.map fun (i, x) => (i, ρ x)) (w := w) ht hd hz hzs (Nat.le_of_ble_eq_true h0) (Nat.le_of_ble_eq_true hn) (by rw [hmm]; exact hl)
    simp only [execOp, Sem.run_bind, this, Result.andThen_ok, Sem.run_pure]⟩
theorem al_alloc {t : TypeId} {d : TD} (ht : TyOk P t d) : AL P ⟨dst, .alloc t, ty, pos, af, gd⟩ E (fun b => .pointer (some ⟨b, 0, none⟩)) (.cells d.zero.cells t) :=
  ⟨by simp [plainOp], fun w ρ he => by simp [execOp, Instr.alloc, ht.run_zero, newVar, newRow]⟩
theorem al_box {t : TypeId} {x : Operand} {v : Value} (hx : ev E x = some v) : AL P ⟨dst, .box t x, ty, pos, af, gd⟩ E (fun b => .pointer (some ⟨b, 0, none⟩)) (.cells v.cells t) :=
  ⟨by simp [plainOp], fun w ρ he => by simp [execOp, he _ _ hx, Instr.box, newVar, newRow]⟩
theorem al_makeMap {t : TypeId} : AL P ⟨dst, .makeMap t none, ty, pos, af, gd⟩ E (fun b => .map (some b)) (.map #[] 0) :=
  ⟨by simp [plainOp], fun w ρ he => by simp [execOp, Instr.makeMap]⟩
theorem AL.xv {o : Oper} {mk : Nat → Value} {obj : Obj} (H : AL P o E mk obj) (hk : ∀ b, b ∉ keys h → K (mk b) ((b, obj) :: h)) : XV P r o K T E h :=
  xv_of_run H.1 fun w ρ ho he => ⟨_, _, w.alloc obj, H.2 w ρ he, hk _ fun hc => Nat.lt_irrefl _ (ho.lt hc), .alloc ho _⟩
/-! ### Interfaces, panics -/
def isIface : TypeDesc → Bool
  | .interface _ => true
  | _ => false
theorem eqGuard_iface (op : BinOp) (t t' : TypeId) (x y : Operand) (v : Value) (w : World) : (eqGuard op t x y (.iface t' v) .nilIface).run P w = .ok () w := by
  unfold eqGuard; cases op <;> simp
theorem xv_neNil {xt yt t' : TypeId} {x y : Operand} {v : Value} (ht : ∃ ms, P.underlying xt = some (.interface ms)) (hx : ev E x = some (.iface t' v)) (hy : ev E y = some .nilIface) (H : K (.bool true) h) : XV P r ⟨dst, .binOp .neq xt x y yt, ty, pos, af, gd⟩ K T E h :=
  xv_of_run (by simp [plainOp]) fun w ρ ho he => ⟨_, h, w, by
    obtain ⟨ms, ht⟩ := ht
    rw [run_bin (he _ _ hx) (he _ _ hy) (eqGuard_iface _ _ _ _ _ _)]
    have hq0 : ∀ n, (Op.equalIn (n + 1) xt (.iface t' v) .nilIface).run P w = .ok false w := fun n => by
      simp only [Op.equalIn, Sem.run_bind, run_underlying ht, Result.andThen_ok, Sem.run_pure]
    have hq := hq0 9999
    have hb : (binOp .neq xt (.iface t' v) .nilIface).run P w = .ok (.bool true) w := by
      show (do let b ← Op.equalIn (9999 + 1) xt (.iface t' v) .nilIface; pure (Value.bool (!b)) : Sem Value).run P w = _
      simp only [Sem.run_bind, hq, Result.andThen_ok, Sem.run_pure, Bool.not_false]
    rw [hb]; rfl, H, .refl ho⟩
theorem xv_assertOk {x : Operand} {xt t : TypeId} {v : Value} {d : TD} (ht : TyOk P t d) (hd : notIface d.und = true) (hx : ev E x = some (.iface t v)) (H : K (.tuple ⟨[v, .bool true]⟩) h) : XV P r ⟨dst, .typeAssert x xt t true, ty, pos, af, gd⟩ K T E h :=
  xv_of_run (by simp [plainOp]) fun w ρ ho he => ⟨_, h, w, by
    have hu := ht.run_und w
    cases hq : d.und <;> simp [hq, notIface] at hd <;> simp [execOp, he _ _ hx, Instr.typeAssert, hu, hq], H, .refl ho⟩
theorem xv_panic {x : Operand} {t : TypeId} {v : Value} (hx : ev E x = some (.iface t v)) (H : T [{ v := .iface t v, recovered := false }] h) : XV P r ⟨dst, .panic x, ty, pos, af, gd⟩ K T E h :=
  xv_of_panic (by simp [plainOp]) fun w ρ ho he => ⟨_, h, w, by simp [execOp, he _ _ hx, Instr.panic], H, .refl ho⟩
/-! ### Maps with integer keys -/
def mfind (k : Int) : List MapEntry → Nat → Option (Nat × Value)
  | [], _ => none
  | e :: es, i => match e.key with
    | .int .i64 j => if k = j then some (i, e.val) else mfind k es (i + 1)
    | _ => none
def mget (es : List MapEntry) (k : Int) : Option Value := (mfind k es 0).map (·.2)
def AllInt (es : List MapEntry) : Prop := ∀ e ∈ es, ∃ j, e.key = .int .i64 j
theorem findNow_mfind (k : Int) : ∀ (es : List MapEntry) (i : Nat), AllInt es → Instr.findNow (.int .i64) (.int .i64 k) es i = some (mfind k es i)
  | [], i, _ => rfl
  | e :: es, i, ha => by
    obtain ⟨j, hj⟩ := ha e List.mem_cons_self
    have ih := findNow_mfind k es (i + 1) (fun e he => ha e (List.mem_cons_of_mem _ he))
    simp only [Instr.findNow, hj, Instr.sameNow, mfind]
    by_cases hkj : k = j
    · simp [hkj]
    · have hb : (k == j) = false := by simpa using hkj
      simp [hkj, hb, ih]
theorem run_findKeyI {kt : TypeId} {k : Int} {es : List MapEntry} {w : World} (hk : P.underlying kt = some (.int .i64)) (ha : AllInt es) : (Instr.findKey kt (.int .i64 k) es).run P w = .ok (mfind k es 0) w := by
  simp [Instr.findKey, run_underlying hk, findNow_mfind k es 0 ha]
theorem run_checkKeyI {kt : TypeId} {k : Int} {b : Bool} {n : Nat} {w : World} (hk : P.underlying kt = some (.int .i64)) : (Instr.checkKey b (n + 1) kt (.int .i64 k)).run P w = .ok () w := by
  simp [Instr.checkKey, run_underlying hk]
theorem xv_lookup {t kt et : TypeId} {x y : Operand} {m c : Nat} {es : List MapEntry} {k : Int} {d : TD} {v : Value} (ht : P.underlying t = some (.map kt et)) (hk : P.underlying kt = some (.int .i64)) (hd : TyOk P et d)
    (hx : ev E x = some (.map (some m))) (hy : ev E y = some (.int .i64 k)) (hm : (m, .map ⟨es⟩ c) ∈ h) (ha : AllInt es) (hv : (mget es k).getD d.zero = v) (H : K v h) : XV P r ⟨dst, .lookup t x y false, ty, pos, af, gd⟩ K T E h :=
  xv_of_run (by simp [plainOp]) fun w ρ ho he => ⟨v, h, w, by
    have hg := ho.has _ _ hm
    have hgo : (getObj m).run P w = .ok (.map ⟨es⟩ c) w := by simp [getObj, Sem.run, hg]
    subst hv
    have hf := run_findKeyI (P := P) (k := k) (w := w) hk ha
    simp only [execOp, he _ _ hx, he _ _ hy, Instr.lookup, Sem.run_bind, run_underlying ht, Result.andThen_ok, hgo, Sem.run_pure, run_checkKeyI (P := P) (n := 9999) hk, hf]
    unfold mget
    cases mfind k es 0 with
    | none => simp [hd.run_zero]
    | some p => simp, H, .refl ho⟩
theorem xv_lookupOk {t kt et : TypeId} {x y : Operand} {m c : Nat} {es : List MapEntry} {k : Int} {d : TD} {v : Value} {b : Bool} (ht : P.underlying t = some (.map kt et)) (hk : P.underlying kt = some (.int .i64)) (hd : TyOk P et d)
    (hx : ev E x = some (.map (some m))) (hy : ev E y = some (.int .i64 k)) (hm : (m, .map ⟨es⟩ c) ∈ h) (ha : AllInt es) (hv : (mget es k).getD d.zero = v) (hb : (mget es k).isSome = b) (H : K (.tuple ⟨[v, .bool b]⟩) h) : XV P r ⟨dst, .lookup t x y true, ty, pos, af, gd⟩ K T E h :=
  xv_of_run (by simp [plainOp]) fun w ρ ho he => ⟨_, h, w, by
    have hg := ho.has _ _ hm
    have hgo : (getObj m).run P w = .ok (.map ⟨es⟩ c) w := by simp [getObj, Sem.run, hg]
    subst hv hb
    have hf := run_findKeyI (P := P) (k := k) (w := w) hk ha
    simp only [execOp, he _ _ hx, he _ _ hy, Instr.lookup, Sem.run_bind, run_underlying ht, Result.andThen_ok, hgo, Sem.run_pure, run_checkKeyI (P := P) (n := 9999) hk, hf]
    unfold mget
    cases mfind k es 0 with
    | none => simp [hd.run_zero]
    | some p => simp, H, .refl ho⟩
/-- What a store into a map leaves. -/
structure MSet (es : List MapEntry) (k : Int) (v : Value) (es' : List MapEntry) : Prop where
  ai : AllInt es'
  get : ∀ j, mget es' j = if j = k then some v else mget es j
theorem mfind_push (k : Int) (v : Value) (b : Nat) : ∀ (es : List MapEntry) (i : Nat), AllInt es → mfind k es i = none → ∀ j, (mfind j (es ++ [{ key := .int .i64 k, val := v, born := b }]) i).map (·.2) = if j = k then some v else (mfind j es i).map (·.2)
  | [], i, _, _, j => by simp only [List.nil_append, mfind]; split <;> simp_all
  | e :: es, i, ha, hn, j => by
    obtain ⟨q, hq⟩ := ha e List.mem_cons_self
    simp only [mfind, hq, List.cons_append] at hn ⊢
    split at hn
    · cases hn
    · rename_i hne
      have ih := mfind_push k v b es (i + 1) (fun e he => ha e (List.mem_cons_of_mem _ he)) hn j
      by_cases hjq : j = q
      · simp [hjq]; intro e; exact absurd e.symm hne
      · simp only [hjq, if_false]; exact ih
theorem mfind_shift (k : Int) : ∀ (es : List MapEntry) (i n : Nat) (v : Value), mfind k es i = some (n, v) → i ≤ n ∧ ∃ e, es[n - i]? = some e ∧ e.key = .int .i64 k ∧ e.val = v
  | [], _, _, _, hh => by cases hh
  | e :: es, i, n, v, hh => by
    simp only [mfind] at hh
    split at hh
    · rename_i j hj
      split at hh
      · rename_i hkj
        simp at hh
        obtain ⟨rfl, rfl⟩ := hh
        exact ⟨Nat.le_refl _, e, by simp, by rw [hj, hkj], rfl⟩
      · obtain ⟨h1, e', h2, h3⟩ := mfind_shift k es (i + 1) n v hh
        refine ⟨by omega, e', ?_, h3⟩
        rw [show n - i = (n - (i + 1)) + 1 by omega]; simpa using h2
    · cases hh
theorem mfind_modify (k : Int) (v : Value) : ∀ (es : List MapEntry) (i n : Nat) (u : Value), AllInt es → mfind k es i = some (n, u) →
    ∀ j, (mfind j (es.modify (n - i) fun e => { e with key := .int .i64 k, val := v }) i).map (·.2) = if j = k then some v else (mfind j es i).map (·.2)
  | [], _, _, _, _, hh, _ => by cases hh
  | e :: es, i, n, u, ha, hh, j => by
    obtain ⟨q, hq⟩ := ha e List.mem_cons_self
    have hs := (mfind_shift k (e :: es) i n u hh).1
    simp only [mfind, hq] at hh
    split at hh
    · rename_i hkq
      simp at hh
      obtain ⟨rfl, rfl⟩ := hh
      simp only [Nat.sub_self, List.modify_zero_cons, mfind, hq]
      by_cases hjk : j = k
      · simp [hjk]
      · have : ¬ j = q := fun e => hjk (by rw [e, hkq])
        simp [hjk, this]
    · rename_i hne
      have hlt := (mfind_shift k es (i + 1) n u hh).1
      have ih := mfind_modify k v es (i + 1) n u (fun e he => ha e (List.mem_cons_of_mem _ he)) hh j
      rw [show n - i = (n - (i + 1)) + 1 by omega, List.modify_succ_cons]
      simp only [mfind, hq]
      by_cases hjq : j = q
      · simp [hjq]; intro e; exact absurd e.symm hne
      · simp only [hjq, if_false]; exact ih
theorem xv_mapSet {t kt et : TypeId} {x y z : Operand} {m c : Nat} {es : List MapEntry} {k : Int} {v : Value} {Hf : Obj → Hp} (ht : P.underlying t = some (.map kt et)) (hk : P.underlying kt = some (.int .i64))
    (hx : ev E x = some (.map (some m))) (hy : ev E y = some (.int .i64 k)) (hz : ev E z = some v) (hm : ∀ o', Upd h m (.map ⟨es⟩ c) o' (Hf o')) (ha : AllInt es)
    (H : ∀ es' c', MSet es k v es' → K undef (Hf (.map ⟨es'⟩ c'))) : XV P r ⟨dst, .mapUpdate t x y z, ty, pos, af, gd⟩ K T E h :=
  xv_of_skip (by simp [plainOp]) fun w ρ ho he => by
    have hg := ho.has _ _ (hm (.map ⟨es⟩ c)).mem
    have hlt := (Array.getElem?_eq_some_iff.1 hg).1
    have hgo : (getObj m).run P w = .ok (.map ⟨es⟩ c) w := by simp [getObj, Sem.run, hg]
    have hset : ∀ o, (setObj m o).run P w = .ok () { w with heap := w.heap.setIfInBounds m o } := fun o => by simp [setObj, Sem.run, hg]
    have hf := run_findKeyI (P := P) (k := k) (w := w) hk ha
    have hfol : ∀ o', Fol h w (Hf o') { w with heap := w.heap.setIfInBounds m o' } := by
      intro o'
      have := Fol.set (o' := o') (w' := { w with heap := w.heap.setIfInBounds m o' }) ho (hm o').mem (by simp [hlt]) (fun k hk => by simp [Array.getElem?_setIfInBounds]; intro e; exact absurd e.symm hk) (by simp) rfl rfl rfl
      rwa [(hm o').set ho.nd] at this
    cases hfi : mfind k es 0 with
    | none =>
      rw [hfi] at hf
      refine ⟨Hf (.map ⟨es ++ [{ key := .int .i64 k, val := v, born := c }]⟩ (c + 1)), _, ?_, H _ _ ⟨?_, fun j => ?_⟩, hfol _⟩
      · simp [execOp, he _ _ hx, he _ _ hy, he _ _ hz, Instr.mapUpdate, run_underlying ht, hgo, run_checkKeyI (P := P) (n := 9999) hk, hf, hset]
      · intro e he'
        rcases List.mem_append.1 he' with h1 | h1
        · exact ha e h1
        · simp at h1; exact ⟨k, by rw [h1]⟩
      · exact mfind_push k v c es 0 ha hfi j
    | some p =>
      obtain ⟨n, u⟩ := p
      rw [hfi] at hf
      obtain ⟨_, e0, he0, hk0, hv0⟩ := mfind_shift k es 0 n u hfi
      simp only [Nat.sub_zero] at he0
      refine ⟨Hf (.map ⟨es.modify n fun e => { e with key := .int .i64 k, val := v }⟩ c), _, ?_, H _ _ ⟨?_, fun j => ?_⟩, hfol _⟩
      · simp [execOp, he _ _ hx, he _ _ hy, he _ _ hz, Instr.mapUpdate, run_underlying ht, hgo, run_checkKeyI (P := P) (n := 9999) hk, hf, hset, he0, hk0, Instr.keyThatStays, Instr.sameBits]
      · intro e he'
        obtain ⟨i, hi⟩ := List.mem_iff_getElem?.1 he'
        rw [List.getElem?_modify] at hi
        by_cases hni : n = i
        · subst hni; rw [he0] at hi; simp at hi; exact ⟨k, by rw [← hi]⟩
        · cases hq : es[i]? with
          | none => simp [hq] at hi
          | some e1 =>
            simp [hq, hni] at hi
            rw [← hi]; exact ha e1 (List.mem_of_getElem? hq)
      · have := mfind_modify k v es 0 n u ha hfi j
        unfold mget
        simpa using this
end Go.H
