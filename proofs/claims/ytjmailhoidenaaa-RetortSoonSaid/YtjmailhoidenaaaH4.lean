/-
  Rules on operations, more: stores by the block's place in the list, builtins, slices, maps, strings.
-/
import Derived.Test.YtjmailhoidenaaaH3
import Derived.Laws.AppendOwn
import Derived.Laws.MakeOwn
set_option linter.all false
namespace Go.H
open Go
variable {P : Program} {r : Option Nat} {N : Nat} {Q : Post} {E : Env} {D : List Deferred} {h h' : Hp}
variable {K : Value → Hp → Prop} {T : List PanicEntry → Hp → Prop} {dst : Option Nat} {ty : TypeId} {pos : String} {af : Array Edge} {gd : Option (Nat × Bool)}
/-- One block of the list turns. -/
inductive Upd : Hp → Nat → Obj → Obj → Hp → Prop
  | here {b : Nat} {o o' : Obj} {h : Hp} : Upd ((b, o) :: h) b o o' ((b, o') :: h)
  | there {x : Nat × Obj} {b : Nat} {o o' : Obj} {h h' : Hp} : Upd h b o o' h' → Upd (x :: h) b o o' (x :: h')
theorem Upd.mem {b : Nat} {o o' : Obj} (H : Upd h b o o' h') : (b, o) ∈ h := by
  induction H with
  | here => exact List.mem_cons_self
  | there _ ih => exact List.mem_cons_of_mem _ ih
theorem Upd.set {b : Nat} {o o' : Obj} (H : Upd h b o o' h') : (keys h).Nodup → setH h b o' = h' := by
  induction H with
  | here => intro _; simp [setH]
  | @there x b o o' h h' H ih =>
    intro hn
    obtain ⟨c, oc⟩ := x
    have hn' : c ∉ keys h ∧ (keys h).Nodup := List.nodup_cons.1 hn
    have hne : ¬ c = b := fun e => hn'.1 (by subst e; exact List.mem_map.2 ⟨_, H.mem, rfl⟩)
    simp only [setH, if_neg hne, ih hn'.2]
theorem Upd.append {b : Nat} {o o' : Obj} {f : Hp} (H : Upd h b o o' h') : Upd (h ++ f) b o o' (h' ++ f) := by
  induction H with
  | here => exact .here
  | there _ ih => exact .there ih
theorem Upd.left {b : Nat} {o o' : Obj} (f : Hp) (H : Upd h b o o' h') : Upd (f ++ h) b o o' (f ++ h') := by
  induction f with
  | nil => exact H
  | cons x f ih => exact .there ih
theorem Upd.keysEq {b : Nat} {o o' : Obj} (H : Upd h b o o' h') : Go.H.keys h' = Go.H.keys h := by
  induction H with
  | here => rfl
  | @there x _ _ _ h h' H ih => show x.1 :: Go.H.keys h' = x.1 :: Go.H.keys h; rw [ih]
theorem xv_st {t : TypeId} {x y : Operand} {b o : Nat} {l l' vs : List Value} {t' : TypeId} {v : Value} {d : TD} (ht : TyOk P t d) (hx : ev E x = some (.pointer (some ⟨b, o, none⟩))) (hy : ev E y = some v) (hv : v.cells.toList = vs)
    (hn : vs.length = d.size) (h1 : vs.all Value.oneCell' = true) (hl : splice l o vs = l') (hr : Nat.ble (o + d.size) l.length = true)
    (hm : Upd h b (.cells ⟨l⟩ t' (0, 0)) (.cells ⟨l'⟩ t' (0, 0)) h') (H : K undef h') : XV P r ⟨dst, .store t x y, ty, pos, af, gd⟩ K T E h := by
  intro w a ho ha next Q hn1 hq1
  have hs := hm.set ho.nd
  subst hl hv
  exact xv_store (K := fun v h2 => K v h2) (T := T) ht hx hy hm.mem (by simpa using hn) (Nat.le_of_ble_eq_true hr) h1 (by rw [hs]; exact H) w a ho ha next Q hn1 hq1
theorem xv_st1 {t : TypeId} {x y : Operand} {b o : Nat} {l l' : List Value} {t' : TypeId} {v : Value} {d : TD} (ht : TyOk P t d) (hd : d.size = 1) (hx : ev E x = some (.pointer (some ⟨b, o, none⟩))) (hy : ev E y = some v)
    (h1 : v.oneCell' = true) (hr : o < l.length) (hl : l.set o v = l')
    (hm : Upd h b (.cells ⟨l⟩ t' (0, 0)) (.cells ⟨l'⟩ t' (0, 0)) h') (H : K undef h') : XV P r ⟨dst, .store t x y, ty, pos, af, gd⟩ K T E h := by
  intro w a ho ha next Q hn1 hq1
  have hs := hm.set ho.nd
  subst hl
  exact xv_store1 (K := fun v h2 => K v h2) (T := T) ht hd hx hy hm.mem h1 hr (by rw [hs]; exact H) w a ho ha next Q hn1 hq1
/-! ### Builtins -/
theorem run_builtin (ρ : Operand → Value) (b : Builtin) (args : Array Operand) (at_ : Array TypeId) (w : World) :
    ∃ cs, (execOp ρ ⟨dst, .call ⟨.builtin b, args, at_⟩, ty, pos, af, gd⟩).run P w = (builtin b at_ ty cs (args.map ρ)).run P w :=
  ⟨_, by simp only [execOp, resolve, Sem.run_bind, Sem.run_pure, Result.andThen_ok, invoke]; rfl⟩
def SlT (P : Program) (t e : TypeId) : Prop := P.underlying t = some (.slice e)
theorem xv_len {x : Operand} {t e : TypeId} {a : Option Addr} {n c : Nat} (ht : SlT P t e) (hx : ev E x = some (.slice a n c)) (H : K (.int .i64 n) h) : XV P r ⟨dst, .call ⟨.builtin .len, #[x], #[t]⟩, ty, pos, af, gd⟩ K T E h :=
  xv_of_run (by simp [plainOp]) fun w ρ ho he => ⟨_, h, w, by obtain ⟨cs, hcs⟩ := run_builtin (P := P) (dst := dst) (ty := ty) (pos := pos) (af := af) (gd := gd) ρ _ _ _ w; rw [hcs]; simp [builtin, Builtin.len_, he _ _ hx, run_underlying ht, goInt], H, .refl ho⟩
theorem xv_lenStr {x : Operand} {t : TypeId} {s : ByteArray} (ht : P.underlying t = some .string) (hx : ev E x = some (.string s)) (H : K (.int .i64 s.size) h) : XV P r ⟨dst, .call ⟨.builtin .len, #[x], #[t]⟩, ty, pos, af, gd⟩ K T E h :=
  xv_of_run (by simp [plainOp]) fun w ρ ho he => ⟨_, h, w, by obtain ⟨cs, hcs⟩ := run_builtin (P := P) (dst := dst) (ty := ty) (pos := pos) (af := af) (gd := gd) ρ _ _ _ w; rw [hcs]; simp [builtin, Builtin.len_, he _ _ hx, run_underlying ht, goInt], H, .refl ho⟩
theorem xv_min {x y : Operand} {k : IntKind} {a b c : Int} {at_ : Array TypeId} (hx : ev E x = some (.int k a)) (hy : ev E y = some (.int k b)) (hc : min a b = c) (H : K (.int k c) h) : XV P r ⟨dst, .call ⟨.builtin .min, #[x, y], at_⟩, ty, pos, af, gd⟩ K T E h :=
  xv_of_run (by simp [plainOp]) fun w ρ ho he => ⟨_, h, w, by
    obtain ⟨cs, hcs⟩ := run_builtin (P := P) (dst := dst) (ty := ty) (pos := pos) (af := af) (gd := gd) ρ _ _ _ w; rw [hcs]
    have : (if b < a then b else a) = c := by rw [← hc]; simp only [Int.min_def]; split <;> split <;> omega
    simp [builtin, Builtin.min_, he _ _ hx, he _ _ hy, Builtin.min2, this], H, .refl ho⟩
theorem xv_max {x y : Operand} {k : IntKind} {a b c : Int} {at_ : Array TypeId} (hx : ev E x = some (.int k a)) (hy : ev E y = some (.int k b)) (hc : max a b = c) (H : K (.int k c) h) : XV P r ⟨dst, .call ⟨.builtin .max, #[x, y], at_⟩, ty, pos, af, gd⟩ K T E h :=
  xv_of_run (by simp [plainOp]) fun w ρ ho he => ⟨_, h, w, by
    obtain ⟨cs, hcs⟩ := run_builtin (P := P) (dst := dst) (ty := ty) (pos := pos) (af := af) (gd := gd) ρ _ _ _ w; rw [hcs]
    have : (if b > a then b else a) = c := by rw [← hc]; simp only [Int.max_def]; split <;> split <;> omega
    simp [builtin, Builtin.max_, he _ _ hx, he _ _ hy, Builtin.max2, this], H, .refl ho⟩
/-! ### Slices -/
theorem addr_add (b o n : Nat) : (⟨b, o, none⟩ : Addr).add n = ⟨b, o + n, none⟩ := by unfold Addr.add; split <;> simp_all
theorem xv_iaddr {x y : Operand} {t e : TypeId} {d : TD} {b o n c : Nat} {k : IntKind} {i : Int} (ht : SlT P t e) (hd : TyOk P e d) (hx : ev E x = some (.slice (some ⟨b, o, none⟩) n c)) (hy : ev E y = some (.int k i)) (h0 : 0 ≤ i) (h1 : i < n)
    (H : K (.pointer (some ⟨b, o + i.toNat * d.size, none⟩)) h) : XV P r ⟨dst, .indexAddr t x y, ty, pos, af, gd⟩ K T E h :=
  xv_of_run (by simp [plainOp]) fun w ρ ho he => ⟨_, h, w, by simp [execOp, he _ _ hx, he _ _ hy, Instr.indexAt, asIntOf, run_underlying ht, h0, h1, hd.run_size, addr_add], H, .refl ho⟩
theorem xv_iaddrA {x y : Operand} {t e : TypeId} {d : TD} {b o n : Nat} {k : IntKind} {i : Int} (ht : P.underlying t = some (.array n e)) (hd : TyOk P e d) (hx : ev E x = some (.pointer (some ⟨b, o, none⟩))) (hy : ev E y = some (.int k i)) (h0 : 0 ≤ i) (h1 : i < n)
    (H : K (.pointer (some ⟨b, o + i.toNat * d.size, none⟩)) h) : XV P r ⟨dst, .indexAddr t x y, ty, pos, af, gd⟩ K T E h :=
  xv_of_run (by simp [plainOp]) fun w ρ ho he => ⟨_, h, w, by simp [execOp, he _ _ hx, he _ _ hy, Instr.indexAt, asIntOf, run_underlying ht, h0, h1, hd.run_size, addr_add, Instr.sureAddr], H, .refl ho⟩
theorem xv_index1 {x y : Operand} {t e : TypeId} {d : TD} {n : Nat} {l : List Value} {k : IntKind} {i : Int} {v : Value} (ht : P.underlying t = some (.array n e)) (hd : TyOk P e d) (ha : aggB d.und = false) (hx : ev E x = some (.agg ⟨l⟩)) (hy : ev E y = some (.int k i)) (h0 : 0 ≤ i) (h1 : i < n)
    (hl : l[i.toNat * d.size]? = some v) (H : K v h) : XV P r ⟨dst, .index t x y, ty, pos, af, gd⟩ K T E h :=
  xv_of_run (by simp [plainOp]) fun w ρ ho he => ⟨v, h, w, by simp [execOp, he _ _ hx, he _ _ hy, Instr.index, asIntOf, run_underlying ht, h0, h1, hd.run_size, part, hd.run_agg, ha, hl], H, .refl ho⟩
theorem xv_indexA {x y : Operand} {t e : TypeId} {d : TD} {n : Nat} {l l' : List Value} {k : IntKind} {i : Int} (ht : P.underlying t = some (.array n e)) (hd : TyOk P e d) (ha : aggB d.und = true) (hx : ev E x = some (.agg ⟨l⟩)) (hy : ev E y = some (.int k i)) (h0 : 0 ≤ i) (h1 : i < n)
    (hl : (l.drop (i.toNat * d.size)).take d.size = l') (H : K (.agg ⟨l'⟩) h) : XV P r ⟨dst, .index t x y, ty, pos, af, gd⟩ K T E h :=
  xv_of_run (by simp [plainOp]) fun w ρ ho he => ⟨_, h, w, by simp [execOp, he _ _ hx, he _ _ hy, Instr.index, asIntOf, run_underlying ht, h0, h1, hd.run_size, part, hd.run_agg, ha, hl], H, .refl ho⟩
theorem run_sliceBoundH {i : Int} {k : IntKind} {y : Nat} {code : BoundsCode} {w : World} (h0 : 0 ≤ i) (h1 : i ≤ y) : (Instr.sliceBound (.int k i) y code).run P w = .ok i.toNat w := by
  simp [Instr.sliceBound, asIntOf, h0, h1]
/-- xs[lo:hi:max] with each bound there or not. -/
def optInt (E : Env) : Option Operand → Option (Option Int)
  | none => some none
  | some x => match ev E x with
    | some (.int _ i) => some (some i)
    | _ => none
theorem optInt_run {ρ : Operand → Value} (he : ∀ x v, ev E x = some v → ρ x = v) {x : Option Operand} {i : Option Int} (hh : optInt E x = some i) : (x = none ∧ i = none) ∨ ∃ k j, x.map ρ = some (.int k j) ∧ i = some j := by
  cases x with
  | none => simp [optInt] at hh; exact .inl ⟨rfl, hh.symm⟩
  | some x =>
    simp only [optInt] at hh
    cases hv : ev E x with
    | none => simp [hv] at hh
    | some v =>
      cases v <;> simp [hv] at hh
      subst hh
      rename_i kk nn; exact .inr ⟨kk, nn, by simp [he _ _ hv], rfl⟩
theorem xv_slice2 {x : Operand} {lo hi : Option Operand} {t e : TypeId} {d : TD} {b o n c : Nat} {l u : Option Int} (ht : SlT P t e) (hd : TyOk P e d) (hx : ev E x = some (.slice (some ⟨b, o, none⟩) n c)) (hlo : optInt E lo = some l) (hhi : optInt E hi = some u)
    (h0 : 0 ≤ l.getD 0) (h1 : l.getD 0 ≤ u.getD n) (h2 : u.getD n ≤ c) (h3 : l.getD 0 < c)
    (H : K (.slice (some ⟨b, o + (l.getD 0).toNat * d.size, none⟩) ((u.getD n).toNat - (l.getD 0).toNat) (c - (l.getD 0).toNat)) h) : XV P r ⟨dst, .slice t x lo hi none, ty, pos, af, gd⟩ K T E h :=
  xv_of_run (by simp [plainOp]) fun w ρ ho he => ⟨_, h, w, by
    have hne : ¬ c = (l.getD 0).toNat := by omega
    rcases optInt_run he hlo with ⟨rfl, rfl⟩ | ⟨k, j, hj, rfl⟩ <;> rcases optInt_run he hhi with ⟨rfl, rfl⟩ | ⟨k', j', hj', rfl⟩ <;>
      simp only [Option.getD_some, Option.getD_none, Int.toNat_natCast, Int.toNat_zero] at *
    · have : ¬ c = 0 := by omega
      simp [execOp, he _ _ hx, Instr.sliceAt, Instr.slice, Instr.sliceBounds, run_underlying ht, hd.run_size, addr_add, this]
    · have : ¬ c = 0 := by omega
      have hb := run_sliceBoundH (P := P) (k := k') (y := c) (code := .sliceAcap) (w := w) (by omega : 0 ≤ j') h2
      simp [execOp, he _ _ hx, hj', Instr.sliceAt, Instr.slice, Instr.sliceBounds, run_underlying ht, hd.run_size, addr_add, this, hb]
    · have hb := run_sliceBoundH (P := P) (k := k) (y := n) (code := .sliceB) (w := w) h0 h1
      simp [execOp, he _ _ hx, hj, Instr.sliceAt, Instr.slice, Instr.sliceBounds, run_underlying ht, hd.run_size, addr_add, hne, hb]
    · have hb := run_sliceBoundH (P := P) (k := k') (y := c) (code := .sliceAcap) (w := w) (by omega : 0 ≤ j') h2
      have hb2 := run_sliceBoundH (P := P) (k := k) (y := j'.toNat) (code := .sliceB) (w := w) h0 (by omega)
      simp [execOp, he _ _ hx, hj, hj', Instr.sliceAt, Instr.slice, Instr.sliceBounds, run_underlying ht, hd.run_size, addr_add, hne, hb, hb2], H, .refl ho⟩
/-- A new row of n cells' worth of parts: '[]T{..}'. -/
theorem xv_makeSlice {t e : TypeId} {x y : Operand} {d : TD} {k k' : IntKind} {l c : Int} (ht : SlT P t e) (hd : TyOk P e d) (hx : ev E x = some (.int k l)) (hy : ev E y = some (.int k' c)) (h0 : 0 ≤ l) (hlc : l ≤ c) (hb : (d.bytes : Int) * c ≤ 281474976710656) (h63 : c ≤ 9223372036854775807)
    (H : ∀ b, b ∉ keys h → K (.slice (some ⟨b, 0, none⟩) l.toNat c.toNat) ((b, .cells (madeCells d.zero.cells (c.toNat * d.size)) e) :: h)) : XV P r ⟨dst, .makeSlice t x y, ty, pos, af, gd⟩ K T E h :=
  xv_of_run (by simp [plainOp]) fun w ρ ho he => ⟨_, _, w.alloc (.cells (madeCells d.zero.cells (c.toNat * d.size)) e), by
    obtain ⟨i, hi, hs, hby, hz⟩ := hd.info
    have := run_make (P := P) w t e i d.zero ht hi hz k k' l c h0 hlc (by rw [hby]; exact hb) h63
    rw [hs] at this
    simp [execOp, he _ _ hx, he _ _ hy, this], H w.heap.size fun hc => Nat.lt_irrefl _ (ho.lt hc), .alloc ho _⟩
end Go.H
