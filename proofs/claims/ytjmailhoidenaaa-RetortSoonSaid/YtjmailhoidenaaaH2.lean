/-
  The rules on operations: one a kind of operation.
-/
import Derived.Test.YtjmailhoidenaaaH1
set_option linter.all false
namespace Go.H
open Go
variable {P : Program} {r : Option Nat} {N : Nat} {Q : Post} {E : Env} {D : List Deferred} {h : Hp}
variable {K : Value → Hp → Prop} {T : List PanicEntry → Hp → Prop} {dst : Option Nat} {ty : TypeId} {pos : String} {af : Array Edge} {gd : Option (Nat × Bool)}
/-- What is known of a type. -/
structure TD where
  size : Nat
  bytes : Nat
  und : TypeDesc
  zero : Value
def TyOk (P : Program) (t : TypeId) (d : TD) : Prop := P.underlying t = some d.und ∧ (P.info? t).map (fun i => (i.size, i.bytes, i.zero)) = some (d.size, d.bytes, some d.zero)
theorem TyOk.info {t : TypeId} {d : TD} (H : TyOk P t d) : ∃ i, P.info? t = some i ∧ i.size = d.size ∧ i.bytes = d.bytes ∧ i.zero = some d.zero := by
  have := H.2
  cases hi : P.info? t with
  | none => simp [hi] at this
  | some i => simp [hi] at this; exact ⟨i, rfl, this⟩
theorem TyOk.run_size {t : TypeId} {d : TD} (H : TyOk P t d) (w : World) : (sizeOf t).run P w = .ok d.size w := by
  obtain ⟨i, hi, hs, _⟩ := H.info
  simp [sizeOf, typeInfo, hi, hs]
theorem TyOk.run_zero {t : TypeId} {d : TD} (H : TyOk P t d) (w : World) : (zeroValue t).run P w = .ok d.zero w := by
  obtain ⟨i, hi, _, _, hz⟩ := H.info
  simp [zeroValue, typeInfo, hi, hz]
theorem TyOk.run_und {t : TypeId} {d : TD} (H : TyOk P t d) (w : World) : (underlying t).run P w = .ok d.und w := run_underlying H.1 w
def aggB : TypeDesc → Bool
  | .struct _ | .array _ _ => true
  | _ => false
theorem TyOk.run_agg {t : TypeId} {d : TD} (H : TyOk P t d) (w : World) : (isAgg t).run P w = .ok (aggB d.und) w := by
  unfold isAgg
  simp only [Sem.run_bind, H.run_und, Result.andThen_ok]
  cases d.und <;> rfl
theorem wrap_i64 {n : Int} (h1 : -9223372036854775808 ≤ n) (h2 : n ≤ 9223372036854775807) : IntKind.i64.wrap n = n := by
  rw [IntKind.wrap_i64]; omega
/-! ### No memory -/
theorem xv_move {x : Operand} {v : Value} (hx : ev E x = some v) (H : K v h) : XV P r ⟨dst, .move x, ty, pos, af, gd⟩ K T E h :=
  xv_of_run (by simp [plainOp]) fun w ρ ho he => ⟨v, h, w, by simp [execOp, he _ _ hx], H, .refl ho⟩
theorem xv_assign {x : Operand} {v : Value} (hx : ev E x = some v) (H : K v h) : XV P r ⟨dst, .assign x, ty, pos, af, gd⟩ K T E h :=
  xv_of_run (by simp [plainOp]) fun w ρ ho he => ⟨v, h, w, by simp [execOp, he _ _ hx], H, .refl ho⟩
theorem xv_pick {c x y : Operand} {t : Bool} {v : Value} (hc : ev E c = some (.bool t)) (hx : (if t then ev E x else ev E y) = some v) (H : K v h) : XV P r ⟨dst, .pick c x y, ty, pos, af, gd⟩ K T E h :=
  xv_of_run (by simp [plainOp]) fun w ρ ho he => ⟨v, h, w, by
    cases t with
    | true => simp [execOp, he _ _ hc, he _ _ hx, asBool]
    | false => simp [execOp, he _ _ hc, he _ _ hx, asBool], H, .refl ho⟩
theorem xv_nilp {x : Operand} {a : Addr} (hx : ev E x = some (.pointer (some a))) (H : K (.pointer (some a)) h) : XV P r ⟨dst, .nilCheck x, ty, pos, af, gd⟩ K T E h :=
  xv_of_run (by simp [plainOp]) fun w ρ ho he => ⟨_, h, w, by simp [execOp, he _ _ hx], H, .refl ho⟩
theorem run_bin {op : BinOp} {xt yt : TypeId} {x y : Operand} {ρ : Operand → Value} {u v : Value} {w : World} (hu : ρ x = u) (hv : ρ y = v) (hg : ∀ w, (eqGuard op xt x y u v).run P w = .ok () w) :
    (execOp ρ ⟨dst, .binOp op xt x y yt, ty, pos, af, gd⟩).run P w = ((binOp op xt u v).run P w).andThen fun z w' => .ok (.value z) w' := by
  simp [execOp, hu, hv, hg]
theorem eqGuard_int (op : BinOp) (t : TypeId) (x y : Operand) (k : IntKind) (a b : Int) (w : World) : (eqGuard op t x y (.int k a) (.int k b)).run P w = .ok () w := by
  unfold eqGuard; cases op <;> simp
theorem xv_add {xt yt : TypeId} {x y : Operand} {k : IntKind} {a b : Int} {c : Int} (hx : ev E x = some (.int k a)) (hy : ev E y = some (.int k b)) (hc : k.wrap (a + b) = c) (H : K (.int k c) h) : XV P r ⟨dst, .binOp .add xt x y yt, ty, pos, af, gd⟩ K T E h :=
  xv_of_run (by simp [plainOp]) fun w ρ ho he => ⟨_, h, w, by rw [run_bin (he _ _ hx) (he _ _ hy) (eqGuard_int _ _ _ _ _ _ _)]; simp [binOp, Op.intArith, hc], H, .refl ho⟩
theorem xv_sub {xt yt : TypeId} {x y : Operand} {k : IntKind} {a b : Int} {c : Int} (hx : ev E x = some (.int k a)) (hy : ev E y = some (.int k b)) (hc : k.wrap (a - b) = c) (H : K (.int k c) h) : XV P r ⟨dst, .binOp .sub xt x y yt, ty, pos, af, gd⟩ K T E h :=
  xv_of_run (by simp [plainOp]) fun w ρ ho he => ⟨_, h, w, by rw [run_bin (he _ _ hx) (he _ _ hy) (eqGuard_int _ _ _ _ _ _ _)]; simp [binOp, Op.intArith, hc], H, .refl ho⟩
theorem xv_mul {xt yt : TypeId} {x y : Operand} {k : IntKind} {a b : Int} {c : Int} (hx : ev E x = some (.int k a)) (hy : ev E y = some (.int k b)) (hc : k.wrap (a * b) = c) (H : K (.int k c) h) : XV P r ⟨dst, .binOp .mul xt x y yt, ty, pos, af, gd⟩ K T E h :=
  xv_of_run (by simp [plainOp]) fun w ρ ho he => ⟨_, h, w, by rw [run_bin (he _ _ hx) (he _ _ hy) (eqGuard_int _ _ _ _ _ _ _)]; simp [binOp, Op.intArith, hc], H, .refl ho⟩
theorem xv_quo {xt yt : TypeId} {x y : Operand} {k : IntKind} {a b : Int} {c : Int} (hx : ev E x = some (.int k a)) (hy : ev E y = some (.int k b)) (hb : b ≠ 0) (hc : k.wrap (a.tdiv b) = c) (H : K (.int k c) h) : XV P r ⟨dst, .binOp .quo xt x y yt, ty, pos, af, gd⟩ K T E h :=
  xv_of_run (by simp [plainOp]) fun w ρ ho he => ⟨_, h, w, by rw [run_bin (he _ _ hx) (he _ _ hy) (eqGuard_int _ _ _ _ _ _ _)]; simp [binOp, Op.intDiv, hb, hc], H, .refl ho⟩
theorem xv_rem {xt yt : TypeId} {x y : Operand} {k : IntKind} {a b : Int} {c : Int} (hx : ev E x = some (.int k a)) (hy : ev E y = some (.int k b)) (hb : b ≠ 0) (hc : a.tmod b = c) (H : K (.int k c) h) : XV P r ⟨dst, .binOp .rem xt x y yt, ty, pos, af, gd⟩ K T E h :=
  xv_of_run (by simp [plainOp]) fun w ρ ho he => ⟨_, h, w, by rw [run_bin (he _ _ hx) (he _ _ hy) (eqGuard_int _ _ _ _ _ _ _)]; simp [binOp, Op.intDiv, hb, hc], H, .refl ho⟩
/-- A comparison of integers, as a Bool. -/
def cmpB (op : BinOp) (a b : Int) : Option Bool :=
  match op with
  | .eql => some (a == b)
  | .neq => some (a != b)
  | .lss => some (decide (a < b))
  | .leq => some (decide (a ≤ b))
  | .gtr => some (decide (b < a))
  | .geq => some (decide (b ≤ a))
  | _ => none
theorem xv_cmp {op : BinOp} {xt yt : TypeId} {x y : Operand} {k : IntKind} {a b : Int} {c : Bool} (hx : ev E x = some (.int k a)) (hy : ev E y = some (.int k b)) (hc : cmpB op a b = some c) (H : K (.bool c) h) : XV P r ⟨dst, .binOp op xt x y yt, ty, pos, af, gd⟩ K T E h :=
  xv_of_run (by simp [plainOp]) fun w ρ ho he => ⟨_, h, w, by
    rw [run_bin (he _ _ hx) (he _ _ hy) (eqGuard_int _ _ _ _ _ _ _)]
    cases op <;> simp [cmpB] at hc <;> subst hc <;> simp [binOp, Op.intCmp], H, .refl ho⟩
def cmpP (op : BinOp) (a b : Int) : Prop :=
  match op with
  | .eql => a = b
  | .neq => a ≠ b
  | .lss => a < b
  | .leq => a ≤ b
  | .gtr => b < a
  | .geq => b ≤ a
  | _ => False
/-- A comparison at which the ways part. -/
theorem xv_cmp2 {op : BinOp} {xt yt : TypeId} {x y : Operand} {k : IntKind} {a b : Int} {c : Bool} (hx : ev E x = some (.int k a)) (hy : ev E y = some (.int k b)) (hc : cmpB op a b = some c)
    (H1 : cmpP op a b → K (.bool true) h) (H2 : ¬ cmpP op a b → K (.bool false) h) : XV P r ⟨dst, .binOp op xt x y yt, ty, pos, af, gd⟩ K T E h := by
  have hq : c = true ↔ cmpP op a b := by cases op <;> simp [cmpB] at hc <;> subst hc <;> simp [cmpP]
  refine xv_cmp hx hy hc ?_
  cases c with
  | true => exact H1 (hq.1 rfl)
  | false => exact H2 fun hh => by simpa using hq.2 hh
theorem xv_not {xt : TypeId} {x : Operand} {t : Bool} (hx : ev E x = some (.bool t)) (H : K (.bool (!t)) h) : XV P r ⟨dst, .unOp .not xt x, ty, pos, af, gd⟩ K T E h :=
  xv_of_run (by simp [plainOp]) fun w ρ ho he => ⟨_, h, w, by simp [execOp, he _ _ hx, Op.unary], H, .refl ho⟩
theorem xv_neg {xt : TypeId} {x : Operand} {k : IntKind} {a c : Int} (hx : ev E x = some (.int k a)) (hc : k.wrap (0 - a) = c) (H : K (.int k c) h) : XV P r ⟨dst, .unOp .neg xt x, ty, pos, af, gd⟩ K T E h :=
  xv_of_run (by simp [plainOp]) fun w ρ ho he => ⟨_, h, w, by simp [execOp, he _ _ hx, Op.unary, Op.intArith, ← hc], H, .refl ho⟩
def notIface : TypeDesc → Bool
  | .interface _ => false
  | _ => true
theorem xv_iface {xt : TypeId} {x : Operand} {v : Value} {d : TD} (ht : TyOk P xt d) (hd : notIface d.und = true) (hx : ev E x = some v) (H : K (.iface xt v) h) : XV P r ⟨dst, .makeInterface xt x, ty, pos, af, gd⟩ K T E h :=
  xv_of_run (by simp [plainOp]) fun w ρ ho he => ⟨_, h, w, by
    have hu := ht.run_und w
    cases hq : d.und <;> simp [hq, notIface] at hd <;> simp [execOp, he _ _ hx, Instr.makeInterface, hu, hq], H, .refl ho⟩
def evs (E : Env) : List Operand → Option (List Value)
  | [] => some []
  | x :: xs => match ev E x, evs E xs with
    | some v, some vs => some (v :: vs)
    | _, _ => none
theorem evs_map {ρ : Operand → Value} (he : ∀ x v, ev E x = some v → ρ x = v) : ∀ (l : List Operand) (vs : List Value), evs E l = some vs → l.map ρ = vs
  | [], _, hh => by cases hh; rfl
  | x :: xs, _, hh => by
    simp only [evs] at hh
    cases h1 : ev E x with
    | none => simp [h1] at hh
    | some v =>
      cases h2 : evs E xs with
      | none => simp [h1, h2] at hh
      | some vs => simp [h1, h2] at hh; subst hh; simp [he _ _ h1, evs_map he xs vs h2]
theorem evs_arr {ρ : Operand → Value} (he : ∀ x v, ev E x = some v → ρ x = v) {l : Array Operand} {vs : List Value} (hh : evs E l.toList = some vs) : l.map ρ = vs.toArray := by
  have := evs_map he _ _ hh
  apply Array.ext'
  simp [this]
theorem xv_func {fn : Fn} {fi ca : Array Operand} {vs us : List Value} (h1 : evs E fi.toList = some vs) (h2 : evs E ca.toList = some us) (H : K (.func fn ⟨vs⟩ ⟨us⟩) h) : XV P r ⟨dst, .makeFunc fn fi ca, ty, pos, af, gd⟩ K T E h :=
  xv_of_run (by simp [plainOp]) fun w ρ ho he => ⟨_, h, w, by simp [execOp, Instr.makeFunc, evs_arr he h1, evs_arr he h2], H, .refl ho⟩
theorem xv_extract {x : Operand} {i : Nat} {l : List Value} {v : Value} (hx : ev E x = some (.tuple ⟨l⟩)) (hl : l[i]? = some v) (H : K v h) : XV P r ⟨dst, .extract x i, ty, pos, af, gd⟩ K T E h :=
  xv_of_run (by simp [plainOp]) fun w ρ ho he => ⟨v, h, w, by simp [execOp, he _ _ hx, Instr.extract, hl], H, .refl ho⟩
/-- A field's place: offset, size (not 0), whether it is a struct or an array. -/
def FldOk (P : Program) (t : TypeId) (i off size : Nat) (agg : Bool) : Prop :=
  ∃ fields f, P.underlying t = some (.struct fields) ∧ fields[i]? = some f ∧ f.offset = off ∧ (∃ d, TyOk P f.type d ∧ d.size = size ∧ aggB d.und = agg)
theorem xv_faddr {t : TypeId} {x : Operand} {i off size b o : Nat} {agg : Bool} (hf : FldOk P t i off (size + 1) agg) (hx : ev E x = some (.pointer (some ⟨b, o, none⟩))) (H : K (.pointer (some ⟨b, o + off, none⟩)) h) : XV P r ⟨dst, .fieldAddr t x i, ty, pos, af, gd⟩ K T E h :=
  xv_of_run (by simp [plainOp]) fun w ρ ho he => ⟨_, h, w, by
    obtain ⟨fields, f, hu, hfi, rfl, d, hd, hs, _⟩ := hf
    have : (⟨b, o, none⟩ : Addr).add f.offset = ⟨b, o + f.offset, none⟩ := by unfold Addr.add; split <;> simp_all
    simp [execOp, he _ _ hx, Instr.fieldAt, run_underlying hu, hfi, Instr.sureAddr, fieldPlace, hd.run_size, hs, this], H, .refl ho⟩
theorem xv_field1 {t : TypeId} {x : Operand} {i off size : Nat} {l : List Value} {v : Value} (hf : FldOk P t i off size false) (hx : ev E x = some (.agg ⟨l⟩)) (hl : l[off]? = some v) (H : K v h) : XV P r ⟨dst, .field t x i, ty, pos, af, gd⟩ K T E h :=
  xv_of_run (by simp [plainOp]) fun w ρ ho he => ⟨v, h, w, by
    obtain ⟨fields, f, hu, hfi, rfl, d, hd, hs, hag⟩ := hf
    simp [execOp, he _ _ hx, Instr.field, run_underlying hu, hfi, asAgg, part, hd.run_agg, hag, hl], H, .refl ho⟩
theorem xv_fieldA {t : TypeId} {x : Operand} {i off size : Nat} {l l' : List Value} (hf : FldOk P t i off size true) (hx : ev E x = some (.agg ⟨l⟩)) (hl : (l.drop off).take size = l') (H : K (.agg ⟨l'⟩) h) : XV P r ⟨dst, .field t x i, ty, pos, af, gd⟩ K T E h :=
  xv_of_run (by simp [plainOp]) fun w ρ ho he => ⟨_, h, w, by
    obtain ⟨fields, f, hu, hfi, rfl, d, hd, hs, hag⟩ := hf
    simp [execOp, he _ _ hx, Instr.field, run_underlying hu, hfi, asAgg, part, hd.run_agg, hag, hd.run_size, hs, hl], H, .refl ho⟩
/-! ### New memory -/
theorem xv_box {t : TypeId} {x : Operand} {v : Value} (hx : ev E x = some v) (H : ∀ b, b ∉ keys h → K (.pointer (some ⟨b, 0, none⟩)) ((b, .cells v.cells t) :: h)) : XV P r ⟨dst, .box t x, ty, pos, af, gd⟩ K T E h :=
  xv_of_run (by simp [plainOp]) fun w ρ ho he => ⟨_, _, w.alloc (.cells v.cells t), by simp [execOp, he _ _ hx, Instr.box, newVar, newRow], H w.heap.size fun hc => Nat.lt_irrefl _ (ho.lt hc), .alloc ho _⟩
theorem xv_alloc {t : TypeId} {d : TD} (ht : TyOk P t d) (H : ∀ b, b ∉ keys h → K (.pointer (some ⟨b, 0, none⟩)) ((b, .cells d.zero.cells t) :: h)) : XV P r ⟨dst, .alloc t, ty, pos, af, gd⟩ K T E h :=
  xv_of_run (by simp [plainOp]) fun w ρ ho he => ⟨_, _, w.alloc (.cells d.zero.cells t), by simp [execOp, Instr.alloc, ht.run_zero, newVar, newRow], H w.heap.size fun hc => Nat.lt_irrefl _ (ho.lt hc), .alloc ho _⟩
theorem xv_makeMap {t : TypeId} (H : ∀ b, b ∉ keys h → K (.map (some b)) ((b, .map #[] 0) :: h)) : XV P r ⟨dst, .makeMap t none, ty, pos, af, gd⟩ K T E h :=
  xv_of_run (by simp [plainOp]) fun w ρ ho he => ⟨_, _, w.alloc (.map #[] 0), by simp [execOp, Instr.makeMap], H w.heap.size fun hc => Nat.lt_irrefl _ (ho.lt hc), .alloc ho _⟩
/-! ### Reading and writing memory -/
theorem cell_of {w : World} {b o : Nat} {l : List Value} {t : TypeId} {fz : Nat × Nat} (ho : Own h w) (hm : (b, .cells ⟨l⟩ t fz) ∈ h) : w.cell? ⟨b, o, none⟩ = l[o]? := by
  simp [World.cell?, ho.has _ _ hm]
theorem xv_load1 {t : TypeId} {x : Operand} {b o : Nat} {l : List Value} {t' : TypeId} {fz : Nat × Nat} {v : Value} {d : TD} (ht : TyOk P t d) (ha : aggB d.und = false) (hx : ev E x = some (.pointer (some ⟨b, o, none⟩)))
    (hm : (b, .cells ⟨l⟩ t' fz) ∈ h) (hl : l[o]? = some v) (H : K v h) : XV P r ⟨dst, .load t x, ty, pos, af, gd⟩ K T E h :=
  xv_of_run (by simp [plainOp]) fun w ρ ho he => ⟨v, h, w, by simp [execOp, he _ _ hx, Instr.loadAt, loadVar, Instr.sureAddr, ht.run_agg, ha, cell_of ho hm, hl], H, .refl ho⟩
theorem xv_loadA {t : TypeId} {x : Operand} {b o : Nat} {l : List Value} {t' : TypeId} {fz : Nat × Nat} {l' : List Value} {d : TD} (ht : TyOk P t d) (ha : aggB d.und = true) (hx : ev E x = some (.pointer (some ⟨b, o, none⟩)))
    (hm : (b, .cells ⟨l⟩ t' fz) ∈ h) (hl : (l.drop o).take d.size = l') (hn : l'.length = d.size) (H : K (.agg ⟨l'⟩) h) : XV P r ⟨dst, .load t x, ty, pos, af, gd⟩ K T E h :=
  xv_of_run (by simp [plainOp]) fun w ρ ho he => ⟨_, h, w, by
    have hc : ∀ j v, l'[j]? = some v → w.cell? ((⟨b, o, none⟩ : Addr).add j) = some v := by
      intro j v hv
      have e : (⟨b, o, none⟩ : Addr).add j = ⟨b, o + j, none⟩ := by unfold Addr.add; split <;> simp_all
      have hj : j < d.size := by rw [← hn]; exact (List.getElem?_eq_some_iff.1 hv).1
      rw [e, cell_of ho hm]
      rw [← hl, List.getElem?_take_of_lt hj, List.getElem?_drop] at hv
      exact hv
    have := run_loadCells_list (P := P) w ⟨b, o, none⟩ l' hc
    rw [hn] at this
    simp [execOp, he _ _ hx, Instr.loadAt, loadVar, Instr.sureAddr, ht.run_agg, ha, ht.run_size, this], H, .refl ho⟩
def splice (l : List Value) (o : Nat) (vs : List Value) : List Value := l.take o ++ vs ++ l.drop (o + vs.length)
theorem fol_row {w : World} {b : Nat} {l : List Value} {t : TypeId} {fz : Nat × Nat} (ho : Own h w) (hm : (b, .cells ⟨l⟩ t fz) ∈ h) (l' : List Value) : Fol h w (setH h b (.cells ⟨l'⟩ t fz)) (w.setRow b ⟨l'⟩) := by
  have hb := ho.has _ _ hm
  have hlt := (Array.getElem?_eq_some_iff.1 hb).1
  refine Fol.set ho hm ?_ (fun k hk => ?_) (by simp [World.setRow]) rfl rfl rfl
  · simp only [World.setRow, Array.getElem?_modify, if_true]
    rw [hb]; rfl
  · simp only [World.setRow, Array.getElem?_modify]
    rw [if_neg (fun e => hk e.symm)]
theorem xv_store {t : TypeId} {x y : Operand} {b o : Nat} {l : List Value} {t' : TypeId} {v : Value} {d : TD} (ht : TyOk P t d) (hx : ev E x = some (.pointer (some ⟨b, o, none⟩))) (hy : ev E y = some v)
    (hm : (b, .cells ⟨l⟩ t' (0, 0)) ∈ h) (hn : v.cells.size = d.size) (hr : o + d.size ≤ l.length) (h1 : v.cells.toList.all Value.oneCell' = true)
    (H : K undef (setH h b (.cells ⟨splice l o v.cells.toList⟩ t' (0, 0)))) : XV P r ⟨dst, .store t x y, ty, pos, af, gd⟩ K T E h :=
  xv_of_skip (by simp [plainOp]) fun w ρ ho he => ⟨_, _, by
    have hg := ho.has _ _ hm
    have hs := run_storeCells_at (P := P) b o t' v.cells.toList 0 ⟨l⟩ w hg (by simp; omega) (List.all_eq_true.1 h1)
    simp only [Nat.add_zero] at hs
    have h2 : (storeVar t ⟨b, o, none⟩ v).run P w = .ok () (w.setRow b ⟨splice l o v.cells.toList⟩) := by
      simp only [storeVar, Sem.run_bind, ht.run_size, Result.andThen_ok, hn, ne_eq, not_true_eq_false, if_false, Sem.run_ite]
      rw [show (storeCells ⟨b, o, none⟩ v.cells.toList).run P w = _ from hs]
      rfl
    simp only [execOp, he _ _ hx, he _ _ hy, Instr.storeAt, Instr.sureAddr, Sem.run_bind, Sem.run_pure, Result.andThen_ok, h2], H, fol_row ho hm _⟩
/-- A store of one cell. -/
theorem splice_one {l : List Value} {o : Nat} {v : Value} (ho : o < l.length) : splice l o [v] = l.set o v := by
  unfold splice
  rw [List.set_eq_take_append_cons_drop, if_pos ho]
  simp
theorem xv_store1 {t : TypeId} {x y : Operand} {b o : Nat} {l : List Value} {t' : TypeId} {v : Value} {d : TD} (ht : TyOk P t d) (hd : d.size = 1) (hx : ev E x = some (.pointer (some ⟨b, o, none⟩))) (hy : ev E y = some v)
    (hm : (b, .cells ⟨l⟩ t' (0, 0)) ∈ h) (h1 : v.oneCell' = true) (hr : o < l.length)
    (H : K undef (setH h b (.cells ⟨l.set o v⟩ t' (0, 0)))) : XV P r ⟨dst, .store t x y, ty, pos, af, gd⟩ K T E h := by
  have hc : v.cells = #[v] := by cases v <;> simp [Value.oneCell'] at h1 <;> rfl
  refine xv_store ht hx hy hm (by rw [hc, hd]; rfl) (by omega) (by simp [hc, h1]) ?_
  rw [hc]
  show K undef (setH h b (.cells ⟨splice l o [v]⟩ t' (0, 0)))
  rw [splice_one hr]
  exact H
end Go.H
