/-
  Rules: words of 64 bits; bytes of a text that is known.
-/
import Derived.Test.YtlcdbjgfeoagbaaHS
import Derived.Sort.LotD1
import Derived.Scope
set_option linter.all false
namespace Go.H
open Go
variable {P : Program} {r : Option Nat} {E : Env} {h : Hp}
variable {K : Value → Hp → Prop} {T : List PanicEntry → Hp → Prop} {dst : Option Nat} {ty : TypeId} {pos : String} {af : Array Edge} {gd : Option (Nat × Bool)}
abbrev U (w : UInt64) : Value := .int .u64 (w.toNat : Int)
theorem xv_shrU {xt yt : TypeId} {x y : Operand} {yk : IntKind} {w w' : UInt64} {s : Nat} (hx : ev E x = some (U w)) (hy : ev E y = some (.int yk (s : Int))) (hs : s < 64) (hw : w >>> (UInt64.ofNat s) = w') (H : K (U w') h) : XV P r ⟨dst, .binOp .shr xt x y yt, ty, pos, af, gd⟩ K T E h :=
  xv_of_run (by simp [plainOp]) fun W ρ ho he => ⟨_, h, W, by
    rw [run_bin (he _ _ hx) (he _ _ hy) (fun _ => by simp [eqGuard])]
    have h1 : ¬ ((s : Int) < 0) := by omega
    have h2 : min (s : Int).toNat IntKind.u64.bits = s := by simp [IntKind.bits]; omega
    have h3 : (w.toNat : Int).fdiv (2 ^ s) = (w'.toNat : Int) := by
      have hq : (UInt64.ofNat s).toNat % 64 = s := by rw [UInt64.toNat_ofNat']; omega
      rw [← hw, UInt64.toNat_shiftRight, hq, Nat.shiftRight_eq_div_pow]
      rw [Int.fdiv_eq_ediv_of_nonneg _ (by exact Int.le_of_lt (Int.pow_pos (by decide)))]
      push_cast
      rfl
    simp only [binOp, Op.shift, if_neg h1, h2, h3]
    rfl, H, .refl ho⟩
theorem xv_indexT {x y : Operand} {t : TypeId} {s : ByteArray} {k : IntKind} {i : Int} {f : Nat → Nat} {m : Nat} (ht : P.underlying t = some .string) (hx : ev E x = some (.string s)) (hy : ev E y = some (.int k i)) (h0 : 0 ≤ i) (h1 : i < m) (h2 : (List.range m).all (fun j => if h : j < s.size then s[j] == UInt8.ofNat (f j) else false) = true)
    (H : K (.int .u8 (((UInt8.ofNat (f i.toNat)).toNat : Nat) : Int)) h) : XV P r ⟨dst, .index t x y, ty, pos, af, gd⟩ K T E h :=
  xv_of_run (by simp [plainOp]) fun w ρ ho he => by
    have hs := List.all_eq_true.1 h2 i.toNat (List.mem_range.2 (by omega))
    have hlt : i.toNat < s.size := by
      by_cases hlt : i.toNat < s.size
      · exact hlt
      · rw [dif_neg hlt] at hs; cases hs
    rw [dif_pos hlt] at hs
    have hv := eq_of_beq hs
    refine ⟨_, h, w, ?_, H, .refl ho⟩
    simp [execOp, he _ _ hx, he _ _ hy, Instr.index, asIntOf, run_underlying ht, h0, hlt, hv]
theorem len8 : ∀ {n : Nat}, n ≤ 49 → (UInt8.ofNat (Go.Sort.bitsLen n)).toNat = Go.Sort.bitsLen n ∧ Go.Sort.bitsLen n ≤ 6 := fun {n} h => by
  have hb : Go.Sort.bitsLen n ≤ 6 := (Go.Sort.bitsLen_le_iff n 6).2 (by omega)
  exact ⟨by rw [UInt8.toNat_ofNat']; omega, hb⟩
end Go.H

/-
  Rules: maps with structs as keys (sets), calls of methods through interfaces.
-/
set_option linter.all false
namespace Go.H
open Go
section
variable {P : Program} {r : Option Nat} {E : Env} {h : Hp}
variable {K : Value → Hp → Prop} {T : List PanicEntry → Hp → Prop} {dst : Option Nat} {ty : TypeId} {pos : String} {af : Array Edge} {gd : Option (Nat × Bool)}
theorem SlV.drop {α : Type} {sz : Nat} {enc : α → List Value} {b o : Nat} {xs : List α} (H : SlV h sz enc (some ⟨b, o, none⟩) xs) (k : Nat) : SlV h sz enc (some ⟨b, o + k * sz, none⟩) (xs.drop k) := by
  rcases H with rfl | ⟨b2, o2, l, t, fz, h1, h2, h3⟩
  · exact .inl (by simp)
  · cases h1
    refine .inr ⟨b, o + k * sz, l, t, fz, rfl, h2, fun i x hx => ?_⟩
    rw [List.getElem?_drop] at hx
    have := h3 (k + i) x hx
    rw [Nat.add_mul] at this
    rw [Nat.add_assoc]; exact this
def dropA (a : Option Addr) (c m sz : Nat) : Option Addr := if c = m then a else a.map fun z => z.add (m * sz)
theorem slv_dropA {α : Type} {enc : α → List Value} {a : Option Addr} {c m sz : Nat} {l : List α} (hl : SlV h sz enc a l) (hc : l.length ≤ c) : SlV h sz enc (dropA a c m sz) (l.drop m) := by
  by_cases hlt : m < l.length
  · obtain ⟨b, o, li, t9, fz, ha, hm, hx9⟩ := hl.at hlt
    subst ha
    unfold dropA
    split
    · omega
    · have := SlV.drop hl m
      have e : (⟨b, o, none⟩ : Addr).add (m * sz) = ⟨b, o + m * sz, none⟩ := addr_add _ _ _
      simp only [Option.map_some, e]
      exact this
  · exact .inl (List.drop_eq_nil_of_le (by omega))
theorem xv_sliceFrom {x y : Operand} {t e : TypeId} {d : TD} {a : Option Addr} {n c m sz : Nat} {k : IntKind} {i : Int} (ht : SlT P t e) (hd : TyOk P e d) (hsz : d.size = sz) (hx : ev E x = some (.slice a n c)) (hy : ev E y = some (.int k i)) (hm : i.toNat = m) (h0 : 0 ≤ i) (h1 : i ≤ n)
    (H : K (.slice (dropA a c m sz) (n - m) (c - m)) h) : XV P r ⟨dst, .slice t x (some y) none none, ty, pos, af, gd⟩ K T E h := by
  subst hsz hm
  refine xv_of_run (by simp [plainOp]) fun w ρ ho he => ⟨_, h, w, ?_, H, .refl ho⟩
  have hb := run_sliceBoundH (P := P) (k := k) (y := n) (code := .sliceB) (w := w) h0 h1
  simp only [execOp, he _ _ hx, Option.map_none, Option.map_some, he _ _ hy]
  simp [Instr.sliceAt, run_underlying ht, Instr.slice, Instr.sliceBounds, hb, hd.run_size, dropA]
end
end Go.H

/-
  Code with labels that nothing jumps to.
-/
set_option linter.all false
namespace Go
section
variable {P : Program} {F : Fence} {n : Nat} {b : Frame} {a : Act} {k : List Item} {cs : List Frame} {w : World} {Q : Exit → Act → World → Prop}
theorem stepR_scope {c : Code} : step P (lone (b.atR a (.code (.scope c) :: k)) cs w) = .next (lone (b.atR a (.code c :: .inScope c :: k)) cs w) :=
  step_lone_go (by simp [stepG, stepG.exec, Frame.atR])
theorem stepR_inScope {c : Code} : step P (lone (b.atR a (.inScope c :: k)) cs w) = .next (lone (b.atR a k) cs w) :=
  step_lone_go (by simp [stepG, stepG.exec, Frame.atR])
theorem wpIn_scope {c : Code} (h : c.wpIn F n P (Exit.noGoto Q) a w) : (Code.scope c).wpIn F n P Q a w := by
  intro b k cs hro hb hr
  have h0 : (lone (b.atR a (.code (.scope c) :: k)) cs w).fenced P F := fenced_calm hb hr rfl
  obtain ⟨e, a₁, w₁, hq, harr⟩ := h b (.inScope c :: k) cs hro hb hr
  cases e with
  | normal => exact ⟨.normal, a₁, w₁, hq, .head h0 stepR_scope (StepsIn.trans harr (.one (fenced_calm hb hr rfl) stepR_inScope))⟩
  | exit id =>
    have hx : exitTo id (.inScope c :: k) = exitTo id k := by simp [exitTo]
    exact ⟨.exit id, a₁, w₁, hq, fun k' hk => .head h0 stepR_scope (harr.1 k' (by rw [hx]; exact hk)),
      fun hr' hk => let ⟨k₁, h1, h2⟩ := harr.2 hr' (by rw [hx]; exact hk); ⟨k₁, h1, .head h0 stepR_scope h2⟩⟩
  | goto l => exact hq.elim
  | ret => exact ⟨_, a₁, w₁, hq, .of_steps (.one h0 stepR_scope) harr⟩
  | panic ch => exact ⟨_, a₁, w₁, hq, .of_steps (.one h0 stepR_scope) harr⟩
  | outgrown => exact ⟨_, a₁, w₁, hq, .of_steps (.one h0 stepR_scope) harr⟩
end
end Go
namespace Go.H
open Go
variable {P : Program} {r : Option Nat} {N : Nat} {Q : Post} {E : Env} {D : List Deferred} {h : Hp}
def Sc (Q : Post) : Post
  | .goto _, _, _, _ => False
  | e, E, D, h => Q e E D h
theorem xc_scope {c : Code} (H : XC P r N c (Sc Q) E D h) : XC P r N (.scope c) Q E D h := by
  intro w a ho ha hd
  refine wpIn_scope (wpIn_mono (H w a ho ha hd) ?_)
  rintro e a' w' ⟨E', h', q, x⟩
  cases e with
  | goto l => exact q.elim
  | _ => exact ⟨E', h', q, x⟩
theorem xc_label {l : Nat} (H : Q .normal E D h) : XC P r N (.label l) Q E D h :=
  fun w a ho ha hd => wpIn_label ⟨E, h, by rw [hd]; exact H, ha, .refl ho⟩
theorem sc_n (H : Q .normal E D h) : Sc Q .normal E D h := H
end Go.H
namespace Go.H
open Go
section
variable {P : Program} {r : Option Nat} {E : Env} {h : Hp} {K : Value → Hp → Prop} {T : List PanicEntry → Hp → Prop} {dst : Option Nat} {ty : TypeId} {pos : String} {af : Array Edge} {gd : Option (Nat × Bool)}
theorem Upd.same {b : Nat} {o : Obj} {h h' : Hp} (H : Upd h b o o h') : h' = h := by
  have : ∀ o2, Upd h b o o2 h' → o2 = o → h' = h := by
    intro o2 H2
    induction H2 with
    | here => intro e; subst e; rfl
    | there _ ih => intro e; rw [ih (by subst e; rename_i a; exact a) e]
  exact this o H rfl
end
end Go.H
namespace Go.H
open Go
section
variable {P : Program} {r : Option Nat} {E : Env} {h : Hp} {K : Value → Hp → Prop} {T : List PanicEntry → Hp → Prop} {dst : Option Nat} {ty : TypeId} {pos : String} {af : Array Edge} {gd : Option (Nat × Bool)}
theorem mv2 {x1 x2 y : Nat × Obj} {K : Hp} : List.Perm (y :: x1 :: x2 :: K) (x1 :: x2 :: y :: K) := (List.perm_middle (l₁ := [x1, x2]) (a := y) (l₂ := K)).symm
end
end Go.H
namespace Go.H
open Go
section
variable {P : Program} {r : Option Nat} {E : Env} {h : Hp} {K : Value → Hp → Prop} {T : List PanicEntry → Hp → Prop} {dst : Option Nat} {ty : TypeId} {pos : String} {af : Array Edge} {gd : Option (Nat × Bool)}
end
end Go.H
namespace Go.H
end Go.H
namespace Go.H
open Go
end Go.H

/-
  The data of a slot meter, as plain structures; their cells.
-/
set_option linter.all false
namespace Go.Proofs.Ytlcdbjgfeoagbaa
open Go Go.H
structure Span where
  lo : Int
  hi : Int
  deriving DecidableEq, Inhabited
structure Tariff where
  frm : Int
  feet : Int
  deriving DecidableEq, Inhabited
structure Mark where
  hour : Int
  used : Int
  deriving DecidableEq, Inhabited
structure Slot where
  start : Int
  hold : Int
  coins : Int
  now : Int
  ta : Option Addr
  tc : Nat
  tars : List Tariff
  ma : Option Addr
  mc : Nat
  marks : List Mark
abbrev I (n : Int) : Value := .int .i64 n
def eI (n : Int) : List Value := [I n]
def eSpan (s : Span) : List Value := [I s.lo, I s.hi]
def eTariff (t : Tariff) : List Value := [I t.frm, I t.feet]
def eMark (m : Mark) : List Value := [I m.hour, I m.used]
def eSlot (s : Slot) : List Value := [I s.start, I s.hold, I s.coins, I s.now, .slice s.ta s.tars.length s.tc, .slice s.ma s.marks.length s.mc]
structure SlotV (h : Hp) (s : Slot) : Prop where
  tars : SlV h 2 eTariff s.ta s.tars
  marks : SlV h 2 eMark s.ma s.marks
theorem SlotV.sub {h g : Hp} {s : Slot} (H : SlotV h s) (hs : h ⊆ g) : SlotV g s := ⟨H.tars.sub hs, H.marks.sub hs⟩
structure Small (s : Slot) : Prop where
  tars : s.tars.length ≤ 1000
  marks : s.marks.length ≤ 1000
theorem eI_len (x : Int) : (eI x).length = 1 := rfl
theorem eSpan_len (x : Span) : (eSpan x).length = 2 := rfl
theorem eTariff_len (x : Tariff) : (eTariff x).length = 2 := rfl
theorem eMark_len (x : Mark) : (eMark x).length = 2 := rfl
theorem eI_1 (x : Int) : (eI x).all Value.oneCell' = true := rfl
theorem eSpan_1 (x : Span) : (eSpan x).all Value.oneCell' = true := rfl
theorem eMark_1 (x : Mark) : (eMark x).all Value.oneCell' = true := rfl
def tarOk (hold now last : Int) (t : Tariff) : Prop := (last + 1 ≤ t.frm ∧ t.frm ≤ now) ∧ (1 ≤ t.feet ∧ t.feet ≤ hold)
instance (hold now last : Int) (t : Tariff) : Decidable (tarOk hold now last t) := by unfold tarOk; infer_instance
def tarsOk (hold now : Int) : Int → List Tariff → Prop
  | _, [] => True
  | last, t :: l => tarOk hold now last t ∧ tarsOk hold now t.frm l
def decTars (hold now : Int) : ∀ (last : Int) (l : List Tariff), Decidable (tarsOk hold now last l)
  | _, [] => isTrue trivial
  | last, t :: l => by unfold tarsOk; exact @instDecidableAnd _ _ _ (decTars hold now t.frm l)
instance (hold now last : Int) (l : List Tariff) : Decidable (tarsOk hold now last l) := decTars hold now last l
def markOk (now : Int) (m : Mark) : Prop := (0 ≤ m.hour ∧ m.hour ≤ now) ∧ (0 ≤ m.used ∧ m.used ≤ 1073741824)
instance (now : Int) (m : Mark) : Decidable (markOk now m) := by unfold markOk; infer_instance
def numsOk (s : Slot) : Prop := (1 ≤ s.hold ∧ s.hold ≤ 10000) ∧ (0 ≤ s.start ∧ s.start ≤ s.hold) ∧ (0 ≤ s.coins ∧ s.coins ≤ 24) ∧ (0 ≤ s.now ∧ s.now ≤ 1048576)
instance (s : Slot) : Decidable (numsOk s) := by unfold numsOk; infer_instance
def sizesOk (s : Slot) : Prop := (1 ≤ s.tars.length ∧ s.tars.length ≤ 5) ∧ s.marks.length ≤ 12
instance (s : Slot) : Decidable (sizesOk s) := by unfold sizesOk; infer_instance
def frm0 (s : Slot) : Prop := (s.tars.map Tariff.frm).head? = some 0
instance (s : Slot) : Decidable (frm0 s) := by unfold frm0; infer_instance
def GoodSlot (s : Slot) : Prop := numsOk s ∧ sizesOk s ∧ frm0 s ∧ tarsOk s.hold s.now (-1) s.tars ∧ ∀ m ∈ s.marks, markOk s.now m
instance (s : Slot) : Decidable (GoodSlot s) := by unfold GoodSlot; infer_instance
end Go.Proofs.Ytlcdbjgfeoagbaa

/-
  Slot meters, lists of numbers, marks, as a law's arguments read.
-/
set_option linter.all false
namespace Go.Proofs.Ytlcdbjgfeoagbaa
open Go Go.H
set_option maxRecDepth 100000
section
variable {H : Type} {enc : TypeId × Value → H} {w : World} {sp : Nat → Bool} {held : Bool}
variable {v : Value} {d : DataW H} {ps : List MemPlace} {r : Reach} {b : Nat}
end
end Go.Proofs.Ytlcdbjgfeoagbaa

/-
  Marks in order, the tariff in force, the errors of a slot meter.
-/
set_option linter.all false
namespace Go.Proofs.Ytlcdbjgfeoagbaa
open Go Go.H
theorem snoc_ind {α : Type} {P : List α → Prop} (h0 : P []) (h1 : ∀ l a, P l → P (l ++ [a])) (l : List α) : P l := by
  have : ∀ r : List α, P r.reverse := fun r => by
    induction r with
    | nil => exact h0
    | cons a r ih => rw [List.reverse_cons]; exact h1 _ _ ih
  rw [← List.reverse_reverse l]; exact this _
def insM (m : Mark) : List Mark → List Mark
  | [] => [m]
  | x :: l => if x.hour ≤ m.hour then x :: insM m l else m :: x :: l
def sortM (l : List Mark) : List Mark := l.foldl (fun a m => insM m a) []
def srtd : List Mark → Prop
  | [] => True
  | x :: l => (∀ y ∈ l, x.hour ≤ y.hour) ∧ srtd l
theorem sortM_snoc (l : List Mark) (m : Mark) : sortM (l ++ [m]) = insM m (sortM l) := by unfold sortM; rw [List.foldl_append]; rfl
theorem insM_len (m : Mark) : ∀ l, (insM m l).length = l.length + 1
  | [] => rfl
  | x :: l => by
    unfold insM
    split
    · rw [List.length_cons, insM_len m l]; rfl
    · rfl
theorem insM_mem {m y : Mark} : ∀ {l}, y ∈ insM m l ↔ y = m ∨ y ∈ l
  | [] => by simp [insM]
  | x :: l => by
    unfold insM
    split
    · rw [List.mem_cons, insM_mem (l := l), List.mem_cons]
      constructor
      · rintro (h | h | h)
        · exact .inr (.inl h)
        · exact .inl h
        · exact .inr (.inr h)
      · rintro (h | h | h)
        · exact .inr (.inl h)
        · exact .inl h
        · exact .inr (.inr h)
    · rw [List.mem_cons]
theorem insM_srtd {m : Mark} : ∀ {l}, srtd l → srtd (insM m l)
  | [], _ => ⟨fun y hy => (List.not_mem_nil hy).elim, trivial⟩
  | x :: l, h => by
    unfold insM
    split
    · rename_i hx
      refine ⟨fun y hy => ?_, insM_srtd h.2⟩
      rcases insM_mem.1 hy with rfl | hy
      · exact hx
      · exact h.1 y hy
    · rename_i hx
      refine ⟨fun y hy => ?_, h⟩
      rcases List.mem_cons.1 hy with rfl | hy
      · omega
      · have := h.1 y hy; omega
theorem sortM_len (l : List Mark) : (sortM l).length = l.length := by
  induction l using snoc_ind with
  | h0 => rfl
  | h1 l m ih => rw [sortM_snoc, insM_len, ih, List.length_append]; rfl
theorem sortM_srtd (l : List Mark) : srtd (sortM l) := by
  induction l using snoc_ind with
  | h0 => trivial
  | h1 l m ih => rw [sortM_snoc]; exact insM_srtd ih
theorem sortM_mem {l : List Mark} {y : Mark} : y ∈ sortM l ↔ y ∈ l := by
  induction l using snoc_ind with
  | h0 => simp [sortM]
  | h1 l m ih => rw [sortM_snoc, insM_mem, ih]; simp [or_comm]
def forceN (l : List Tariff) (hour : Int) : Nat → Nat
  | 0 => 0
  | i + 1 => match l[i]? with
    | some t => if t.frm ≤ hour then i else forceN l hour i
    | none => forceN l hour i
def force (l : List Tariff) (hour : Int) : Nat := forceN l hour l.length
theorem forceN_le (l : List Tariff) (hour : Int) : ∀ i, forceN l hour i ≤ i - 1
  | 0 => Nat.le_refl _
  | i + 1 => by
    have := forceN_le l hour i
    unfold forceN
    split
    · split <;> omega
    · omega
theorem force_lt {l : List Tariff} (h : l ≠ []) (hour : Int) : force l hour < l.length := by
  have h1 := forceN_le l hour l.length
  have h2 : 0 < l.length := List.length_pos_iff.2 h
  unfold force
  omega
def twiceB (l : List Mark) : Bool := l.any fun a => l.any fun b => decide (a.hour = b.hour ∧ a.used ≠ b.used)
def crossB (l : List Mark) : Bool := l.any fun a => l.any fun b => decide (a.hour < b.hour ∧ a.used > b.used)
def errS (s : Slot) : Int := if GoodSlot s then (if twiceB s.marks then 5 else if crossB s.marks then 7 else 0) else 1
def byH (s : Slot) (hours : List Int) (hour : Int) : Int := (hours.map fun h => if h ≤ hour then (s.tars.getD (force s.tars h) default).feet else 0).sum
def lastM (s : Slot) : Int × Bool := match (sortM s.marks).getLast? with
  | none => (0, false)
  | some m => (m.used, decide (m.hour = s.now))
def creditA (s : Slot) (bought : Int) : Span := if (lastM s).2 then ⟨s.start + bought - (lastM s).1, s.start + bought - (lastM s).1⟩ else ⟨0, min s.hold (s.start + bought - (lastM s).1)⟩
def badM (s : Slot) (by' : Int → Int) : List Mark → Option (Int × Int)
  | [] => none
  | m :: l => if s.start + by' m.hour < m.used then some (m.hour, 10) else if s.start + by' m.hour > m.used + s.hold then some (m.hour, 9) else badM s by' l
def playA (s : Slot) (hours : List Int) : Int × Span × Int × Int :=
  if errS s = 0 then (if (hours.length : Int) = s.coins ∧ ∀ h ∈ hours, 0 ≤ h ∧ h ≤ s.now then (match badM s (byH s hours) (sortM s.marks) with
    | some (h, e) => (0, ⟨0, 0⟩, h, e)
    | none => (byH s hours s.now, creditA s (byH s hours s.now), s.now, 0)) else (0, ⟨0, 0⟩, 0, 2)) else (0, ⟨0, 0⟩, 0, errS s)
end Go.Proofs.Ytlcdbjgfeoagbaa

/-
  Steps of the loops over tariffs and over hours.
-/
set_option linter.all false
namespace Go.Proofs.Ytlcdbjgfeoagbaa
open Go Go.H
theorem forceN_in {l : List Tariff} {hour : Int} {k : Nat} {t : Tariff} (h : l[k]? = some t) (hh : t.frm ≤ hour) : forceN l hour (k + 1) = k := by
  rw [forceN, h]; exact if_pos hh
theorem forceN_out {l : List Tariff} {hour : Int} {k : Nat} {t : Tariff} (h : l[k]? = some t) (hh : ¬ t.frm ≤ hour) : forceN l hour (k + 1) = forceN l hour k := by
  rw [forceN, h]; exact if_neg hh
def feetAt (s : Slot) (h : Int) : Int := (s.tars.getD (force s.tars h) default).feet
def FeetOk (s : Slot) : Prop := ∀ t ∈ s.tars, 0 ≤ t.feet ∧ t.feet ≤ 10000
theorem feet_at {s : Slot} (h : s.tars ≠ []) (x : Int) : ∃ t, s.tars[force s.tars x]? = some t ∧ feetAt s x = t.feet := by
  have h1 := force_lt h x
  refine ⟨s.tars[force s.tars x], List.getElem?_eq_getElem h1, ?_⟩
  unfold feetAt
  rw [List.getD_eq_getElem?_getD, List.getElem?_eq_getElem h1]; rfl
theorem feetAt_bd {s : Slot} (hf : FeetOk s) (h : s.tars ≠ []) (x : Int) : 0 ≤ feetAt s x ∧ feetAt s x ≤ 10000 := by
  obtain ⟨t, h1, h2⟩ := feet_at h x
  rw [h2]; exact hf t (List.mem_of_getElem? h1)
theorem byH_bd {s : Slot} (hf : FeetOk s) (h : s.tars ≠ []) (hour : Int) : ∀ (hours : List Int), 0 ≤ byH s hours hour ∧ byH s hours hour ≤ 10000 * (hours.length : Int)
  | [] => by simp [byH]
  | x :: l => by
    have ih := byH_bd hf h hour l
    have h1 := feetAt_bd hf h x
    have e : byH s (x :: l) hour = (if x ≤ hour then feetAt s x else 0) + byH s l hour := by unfold byH feetAt; rw [List.map_cons, List.sum_cons]
    rw [e, List.length_cons]
    split <;> omega
theorem eqc_spanD (a b : Span) : (!eqc [I a.lo, I a.hi] [I b.lo, I b.hi]) = !decide (a = b) := by
  obtain ⟨a, a'⟩ := a
  obtain ⟨b, b'⟩ := b
  simp only [eqc, Span.mk.injEq]
  by_cases ha : a = b <;> by_cases hb : a' = b' <;> simp [ha, hb]
end Go.Proofs.Ytlcdbjgfeoagbaa

/-
  Walks.
-/
namespace Go.Proofs.Ytlcdbjgfeoagbaa
open Go Go.H
set_option maxRecDepth 100000
set_option maxHeartbeats 8000000
set_option linter.all false
theorem within_c (n l u : Int) {h : Hp} {R : Ending → Hp → Prop} (H1 : l ≤ n → n ≤ u → R (.returned (.bool true)) h) (H2 : ¬ (l ≤ n ∧ n ≤ u) → R (.returned (.bool false)) h) :
    ACalls Try.prog 33 ⟨[.int .i64 n, .int .i64 l, .int .i64 u]⟩ h R := by
  refine calls_of_xc (N := 15) Try.func33 rfl (by rfl) ?_
  refine xc_seq (xc_region ?_)
  refine xr_op rfl rfl (xv_assign rfl ?_)
  refine xr_end rfl ?_
  refine th_n ?_
  refine xc_seq (xc_region ?_)
  refine xr_op rfl rfl (xv_move rfl ?_)
  refine xr_op rfl rfl (xv_move rfl ?_)
  refine xr_op rfl rfl (xv_leq2 rfl rfl (fun q1 => ?_) (fun q1 => ?_))
  · refine xr_op rfl rfl (xv_move rfl ?_)
    refine xr_gd rfl rfl rfl (xv_move rfl ?_)
    refine xr_gd rfl rfl rfl (xv_move rfl ?_)
    refine xr_gd rfl rfl rfl (xv_leq2 rfl rfl (fun q2 => ?_) (fun q2 => ?_))
    · refine xr_op rfl rfl (xv_pick rfl rfl ?_)
      refine xr_op rfl rfl (xv_assign rfl ?_)
      refine xr_end rfl ?_
      refine th_n ?_
      refine xc_ret ?_
      refine body_ret (h' := h) rfl (ro_tmp rfl ro_nil) (by (first|((repeat first|exact s_0|exact s_1|exact s_3|refine s_4 ?_|refine s_5 ?_|refine s_6 ?_|refine s_7 ?_);done)|((repeat first|exact s_0|exact s_1|exact s_3|refine s_4 ?_|refine s_5 ?_|refine s_6 ?_|refine s_8 ?_);done))) ?_
      first | exact H1 (by omega) (by omega) | exact H2 (by omega)
    · refine xr_op rfl rfl (xv_pick rfl rfl ?_)
      refine xr_op rfl rfl (xv_assign rfl ?_)
      refine xr_end rfl ?_
      refine th_n ?_
      refine xc_ret ?_
      refine body_ret (h' := h) rfl (ro_tmp rfl ro_nil) (by (first|((repeat first|exact s_0|exact s_1|exact s_3|refine s_4 ?_|refine s_5 ?_|refine s_6 ?_|refine s_7 ?_);done)|((repeat first|exact s_0|exact s_1|exact s_3|refine s_4 ?_|refine s_5 ?_|refine s_6 ?_|refine s_8 ?_);done))) ?_
      first | exact H1 (by omega) (by omega) | exact H2 (by omega)
  · refine xr_op rfl rfl (xv_move rfl ?_)
    refine xr_no rfl rfl rfl rfl ?_
    refine xr_no rfl rfl rfl rfl ?_
    refine xr_no rfl rfl rfl rfl ?_
    refine xr_op rfl rfl (xv_pick rfl rfl ?_)
    refine xr_op rfl rfl (xv_assign rfl ?_)
    refine xr_end rfl ?_
    refine th_n ?_
    refine xc_ret ?_
    refine body_ret (h' := h) rfl (ro_tmp rfl ro_nil) (by (first|((repeat first|exact s_0|exact s_1|exact s_3|refine s_4 ?_|refine s_5 ?_|refine s_6 ?_|refine s_7 ?_);done)|((repeat first|exact s_0|exact s_1|exact s_3|refine s_4 ?_|refine s_5 ?_|refine s_6 ?_|refine s_8 ?_);done))) ?_
    first | exact H1 (by omega) (by omega) | exact H2 (by omega)

theorem Spans_c {a a2 : Option Addr} {c c2 : Nat} {xs ys : List Span} {h : Hp} {R : Ending → Hp → Prop} (hs : SlV h 2 eSpan a xs) (hs2 : SlV h 2 eSpan a2 ys) (hl : xs.length ≤ 1000000) (hl2 : ys.length ≤ 4611686018427387904)
    (H : R (.returned (.bool (decide (xs = ys)))) h) :
    ACalls Try.prog 18 ⟨[.slice a xs.length c, .slice a2 ys.length c2]⟩ h R := by
  refine calls_of_xc (N := 26) Try.func18 rfl (by rfl) ?_
  refine xc_seq (xc_region ?_)
  refine xr_op rfl rfl (xv_assign rfl ?_)
  refine xr_end rfl ?_
  refine th_n ?_
  refine xc_seq ?_
  refine xc_seq (xc_region ?_)
  refine xr_op rfl rfl (xv_move rfl ?_)
  refine xr_op rfl rfl (xv_len sl35 rfl ?_)
  refine xr_op rfl rfl (xv_move rfl ?_)
  refine xr_op rfl rfl (xv_len sl35 rfl ?_)
  refine xr_op rfl rfl (xv_neq2 rfl rfl (fun q1 => ?_) (fun q1 => ?_))
  · refine xr_end rfl ?_
    refine th_n ?_
    refine xc_true rfl ?_
    refine xc_seq (xc_region ?_)
    refine xr_op rfl rfl (xv_assign rfl ?_)
    refine xr_end rfl ?_
    refine th_n ?_
    refine xc_ret ?_
    refine th_r ?_
    refine body_ret (h' := h) rfl (ro_tmp rfl ro_nil) (by (first|((repeat first|exact s_0|exact s_1|exact s_3|refine s_4 ?_|refine s_5 ?_|refine s_6 ?_|refine s_7 ?_);done)|((repeat first|exact s_0|exact s_1|exact s_3|refine s_4 ?_|refine s_5 ?_|refine s_6 ?_|refine s_8 ?_);done))) ?_
    first | (rw [decide_eq_true hxy] at H; exact H) | (rw [decide_eq_false hne] at H; exact H) | (rw [decide_eq_false (fun hq => by subst hq; omega)] at H; exact H)
  · refine xr_end rfl ?_
    refine th_n ?_
    refine xc_false rfl ?_
    refine xc_skip ?_
    refine th_n ?_
    refine xc_seq ?_
    refine xc_seq (xc_region ?_)
    refine xr_op rfl rfl (xv_assign rfl ?_)
    refine xr_end rfl ?_
    refine th_n ?_
    refine xc_block ?_
    have hle : xs.length = ys.length := by (first|omega|(dsimp only at *;omega)|(simp at *;omega))
    refine xc_loop (σ := Nat) (fun k => k ≤ xs.length ∧ xs.take k = ys.take k) (fun k => (((emp.put (some 0) (.slice a xs.length c)).put (some 1) (.slice a2 ys.length c2)).put (some 5) (I k))) (fun k => h) (fun k => xs.length - k) 0 ⟨Nat.zero_le _, rfl⟩ (le_put (le_put (le_put (le_emp _) rfl) rfl) rfl) (by (first|((repeat first|exact s_0|exact s_1|exact s_3|refine s_4 ?_|refine s_5 ?_|refine s_6 ?_|refine s_7 ?_);done)|((repeat first|exact s_0|exact s_1|exact s_3|refine s_4 ?_|refine s_5 ?_|refine s_6 ?_|refine s_8 ?_);done))) ?_
    rintro k ⟨hk, hall⟩
    refine xc_seq ?_
    refine xc_seq (xc_region ?_)
    refine xr_op rfl rfl (xv_move rfl ?_)
    refine xr_op rfl rfl (xv_move rfl ?_)
    refine xr_op rfl rfl (xv_len sl35 rfl ?_)
    refine xr_op rfl rfl (xv_lss2 rfl rfl (fun q2 => ?_) (fun q2 => ?_))
    · refine xr_end rfl ?_
      refine th_n ?_
      refine xc_true rfl ?_
      refine xc_skip ?_
      refine th_n ?_
      refine xc_seq ?_
      refine xc_block ?_
      refine xc_seq ?_
      refine xc_draw0 [(0, .S), (1, .S), (2, .S), (3, .R), (4, .S), (5, .S), (6, .S), (7, .R), (8, .S)] mixed (by kernel_rfl) ?_
      have hlto : k < xs.length := by (first|omega|(dsimp only at *;omega)|(simp at *;omega))
      obtain ⟨bo, oo, lo, to, fzo, hao, hmo, hxo⟩ := (hs).at hlto
      obtain ⟨xo, hko⟩ : ∃ qq_, xs[k]? = some qq_ := ⟨_, List.getElem?_eq_getElem hlto⟩
      have hltp : k < ys.length := by (first|omega|(dsimp only at *;omega)|(simp at *;omega))
      obtain ⟨bp, op, lp, tp, fzp, hap, hmp, hxp⟩ := (hs2).at hltp
      obtain ⟨xp, hkp⟩ : ∃ qq_, ys[k]? = some qq_ := ⟨_, List.getElem?_eq_getElem hltp⟩
      refine js_S rfl rfl (.inl rfl) (xv_move rfl ⟨rfl, rfl⟩) ?_
      refine js_S rfl rfl (.inl rfl) (xv_move rfl ⟨rfl, rfl⟩) ?_
      refine js_S rfl rfl (.inl rfl) (xv_ia (sz := 2) (j := k) sl35 ty30 rfl (by rw [hao]; rfl) rfl (by (first | assumption | with_reducible exact Int.toNat_natCast _ | with_reducible rfl | rfl)) (by (first|omega|(dsimp only at *;omega)|(simp at *;omega))) (by (first|omega|(dsimp only at *;omega)|(simp at *;omega))) ⟨rfl, rfl⟩) ?_
      refine js_R0 rfl rfl (.inl rfl) (xv_loadA ty30 rfl rfl (by ((repeat first|exact z_0|assumption|refine z_1 ?_|(refine z_l ?_;(repeat first|exact z_0|assumption|refine z_1 ?_);done)|refine z_r ?_);done)) (hxo (k) xo hko) rfl ⟨rfl, rfl⟩) ?_
      refine js_S rfl rfl (.inl rfl) (xv_move rfl ⟨rfl, rfl⟩) ?_
      refine js_S rfl rfl (.inl rfl) (xv_move rfl ⟨rfl, rfl⟩) ?_
      refine js_S rfl rfl (.inl rfl) (xv_ia (sz := 2) (j := k) sl35 ty30 rfl (by rw [hap]; rfl) rfl (by (first | assumption | with_reducible exact Int.toNat_natCast _ | with_reducible rfl | rfl)) (by (first|omega|(dsimp only at *;omega)|(simp at *;omega))) (by (first|omega|(dsimp only at *;omega)|(simp at *;omega))) ⟨rfl, rfl⟩) ?_
      refine js_R0 rfl rfl (.inl rfl) (xv_loadA ty30 rfl rfl (by ((repeat first|exact z_0|assumption|refine z_1 ?_|(refine z_l ?_;(repeat first|exact z_0|assumption|refine z_1 ?_);done)|refine z_r ?_);done)) (hxp (k) xp hkp) rfl ⟨rfl, rfl⟩) ?_
      refine js_S rfl rfl (.inl rfl) (xv_neA (b := !decide (xo = xp)) fq30 rfl eg30 rfl rfl rfl rfl (by ((repeat' first | assumption | exact numNil | refine numCons ?_ | refine numApp ?_ ?_); done)) (by ((repeat' first | assumption | exact numNil | refine numCons ?_ | refine numApp ?_ ?_); done)) (eqc_spanD xo xp) ⟨rfl, rfl⟩) ?_
      refine j_end0 ?_
      refine th_n ?_
      refine xc_bool rfl (fun q3 => ?_) (fun q3 => ?_)
      · refine xc_seq (xc_region ?_)
        have hne : ¬ xs = ys := fun hq => by subst hq; have hq2 := Option.some.inj (hko.symm.trans hkp); simp_all
        refine xr_op rfl rfl (xv_assign rfl ?_)
        refine xr_end rfl ?_
        refine th_n ?_
        refine xc_ret ?_
        refine bk_r ?_
        refine th_r ?_
        refine th_r ?_
        refine bk_r ?_
        refine th_r ?_
        refine body_ret (h' := h) rfl (ro_tmp rfl ro_nil) (by (first|((repeat first|exact s_0|exact s_1|exact s_3|refine s_4 ?_|refine s_5 ?_|refine s_6 ?_|refine s_7 ?_);done)|((repeat first|exact s_0|exact s_1|exact s_3|refine s_4 ?_|refine s_5 ?_|refine s_6 ?_|refine s_8 ?_);done))) ?_
        first | (rw [decide_eq_true hxy] at H; exact H) | (rw [decide_eq_false hne] at H; exact H) | (rw [decide_eq_false (fun hq => by subst hq; omega)] at H; exact H)
      · refine xc_skip ?_
        refine bk_n ?_
        refine th_n ?_
        refine xc_region ?_
        have heq : xo = xp := by simp_all
        refine xr_op rfl rfl (xv_move rfl ?_)
        refine xr_op rfl rfl (xv_add rfl rfl (wrap_i64 (by (first|omega|(dsimp only at *;omega)|(simp at *;omega))) (by (first|omega|(dsimp only at *;omega)|(simp at *;omega)))) ?_)
        refine xr_op rfl rfl (xv_assign rfl ?_)
        refine xr_end rfl ?_
        exact rnd (k + 1) ⟨by (first|omega|(dsimp only at *;omega)|(simp at *;omega)), by rw [List.take_add_one, List.take_add_one, hko, hkp, hall, heq]⟩ (by (first|omega|(dsimp only at *;omega)|(simp at *;omega))) (le_put (le_put (le_put (le_emp _) rfl) rfl) rfl) (by (first|((repeat first|exact s_0|exact s_1|exact s_3|refine s_4 ?_|refine s_5 ?_|refine s_6 ?_|refine s_7 ?_);done)|((repeat first|exact s_0|exact s_1|exact s_3|refine s_4 ?_|refine s_5 ?_|refine s_6 ?_|refine s_8 ?_);done)))
    · refine xr_end rfl ?_
      refine th_n ?_
      refine xc_false rfl ?_
      refine xc_exit ?_
      refine th_x ?_
      refine th_x ?_
      refine bk_same ?_
      refine th_n ?_
      refine xc_seq (xc_region ?_)
      obtain rfl : k = xs.length := by (first|omega|(dsimp only at *;omega)|(simp at *;omega))
      have hxy : xs = ys := by rw [List.take_length] at hall; rw [hall, hle, List.take_length]
      refine xr_op rfl rfl (xv_assign rfl ?_)
      refine xr_end rfl ?_
      refine th_n ?_
      refine xc_ret ?_
      refine body_ret (h' := h) rfl (ro_tmp rfl ro_nil) (by (first|((repeat first|exact s_0|exact s_1|exact s_3|refine s_4 ?_|refine s_5 ?_|refine s_6 ?_|refine s_7 ?_);done)|((repeat first|exact s_0|exact s_1|exact s_3|refine s_4 ?_|refine s_5 ?_|refine s_6 ?_|refine s_8 ?_);done))) ?_
      first | (rw [decide_eq_true hxy] at H; exact H) | (rw [decide_eq_false hne] at H; exact H) | (rw [decide_eq_false (fun hq => by subst hq; omega)] at H; exact H)

end Go.Proofs.Ytlcdbjgfeoagbaa
