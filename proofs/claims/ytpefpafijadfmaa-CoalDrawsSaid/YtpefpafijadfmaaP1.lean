/-
  Rules: maps with structs as keys (sets), calls of methods through interfaces.
-/
import Derived.Test.YtpefpafijadfmaaHT
import Derived.Scope
set_option linter.all false
namespace Go.H
open Go
section
variable {P : Program} {r : Option Nat} {E : Env} {h : Hp}
variable {K : Value → Hp → Prop} {T : List PanicEntry → Hp → Prop} {dst : Option Nat} {ty : TypeId} {pos : String} {af : Array Edge} {gd : Option (Nat × Bool)}
/-! ### Sets: maps from structs -/
/-! ### Parts of a list -/
theorem SlV.drop {α : Type} {sz : Nat} {enc : α → List Value} {b o : Nat} {xs : List α} (H : SlV h sz enc (some ⟨b, o, none⟩) xs) (k : Nat) : SlV h sz enc (some ⟨b, o + k * sz, none⟩) (xs.drop k) := by
  rcases H with rfl | ⟨b2, o2, l, t, fz, h1, h2, h3⟩
  · exact .inl (by simp)
  · cases h1
    refine .inr ⟨b, o + k * sz, l, t, fz, rfl, h2, fun i x hx => ?_⟩
    rw [List.getElem?_drop] at hx
    have := h3 (k + i) x hx
    rw [Nat.add_mul] at this
    rw [Nat.add_assoc]; exact this
end
end Go.H

/-
  Code with labels that nothing jumps to.
-/
set_option linter.all false
namespace Go
section
variable {P : Program} {F : Fence} {n : Nat} {b : Frame} {a : Act} {k : List Item} {cs : List Frame} {w : World} {Q : Exit → Act → World → Prop}
theorem stepR_scope {c : Code} : step P (lone (b.atR a (.code (.scope c) :: k)) cs w) = .next (lone (b.atR a (.code c :: .inScope c :: k)) cs w) :=
  step_lone_go (by simp [stepG, stepG.exec, Frame.atR])
theorem stepR_inScope {c : Code} : step P (lone (b.atR a (.inScope c :: k)) cs w) = .next (lone (b.atR a k) cs w) :=
  step_lone_go (by simp [stepG, stepG.exec, Frame.atR])
theorem wpIn_scope {c : Code} (h : c.wpIn F n P (Exit.noGoto Q) a w) : (Code.scope c).wpIn F n P Q a w := by
  intro b k cs hro hb hr
  have h0 : (lone (b.atR a (.code (.scope c) :: k)) cs w).fenced P F := fenced_calm hb hr rfl
  obtain ⟨e, a₁, w₁, hq, harr⟩ := h b (.inScope c :: k) cs hro hb hr
  cases e with
  | normal => exact ⟨.normal, a₁, w₁, hq, .head h0 stepR_scope (StepsIn.trans harr (.one (fenced_calm hb hr rfl) stepR_inScope))⟩
  | exit id =>
    have hx : exitTo id (.inScope c :: k) = exitTo id k := by simp [exitTo]
    exact ⟨.exit id, a₁, w₁, hq, fun k' hk => .head h0 stepR_scope (harr.1 k' (by rw [hx]; exact hk)),
      fun hr' hk => let ⟨k₁, h1, h2⟩ := harr.2 hr' (by rw [hx]; exact hk); ⟨k₁, h1, .head h0 stepR_scope h2⟩⟩
  | goto l => exact hq.elim
  | ret => exact ⟨_, a₁, w₁, hq, .of_steps (.one h0 stepR_scope) harr⟩
  | panic ch => exact ⟨_, a₁, w₁, hq, .of_steps (.one h0 stepR_scope) harr⟩
  | outgrown => exact ⟨_, a₁, w₁, hq, .of_steps (.one h0 stepR_scope) harr⟩
end
end Go
namespace Go.H
open Go
variable {P : Program} {r : Option Nat} {N : Nat} {Q : Post} {E : Env} {D : List Deferred} {h : Hp}
def Sc (Q : Post) : Post
  | .goto _, _, _, _ => False
  | e, E, D, h => Q e E D h
theorem xc_scope {c : Code} (H : XC P r N c (Sc Q) E D h) : XC P r N (.scope c) Q E D h := by
  intro w a ho ha hd
  refine wpIn_scope (wpIn_mono (H w a ho ha hd) ?_)
  rintro e a' w' ⟨E', h', q, x⟩
  cases e with
  | goto l => exact q.elim
  | _ => exact ⟨E', h', q, x⟩
theorem xc_label {l : Nat} (H : Q .normal E D h) : XC P r N (.label l) Q E D h :=
  fun w a ho ha hd => wpIn_label ⟨E, h, by rw [hd]; exact H, ha, .refl ho⟩
theorem sc_r (H : Q .ret E D h) : Sc Q .ret E D h := H
end Go.H
namespace Go.H
open Go
section
variable {P : Program} {r : Option Nat} {E : Env} {h : Hp} {K : Value → Hp → Prop} {T : List PanicEntry → Hp → Prop} {dst : Option Nat} {ty : TypeId} {pos : String} {af : Array Edge} {gd : Option (Nat × Bool)}
theorem Upd.same {b : Nat} {o : Obj} {h h' : Hp} (H : Upd h b o o h') : h' = h := by
  have : ∀ o2, Upd h b o o2 h' → o2 = o → h' = h := by
    intro o2 H2
    induction H2 with
    | here => intro e; subst e; rfl
    | there _ ih => intro e; rw [ih (by subst e; rename_i a; exact a) e]
  exact this o H rfl
end
end Go.H
namespace Go.H
open Go
section
variable {P : Program} {r : Option Nat} {E : Env} {h : Hp} {K : Value → Hp → Prop} {T : List PanicEntry → Hp → Prop} {dst : Option Nat} {ty : TypeId} {pos : String} {af : Array Edge} {gd : Option (Nat × Bool)}
end
end Go.H
namespace Go.H
open Go
section
variable {P : Program} {r : Option Nat} {E : Env} {h : Hp} {K : Value → Hp → Prop} {T : List PanicEntry → Hp → Prop} {dst : Option Nat} {ty : TypeId} {pos : String} {af : Array Edge} {gd : Option (Nat × Bool)}
end
end Go.H
namespace Go.H
end Go.H
namespace Go.H
open Go
theorem xr_nd {P : Program} {r : Option Nat} {N : Nat} {ops : Array Oper} {i : Nat} {Q : Post} {E : Env} {D : List Deferred} {h : Hp} (H : (keys h).Nodup → XR P r N ops i Q E D h) : XR P r N ops i Q E D h :=
  fun w a ho ha hd => H ho.nd w a ho ha hd
end Go.H

/-
  The data of the coal yard, as plain structures; their cells.
-/
set_option linter.all false
namespace Go.Proofs.Ytpefpafijadfmaa
open Go Go.H
structure Span where
  lo : Int
  hi : Int
  deriving DecidableEq, Inhabited
structure Coal where
  gas : Span
  tar : Span
  sulphur : Span
  coke : Span
  deriving DecidableEq, Inhabited
structure Move where
  hour : Int
  coal : Int
  tons : Int
  deriving DecidableEq, Inhabited
structure Part where
  layer : Int
  tons : Int
  deriving DecidableEq, Inhabited
structure Share where
  tons : Int
  each : Int
  deriving DecidableEq, Inhabited
structure Yard where
  ca : Option Addr
  cc : Nat
  coals : List Coal
  ma : Option Addr
  mc : Nat
  moves : List Move
abbrev I (n : Int) : Value := .int .i64 n
def eI (n : Int) : List Value := [I n]
def eSpan (s : Span) : List Value := [I s.lo, I s.hi]
def eCoal (c : Coal) : List Value := [I c.gas.lo, I c.gas.hi, I c.tar.lo, I c.tar.hi, I c.sulphur.lo, I c.sulphur.hi, I c.coke.lo, I c.coke.hi]
def eMove (m : Move) : List Value := [I m.hour, I m.coal, I m.tons]
def ePart (p : Part) : List Value := [I p.layer, I p.tons]
def eShare (p : Share) : List Value := [I p.tons, I p.each]
def eYard (y : Yard) : List Value := [.slice y.ca y.coals.length y.cc, .slice y.ma y.moves.length y.mc]
structure YardV (h : Hp) (y : Yard) : Prop where
  coals : SlV h 8 eCoal y.ca y.coals
  moves : SlV h 3 eMove y.ma y.moves
theorem YardV.sub {h g : Hp} {y : Yard} (H : YardV h y) (hs : h ⊆ g) : YardV g y := ⟨H.coals.sub hs, H.moves.sub hs⟩
structure Small (y : Yard) : Prop where
  coals : y.coals.length ≤ 1000
  moves : y.moves.length ≤ 1000
theorem eI_len (x : Int) : (eI x).length = 1 := rfl
theorem eSpan_len (x : Span) : (eSpan x).length = 2 := rfl
theorem eCoal_len (x : Coal) : (eCoal x).length = 8 := rfl
theorem eMove_len (x : Move) : (eMove x).length = 3 := rfl
theorem ePart_len (x : Part) : (ePart x).length = 2 := rfl
theorem eShare_len (x : Share) : (eShare x).length = 2 := rfl
theorem eI_1 (x : Int) : (eI x).all Value.oneCell' = true := rfl
/-! ### What is valid -/
def spanOk (s : Span) : Prop := 0 ≤ s.lo ∧ s.lo ≤ s.hi ∧ s.hi ≤ 100000
instance (s : Span) : Decidable (spanOk s) := by unfold spanOk; infer_instance
def coalOk (c : Coal) : Prop := spanOk c.gas ∧ spanOk c.tar ∧ spanOk c.sulphur ∧ spanOk c.coke
instance (c : Coal) : Decidable (coalOk c) := by unfold coalOk; infer_instance
/-- A move that is valid after the hour 'last', with n coals. -/
def moveOk (n : Nat) (last : Int) (m : Move) : Prop := (last ≤ m.hour ∧ m.hour ≤ 1048576) ∧ (-1 ≤ m.coal ∧ m.coal ≤ (n : Int) - 1) ∧ 1 ≤ m.tons ∧ m.tons ≤ 1048576
instance (n : Nat) (last : Int) (m : Move) : Decidable (moveOk n last m) := by unfold moveOk; infer_instance
def movesOk (n : Nat) : Int → List Move → Prop
  | _, [] => True
  | last, m :: l => moveOk n last m ∧ movesOk n m.hour l
def lastH (last : Int) (l : List Move) : Int := l.foldl (fun _ m => m.hour) last
theorem lastH_snoc (last : Int) (l : List Move) (m : Move) : lastH last (l ++ [m]) = m.hour := by unfold lastH; rw [List.foldl_append]; rfl
theorem movesOk_snoc {n : Nat} : ∀ (last : Int) (l : List Move) (m : Move), movesOk n last (l ++ [m]) ↔ movesOk n last l ∧ moveOk n (lastH last l) m
  | last, [], m => by simp [movesOk, lastH]
  | last, x :: l, m => by
    have ih := movesOk_snoc (n := n) x.hour l m
    rw [List.cons_append]
    simp only [movesOk]
    rw [ih]
    exact ⟨fun ⟨a, b, c⟩ => ⟨⟨a, b⟩, c⟩, fun ⟨⟨a, b⟩, c⟩ => ⟨a, b, c⟩⟩
theorem lastH_take {l : List Move} {last : Int} {k : Nat} {m : Move} (h : l[k]? = some m) : lastH last (l.take (k + 1)) = m.hour := by
  rw [List.take_add_one, h]; exact lastH_snoc last (l.take k) m
theorem movesOk_take {n : Nat} {l : List Move} {last : Int} {k : Nat} {m : Move} (h : l[k]? = some m) : movesOk n last (l.take (k + 1)) ↔ movesOk n last (l.take k) ∧ moveOk n (lastH last (l.take k)) m := by
  rw [List.take_add_one, h]; exact movesOk_snoc last (l.take k) m
theorem movesOk_mono {n : Nat} {last : Int} {l : List Move} (k : Nat) (h : movesOk n last l) : movesOk n last (l.take k) := by
  induction l generalizing last k with
  | nil => simp [movesOk]
  | cons m l ih =>
    cases k with
    | zero => simp [movesOk]
    | succ k => exact ⟨h.1, ih k h.2⟩
def CoalsOk (l : List Coal) : Prop := ∀ c ∈ l, coalOk c
instance (l : List Coal) : Decidable (CoalsOk l) := by unfold CoalsOk; infer_instance
def GoodYard (y : Yard) : Prop := CoalsOk y.coals ∧ movesOk y.coals.length 0 y.moves ∧ (1 ≤ y.coals.length ∧ y.coals.length ≤ 6) ∧ y.moves.length ≤ 32
end Go.Proofs.Ytpefpafijadfmaa

/-
  Yards, lists of numbers, as a law's arguments read.
-/
set_option linter.all false
namespace Go.Proofs.Ytpefpafijadfmaa
open Go Go.H
set_option maxRecDepth 100000
section
variable {H : Type} {enc : TypeId × Value → H} {w : World} {sp : Nat → Bool} {held : Bool}
theorem cells3 : Try.prog.cellsOf 3 = 1 := by kernel_rfl
theorem cells22 : Try.prog.cellsOf 22 = 1 := by kernel_rfl
theorem cells23 : Try.prog.cellsOf 23 = 1 := by kernel_rfl
theorem cells25 : Try.prog.cellsOf 25 = 2 := by kernel_rfl
theorem cells33 : Try.prog.cellsOf 33 = 2 := by kernel_rfl
theorem cells59 : Try.prog.cellsOf 59 = 8 := by kernel_rfl
theorem cells63 : Try.prog.cellsOf 63 = 3 := by kernel_rfl
theorem open_i {n : Nat} {l : List Value} {y : DataW H × List MemPlace} (h : DataW.trod enc Try.prog w 0 sp held n 3 l = some y) : ∃ i : Int, l = [I i] := by
  obtain ⟨i, e, _⟩ := open_num Try.underlying3 h
  exact ⟨i, e⟩
theorem open_span (n : Nat) (l : List Value) (y : DataW H × List MemPlace) (h : DataW.trod enc Try.prog w 0 sp held n 33 l = some y) : ∃ x, l = eSpan x := by
  obtain ⟨hl, hf⟩ := trod_struct_open Try.underlying33 h
  rw [cells33] at hl
  obtain ⟨a, b, rfl⟩ := list2 hl
  obtain ⟨_, _, h1⟩ := hf _ (List.mem_cons_self)
  obtain ⟨_, _, h2⟩ := hf _ (List.mem_cons_of_mem _ List.mem_cons_self)
  simp only [cells3] at h1 h2
  obtain ⟨a, e1⟩ := open_i h1
  obtain ⟨b, e2⟩ := open_i h2
  cases e1; cases e2
  exact ⟨⟨a, b⟩, rfl⟩
theorem open_move (n : Nat) (l : List Value) (y : DataW H × List MemPlace) (h : DataW.trod enc Try.prog w 0 sp held n 63 l = some y) : ∃ x, l = eMove x := by
  obtain ⟨hl, hf⟩ := trod_struct_open Try.underlying63 h
  rw [cells63] at hl
  obtain ⟨a, b, c, rfl⟩ := list3 hl
  obtain ⟨_, _, h1⟩ := hf _ (List.mem_cons_self)
  obtain ⟨_, _, h2⟩ := hf _ (List.mem_cons_of_mem _ List.mem_cons_self)
  obtain ⟨_, _, h3⟩ := hf _ (List.mem_cons_of_mem _ (List.mem_cons_of_mem _ List.mem_cons_self))
  simp only [cells3] at h1 h2 h3
  obtain ⟨a, e1⟩ := open_i h1
  obtain ⟨b, e2⟩ := open_i h2
  obtain ⟨c, e3⟩ := open_i h3
  cases e1; cases e2; cases e3
  exact ⟨⟨a, b, c⟩, rfl⟩
theorem list8 {α : Type} {l : List α} (h : l.length = 8) : ∃ a b c d e f g i, l = [a, b, c, d, e, f, g, i] := by
  match l, h with
  | [a, b, c, d, e, f, g, i], _ => exact ⟨a, b, c, d, e, f, g, i, rfl⟩
theorem open_coal (n : Nat) (l : List Value) (y : DataW H × List MemPlace) (h : DataW.trod enc Try.prog w 0 sp held n 59 l = some y) : ∃ x, l = eCoal x := by
  obtain ⟨hl, hf⟩ := trod_struct_open Try.underlying59 h
  rw [cells59] at hl
  obtain ⟨a, b, c, d, e, f, g, i, rfl⟩ := list8 hl
  obtain ⟨_, _, h1⟩ := hf _ (List.mem_cons_self)
  obtain ⟨_, _, h2⟩ := hf _ (List.mem_cons_of_mem _ List.mem_cons_self)
  obtain ⟨_, _, h3⟩ := hf _ (List.mem_cons_of_mem _ (List.mem_cons_of_mem _ List.mem_cons_self))
  obtain ⟨_, _, h4⟩ := hf _ (List.mem_cons_of_mem _ (List.mem_cons_of_mem _ (List.mem_cons_of_mem _ List.mem_cons_self)))
  simp only [cells33] at h1 h2 h3 h4
  obtain ⟨x, e1⟩ := open_span _ _ _ h1
  obtain ⟨z, e2⟩ := open_span _ _ _ h2
  obtain ⟨u, e3⟩ := open_span _ _ _ h3
  obtain ⟨v, e4⟩ := open_span _ _ _ h4
  cases e1; cases e2; cases e3; cases e4
  exact ⟨⟨x, z, u, v⟩, rfl⟩
variable {v : Value} {d : DataW H} {ps : List MemPlace} {r : Reach} {b : Nat}
theorem open_yard (hv : Value.okWide Try.prog w r b 25 v) (h : DataW.Trod enc Try.prog w 0 sp held 25 v d ps) : ∃ y : Yard, v = .agg ⟨eYard y⟩ ∧ YardV (full w) y ∧ y.coals.length ≤ 9223372036854775807 ∧ y.moves.length ≤ 9223372036854775807 := by
  obtain ⟨n, hn⟩ := h
  unfold Value.okWide at hv
  rw [Try.underlying25] at hv
  obtain ⟨⟨cs⟩, rfl, _, _⟩ := hv
  obtain ⟨hl, hf⟩ := trod_struct_open Try.underlying25 hn
  rw [cells25] at hl
  obtain ⟨c0, c1, rfl⟩ := list2 hl
  obtain ⟨_, _, h1⟩ := hf _ (List.mem_cons_self)
  obtain ⟨_, _, h2⟩ := hf _ (List.mem_cons_of_mem _ List.mem_cons_self)
  simp only [cells22, cells23] at h1 h2
  obtain ⟨sa, sc, ss, e1, l1, q1⟩ := open_slv (en := eCoal) Try.underlying22 cells59 (by decide) open_coal h1
  obtain ⟨ta, tc, ts, e2, l2, q2⟩ := open_slv (en := eMove) Try.underlying23 cells63 (by decide) open_move h2
  cases e1; cases e2
  exact ⟨⟨sa, sc, ss, ta, tc, ts⟩, rfl, ⟨q1, q2⟩, l1, l2⟩
end
end Go.Proofs.Ytpefpafijadfmaa

/-
  Layers and what is in them, as the document counts them.
-/
set_option linter.all false
namespace Go.Proofs.Ytpefpafijadfmaa
open Go Go.H
theorem take_all {α : Type} {P : α → Prop} {l : List α} {k : Nat} {x : α} (h : l[k]? = some x) : (∀ y ∈ l.take (k + 1), P y) ↔ (∀ y ∈ l.take k, P y) ∧ P x := by
  rw [List.take_add_one, h]
  simp only [Option.toList_some, List.mem_append, List.mem_singleton]
  exact ⟨fun H => ⟨fun y hy => H y (.inl hy), H x (.inr rfl)⟩, fun H y hy => hy.elim (H.1 y) (fun e => e ▸ H.2)⟩
theorem movesOk_at {n : Nat} {l : List Move} {last : Int} {k : Nat} {m : Move} (hq : movesOk n last l) (h : l[k]? = some m) : moveOk n (lastH last (l.take k)) m := ((movesOk_take h).1 (movesOk_mono (k + 1) hq)).2
theorem lastH_p {last : Int} {l : List Move} {k : Nat} {m : Move} (h0 : 0 < k) (h : l[k - 1]? = some m) : lastH last (l.take k) = m.hour := by
  have := lastH_take (last := last) h
  rwa [show k - 1 + 1 = k by omega] at this
theorem lastH_0le {n : Nat} {l : List Move} {k : Nat} (h : movesOk n 0 (l.take k)) {j : Nat} (hj : j ≤ k) : 0 ≤ lastH 0 (l.take j) := by
  have key : ∀ (m : List Move) (last : Int), 0 ≤ last → movesOk n last m → 0 ≤ lastH last m := by
    intro m
    induction m with
    | nil => intro last h0 _; exact h0
    | cons x m ih =>
      intro last h0 hm
      have e : lastH last (x :: m) = lastH x.hour m := rfl
      rw [e]
      exact ih x.hour (by have := hm.1.1.1; omega) hm.2
  have h2 := movesOk_mono j h
  rw [List.take_take, Nat.min_eq_left hj] at h2
  exact key _ 0 (Int.le_refl _) h2
/-- How many layers, and the hour of the one that is open. -/
def stepO (z : Nat × Int) (m : Move) : Nat × Int := if m.coal = -1 then (z.1, -1) else if z.2 = m.hour then z else (z.1 + 1, m.hour)
def opn (l : List Move) : Nat × Int := l.foldl stepO (0, -1)
theorem opn_snoc (l : List Move) (m : Move) : opn (l ++ [m]) = stepO (opn l) m := by unfold opn; rw [List.foldl_append]; rfl
theorem opn_take {l : List Move} {k : Nat} {m : Move} (h : l[k]? = some m) : opn (l.take (k + 1)) = stepO (opn (l.take k)) m := by
  rw [List.take_add_one, h]; exact opn_snoc _ _
theorem snoc_ind {α : Type} {P : List α → Prop} (h0 : P []) (h1 : ∀ l a, P l → P (l ++ [a])) (l : List α) : P l := by
  have : ∀ m : List α, P m.reverse := by
    intro m
    induction m with
    | nil => exact h0
    | cons a m ih => rw [List.reverse_cons]; exact h1 _ _ ih
  simpa using this l.reverse
theorem opn_le (l : List Move) : (opn l).1 ≤ l.length := by
  induction l using snoc_ind with
  | h0 => exact Nat.le_refl _
  | h1 l m ih =>
    rw [opn_snoc, List.length_append, List.length_singleton]
    unfold stepO
    split
    · dsimp only; omega
    · split
      · omega
      · dsimp only; omega
/-- The open hour, by the last move. -/
theorem opn_open {l : List Move} {k : Nat} {m : Move} (h0 : 0 < k) (h : l[k - 1]? = some m) : (opn (l.take k)).2 = if m.coal = -1 then -1 else m.hour := by
  have e := opn_take h
  rw [show k - 1 + 1 = k by omega] at e
  rw [e]
  unfold stepO
  split
  · rfl
  · split
    · rename_i h2; exact h2
    · rfl
/-- What is in layer j. -/
def stepC (j : Int) (z : (Nat × Int) × List Int) (m : Move) : (Nat × Int) × List Int :=
  (stepO z.1 m, if m.coal ≠ -1 ∧ ((stepO z.1 m).1 : Int) - 1 = j then z.2.set m.coal.toNat (z.2.getD m.coal.toNat 0 + m.tons) else z.2)
def contS (n : Nat) (l : List Move) (j : Int) : (Nat × Int) × List Int := l.foldl (stepC j) ((0, -1), List.replicate n 0)
def contF (n : Nat) (l : List Move) (j : Int) : List Int := (contS n l j).2
theorem contS_1 (n : Nat) (l : List Move) (j : Int) : (contS n l j).1 = opn l := by
  induction l using snoc_ind with
  | h0 => rfl
  | h1 l m ih =>
    have e : contS n (l ++ [m]) j = stepC j (contS n l j) m := by unfold contS; rw [List.foldl_append]; rfl
    rw [e, opn_snoc, ← ih]; rfl
theorem contF_snoc (n : Nat) (l : List Move) (m : Move) (j : Int) : contF n (l ++ [m]) j = if m.coal ≠ -1 ∧ ((opn (l ++ [m])).1 : Int) - 1 = j then (contF n l j).set m.coal.toNat ((contF n l j).getD m.coal.toNat 0 + m.tons) else contF n l j := by
  have e : contS n (l ++ [m]) j = stepC j (contS n l j) m := by unfold contS; rw [List.foldl_append]; rfl
  unfold contF
  rw [e]
  unfold stepC
  rw [contS_1, ← opn_snoc]
theorem contF_take {n : Nat} {l : List Move} {k : Nat} {m : Move} {j : Int} (h : l[k]? = some m) : contF n (l.take (k + 1)) j = if m.coal ≠ -1 ∧ ((opn (l.take (k + 1))).1 : Int) - 1 = j then (contF n (l.take k) j).set m.coal.toNat ((contF n (l.take k) j).getD m.coal.toNat 0 + m.tons) else contF n (l.take k) j := by
  rw [List.take_add_one, h]; exact contF_snoc _ _ _ _
theorem contF_len (n : Nat) (l : List Move) (j : Int) : (contF n l j).length = n := by
  induction l using snoc_ind with
  | h0 => simp [contF, contS]
  | h1 l m ih => rw [contF_snoc]; split <;> simp [ih]
theorem contF_nil (n : Nat) (j : Int) : contF n [] j = List.replicate n 0 := rfl
theorem contF_bd {n : Nat} {last : Int} {l : List Move} {j : Int} (h : movesOk n last l) : ∀ x ∈ contF n l j, 0 ≤ x ∧ x ≤ 1048576 * (l.length : Int) := by
  induction l using snoc_ind with
  | h0 => intro x hx; rw [contF_nil] at hx; rw [List.eq_of_mem_replicate hx]; simp
  | h1 l m ih =>
    rw [movesOk_snoc] at h
    have ih := ih h.1
    obtain ⟨_, _, t1, t2⟩ := h.2
    intro x hx
    rw [contF_snoc] at hx
    rw [List.length_append, List.length_singleton]
    split at hx
    · rcases List.mem_or_eq_of_mem_set hx with hx | hx
      · have := ih x hx; omega
      · subst hx
        have : 0 ≤ (contF n l j).getD m.coal.toNat 0 ∧ (contF n l j).getD m.coal.toNat 0 ≤ 1048576 * (l.length : Int) := by
          rw [List.getD_eq_getElem?_getD]
          cases hg : (contF n l j)[m.coal.toNat]? with
          | none => simp; omega
          | some v => simpa using ih v (List.mem_of_getElem? hg)
        omega
    · have := ih x hx; omega
def sumI (l : List Int) : Int := l.sum
theorem sumI_take {l : List Int} {k : Nat} {x : Int} (h : l[k]? = some x) : sumI (l.take (k + 1)) = sumI (l.take k) + x := by
  unfold sumI; rw [List.take_add_one, h, List.sum_append_int]; simp
theorem sumI_bd {l : List Int} {B : Int} (h : ∀ x ∈ l, 0 ≤ x ∧ x ≤ B) : 0 ≤ sumI l ∧ sumI l ≤ (l.length : Int) * B := by
  unfold sumI
  induction l with
  | nil => simp
  | cons x l ih =>
    have := ih fun y hy => h y (List.mem_cons_of_mem _ hy)
    have hx := h x List.mem_cons_self
    rw [List.sum_cons, List.length_cons]
    have e : ((l.length + 1 : Nat) : Int) * B = (l.length : Int) * B + B := by rw [Int.natCast_add, Int.add_mul]; simp
    rw [e]; omega
end Go.Proofs.Ytpefpafijadfmaa
