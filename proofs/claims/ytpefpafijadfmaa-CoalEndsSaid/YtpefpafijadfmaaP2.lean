/-
  Rules: maps with structs as keys (sets), calls of methods through interfaces.
-/
import Derived.Test.YtpefpafijadfmaaHT
import Derived.Scope
set_option linter.all false
namespace Go.H
open Go
section
variable {P : Program} {r : Option Nat} {E : Env} {h : Hp}
variable {K : Value → Hp → Prop} {T : List PanicEntry → Hp → Prop} {dst : Option Nat} {ty : TypeId} {pos : String} {af : Array Edge} {gd : Option (Nat × Bool)}
/-! ### Sets: maps from structs -/
/-! ### Parts of a list -/
theorem SlV.drop {α : Type} {sz : Nat} {enc : α → List Value} {b o : Nat} {xs : List α} (H : SlV h sz enc (some ⟨b, o, none⟩) xs) (k : Nat) : SlV h sz enc (some ⟨b, o + k * sz, none⟩) (xs.drop k) := by
  rcases H with rfl | ⟨b2, o2, l, t, fz, h1, h2, h3⟩
  · exact .inl (by simp)
  · cases h1
    refine .inr ⟨b, o + k * sz, l, t, fz, rfl, h2, fun i x hx => ?_⟩
    rw [List.getElem?_drop] at hx
    have := h3 (k + i) x hx
    rw [Nat.add_mul] at this
    rw [Nat.add_assoc]; exact this
end
end Go.H

/-
  Code with labels that nothing jumps to.
-/
set_option linter.all false
namespace Go
section
variable {P : Program} {F : Fence} {n : Nat} {b : Frame} {a : Act} {k : List Item} {cs : List Frame} {w : World} {Q : Exit → Act → World → Prop}
theorem stepR_scope {c : Code} : step P (lone (b.atR a (.code (.scope c) :: k)) cs w) = .next (lone (b.atR a (.code c :: .inScope c :: k)) cs w) :=
  step_lone_go (by simp [stepG, stepG.exec, Frame.atR])
theorem stepR_inScope {c : Code} : step P (lone (b.atR a (.inScope c :: k)) cs w) = .next (lone (b.atR a k) cs w) :=
  step_lone_go (by simp [stepG, stepG.exec, Frame.atR])
theorem wpIn_scope {c : Code} (h : c.wpIn F n P (Exit.noGoto Q) a w) : (Code.scope c).wpIn F n P Q a w := by
  intro b k cs hro hb hr
  have h0 : (lone (b.atR a (.code (.scope c) :: k)) cs w).fenced P F := fenced_calm hb hr rfl
  obtain ⟨e, a₁, w₁, hq, harr⟩ := h b (.inScope c :: k) cs hro hb hr
  cases e with
  | normal => exact ⟨.normal, a₁, w₁, hq, .head h0 stepR_scope (StepsIn.trans harr (.one (fenced_calm hb hr rfl) stepR_inScope))⟩
  | exit id =>
    have hx : exitTo id (.inScope c :: k) = exitTo id k := by simp [exitTo]
    exact ⟨.exit id, a₁, w₁, hq, fun k' hk => .head h0 stepR_scope (harr.1 k' (by rw [hx]; exact hk)),
      fun hr' hk => let ⟨k₁, h1, h2⟩ := harr.2 hr' (by rw [hx]; exact hk); ⟨k₁, h1, .head h0 stepR_scope h2⟩⟩
  | goto l => exact hq.elim
  | ret => exact ⟨_, a₁, w₁, hq, .of_steps (.one h0 stepR_scope) harr⟩
  | panic ch => exact ⟨_, a₁, w₁, hq, .of_steps (.one h0 stepR_scope) harr⟩
  | outgrown => exact ⟨_, a₁, w₁, hq, .of_steps (.one h0 stepR_scope) harr⟩
end
end Go
namespace Go.H
open Go
variable {P : Program} {r : Option Nat} {N : Nat} {Q : Post} {E : Env} {D : List Deferred} {h : Hp}
def Sc (Q : Post) : Post
  | .goto _, _, _, _ => False
  | e, E, D, h => Q e E D h
theorem xc_scope {c : Code} (H : XC P r N c (Sc Q) E D h) : XC P r N (.scope c) Q E D h := by
  intro w a ho ha hd
  refine wpIn_scope (wpIn_mono (H w a ho ha hd) ?_)
  rintro e a' w' ⟨E', h', q, x⟩
  cases e with
  | goto l => exact q.elim
  | _ => exact ⟨E', h', q, x⟩
theorem xc_label {l : Nat} (H : Q .normal E D h) : XC P r N (.label l) Q E D h :=
  fun w a ho ha hd => wpIn_label ⟨E, h, by rw [hd]; exact H, ha, .refl ho⟩
theorem sc_r (H : Q .ret E D h) : Sc Q .ret E D h := H
end Go.H
namespace Go.H
open Go
section
variable {P : Program} {r : Option Nat} {E : Env} {h : Hp} {K : Value → Hp → Prop} {T : List PanicEntry → Hp → Prop} {dst : Option Nat} {ty : TypeId} {pos : String} {af : Array Edge} {gd : Option (Nat × Bool)}
theorem Upd.same {b : Nat} {o : Obj} {h h' : Hp} (H : Upd h b o o h') : h' = h := by
  have : ∀ o2, Upd h b o o2 h' → o2 = o → h' = h := by
    intro o2 H2
    induction H2 with
    | here => intro e; subst e; rfl
    | there _ ih => intro e; rw [ih (by subst e; rename_i a; exact a) e]
  exact this o H rfl
end
end Go.H
namespace Go.H
open Go
section
variable {P : Program} {r : Option Nat} {E : Env} {h : Hp} {K : Value → Hp → Prop} {T : List PanicEntry → Hp → Prop} {dst : Option Nat} {ty : TypeId} {pos : String} {af : Array Edge} {gd : Option (Nat × Bool)}
end
end Go.H
namespace Go.H
open Go
section
variable {P : Program} {r : Option Nat} {E : Env} {h : Hp} {K : Value → Hp → Prop} {T : List PanicEntry → Hp → Prop} {dst : Option Nat} {ty : TypeId} {pos : String} {af : Array Edge} {gd : Option (Nat × Bool)}
end
end Go.H
namespace Go.H
end Go.H
namespace Go.H
open Go
theorem xr_nd {P : Program} {r : Option Nat} {N : Nat} {ops : Array Oper} {i : Nat} {Q : Post} {E : Env} {D : List Deferred} {h : Hp} (H : (keys h).Nodup → XR P r N ops i Q E D h) : XR P r N ops i Q E D h :=
  fun w a ho ha hd => H ho.nd w a ho ha hd
end Go.H

/-
  The data of the coal yard, as plain structures; their cells.
-/
set_option linter.all false
namespace Go.Proofs.Ytpefpafijadfmaa
open Go Go.H
structure Span where
  lo : Int
  hi : Int
  deriving DecidableEq, Inhabited
structure Coal where
  gas : Span
  tar : Span
  sulphur : Span
  coke : Span
  deriving DecidableEq, Inhabited
structure Move where
  hour : Int
  coal : Int
  tons : Int
  deriving DecidableEq, Inhabited
structure Part where
  layer : Int
  tons : Int
  deriving DecidableEq, Inhabited
structure Share where
  tons : Int
  each : Int
  deriving DecidableEq, Inhabited
structure Yard where
  ca : Option Addr
  cc : Nat
  coals : List Coal
  ma : Option Addr
  mc : Nat
  moves : List Move
abbrev I (n : Int) : Value := .int .i64 n
def eI (n : Int) : List Value := [I n]
def eSpan (s : Span) : List Value := [I s.lo, I s.hi]
def eCoal (c : Coal) : List Value := [I c.gas.lo, I c.gas.hi, I c.tar.lo, I c.tar.hi, I c.sulphur.lo, I c.sulphur.hi, I c.coke.lo, I c.coke.hi]
def eMove (m : Move) : List Value := [I m.hour, I m.coal, I m.tons]
def ePart (p : Part) : List Value := [I p.layer, I p.tons]
def eShare (p : Share) : List Value := [I p.tons, I p.each]
def eYard (y : Yard) : List Value := [.slice y.ca y.coals.length y.cc, .slice y.ma y.moves.length y.mc]
structure YardV (h : Hp) (y : Yard) : Prop where
  coals : SlV h 8 eCoal y.ca y.coals
  moves : SlV h 3 eMove y.ma y.moves
theorem YardV.sub {h g : Hp} {y : Yard} (H : YardV h y) (hs : h ⊆ g) : YardV g y := ⟨H.coals.sub hs, H.moves.sub hs⟩
structure Small (y : Yard) : Prop where
  coals : y.coals.length ≤ 1000
  moves : y.moves.length ≤ 1000
theorem eI_len (x : Int) : (eI x).length = 1 := rfl
theorem eSpan_len (x : Span) : (eSpan x).length = 2 := rfl
theorem eCoal_len (x : Coal) : (eCoal x).length = 8 := rfl
theorem eMove_len (x : Move) : (eMove x).length = 3 := rfl
theorem ePart_len (x : Part) : (ePart x).length = 2 := rfl
theorem eShare_len (x : Share) : (eShare x).length = 2 := rfl
theorem eI_1 (x : Int) : (eI x).all Value.oneCell' = true := rfl
/-! ### What is valid -/
def spanOk (s : Span) : Prop := 0 ≤ s.lo ∧ s.lo ≤ s.hi ∧ s.hi ≤ 100000
instance (s : Span) : Decidable (spanOk s) := by unfold spanOk; infer_instance
def coalOk (c : Coal) : Prop := spanOk c.gas ∧ spanOk c.tar ∧ spanOk c.sulphur ∧ spanOk c.coke
instance (c : Coal) : Decidable (coalOk c) := by unfold coalOk; infer_instance
/-- A move that is valid after the hour 'last', with n coals. -/
def moveOk (n : Nat) (last : Int) (m : Move) : Prop := (last ≤ m.hour ∧ m.hour ≤ 1048576) ∧ (-1 ≤ m.coal ∧ m.coal ≤ (n : Int) - 1) ∧ 1 ≤ m.tons ∧ m.tons ≤ 1048576
instance (n : Nat) (last : Int) (m : Move) : Decidable (moveOk n last m) := by unfold moveOk; infer_instance
def movesOk (n : Nat) : Int → List Move → Prop
  | _, [] => True
  | last, m :: l => moveOk n last m ∧ movesOk n m.hour l
def lastH (last : Int) (l : List Move) : Int := l.foldl (fun _ m => m.hour) last
theorem lastH_snoc (last : Int) (l : List Move) (m : Move) : lastH last (l ++ [m]) = m.hour := by unfold lastH; rw [List.foldl_append]; rfl
theorem movesOk_snoc {n : Nat} : ∀ (last : Int) (l : List Move) (m : Move), movesOk n last (l ++ [m]) ↔ movesOk n last l ∧ moveOk n (lastH last l) m
  | last, [], m => by simp [movesOk, lastH]
  | last, x :: l, m => by
    have ih := movesOk_snoc (n := n) x.hour l m
    rw [List.cons_append]
    simp only [movesOk]
    rw [ih]
    exact ⟨fun ⟨a, b, c⟩ => ⟨⟨a, b⟩, c⟩, fun ⟨⟨a, b⟩, c⟩ => ⟨a, b, c⟩⟩
theorem lastH_take {l : List Move} {last : Int} {k : Nat} {m : Move} (h : l[k]? = some m) : lastH last (l.take (k + 1)) = m.hour := by
  rw [List.take_add_one, h]; exact lastH_snoc last (l.take k) m
theorem movesOk_take {n : Nat} {l : List Move} {last : Int} {k : Nat} {m : Move} (h : l[k]? = some m) : movesOk n last (l.take (k + 1)) ↔ movesOk n last (l.take k) ∧ moveOk n (lastH last (l.take k)) m := by
  rw [List.take_add_one, h]; exact movesOk_snoc last (l.take k) m
theorem movesOk_mono {n : Nat} {last : Int} {l : List Move} (k : Nat) (h : movesOk n last l) : movesOk n last (l.take k) := by
  induction l generalizing last k with
  | nil => simp [movesOk]
  | cons m l ih =>
    cases k with
    | zero => simp [movesOk]
    | succ k => exact ⟨h.1, ih k h.2⟩
def CoalsOk (l : List Coal) : Prop := ∀ c ∈ l, coalOk c
instance (l : List Coal) : Decidable (CoalsOk l) := by unfold CoalsOk; infer_instance
def GoodYard (y : Yard) : Prop := CoalsOk y.coals ∧ movesOk y.coals.length 0 y.moves ∧ (1 ≤ y.coals.length ∧ y.coals.length ≤ 6) ∧ y.moves.length ≤ 32
end Go.Proofs.Ytpefpafijadfmaa

/-
  Yards, lists of numbers, as a law's arguments read.
-/
set_option linter.all false
namespace Go.Proofs.Ytpefpafijadfmaa
open Go Go.H
set_option maxRecDepth 100000
section
variable {H : Type} {enc : TypeId × Value → H} {w : World} {sp : Nat → Bool} {held : Bool}
theorem cells3 : Try.prog.cellsOf 3 = 1 := by kernel_rfl
theorem cells22 : Try.prog.cellsOf 22 = 1 := by kernel_rfl
theorem cells23 : Try.prog.cellsOf 23 = 1 := by kernel_rfl
theorem cells25 : Try.prog.cellsOf 25 = 2 := by kernel_rfl
theorem cells33 : Try.prog.cellsOf 33 = 2 := by kernel_rfl
theorem cells59 : Try.prog.cellsOf 59 = 8 := by kernel_rfl
theorem cells63 : Try.prog.cellsOf 63 = 3 := by kernel_rfl
theorem open_i {n : Nat} {l : List Value} {y : DataW H × List MemPlace} (h : DataW.trod enc Try.prog w 0 sp held n 3 l = some y) : ∃ i : Int, l = [I i] := by
  obtain ⟨i, e, _⟩ := open_num Try.underlying3 h
  exact ⟨i, e⟩
theorem open_span (n : Nat) (l : List Value) (y : DataW H × List MemPlace) (h : DataW.trod enc Try.prog w 0 sp held n 33 l = some y) : ∃ x, l = eSpan x := by
  obtain ⟨hl, hf⟩ := trod_struct_open Try.underlying33 h
  rw [cells33] at hl
  obtain ⟨a, b, rfl⟩ := list2 hl
  obtain ⟨_, _, h1⟩ := hf _ (List.mem_cons_self)
  obtain ⟨_, _, h2⟩ := hf _ (List.mem_cons_of_mem _ List.mem_cons_self)
  simp only [cells3] at h1 h2
  obtain ⟨a, e1⟩ := open_i h1
  obtain ⟨b, e2⟩ := open_i h2
  cases e1; cases e2
  exact ⟨⟨a, b⟩, rfl⟩
theorem open_move (n : Nat) (l : List Value) (y : DataW H × List MemPlace) (h : DataW.trod enc Try.prog w 0 sp held n 63 l = some y) : ∃ x, l = eMove x := by
  obtain ⟨hl, hf⟩ := trod_struct_open Try.underlying63 h
  rw [cells63] at hl
  obtain ⟨a, b, c, rfl⟩ := list3 hl
  obtain ⟨_, _, h1⟩ := hf _ (List.mem_cons_self)
  obtain ⟨_, _, h2⟩ := hf _ (List.mem_cons_of_mem _ List.mem_cons_self)
  obtain ⟨_, _, h3⟩ := hf _ (List.mem_cons_of_mem _ (List.mem_cons_of_mem _ List.mem_cons_self))
  simp only [cells3] at h1 h2 h3
  obtain ⟨a, e1⟩ := open_i h1
  obtain ⟨b, e2⟩ := open_i h2
  obtain ⟨c, e3⟩ := open_i h3
  cases e1; cases e2; cases e3
  exact ⟨⟨a, b, c⟩, rfl⟩
theorem list8 {α : Type} {l : List α} (h : l.length = 8) : ∃ a b c d e f g i, l = [a, b, c, d, e, f, g, i] := by
  match l, h with
  | [a, b, c, d, e, f, g, i], _ => exact ⟨a, b, c, d, e, f, g, i, rfl⟩
theorem open_coal (n : Nat) (l : List Value) (y : DataW H × List MemPlace) (h : DataW.trod enc Try.prog w 0 sp held n 59 l = some y) : ∃ x, l = eCoal x := by
  obtain ⟨hl, hf⟩ := trod_struct_open Try.underlying59 h
  rw [cells59] at hl
  obtain ⟨a, b, c, d, e, f, g, i, rfl⟩ := list8 hl
  obtain ⟨_, _, h1⟩ := hf _ (List.mem_cons_self)
  obtain ⟨_, _, h2⟩ := hf _ (List.mem_cons_of_mem _ List.mem_cons_self)
  obtain ⟨_, _, h3⟩ := hf _ (List.mem_cons_of_mem _ (List.mem_cons_of_mem _ List.mem_cons_self))
  obtain ⟨_, _, h4⟩ := hf _ (List.mem_cons_of_mem _ (List.mem_cons_of_mem _ (List.mem_cons_of_mem _ List.mem_cons_self)))
  simp only [cells33] at h1 h2 h3 h4
  obtain ⟨x, e1⟩ := open_span _ _ _ h1
  obtain ⟨z, e2⟩ := open_span _ _ _ h2
  obtain ⟨u, e3⟩ := open_span _ _ _ h3
  obtain ⟨v, e4⟩ := open_span _ _ _ h4
  cases e1; cases e2; cases e3; cases e4
  exact ⟨⟨x, z, u, v⟩, rfl⟩
variable {v : Value} {d : DataW H} {ps : List MemPlace} {r : Reach} {b : Nat}
theorem open_yard (hv : Value.okWide Try.prog w r b 25 v) (h : DataW.Trod enc Try.prog w 0 sp held 25 v d ps) : ∃ y : Yard, v = .agg ⟨eYard y⟩ ∧ YardV (full w) y ∧ y.coals.length ≤ 9223372036854775807 ∧ y.moves.length ≤ 9223372036854775807 := by
  obtain ⟨n, hn⟩ := h
  unfold Value.okWide at hv
  rw [Try.underlying25] at hv
  obtain ⟨⟨cs⟩, rfl, _, _⟩ := hv
  obtain ⟨hl, hf⟩ := trod_struct_open Try.underlying25 hn
  rw [cells25] at hl
  obtain ⟨c0, c1, rfl⟩ := list2 hl
  obtain ⟨_, _, h1⟩ := hf _ (List.mem_cons_self)
  obtain ⟨_, _, h2⟩ := hf _ (List.mem_cons_of_mem _ List.mem_cons_self)
  simp only [cells22, cells23] at h1 h2
  obtain ⟨sa, sc, ss, e1, l1, q1⟩ := open_slv (en := eCoal) Try.underlying22 cells59 (by decide) open_coal h1
  obtain ⟨ta, tc, ts, e2, l2, q2⟩ := open_slv (en := eMove) Try.underlying23 cells63 (by decide) open_move h2
  cases e1; cases e2
  exact ⟨⟨sa, sc, ss, ta, tc, ts⟩, rfl, ⟨q1, q2⟩, l1, l2⟩
end
end Go.Proofs.Ytpefpafijadfmaa

/-
  A copy of a slice onto an empty one.
-/
set_option linter.all false
namespace Go.H
open Go
section
variable {P : Program} {r : Option Nat} {E : Env} {h g : Hp} {K : Value → Hp → Prop} {T : List PanicEntry → Hp → Prop} {dst : Option Nat} {ty : TypeId} {pos : String} {af : Array Edge} {gd : Option (Nat × Bool)}
theorem xv_dup {α : Type} {enc : α → List Value} {x y : Operand} {t e : TypeId} {d : TD} {b n cl sz : Nat} {al : Option Addr} {ys : List α} (ht : SlT P t e) (hd : TyOk P e d) (hzs : d.zero.cells.size = d.size) (hsz : d.size = sz)
    (hx : ev E x = some (.slice (some ⟨b, 0, none⟩) 0 0)) (hy : ev E y = some (.slice al n cl)) (hn : n = ys.length) (hl : SlV g sz enc al ys) (henc : ∀ x, (enc x).length = sz) (h1 : ∀ x, (enc x).all Value.oneCell' = true)
    (hb : 2 * n * d.bytes ≤ 281474976710656) (h63 : n ≤ 9223372036854775807)
    (H : ∀ V' : Vec, V'.ok sz n (ys.flatMap enc) → K (.slice V'.ad n V'.cp) (V'.hp e (ys.flatMap enc) ++ g)) : XV P r ⟨dst, .call ⟨.builtin .append, #[x, y], #[t, t]⟩, ty, pos, af, gd⟩ K T E ((b, .cells ⟨[]⟩ e (0, 0)) :: g) := by
  subst hn
  refine xv_appendL (V := .at b 0 []) (n := 0) (xs := []) (ys := ys) ht hd hzs hsz hx hy ⟨by simp, Nat.le_refl _, by simp⟩ .here hl henc h1 (by rw [Nat.zero_add]; exact hb) (by rw [Nat.zero_add]; exact h63) fun V' hV' => ?_
  rw [Vec.val_ad hV']
  simp only [Nat.zero_add, List.nil_append] at hV' ⊢
  exact H V' hV'
end
end Go.H

/-
  Layers and what is in them, as the document counts them.
-/
set_option linter.all false
namespace Go.Proofs.Ytpefpafijadfmaa
open Go Go.H
theorem take_all {α : Type} {P : α → Prop} {l : List α} {k : Nat} {x : α} (h : l[k]? = some x) : (∀ y ∈ l.take (k + 1), P y) ↔ (∀ y ∈ l.take k, P y) ∧ P x := by
  rw [List.take_add_one, h]
  simp only [Option.toList_some, List.mem_append, List.mem_singleton]
  exact ⟨fun H => ⟨fun y hy => H y (.inl hy), H x (.inr rfl)⟩, fun H y hy => hy.elim (H.1 y) (fun e => e ▸ H.2)⟩
theorem movesOk_at {n : Nat} {l : List Move} {last : Int} {k : Nat} {m : Move} (hq : movesOk n last l) (h : l[k]? = some m) : moveOk n (lastH last (l.take k)) m := ((movesOk_take h).1 (movesOk_mono (k + 1) hq)).2
theorem lastH_0le {n : Nat} {l : List Move} {k : Nat} (h : movesOk n 0 (l.take k)) {j : Nat} (hj : j ≤ k) : 0 ≤ lastH 0 (l.take j) := by
  have key : ∀ (m : List Move) (last : Int), 0 ≤ last → movesOk n last m → 0 ≤ lastH last m := by
    intro m
    induction m with
    | nil => intro last h0 _; exact h0
    | cons x m ih =>
      intro last h0 hm
      have e : lastH last (x :: m) = lastH x.hour m := rfl
      rw [e]
      exact ih x.hour (by have := hm.1.1.1; omega) hm.2
  have h2 := movesOk_mono j h
  rw [List.take_take, Nat.min_eq_left hj] at h2
  exact key _ 0 (Int.le_refl _) h2
/-- How many layers, and the hour of the one that is open. -/
def stepO (z : Nat × Int) (m : Move) : Nat × Int := if m.coal = -1 then (z.1, -1) else if z.2 = m.hour then z else (z.1 + 1, m.hour)
def opn (l : List Move) : Nat × Int := l.foldl stepO (0, -1)
theorem opn_snoc (l : List Move) (m : Move) : opn (l ++ [m]) = stepO (opn l) m := by unfold opn; rw [List.foldl_append]; rfl
theorem opn_take {l : List Move} {k : Nat} {m : Move} (h : l[k]? = some m) : opn (l.take (k + 1)) = stepO (opn (l.take k)) m := by
  rw [List.take_add_one, h]; exact opn_snoc _ _
theorem snoc_ind {α : Type} {P : List α → Prop} (h0 : P []) (h1 : ∀ l a, P l → P (l ++ [a])) (l : List α) : P l := by
  have : ∀ m : List α, P m.reverse := by
    intro m
    induction m with
    | nil => exact h0
    | cons a m ih => rw [List.reverse_cons]; exact h1 _ _ ih
  simpa using this l.reverse
theorem opn_le (l : List Move) : (opn l).1 ≤ l.length := by
  induction l using snoc_ind with
  | h0 => exact Nat.le_refl _
  | h1 l m ih =>
    rw [opn_snoc, List.length_append, List.length_singleton]
    unfold stepO
    split
    · dsimp only; omega
    · split
      · omega
      · dsimp only; omega
/-- The open hour, by the last move. -/
theorem opn_open {l : List Move} {k : Nat} {m : Move} (h0 : 0 < k) (h : l[k - 1]? = some m) : (opn (l.take k)).2 = if m.coal = -1 then -1 else m.hour := by
  have e := opn_take h
  rw [show k - 1 + 1 = k by omega] at e
  rw [e]
  unfold stepO
  split
  · rfl
  · split
    · rename_i h2; exact h2
    · rfl
/-- What is in layer j. -/
def stepC (j : Int) (z : (Nat × Int) × List Int) (m : Move) : (Nat × Int) × List Int :=
  (stepO z.1 m, if m.coal ≠ -1 ∧ ((stepO z.1 m).1 : Int) - 1 = j then z.2.set m.coal.toNat (z.2.getD m.coal.toNat 0 + m.tons) else z.2)
def contS (n : Nat) (l : List Move) (j : Int) : (Nat × Int) × List Int := l.foldl (stepC j) ((0, -1), List.replicate n 0)
def contF (n : Nat) (l : List Move) (j : Int) : List Int := (contS n l j).2
theorem contS_1 (n : Nat) (l : List Move) (j : Int) : (contS n l j).1 = opn l := by
  induction l using snoc_ind with
  | h0 => rfl
  | h1 l m ih =>
    have e : contS n (l ++ [m]) j = stepC j (contS n l j) m := by unfold contS; rw [List.foldl_append]; rfl
    rw [e, opn_snoc, ← ih]; rfl
theorem contF_snoc (n : Nat) (l : List Move) (m : Move) (j : Int) : contF n (l ++ [m]) j = if m.coal ≠ -1 ∧ ((opn (l ++ [m])).1 : Int) - 1 = j then (contF n l j).set m.coal.toNat ((contF n l j).getD m.coal.toNat 0 + m.tons) else contF n l j := by
  have e : contS n (l ++ [m]) j = stepC j (contS n l j) m := by unfold contS; rw [List.foldl_append]; rfl
  unfold contF
  rw [e]
  unfold stepC
  rw [contS_1, ← opn_snoc]
theorem contF_take {n : Nat} {l : List Move} {k : Nat} {m : Move} {j : Int} (h : l[k]? = some m) : contF n (l.take (k + 1)) j = if m.coal ≠ -1 ∧ ((opn (l.take (k + 1))).1 : Int) - 1 = j then (contF n (l.take k) j).set m.coal.toNat ((contF n (l.take k) j).getD m.coal.toNat 0 + m.tons) else contF n (l.take k) j := by
  rw [List.take_add_one, h]; exact contF_snoc _ _ _ _
theorem contF_len (n : Nat) (l : List Move) (j : Int) : (contF n l j).length = n := by
  induction l using snoc_ind with
  | h0 => simp [contF, contS]
  | h1 l m ih => rw [contF_snoc]; split <;> simp [ih]
theorem contF_nil (n : Nat) (j : Int) : contF n [] j = List.replicate n 0 := rfl
theorem contF_bd {n : Nat} {last : Int} {l : List Move} {j : Int} (h : movesOk n last l) : ∀ x ∈ contF n l j, 0 ≤ x ∧ x ≤ 1048576 * (l.length : Int) := by
  induction l using snoc_ind with
  | h0 => intro x hx; rw [contF_nil] at hx; rw [List.eq_of_mem_replicate hx]; simp
  | h1 l m ih =>
    rw [movesOk_snoc] at h
    have ih := ih h.1
    obtain ⟨_, _, t1, t2⟩ := h.2
    intro x hx
    rw [contF_snoc] at hx
    rw [List.length_append, List.length_singleton]
    split at hx
    · rcases List.mem_or_eq_of_mem_set hx with hx | hx
      · have := ih x hx; omega
      · subst hx
        have : 0 ≤ (contF n l j).getD m.coal.toNat 0 ∧ (contF n l j).getD m.coal.toNat 0 ≤ 1048576 * (l.length : Int) := by
          rw [List.getD_eq_getElem?_getD]
          cases hg : (contF n l j)[m.coal.toNat]? with
          | none => simp; omega
          | some v => simpa using ih v (List.mem_of_getElem? hg)
        omega
    · have := ih x hx; omega
def sumI (l : List Int) : Int := l.sum
theorem sumI_take {l : List Int} {k : Nat} {x : Int} (h : l[k]? = some x) : sumI (l.take (k + 1)) = sumI (l.take k) + x := by
  unfold sumI; rw [List.take_add_one, h, List.sum_append_int]; simp
theorem sumI_bd {l : List Int} {B : Int} (h : ∀ x ∈ l, 0 ≤ x ∧ x ≤ B) : 0 ≤ sumI l ∧ sumI l ≤ (l.length : Int) * B := by
  unfold sumI
  induction l with
  | nil => simp
  | cons x l ih =>
    have := ih fun y hy => h y (List.mem_cons_of_mem _ hy)
    have hx := h x List.mem_cons_self
    rw [List.sum_cons, List.length_cons]
    have e : ((l.length + 1 : Nat) : Int) * B = (l.length : Int) * B + B := by rw [Int.natCast_add, Int.add_mul]; simp
    rw [e]; omega
end Go.Proofs.Ytpefpafijadfmaa

/-
  Walks.
-/
namespace Go.Proofs.Ytpefpafijadfmaa
open Go Go.H
set_option maxRecDepth 100000
set_option maxHeartbeats 8000000
set_option linter.all false
theorem within_c (n l u : Int) {h : Hp} {R : Ending → Hp → Prop} (H1 : l ≤ n → n ≤ u → R (.returned (.bool true)) h) (H2 : ¬ (l ≤ n ∧ n ≤ u) → R (.returned (.bool false)) h) :
    ACalls Try.prog 31 ⟨[.int .i64 n, .int .i64 l, .int .i64 u]⟩ h R := by
  refine calls_of_xc (N := 15) Try.func31 rfl (by rfl) ?_
  refine xc_seq (xc_region ?_)
  refine xr_op rfl rfl (xv_assign rfl ?_)
  refine xr_end rfl ?_
  refine th_n ?_
  refine xc_seq (xc_region ?_)
  refine xr_op rfl rfl (xv_move rfl ?_)
  refine xr_op rfl rfl (xv_move rfl ?_)
  refine xr_op rfl rfl (xv_leq2 rfl rfl (fun q1 => ?_) (fun q1 => ?_))
  · refine xr_op rfl rfl (xv_move rfl ?_)
    refine xr_gd rfl rfl rfl (xv_move rfl ?_)
    refine xr_gd rfl rfl rfl (xv_move rfl ?_)
    refine xr_gd rfl rfl rfl (xv_leq2 rfl rfl (fun q2 => ?_) (fun q2 => ?_))
    · refine xr_op rfl rfl (xv_pick rfl rfl ?_)
      refine xr_op rfl rfl (xv_assign rfl ?_)
      refine xr_end rfl ?_
      refine th_n ?_
      refine xc_ret ?_
      refine body_ret (h' := h) rfl (ro_tmp rfl ro_nil) (by (first|((repeat first|exact s_0|exact s_1|exact s_3|refine s_4 ?_|refine s_5 ?_|refine s_6 ?_|refine s_7 ?_);done)|((repeat first|exact s_0|exact s_1|exact s_3|refine s_4 ?_|refine s_5 ?_|refine s_6 ?_|refine s_8 ?_);done))) ?_
      first | exact H1 (by omega) (by omega) | exact H2 (by omega)
    · refine xr_op rfl rfl (xv_pick rfl rfl ?_)
      refine xr_op rfl rfl (xv_assign rfl ?_)
      refine xr_end rfl ?_
      refine th_n ?_
      refine xc_ret ?_
      refine body_ret (h' := h) rfl (ro_tmp rfl ro_nil) (by (first|((repeat first|exact s_0|exact s_1|exact s_3|refine s_4 ?_|refine s_5 ?_|refine s_6 ?_|refine s_7 ?_);done)|((repeat first|exact s_0|exact s_1|exact s_3|refine s_4 ?_|refine s_5 ?_|refine s_6 ?_|refine s_8 ?_);done))) ?_
      first | exact H1 (by omega) (by omega) | exact H2 (by omega)
  · refine xr_op rfl rfl (xv_move rfl ?_)
    refine xr_no rfl rfl rfl rfl ?_
    refine xr_no rfl rfl rfl rfl ?_
    refine xr_no rfl rfl rfl rfl ?_
    refine xr_op rfl rfl (xv_pick rfl rfl ?_)
    refine xr_op rfl rfl (xv_assign rfl ?_)
    refine xr_end rfl ?_
    refine th_n ?_
    refine xc_ret ?_
    refine body_ret (h' := h) rfl (ro_tmp rfl ro_nil) (by (first|((repeat first|exact s_0|exact s_1|exact s_3|refine s_4 ?_|refine s_5 ?_|refine s_6 ?_|refine s_7 ?_);done)|((repeat first|exact s_0|exact s_1|exact s_3|refine s_4 ?_|refine s_5 ?_|refine s_6 ?_|refine s_8 ?_);done))) ?_
    first | exact H1 (by omega) (by omega) | exact H2 (by omega)

theorem layer_c {y : Yard} {n : Nat} {h : Hp} {R : Ending → Hp → Prop} (hy : YardV h y) (hmv : movesOk n 0 y.moves) {i : Nat} {ii : Int} (ei : ii = i) (hi : i < y.moves.length) (hl : y.moves.length ≤ 1000) (H : R (.returned (I (((opn (y.moves.take (i + 1))).1 : Int) - 1))) h) :
    ACalls Try.prog 50 ⟨[.agg ⟨eYard y⟩, I ii]⟩ h R := by
  refine calls_of_xc (N := 48) Try.func50 rfl (by rfl) ?_
  subst ei
  refine xc_seq (xc_region ?_)
  refine xr_op rfl rfl (xv_box rfl (fun b2 hb2 => ?_))
  refine xr_op rfl rfl (xv_assign rfl ?_)
  refine xr_end rfl ?_
  refine th_n ?_
  refine xc_seq (xc_region ?_)
  refine xr_op rfl rfl (xv_assign rfl ?_)
  refine xr_end rfl ?_
  refine th_n ?_
  refine xc_seq ?_
  refine xc_seq (xc_region ?_)
  refine xr_op rfl rfl (xv_assign rfl ?_)
  refine xr_end rfl ?_
  refine th_n ?_
  refine xc_block ?_
  refine xc_loop (σ := Nat) (fun k => k ≤ i + 1) (fun k => ((((emp.put (some 1) (I (i : Int))).put (some 2) (.pointer (some ⟨b2, 0, none⟩))).put (some 5) (I (((opn (y.moves.take k)).1 : Int) - 1))).put (some 6) (I k))) (fun k => ((b2, .cells ⟨eYard y⟩ 25) :: h)) (fun k => i + 1 - k) 0 (Nat.zero_le _) (le_put (le_put (le_put (le_put (le_emp _) rfl) rfl) rfl) rfl) (by (first|((repeat first|exact s_0|exact s_1|exact s_3|refine s_4 ?_|refine s_5 ?_|refine s_6 ?_|refine s_7 ?_);done)|((repeat first|exact s_0|exact s_1|exact s_3|refine s_4 ?_|refine s_5 ?_|refine s_6 ?_|refine s_8 ?_);done))) ?_
  rintro k hk
  refine xc_seq ?_
  refine xc_seq (xc_region ?_)
  refine xr_op rfl rfl (xv_move rfl ?_)
  refine xr_op rfl rfl (xv_move rfl ?_)
  refine xr_op rfl rfl (xv_leq2 rfl rfl (fun q1 => ?_) (fun q1 => ?_))
  · refine xr_end rfl ?_
    refine th_n ?_
    refine xc_true rfl ?_
    refine xc_skip ?_
    refine th_n ?_
    refine xc_seq ?_
    refine xc_block ?_
    refine xc_seq (xc_region ?_)
    refine xr_op rfl rfl (xv_faddr fl25_1 rfl ?_)
    refine xr_op rfl rfl (xv_load1 ty23 rfl rfl (by ((repeat first|exact z_0|assumption|refine z_1 ?_|(refine z_l ?_;(repeat first|exact z_0|assumption|refine z_1 ?_);done)|refine z_r ?_);done)) (by rfl) ?_)
    refine xr_op rfl rfl (xv_move rfl ?_)
    have hlto : k < y.moves.length := by (first | omega | (dsimp only at *; omega) | (simp at *; omega))
    obtain ⟨bo, oo, lo, to, fzo, hao, hmo, hxo⟩ := (hy.moves).at hlto
    obtain ⟨xo, hko⟩ : ∃ qq_, y.moves[k]? = some qq_ := ⟨_, List.getElem?_eq_getElem hlto⟩
    have hmk := movesOk_at hmv hko
    have hh0 := lastH_0le (movesOk_mono k hmv) (Nat.le_refl k)
    have hh1 := hmk.1.1
    have hol := opn_le (y.moves.take k)
    rw [List.length_take] at hol
    refine xr_op rfl rfl (xv_ia (sz := 3) (j := k) sl23 ty63 rfl (by rw [hao]; rfl) rfl (by (first | assumption | with_reducible exact Int.toNat_natCast _ | with_reducible rfl | rfl)) (by (first | omega | (dsimp only at *; omega) | (simp at *; omega))) (by (first | omega | (dsimp only at *; omega) | (simp at *; omega))) ?_)
    refine xr_op rfl rfl (xv_loadA ty63 rfl rfl (by ((repeat first|exact z_0|assumption|refine z_1 ?_|(refine z_l ?_;(repeat first|exact z_0|assumption|refine z_1 ?_);done)|refine z_r ?_);done)) (hxo (k) xo hko) rfl ?_)
    refine xr_op rfl rfl (xv_alloc ty63 (fun b7 hb7 => ?_))
    refine xr_op rfl rfl (xv_s ty63 rfl rfl (by (first|(apply u_3;(repeat first|exact u_0|assumption|apply u_1|apply u_2);done)|((repeat first|exact u_0|assumption|apply u_1|apply u_2);done)|(apply u_3;apply u_3;(repeat first|exact u_0|assumption|apply u_1|apply u_2);done)|((repeat first|exact u_0|assumption|apply u_3|apply u_1);done))) (by ((try apply evl_some rfl);(repeat (first|exact (rfl : _ = [])|apply evl_cons rfl (by (first|exact v_1|exact v_2|exact v_3|exact v_4|exact v_5|exact v_6|exact v_7|exact v_8|exact v_9|exact rfl))|exact rfl)))) (by rfl) (by rfl) (by rfl) (by ((try apply evl_some rfl);(repeat (first|exact (rfl : _ = [])|apply evl_cons rfl (by (first|exact v_1|exact v_2|exact v_3|exact v_4|exact v_5|exact v_6|exact v_7|exact v_8|exact v_9|exact rfl))|exact rfl)))) ?_)
    refine xr_end rfl ?_
    refine th_n ?_
    refine xc_seq ?_
    refine xc_seq (xc_region ?_)
    refine xr_op rfl rfl (xv_faddr fl63_1 rfl ?_)
    refine xr_op rfl rfl (xv_load1 ty3 rfl rfl (by ((repeat first|exact z_0|assumption|refine z_1 ?_|(refine z_l ?_;(repeat first|exact z_0|assumption|refine z_1 ?_);done)|refine z_r ?_);done)) (by rfl) ?_)
    refine xr_op rfl rfl (xv_eql2 rfl rfl (fun q2 => ?_) (fun q2 => ?_))
    · refine xr_end rfl ?_
      refine th_n ?_
      refine xc_true rfl ?_
      refine xc_exit ?_
      refine th_x ?_
      refine bk_same ?_
      refine th_n ?_
      refine xc_region ?_
      refine xr_op rfl rfl (xv_move rfl ?_)
      refine xr_op rfl rfl (xv_add rfl rfl (wrap_i64 (by (first | omega | (dsimp only at *; omega) | (simp at *; omega))) (by (first | omega | (dsimp only at *; omega) | (simp at *; omega)))) ?_)
      refine xr_op rfl rfl (xv_assign rfl ?_)
      refine xr_end rfl ?_
      have hst : opn (y.moves.take (k + 1)) = ((opn (y.moves.take k)).1, -1) := by
        rw [opn_take hko]; unfold stepO
        first | (rw [if_pos (by (first | omega | (dsimp only at *; omega) | (simp at *; omega)))]; done) | (rw [if_neg (by (first | omega | (dsimp only at *; omega) | (simp at *; omega))), if_pos (by (first | omega | (dsimp only at *; omega) | (simp at *; omega)))]; done) | (rw [if_neg (by (first | omega | (dsimp only at *; omega) | (simp at *; omega))), if_neg (by (first | omega | (dsimp only at *; omega) | (simp at *; omega)))]; done)
      have hsi : ((opn (y.moves.take (k + 1))).1 : Int) - 1 = ((opn (y.moves.take k)).1 : Int) - 1 := by rw [hst]
      exact rnd (k + 1) (by (first | omega | (dsimp only at *; omega) | (simp at *; omega))) (by (first | omega | (dsimp only at *; omega) | (simp at *; omega))) (le_put (le_put (le_put (le_put (le_emp _) rfl) rfl) (by rw [hsi]; rfl)) rfl) (by (first|((repeat first|exact s_0|exact s_1|exact s_3|refine s_4 ?_|refine s_5 ?_|refine s_6 ?_|refine s_7 ?_);done)|((repeat first|exact s_0|exact s_1|exact s_3|refine s_4 ?_|refine s_5 ?_|refine s_6 ?_|refine s_8 ?_);done)))
    · refine xr_end rfl ?_
      refine th_n ?_
      refine xc_false rfl ?_
      refine xc_skip ?_
      refine th_n ?_
      refine xc_seq ?_
      refine xc_draw0 [(0, .S), (1, .O), (2, .S), (3, .S), (4, .R), (5, .S), (6, .S), (7, .S), (8, .S), (9, .R), (10, .O), (11, .S), (12, .S), (13, .S), (14, .R), (15, .S), (16, .S), (17, .S), (18, .S), (19, .R), (20, .S), (21, .R), (22, .O), (23, .S)] mixed (by kernel_rfl) ?_
      refine js_S rfl rfl (.inl rfl) (xv_move rfl ⟨rfl, rfl⟩) ?_
      refine js_O0 rfl rfl (.inl rfl) (xv_eql2 rfl rfl (fun hq => ?_) (fun hq => ?_))
      · refine js_S rfl rfl (.inl rfl) (xv_move rfl ⟨rfl, rfl⟩) ?_
        refine js_Ss rfl rfl ⟨_, _, _, rfl, rfl, rfl⟩ ?_
        refine js_Rs rfl rfl ⟨_, _, _, rfl, rfl, rfl⟩ ?_
        refine js_Ss rfl rfl ⟨_, _, _, rfl, rfl, rfl⟩ ?_
        refine js_Ss rfl rfl ⟨_, _, _, rfl, rfl, rfl⟩ ?_
        refine js_Ss rfl rfl ⟨_, _, _, rfl, rfl, rfl⟩ ?_
        refine js_Ss rfl rfl ⟨_, _, _, rfl, rfl, rfl⟩ ?_
        refine js_Rs rfl rfl ⟨_, _, _, rfl, rfl, rfl⟩ ?_
        refine js_Os rfl rfl ⟨_, _, _, rfl, rfl, rfl⟩ ?_
        have hop : (opn (y.moves.take k)).2 = -1 := by rw [show k = 0 by (first | omega | (dsimp only at *; omega) | (simp at *; omega))]; rfl
        refine js_S rfl rfl (.inl rfl) (xv_pick rfl rfl ⟨rfl, rfl⟩) ?_
        refine js_S rfl rfl (.inl rfl) (xv_move rfl ⟨rfl, rfl⟩) ?_
        refine js_Ss rfl rfl ⟨_, _, _, rfl, rfl, rfl⟩ ?_
        refine js_Rs rfl rfl ⟨_, _, _, rfl, rfl, rfl⟩ ?_
        refine js_Ss rfl rfl ⟨_, _, _, rfl, rfl, rfl⟩ ?_
        refine js_Ss rfl rfl ⟨_, _, _, rfl, rfl, rfl⟩ ?_
        refine js_Ss rfl rfl ⟨_, _, _, rfl, rfl, rfl⟩ ?_
        refine js_Ss rfl rfl ⟨_, _, _, rfl, rfl, rfl⟩ ?_
        refine js_Rs rfl rfl ⟨_, _, _, rfl, rfl, rfl⟩ ?_
        refine js_Ss rfl rfl ⟨_, _, _, rfl, rfl, rfl⟩ ?_
        refine js_Rs rfl rfl ⟨_, _, _, rfl, rfl, rfl⟩ ?_
        refine js_Os rfl rfl ⟨_, _, _, rfl, rfl, rfl⟩ ?_
        refine js_S rfl rfl (.inl rfl) (xv_pick rfl rfl ⟨rfl, rfl⟩) ?_
        refine j_end0 ?_
        refine th_n ?_
        refine xc_true rfl ?_
        refine xc_region ?_
        refine xr_op rfl rfl (xv_move rfl ?_)
        refine xr_op rfl rfl (xv_add rfl rfl (wrap_i64 (by (first | omega | (dsimp only at *; omega) | (simp at *; omega))) (by (first | omega | (dsimp only at *; omega) | (simp at *; omega)))) ?_)
        refine xr_op rfl rfl (xv_assign rfl ?_)
        refine xr_end rfl ?_
        refine bk_n ?_
        refine th_n ?_
        refine xc_region ?_
        refine xr_op rfl rfl (xv_move rfl ?_)
        refine xr_op rfl rfl (xv_add rfl rfl (wrap_i64 (by (first | omega | (dsimp only at *; omega) | (simp at *; omega))) (by (first | omega | (dsimp only at *; omega) | (simp at *; omega)))) ?_)
        refine xr_op rfl rfl (xv_assign rfl ?_)
        refine xr_end rfl ?_
        have hst : opn (y.moves.take (k + 1)) = ((opn (y.moves.take k)).1 + 1, xo.hour) := by
          rw [opn_take hko]; unfold stepO
          first | (rw [if_pos (by (first | omega | (dsimp only at *; omega) | (simp at *; omega)))]; done) | (rw [if_neg (by (first | omega | (dsimp only at *; omega) | (simp at *; omega))), if_pos (by (first | omega | (dsimp only at *; omega) | (simp at *; omega)))]; done) | (rw [if_neg (by (first | omega | (dsimp only at *; omega) | (simp at *; omega))), if_neg (by (first | omega | (dsimp only at *; omega) | (simp at *; omega)))]; done)
        have hsi : ((opn (y.moves.take (k + 1))).1 : Int) - 1 = ((opn (y.moves.take k)).1 : Int) - 1 + 1 := by rw [hst]; push_cast; omega
        exact rnd (k + 1) (by (first | omega | (dsimp only at *; omega) | (simp at *; omega))) (by (first | omega | (dsimp only at *; omega) | (simp at *; omega))) (le_put (le_put (le_put (le_put (le_emp _) rfl) rfl) (by rw [hsi]; rfl)) rfl) (by (first|((repeat first|exact s_0|exact s_1|exact s_3|refine s_4 ?_|refine s_5 ?_|refine s_6 ?_|refine s_7 ?_);done)|((repeat first|exact s_0|exact s_1|exact s_3|refine s_4 ?_|refine s_5 ?_|refine s_6 ?_|refine s_8 ?_);done)))
      · refine js_S rfl rfl (.inl rfl) (xv_move rfl ⟨rfl, rfl⟩) ?_
        have hltp : (k - 1) < y.moves.length := by (first | omega | (dsimp only at *; omega) | (simp at *; omega))
        obtain ⟨bp, op, lp, tp, fzp, hap, hmp, hxp⟩ := (hy.moves).at hltp
        obtain ⟨xp, hkp⟩ : ∃ qq_, y.moves[(k - 1)]? = some qq_ := ⟨_, List.getElem?_eq_getElem hltp⟩
        have hop := opn_open (by (first | omega | (dsimp only at *; omega) | (simp at *; omega))) hkp
        refine js_S rfl rfl (.inr ⟨_, _, rfl, rfl⟩) (xv_faddr fl25_1 rfl ⟨rfl, rfl⟩) ?_
        refine js_R0 rfl rfl (.inr ⟨_, _, rfl, rfl⟩) (xv_load1 ty23 rfl rfl (by ((repeat first|exact z_0|assumption|refine z_1 ?_|(refine z_l ?_;(repeat first|exact z_0|assumption|refine z_1 ?_);done)|refine z_r ?_);done)) (by rfl) ⟨rfl, rfl⟩) ?_
        refine js_S rfl rfl (.inr ⟨_, _, rfl, rfl⟩) (xv_move rfl ⟨rfl, rfl⟩) ?_
        refine js_S rfl rfl (.inr ⟨_, _, rfl, rfl⟩) (xv_sub rfl rfl (wrap_i64 (by (first | omega | (dsimp only at *; omega) | (simp at *; omega))) (by (first | omega | (dsimp only at *; omega) | (simp at *; omega)))) ⟨rfl, rfl⟩) ?_
        refine js_S rfl rfl (.inr ⟨_, _, rfl, rfl⟩) (xv_ia (sz := 3) (j := (k - 1)) sl23 ty63 rfl (by rw [hap]; rfl) rfl (by omega) (by (first | omega | (dsimp only at *; omega) | (simp at *; omega))) (by (first | omega | (dsimp only at *; omega) | (simp at *; omega))) ⟨rfl, rfl⟩) ?_
        refine js_S rfl rfl (.inr ⟨_, _, rfl, rfl⟩) (xv_faddr fl63_1 rfl ⟨rfl, rfl⟩) ?_
        refine js_R0 rfl rfl (.inr ⟨_, _, rfl, rfl⟩) (xv_load1 ty3 rfl rfl (by ((repeat first|exact z_0|assumption|refine z_1 ?_|(refine z_l ?_;(repeat first|exact z_0|assumption|refine z_1 ?_);done)|refine z_r ?_);done)) (take_get (hxp (k - 1) xp hkp) (j := 1) rfl) ⟨rfl, rfl⟩) ?_
        refine js_O0 rfl rfl (.inr ⟨_, _, rfl, rfl⟩) (xv_eql2 rfl rfl (fun hq => ?_) (fun hq => ?_))
        · refine js_S rfl rfl (.inl rfl) (xv_pick rfl rfl ⟨rfl, rfl⟩) ?_
          refine js_S rfl rfl (.inl rfl) (xv_move rfl ⟨rfl, rfl⟩) ?_
          refine js_Ss rfl rfl ⟨_, _, _, rfl, rfl, rfl⟩ ?_
          refine js_Rs rfl rfl ⟨_, _, _, rfl, rfl, rfl⟩ ?_
          refine js_Ss rfl rfl ⟨_, _, _, rfl, rfl, rfl⟩ ?_
          refine js_Ss rfl rfl ⟨_, _, _, rfl, rfl, rfl⟩ ?_
          refine js_Ss rfl rfl ⟨_, _, _, rfl, rfl, rfl⟩ ?_
          refine js_Ss rfl rfl ⟨_, _, _, rfl, rfl, rfl⟩ ?_
          refine js_Rs rfl rfl ⟨_, _, _, rfl, rfl, rfl⟩ ?_
          refine js_Ss rfl rfl ⟨_, _, _, rfl, rfl, rfl⟩ ?_
          refine js_Rs rfl rfl ⟨_, _, _, rfl, rfl, rfl⟩ ?_
          refine js_Os rfl rfl ⟨_, _, _, rfl, rfl, rfl⟩ ?_
          refine js_S rfl rfl (.inl rfl) (xv_pick rfl rfl ⟨rfl, rfl⟩) ?_
          refine j_end0 ?_
          refine th_n ?_
          refine xc_true rfl ?_
          refine xc_region ?_
          refine xr_op rfl rfl (xv_move rfl ?_)
          refine xr_op rfl rfl (xv_add rfl rfl (wrap_i64 (by (first | omega | (dsimp only at *; omega) | (simp at *; omega))) (by (first | omega | (dsimp only at *; omega) | (simp at *; omega)))) ?_)
          refine xr_op rfl rfl (xv_assign rfl ?_)
          refine xr_end rfl ?_
          refine bk_n ?_
          refine th_n ?_
          refine xc_region ?_
          refine xr_op rfl rfl (xv_move rfl ?_)
          refine xr_op rfl rfl (xv_add rfl rfl (wrap_i64 (by (first | omega | (dsimp only at *; omega) | (simp at *; omega))) (by (first | omega | (dsimp only at *; omega) | (simp at *; omega)))) ?_)
          refine xr_op rfl rfl (xv_assign rfl ?_)
          refine xr_end rfl ?_
          have hst : opn (y.moves.take (k + 1)) = ((opn (y.moves.take k)).1 + 1, xo.hour) := by
            rw [opn_take hko]; unfold stepO
            first | (rw [if_pos (by (first | omega | (dsimp only at *; omega) | (simp at *; omega)))]; done) | (rw [if_neg (by (first | omega | (dsimp only at *; omega) | (simp at *; omega))), if_pos (by (first | omega | (dsimp only at *; omega) | (simp at *; omega)))]; done) | (rw [if_neg (by (first | omega | (dsimp only at *; omega) | (simp at *; omega))), if_neg (by (first | omega | (dsimp only at *; omega) | (simp at *; omega)))]; done)
          have hsi : ((opn (y.moves.take (k + 1))).1 : Int) - 1 = ((opn (y.moves.take k)).1 : Int) - 1 + 1 := by rw [hst]; push_cast; omega
          exact rnd (k + 1) (by (first | omega | (dsimp only at *; omega) | (simp at *; omega))) (by (first | omega | (dsimp only at *; omega) | (simp at *; omega))) (le_put (le_put (le_put (le_put (le_emp _) rfl) rfl) (by rw [hsi]; rfl)) rfl) (by (first|((repeat first|exact s_0|exact s_1|exact s_3|refine s_4 ?_|refine s_5 ?_|refine s_6 ?_|refine s_7 ?_);done)|((repeat first|exact s_0|exact s_1|exact s_3|refine s_4 ?_|refine s_5 ?_|refine s_6 ?_|refine s_8 ?_);done)))
        · refine js_S rfl rfl (.inl rfl) (xv_pick rfl rfl ⟨rfl, rfl⟩) ?_
          refine js_S rfl rfl (.inl rfl) (xv_move rfl ⟨rfl, rfl⟩) ?_
          refine js_S rfl rfl (.inr ⟨_, _, rfl, rfl⟩) (xv_faddr fl25_1 rfl ⟨rfl, rfl⟩) ?_
          refine js_R0 rfl rfl (.inr ⟨_, _, rfl, rfl⟩) (xv_load1 ty23 rfl rfl (by ((repeat first|exact z_0|assumption|refine z_1 ?_|(refine z_l ?_;(repeat first|exact z_0|assumption|refine z_1 ?_);done)|refine z_r ?_);done)) (by rfl) ⟨rfl, rfl⟩) ?_
          refine js_S rfl rfl (.inr ⟨_, _, rfl, rfl⟩) (xv_move rfl ⟨rfl, rfl⟩) ?_
          refine js_S rfl rfl (.inr ⟨_, _, rfl, rfl⟩) (xv_sub rfl rfl (wrap_i64 (by (first | omega | (dsimp only at *; omega) | (simp at *; omega))) (by (first | omega | (dsimp only at *; omega) | (simp at *; omega)))) ⟨rfl, rfl⟩) ?_
          refine js_S rfl rfl (.inr ⟨_, _, rfl, rfl⟩) (xv_ia (sz := 3) (j := (k - 1)) sl23 ty63 rfl (by rw [hap]; rfl) rfl (by omega) (by (first | omega | (dsimp only at *; omega) | (simp at *; omega))) (by (first | omega | (dsimp only at *; omega) | (simp at *; omega))) ⟨rfl, rfl⟩) ?_
          refine js_S rfl rfl (.inr ⟨_, _, rfl, rfl⟩) (xv_faddr fl63_0 rfl ⟨rfl, rfl⟩) ?_
          refine js_R0 rfl rfl (.inr ⟨_, _, rfl, rfl⟩) (xv_load1 ty3 rfl rfl (by ((repeat first|exact z_0|assumption|refine z_1 ?_|(refine z_l ?_;(repeat first|exact z_0|assumption|refine z_1 ?_);done)|refine z_r ?_);done)) (take_get (hxp (k - 1) xp hkp) (j := 0) rfl) ⟨rfl, rfl⟩) ?_
          refine js_S rfl rfl (.inr ⟨_, _, rfl, rfl⟩) (xv_faddr fl63_0 rfl ⟨rfl, rfl⟩) ?_
          refine js_R0 rfl rfl (.inr ⟨_, _, rfl, rfl⟩) (xv_load1 ty3 rfl rfl (by ((repeat first|exact z_0|assumption|refine z_1 ?_|(refine z_l ?_;(repeat first|exact z_0|assumption|refine z_1 ?_);done)|refine z_r ?_);done)) (by rfl) ⟨rfl, rfl⟩) ?_
          refine js_O0 rfl rfl (.inr ⟨_, _, rfl, rfl⟩) (xv_neq2 rfl rfl (fun hq => ?_) (fun hq => ?_))
          · refine js_S rfl rfl (.inl rfl) (xv_pick rfl rfl ⟨rfl, rfl⟩) ?_
            refine j_end0 ?_
            refine th_n ?_
            refine xc_true rfl ?_
            refine xc_region ?_
            refine xr_op rfl rfl (xv_move rfl ?_)
            refine xr_op rfl rfl (xv_add rfl rfl (wrap_i64 (by (first | omega | (dsimp only at *; omega) | (simp at *; omega))) (by (first | omega | (dsimp only at *; omega) | (simp at *; omega)))) ?_)
            refine xr_op rfl rfl (xv_assign rfl ?_)
            refine xr_end rfl ?_
            refine bk_n ?_
            refine th_n ?_
            refine xc_region ?_
            refine xr_op rfl rfl (xv_move rfl ?_)
            refine xr_op rfl rfl (xv_add rfl rfl (wrap_i64 (by (first | omega | (dsimp only at *; omega) | (simp at *; omega))) (by (first | omega | (dsimp only at *; omega) | (simp at *; omega)))) ?_)
            refine xr_op rfl rfl (xv_assign rfl ?_)
            refine xr_end rfl ?_
            have hst : opn (y.moves.take (k + 1)) = ((opn (y.moves.take k)).1 + 1, xo.hour) := by
              rw [opn_take hko]; unfold stepO
              first | (rw [if_pos (by (first | omega | (dsimp only at *; omega) | (simp at *; omega)))]; done) | (rw [if_neg (by (first | omega | (dsimp only at *; omega) | (simp at *; omega))), if_pos (by (first | omega | (dsimp only at *; omega) | (simp at *; omega)))]; done) | (rw [if_neg (by (first | omega | (dsimp only at *; omega) | (simp at *; omega))), if_neg (by (first | omega | (dsimp only at *; omega) | (simp at *; omega)))]; done)
            have hsi : ((opn (y.moves.take (k + 1))).1 : Int) - 1 = ((opn (y.moves.take k)).1 : Int) - 1 + 1 := by rw [hst]; push_cast; omega
            exact rnd (k + 1) (by (first | omega | (dsimp only at *; omega) | (simp at *; omega))) (by (first | omega | (dsimp only at *; omega) | (simp at *; omega))) (le_put (le_put (le_put (le_put (le_emp _) rfl) rfl) (by rw [hsi]; rfl)) rfl) (by (first|((repeat first|exact s_0|exact s_1|exact s_3|refine s_4 ?_|refine s_5 ?_|refine s_6 ?_|refine s_7 ?_);done)|((repeat first|exact s_0|exact s_1|exact s_3|refine s_4 ?_|refine s_5 ?_|refine s_6 ?_|refine s_8 ?_);done)))
          · refine js_S rfl rfl (.inl rfl) (xv_pick rfl rfl ⟨rfl, rfl⟩) ?_
            refine j_end0 ?_
            refine th_n ?_
            refine xc_false rfl ?_
            refine xc_skip ?_
            refine bk_n ?_
            refine th_n ?_
            refine xc_region ?_
            refine xr_op rfl rfl (xv_move rfl ?_)
            refine xr_op rfl rfl (xv_add rfl rfl (wrap_i64 (by (first | omega | (dsimp only at *; omega) | (simp at *; omega))) (by (first | omega | (dsimp only at *; omega) | (simp at *; omega)))) ?_)
            refine xr_op rfl rfl (xv_assign rfl ?_)
            refine xr_end rfl ?_
            have hst : opn (y.moves.take (k + 1)) = opn (y.moves.take k) := by
              rw [opn_take hko]; unfold stepO
              first | (rw [if_pos (by (first | omega | (dsimp only at *; omega) | (simp at *; omega)))]; done) | (rw [if_neg (by (first | omega | (dsimp only at *; omega) | (simp at *; omega))), if_pos (by (first | omega | (dsimp only at *; omega) | (simp at *; omega)))]; done) | (rw [if_neg (by (first | omega | (dsimp only at *; omega) | (simp at *; omega))), if_neg (by (first | omega | (dsimp only at *; omega) | (simp at *; omega)))]; done)
            have hsi : ((opn (y.moves.take (k + 1))).1 : Int) - 1 = ((opn (y.moves.take k)).1 : Int) - 1 := by rw [hst]
            exact rnd (k + 1) (by (first | omega | (dsimp only at *; omega) | (simp at *; omega))) (by (first | omega | (dsimp only at *; omega) | (simp at *; omega))) (le_put (le_put (le_put (le_put (le_emp _) rfl) rfl) (by rw [hsi]; rfl)) rfl) (by (first|((repeat first|exact s_0|exact s_1|exact s_3|refine s_4 ?_|refine s_5 ?_|refine s_6 ?_|refine s_7 ?_);done)|((repeat first|exact s_0|exact s_1|exact s_3|refine s_4 ?_|refine s_5 ?_|refine s_6 ?_|refine s_8 ?_);done)))
  · refine xr_end rfl ?_
    refine th_n ?_
    refine xc_false rfl ?_
    refine xc_exit ?_
    refine th_x ?_
    refine th_x ?_
    refine bk_same ?_
    refine th_n ?_
    refine xc_seq (xc_region ?_)
    obtain rfl : k = i + 1 := by (first | omega | (dsimp only at *; omega) | (simp at *; omega))
    refine xr_op rfl rfl (xv_move rfl ?_)
    refine xr_op rfl rfl (xv_assign rfl ?_)
    refine xr_end rfl ?_
    refine th_n ?_
    refine xc_ret ?_
    refine body_ret (h' := h) rfl (ro_tmp rfl ro_nil) (by (first|((repeat first|exact s_0|exact s_1|exact s_3|refine s_4 ?_|refine s_5 ?_|refine s_6 ?_|refine s_7 ?_);done)|((repeat first|exact s_0|exact s_1|exact s_3|refine s_4 ?_|refine s_5 ?_|refine s_6 ?_|refine s_8 ?_);done))) ?_
    exact H

end Go.Proofs.Ytpefpafijadfmaa

/-
  Cells of lists of numbers; equal spans, equal lists.
-/
set_option linter.all false
namespace Go.Proofs.Ytpefpafijadfmaa
open Go Go.H
theorem ints_setN {l : List Int} {k : Nat} {v : Int} (h : k < l.length) : (l.flatMap eI).set (0 + k * 1) (I v) = (l.set k v).flatMap eI := by
  have := set_flat (enc := eI) (sz := 1) eI_len (x := l[k]) (y := v) (v := I v) (j := 0) [] (by decide) rfl l k (List.getElem?_eq_getElem h)
  simpa using this
theorem ints_len (l : List Int) : (l.flatMap eI).length = l.length := by rw [flat_lenM eI_len]; omega
theorem ints_get {l : List Int} {k : Nat} {x : Int} (h : l[k]? = some x) : (l.flatMap eI)[0 + k * 1]? = some (I x) := by
  have := take_get (flat_at eI_len [] l k h) (j := 0) rfl
  simpa using this
theorem make_ints (n : Nat) : (madeCells (Value.int .i64 0).cells (n * 1)).toList = (List.replicate n (0 : Int)).flatMap eI := by
  have h1 : (madeCells (Value.int .i64 0).cells (n * 1)).toList = List.replicate n (I 0) := by
    refine List.eq_replicate_iff.2 ⟨by simp [madeCells], fun b hb => ?_⟩
    simp only [madeCells, Value.cells, Array.toList_map, List.mem_map] at hb
    obtain ⟨a, _, rfl⟩ := hb
    simp [Nat.mod_one]
  have h2 : ∀ m : Nat, List.replicate m (I 0) = (List.replicate m (0 : Int)).flatMap eI := fun m => by
    induction m with
    | zero => rfl
    | succ m ih => rw [List.replicate_succ, List.replicate_succ, List.flatMap_cons, ← ih]; rfl
  rw [h1, h2]
theorem slv_none {α : Type} {h : Hp} {sz : Nat} {enc : α → List Value} {xs : List α} (H : SlV h sz enc none xs) : xs = [] := by
  rcases H with H | ⟨b, o, l, t, fz, h1, _⟩
  · exact H
  · cases h1
theorem eqc_spanD (a b : Span) : (!eqc [I a.lo, I a.hi] [I b.lo, I b.hi]) = !decide (a = b) := by
  obtain ⟨a, a'⟩ := a
  obtain ⟨b, b'⟩ := b
  simp only [eqc, Span.mk.injEq]
  by_cases ha : a = b <;> by_cases hb : a' = b' <;> simp [ha, hb]
theorem eqc_partD (a b : Part) : (!eqc [I a.layer, I a.tons] [I b.layer, I b.tons]) = !decide (a = b) := by
  obtain ⟨a, a'⟩ := a
  obtain ⟨b, b'⟩ := b
  simp only [eqc, Part.mk.injEq]
  by_cases ha : a = b <;> by_cases hb : a' = b' <;> simp [ha, hb]
theorem eqc_self : ∀ {xs : List Value}, (∀ x ∈ xs, Num x) → eqc xs xs = true
  | [], _ => rfl
  | x :: xs, h => by
    obtain ⟨n, rfl⟩ := h x List.mem_cons_self
    simp only [eqc, beq_self_eq_true, Bool.true_and]
    exact eqc_self fun y hy => h y (List.mem_cons_of_mem _ hy)
end Go.Proofs.Ytpefpafijadfmaa
