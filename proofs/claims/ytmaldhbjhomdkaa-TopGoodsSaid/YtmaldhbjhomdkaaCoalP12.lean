/-
  Rules: maps with structs as keys (sets), calls of methods through interfaces.
-/
import Derived.Test.YtmaldhbjhomdkaaHT
import Derived.Scope
set_option linter.all false
namespace Go.H
open Go
section
variable {P : Program} {r : Option Nat} {E : Env} {h : Hp}
variable {K : Value → Hp → Prop} {T : List PanicEntry → Hp → Prop} {dst : Option Nat} {ty : TypeId} {pos : String} {af : Array Edge} {gd : Option (Nat × Bool)}
theorem SlV.drop {α : Type} {sz : Nat} {enc : α → List Value} {b o : Nat} {xs : List α} (H : SlV h sz enc (some ⟨b, o, none⟩) xs) (k : Nat) : SlV h sz enc (some ⟨b, o + k * sz, none⟩) (xs.drop k) := by
  rcases H with rfl | ⟨b2, o2, l, t, fz, h1, h2, h3⟩
  · exact .inl (by simp)
  · cases h1
    refine .inr ⟨b, o + k * sz, l, t, fz, rfl, h2, fun i x hx => ?_⟩
    rw [List.getElem?_drop] at hx
    have := h3 (k + i) x hx
    rw [Nat.add_mul] at this
    rw [Nat.add_assoc]; exact this
end
end Go.H

/-
  Code with labels that nothing jumps to.
-/
set_option linter.all false
namespace Go
section
variable {P : Program} {F : Fence} {n : Nat} {b : Frame} {a : Act} {k : List Item} {cs : List Frame} {w : World} {Q : Exit → Act → World → Prop}
theorem stepR_scope {c : Code} : step P (lone (b.atR a (.code (.scope c) :: k)) cs w) = .next (lone (b.atR a (.code c :: .inScope c :: k)) cs w) :=
  step_lone_go (by simp [stepG, stepG.exec, Frame.atR])
theorem stepR_inScope {c : Code} : step P (lone (b.atR a (.inScope c :: k)) cs w) = .next (lone (b.atR a k) cs w) :=
  step_lone_go (by simp [stepG, stepG.exec, Frame.atR])
theorem wpIn_scope {c : Code} (h : c.wpIn F n P (Exit.noGoto Q) a w) : (Code.scope c).wpIn F n P Q a w := by
  intro b k cs hro hb hr
  have h0 : (lone (b.atR a (.code (.scope c) :: k)) cs w).fenced P F := fenced_calm hb hr rfl
  obtain ⟨e, a₁, w₁, hq, harr⟩ := h b (.inScope c :: k) cs hro hb hr
  cases e with
  | normal => exact ⟨.normal, a₁, w₁, hq, .head h0 stepR_scope (StepsIn.trans harr (.one (fenced_calm hb hr rfl) stepR_inScope))⟩
  | exit id =>
    have hx : exitTo id (.inScope c :: k) = exitTo id k := by simp [exitTo]
    exact ⟨.exit id, a₁, w₁, hq, fun k' hk => .head h0 stepR_scope (harr.1 k' (by rw [hx]; exact hk)),
      fun hr' hk => let ⟨k₁, h1, h2⟩ := harr.2 hr' (by rw [hx]; exact hk); ⟨k₁, h1, .head h0 stepR_scope h2⟩⟩
  | goto l => exact hq.elim
  | ret => exact ⟨_, a₁, w₁, hq, .of_steps (.one h0 stepR_scope) harr⟩
  | panic ch => exact ⟨_, a₁, w₁, hq, .of_steps (.one h0 stepR_scope) harr⟩
  | outgrown => exact ⟨_, a₁, w₁, hq, .of_steps (.one h0 stepR_scope) harr⟩
end
end Go
namespace Go.H
open Go
variable {P : Program} {r : Option Nat} {N : Nat} {Q : Post} {E : Env} {D : List Deferred} {h : Hp}
def Sc (Q : Post) : Post
  | .goto _, _, _, _ => False
  | e, E, D, h => Q e E D h
theorem xc_scope {c : Code} (H : XC P r N c (Sc Q) E D h) : XC P r N (.scope c) Q E D h := by
  intro w a ho ha hd
  refine wpIn_scope (wpIn_mono (H w a ho ha hd) ?_)
  rintro e a' w' ⟨E', h', q, x⟩
  cases e with
  | goto l => exact q.elim
  | _ => exact ⟨E', h', q, x⟩
theorem xc_label {l : Nat} (H : Q .normal E D h) : XC P r N (.label l) Q E D h :=
  fun w a ho ha hd => wpIn_label ⟨E, h, by rw [hd]; exact H, ha, .refl ho⟩
theorem sc_r (H : Q .ret E D h) : Sc Q .ret E D h := H
end Go.H
namespace Go.H
open Go
section
variable {P : Program} {r : Option Nat} {E : Env} {h : Hp} {K : Value → Hp → Prop} {T : List PanicEntry → Hp → Prop} {dst : Option Nat} {ty : TypeId} {pos : String} {af : Array Edge} {gd : Option (Nat × Bool)}
theorem Upd.same {b : Nat} {o : Obj} {h h' : Hp} (H : Upd h b o o h') : h' = h := by
  have : ∀ o2, Upd h b o o2 h' → o2 = o → h' = h := by
    intro o2 H2
    induction H2 with
    | here => intro e; subst e; rfl
    | there _ ih => intro e; rw [ih (by subst e; rename_i a; exact a) e]
  exact this o H rfl
end
end Go.H
namespace Go.H
open Go
section
variable {P : Program} {r : Option Nat} {E : Env} {h : Hp} {K : Value → Hp → Prop} {T : List PanicEntry → Hp → Prop} {dst : Option Nat} {ty : TypeId} {pos : String} {af : Array Edge} {gd : Option (Nat × Bool)}
end
end Go.H
namespace Go.H
open Go
section
variable {P : Program} {r : Option Nat} {E : Env} {h : Hp} {K : Value → Hp → Prop} {T : List PanicEntry → Hp → Prop} {dst : Option Nat} {ty : TypeId} {pos : String} {af : Array Edge} {gd : Option (Nat × Bool)}
end
end Go.H
namespace Go.H
end Go.H
namespace Go.H
open Go
end Go.H

/-
  The data of the coal yard, as plain structures; their cells.
-/
set_option linter.all false
namespace Go.Proofs.Ytmaldhbjhomdkaa.Coal
open Go Go.H
structure Span where
  lo : Int
  hi : Int
  deriving DecidableEq, Inhabited
structure Coal where
  gas : Span
  tar : Span
  sulphur : Span
  coke : Span
  deriving DecidableEq, Inhabited
structure Move where
  hour : Int
  coal : Int
  tons : Int
  deriving DecidableEq, Inhabited
structure Part where
  layer : Int
  tons : Int
  deriving DecidableEq, Inhabited
structure Share where
  tons : Int
  each : Int
  deriving DecidableEq, Inhabited
structure Yard where
  ca : Option Addr
  cc : Nat
  coals : List Coal
  ma : Option Addr
  mc : Nat
  moves : List Move
abbrev I (n : Int) : Value := .int .i64 n
def eI (n : Int) : List Value := [I n]
def eSpan (s : Span) : List Value := [I s.lo, I s.hi]
def eCoal (c : Coal) : List Value := [I c.gas.lo, I c.gas.hi, I c.tar.lo, I c.tar.hi, I c.sulphur.lo, I c.sulphur.hi, I c.coke.lo, I c.coke.hi]
def eMove (m : Move) : List Value := [I m.hour, I m.coal, I m.tons]
def ePart (p : Part) : List Value := [I p.layer, I p.tons]
def eShare (p : Share) : List Value := [I p.tons, I p.each]
def eYard (y : Yard) : List Value := [.slice y.ca y.coals.length y.cc, .slice y.ma y.moves.length y.mc]
structure YardV (h : Hp) (y : Yard) : Prop where
  coals : SlV h 8 eCoal y.ca y.coals
  moves : SlV h 3 eMove y.ma y.moves
theorem YardV.sub {h g : Hp} {y : Yard} (H : YardV h y) (hs : h ⊆ g) : YardV g y := ⟨H.coals.sub hs, H.moves.sub hs⟩
structure Small (y : Yard) : Prop where
  coals : y.coals.length ≤ 1000
  moves : y.moves.length ≤ 1000
theorem eI_len (x : Int) : (eI x).length = 1 := rfl
theorem ePart_len (x : Part) : (ePart x).length = 2 := rfl
theorem eShare_len (x : Share) : (eShare x).length = 2 := rfl
theorem eI_1 (x : Int) : (eI x).all Value.oneCell' = true := rfl
def spanOk (s : Span) : Prop := 0 ≤ s.lo ∧ s.lo ≤ s.hi ∧ s.hi ≤ 100000
instance (s : Span) : Decidable (spanOk s) := by unfold spanOk; infer_instance
def coalOk (c : Coal) : Prop := spanOk c.gas ∧ spanOk c.tar ∧ spanOk c.sulphur ∧ spanOk c.coke
instance (c : Coal) : Decidable (coalOk c) := by unfold coalOk; infer_instance
def moveOk (n : Nat) (last : Int) (m : Move) : Prop := (last ≤ m.hour ∧ m.hour ≤ 1048576) ∧ (-1 ≤ m.coal ∧ m.coal ≤ (n : Int) - 1) ∧ 1 ≤ m.tons ∧ m.tons ≤ 1048576
instance (n : Nat) (last : Int) (m : Move) : Decidable (moveOk n last m) := by unfold moveOk; infer_instance
def movesOk (n : Nat) : Int → List Move → Prop
  | _, [] => True
  | last, m :: l => moveOk n last m ∧ movesOk n m.hour l
def lastH (last : Int) (l : List Move) : Int := l.foldl (fun _ m => m.hour) last
theorem lastH_snoc (last : Int) (l : List Move) (m : Move) : lastH last (l ++ [m]) = m.hour := by unfold lastH; rw [List.foldl_append]; rfl
theorem movesOk_snoc {n : Nat} : ∀ (last : Int) (l : List Move) (m : Move), movesOk n last (l ++ [m]) ↔ movesOk n last l ∧ moveOk n (lastH last l) m
  | last, [], m => by simp [movesOk, lastH]
  | last, x :: l, m => by
    have ih := movesOk_snoc (n := n) x.hour l m
    rw [List.cons_append]
    simp only [movesOk]
    rw [ih]
    exact ⟨fun ⟨a, b, c⟩ => ⟨⟨a, b⟩, c⟩, fun ⟨⟨a, b⟩, c⟩ => ⟨a, b, c⟩⟩
theorem lastH_take {l : List Move} {last : Int} {k : Nat} {m : Move} (h : l[k]? = some m) : lastH last (l.take (k + 1)) = m.hour := by
  rw [List.take_add_one, h]; exact lastH_snoc last (l.take k) m
theorem movesOk_take {n : Nat} {l : List Move} {last : Int} {k : Nat} {m : Move} (h : l[k]? = some m) : movesOk n last (l.take (k + 1)) ↔ movesOk n last (l.take k) ∧ moveOk n (lastH last (l.take k)) m := by
  rw [List.take_add_one, h]; exact movesOk_snoc last (l.take k) m
theorem movesOk_mono {n : Nat} {last : Int} {l : List Move} (k : Nat) (h : movesOk n last l) : movesOk n last (l.take k) := by
  induction l generalizing last k with
  | nil => simp [movesOk]
  | cons m l ih =>
    cases k with
    | zero => simp [movesOk]
    | succ k => exact ⟨h.1, ih k h.2⟩
def CoalsOk (l : List Coal) : Prop := ∀ c ∈ l, coalOk c
instance (l : List Coal) : Decidable (CoalsOk l) := by unfold CoalsOk; infer_instance
def GoodYard (y : Yard) : Prop := CoalsOk y.coals ∧ movesOk y.coals.length 0 y.moves ∧ (1 ≤ y.coals.length ∧ y.coals.length ≤ 6) ∧ y.moves.length ≤ 32
end Go.Proofs.Ytmaldhbjhomdkaa.Coal

/-
  Layers and what is in them, as the document counts them.
-/
set_option linter.all false
namespace Go.Proofs.Ytmaldhbjhomdkaa.Coal
open Go Go.H
theorem take_all {α : Type} {P : α → Prop} {l : List α} {k : Nat} {x : α} (h : l[k]? = some x) : (∀ y ∈ l.take (k + 1), P y) ↔ (∀ y ∈ l.take k, P y) ∧ P x := by
  rw [List.take_add_one, h]
  simp only [Option.toList_some, List.mem_append, List.mem_singleton]
  exact ⟨fun H => ⟨fun y hy => H y (.inl hy), H x (.inr rfl)⟩, fun H y hy => hy.elim (H.1 y) (fun e => e ▸ H.2)⟩
theorem movesOk_at {n : Nat} {l : List Move} {last : Int} {k : Nat} {m : Move} (hq : movesOk n last l) (h : l[k]? = some m) : moveOk n (lastH last (l.take k)) m := ((movesOk_take h).1 (movesOk_mono (k + 1) hq)).2
theorem lastH_p {last : Int} {l : List Move} {k : Nat} {m : Move} (h0 : 0 < k) (h : l[k - 1]? = some m) : lastH last (l.take k) = m.hour := by
  have := lastH_take (last := last) h
  rwa [show k - 1 + 1 = k by omega] at this
theorem lastH_0le {n : Nat} {l : List Move} {k : Nat} (h : movesOk n 0 (l.take k)) {j : Nat} (hj : j ≤ k) : 0 ≤ lastH 0 (l.take j) := by
  have key : ∀ (m : List Move) (last : Int), 0 ≤ last → movesOk n last m → 0 ≤ lastH last m := by
    intro m
    induction m with
    | nil => intro last h0 _; exact h0
    | cons x m ih =>
      intro last h0 hm
      have e : lastH last (x :: m) = lastH x.hour m := rfl
      rw [e]
      exact ih x.hour (by have := hm.1.1.1; omega) hm.2
  have h2 := movesOk_mono j h
  rw [List.take_take, Nat.min_eq_left hj] at h2
  exact key _ 0 (Int.le_refl _) h2
def stepO (z : Nat × Int) (m : Move) : Nat × Int := if m.coal = -1 then (z.1, -1) else if z.2 = m.hour then z else (z.1 + 1, m.hour)
def opn (l : List Move) : Nat × Int := l.foldl stepO (0, -1)
theorem opn_snoc (l : List Move) (m : Move) : opn (l ++ [m]) = stepO (opn l) m := by unfold opn; rw [List.foldl_append]; rfl
theorem opn_take {l : List Move} {k : Nat} {m : Move} (h : l[k]? = some m) : opn (l.take (k + 1)) = stepO (opn (l.take k)) m := by
  rw [List.take_add_one, h]; exact opn_snoc _ _
theorem snoc_ind {α : Type} {P : List α → Prop} (h0 : P []) (h1 : ∀ l a, P l → P (l ++ [a])) (l : List α) : P l := by
  have : ∀ m : List α, P m.reverse := by
    intro m
    induction m with
    | nil => exact h0
    | cons a m ih => rw [List.reverse_cons]; exact h1 _ _ ih
  simpa using this l.reverse
theorem opn_le (l : List Move) : (opn l).1 ≤ l.length := by
  induction l using snoc_ind with
  | h0 => exact Nat.le_refl _
  | h1 l m ih =>
    rw [opn_snoc, List.length_append, List.length_singleton]
    unfold stepO
    split
    · dsimp only; omega
    · split
      · omega
      · dsimp only; omega
theorem opn_open {l : List Move} {k : Nat} {m : Move} (h0 : 0 < k) (h : l[k - 1]? = some m) : (opn (l.take k)).2 = if m.coal = -1 then -1 else m.hour := by
  have e := opn_take h
  rw [show k - 1 + 1 = k by omega] at e
  rw [e]
  unfold stepO
  split
  · rfl
  · split
    · rename_i h2; exact h2
    · rfl
def stepC (j : Int) (z : (Nat × Int) × List Int) (m : Move) : (Nat × Int) × List Int :=
  (stepO z.1 m, if m.coal ≠ -1 ∧ ((stepO z.1 m).1 : Int) - 1 = j then z.2.set m.coal.toNat (z.2.getD m.coal.toNat 0 + m.tons) else z.2)
def contS (n : Nat) (l : List Move) (j : Int) : (Nat × Int) × List Int := l.foldl (stepC j) ((0, -1), List.replicate n 0)
def contF (n : Nat) (l : List Move) (j : Int) : List Int := (contS n l j).2
theorem contS_1 (n : Nat) (l : List Move) (j : Int) : (contS n l j).1 = opn l := by
  induction l using snoc_ind with
  | h0 => rfl
  | h1 l m ih =>
    have e : contS n (l ++ [m]) j = stepC j (contS n l j) m := by unfold contS; rw [List.foldl_append]; rfl
    rw [e, opn_snoc, ← ih]; rfl
theorem contF_snoc (n : Nat) (l : List Move) (m : Move) (j : Int) : contF n (l ++ [m]) j = if m.coal ≠ -1 ∧ ((opn (l ++ [m])).1 : Int) - 1 = j then (contF n l j).set m.coal.toNat ((contF n l j).getD m.coal.toNat 0 + m.tons) else contF n l j := by
  have e : contS n (l ++ [m]) j = stepC j (contS n l j) m := by unfold contS; rw [List.foldl_append]; rfl
  unfold contF
  rw [e]
  unfold stepC
  rw [contS_1, ← opn_snoc]
theorem contF_take {n : Nat} {l : List Move} {k : Nat} {m : Move} {j : Int} (h : l[k]? = some m) : contF n (l.take (k + 1)) j = if m.coal ≠ -1 ∧ ((opn (l.take (k + 1))).1 : Int) - 1 = j then (contF n (l.take k) j).set m.coal.toNat ((contF n (l.take k) j).getD m.coal.toNat 0 + m.tons) else contF n (l.take k) j := by
  rw [List.take_add_one, h]; exact contF_snoc _ _ _ _
theorem contF_len (n : Nat) (l : List Move) (j : Int) : (contF n l j).length = n := by
  induction l using snoc_ind with
  | h0 => simp [contF, contS]
  | h1 l m ih => rw [contF_snoc]; split <;> simp [ih]
theorem contF_nil (n : Nat) (j : Int) : contF n [] j = List.replicate n 0 := rfl
theorem contF_bd {n : Nat} {last : Int} {l : List Move} {j : Int} (h : movesOk n last l) : ∀ x ∈ contF n l j, 0 ≤ x ∧ x ≤ 1048576 * (l.length : Int) := by
  induction l using snoc_ind with
  | h0 => intro x hx; rw [contF_nil] at hx; rw [List.eq_of_mem_replicate hx]; simp
  | h1 l m ih =>
    rw [movesOk_snoc] at h
    have ih := ih h.1
    obtain ⟨_, _, t1, t2⟩ := h.2
    intro x hx
    rw [contF_snoc] at hx
    rw [List.length_append, List.length_singleton]
    split at hx
    · rcases List.mem_or_eq_of_mem_set hx with hx | hx
      · have := ih x hx; omega
      · subst hx
        have : 0 ≤ (contF n l j).getD m.coal.toNat 0 ∧ (contF n l j).getD m.coal.toNat 0 ≤ 1048576 * (l.length : Int) := by
          rw [List.getD_eq_getElem?_getD]
          cases hg : (contF n l j)[m.coal.toNat]? with
          | none => simp; omega
          | some v => simpa using ih v (List.mem_of_getElem? hg)
        omega
    · have := ih x hx; omega
def sumI (l : List Int) : Int := l.sum
theorem sumI_take {l : List Int} {k : Nat} {x : Int} (h : l[k]? = some x) : sumI (l.take (k + 1)) = sumI (l.take k) + x := by
  unfold sumI; rw [List.take_add_one, h, List.sum_append_int]; simp
theorem sumI_bd {l : List Int} {B : Int} (h : ∀ x ∈ l, 0 ≤ x ∧ x ≤ B) : 0 ≤ sumI l ∧ sumI l ≤ (l.length : Int) * B := by
  unfold sumI
  induction l with
  | nil => simp
  | cons x l ih =>
    have := ih fun y hy => h y (List.mem_cons_of_mem _ hy)
    have hx := h x List.mem_cons_self
    rw [List.sum_cons, List.length_cons]
    have e : ((l.length + 1 : Nat) : Int) * B = (l.length : Int) * B + B := by rw [Int.natCast_add, Int.add_mul]; simp
    rw [e]; omega
end Go.Proofs.Ytmaldhbjhomdkaa.Coal

/-
  Cells of lists of numbers; equal spans, equal lists.
-/
set_option linter.all false
namespace Go.Proofs.Ytmaldhbjhomdkaa.Coal
open Go Go.H
theorem ints_setN {l : List Int} {k : Nat} {v : Int} (h : k < l.length) : (l.flatMap eI).set (0 + k * 1) (I v) = (l.set k v).flatMap eI := by
  have := set_flat (enc := eI) (sz := 1) eI_len (x := l[k]) (y := v) (v := I v) (j := 0) [] (by decide) rfl l k (List.getElem?_eq_getElem h)
  simpa using this
theorem ints_len (l : List Int) : (l.flatMap eI).length = l.length := by rw [flat_lenM eI_len]; omega
theorem ints_get {l : List Int} {k : Nat} {x : Int} (h : l[k]? = some x) : (l.flatMap eI)[0 + k * 1]? = some (I x) := by
  have := take_get (flat_at eI_len [] l k h) (j := 0) rfl
  simpa using this
theorem make_ints (n : Nat) : (madeCells (Value.int .i64 0).cells (n * 1)).toList = (List.replicate n (0 : Int)).flatMap eI := by
  have h1 : (madeCells (Value.int .i64 0).cells (n * 1)).toList = List.replicate n (I 0) := by
    refine List.eq_replicate_iff.2 ⟨by simp [madeCells], fun b hb => ?_⟩
    simp only [madeCells, Value.cells, Array.toList_map, List.mem_map] at hb
    obtain ⟨a, _, rfl⟩ := hb
    simp [Nat.mod_one]
  have h2 : ∀ m : Nat, List.replicate m (I 0) = (List.replicate m (0 : Int)).flatMap eI := fun m => by
    induction m with
    | zero => rfl
    | succ m ih => rw [List.replicate_succ, List.replicate_succ, List.flatMap_cons, ← ih]; rfl
  rw [h1, h2]
end Go.Proofs.Ytmaldhbjhomdkaa.Coal

/-
  The parts of the draws, as the document takes them.
-/
set_option linter.all false
namespace Go.Proofs.Ytmaldhbjhomdkaa.Coal
open Go Go.H
def takenR (prev : List (List Int)) (j : Nat) : Int := (prev.map (·.getD j 0)).sum
def roomR (n : Nat) (ms : List Move) (k : Nat) (prev : List (List Int)) (j : Nat) : Int := sumI (contF n (ms.take k) j) - takenR prev j
def vecR (room : Nat → Int) : Nat → Int → List Int × Int
  | 0, t => ([], t)
  | j + 1, t => ((vecR room j t).1 ++ [min (room j) (vecR room j t).2], (vecR room j t).2 - min (room j) (vecR room j t).2)
def partsR (n : Nat) (ms : List Move) (L : Nat) : Nat → Option (List (List Int))
  | 0 => some []
  | k + 1 => match partsR n ms L k, ms[k]? with
    | some prev, some m => if m.coal ≠ -1 then some prev else if (vecR (roomR n ms k prev) L m.tons).2 > 0 then none else some (prev ++ [(vecR (roomR n ms k prev) L m.tons).1])
    | some prev, none => some prev
    | none, _ => none
section
variable {n : Nat} {ms : List Move} {L k : Nat} {prev : List (List Int)} {m : Move}
theorem parts_skip (h : partsR n ms L k = some prev) (hk : ms[k]? = some m) (hc : m.coal ≠ -1) : partsR n ms L (k + 1) = some prev := by
  simp only [partsR, h, hk]; exact if_pos hc
theorem parts_bad (h : partsR n ms L k = some prev) (hk : ms[k]? = some m) (hc : m.coal = -1) (h2 : (vecR (roomR n ms k prev) L m.tons).2 > 0) : partsR n ms L (k + 1) = none := by
  simp only [partsR, h, hk]; rw [if_neg (by simp [hc]), if_pos h2]
theorem parts_more (h : partsR n ms L k = some prev) (hk : ms[k]? = some m) (hc : m.coal = -1) (h2 : ¬ (vecR (roomR n ms k prev) L m.tons).2 > 0) : partsR n ms L (k + 1) = some (prev ++ [(vecR (roomR n ms k prev) L m.tons).1]) := by
  simp only [partsR, h, hk]; rw [if_neg (by simp [hc]), if_neg h2]
theorem parts_none (h : partsR n ms L k = none) : ∀ j, partsR n ms L (k + j) = none
  | 0 => h
  | j + 1 => by
    have ih := parts_none h j
    show partsR n ms L ((k + j) + 1) = none
    simp only [partsR, ih]
theorem parts_end (h : partsR n ms L k = none) {q : Nat} (hq : k ≤ q) : partsR n ms L q = none := by
  have := parts_none h (q - k)
  rwa [show k + (q - k) = q by omega] at this
end
theorem taken_snoc (prev : List (List Int)) (v : List Int) (j : Nat) : takenR (prev ++ [v]) j = takenR prev j + v.getD j 0 := by
  unfold takenR; rw [List.map_append, List.sum_append_int]; simp
theorem taken_take {prev : List (List Int)} {p j : Nat} {v : List Int} (h : prev[p]? = some v) : takenR (prev.take (p + 1)) j = takenR (prev.take p) j + v.getD j 0 := by
  rw [List.take_add_one, h]; exact taken_snoc _ _ _
theorem vecR_len (room : Nat → Int) (t : Int) : ∀ L, (vecR room L t).1.length = L
  | 0 => rfl
  | L + 1 => by rw [vecR, List.length_append, vecR_len room t L]; rfl
theorem vecR_bd {room : Nat → Int} {t : Int} (ht : 0 ≤ t) : ∀ L, (∀ j, j < L → 0 ≤ room j) → (0 ≤ (vecR room L t).2 ∧ (vecR room L t).2 ≤ t) ∧ (∀ x ∈ (vecR room L t).1, 0 ≤ x ∧ x ≤ t) ∧ ∀ j, j < L → (vecR room L t).1.getD j 0 ≤ room j
  | 0, _ => ⟨⟨ht, Int.le_refl _⟩, fun x hx => by simp [vecR] at hx, fun j hj => by omega⟩
  | L + 1, h => by
    obtain ⟨a, b, c⟩ := vecR_bd ht L fun j hj => h j (by omega)
    have hr := h L (by omega)
    have hl := vecR_len room t L
    refine ⟨⟨by rw [vecR]; dsimp only; omega, by rw [vecR]; dsimp only; omega⟩, fun x hx => ?_, fun j hj => ?_⟩
    · rw [vecR] at hx
      rcases List.mem_append.1 hx with hx | hx
      · exact b x hx
      · rw [List.mem_singleton.1 hx]; omega
    · rw [vecR]
      rw [List.getD_eq_getElem?_getD]
      by_cases hq : j < L
      · rw [List.getElem?_append_left (by omega), ← List.getD_eq_getElem?_getD]; exact c j hq
      · obtain rfl : j = L := by omega
        rw [List.getElem?_append_right (by omega), hl]
        simp; omega
theorem sumI_nn {l : List Int} (h : ∀ x ∈ l, 0 ≤ x) : 0 ≤ sumI l := by
  unfold sumI
  induction l with
  | nil => simp
  | cons x l ih => rw [List.sum_cons]; have := ih fun y hy => h y (List.mem_cons_of_mem _ hy); have := h x List.mem_cons_self; omega
theorem sumI_set {l : List Int} {k : Nat} {x d : Int} (h : l[k]? = some x) : sumI (l.set k (x + d)) = sumI l + d := by
  unfold sumI
  induction l generalizing k with
  | nil => simp at h
  | cons a l ih =>
    cases k with
    | zero => simp at h; subst h; rw [List.set_cons_zero, List.sum_cons, List.sum_cons]; omega
    | succ k => rw [List.set_cons_succ, List.sum_cons, List.sum_cons, ih (by simpa using h)]; omega
theorem cont_sum_mono {n : Nat} {ms : List Move} (hm : movesOk n 0 ms) {k : Nat} {m : Move} (hk : ms[k]? = some m) (j : Int) : sumI (contF n (ms.take k) j) ≤ sumI (contF n (ms.take (k + 1)) j) ∧ (m.coal = -1 → contF n (ms.take (k + 1)) j = contF n (ms.take k) j) := by
  obtain ⟨_, ⟨c1, c2⟩, t1, t2⟩ := movesOk_at hm hk
  rw [contF_take hk]
  refine ⟨?_, fun h => if_neg (fun q => q.1 h)⟩
  split
  · rename_i hq
    have hl := contF_len n (ms.take k) j
    obtain ⟨v, hv⟩ : ∃ v, (contF n (ms.take k) j)[m.coal.toNat]? = some v := ⟨_, List.getElem?_eq_getElem (by have := hq.1; omega)⟩
    have hg : (contF n (ms.take k) j).getD m.coal.toNat 0 = v := by rw [List.getD_eq_getElem?_getD, hv]; rfl
    rw [hg, sumI_set hv]; omega
  · exact Int.le_refl _
structure PInv (n : Nat) (ms : List Move) (L k : Nat) (prev : List (List Int)) : Prop where
  is : partsR n ms L k = some prev
  len : ∀ v ∈ prev, v.length = L
  bd : ∀ v ∈ prev, ∀ x ∈ v, 0 ≤ x ∧ x ≤ 1048576
  room : ∀ j, j < L → 0 ≤ roomR n ms k prev j
  few : prev.length ≤ k
theorem pinv_0 {n : Nat} {ms : List Move} {L : Nat} : PInv n ms L 0 [] :=
  ⟨rfl, fun v h => (List.not_mem_nil h).elim, fun v h => (List.not_mem_nil h).elim, fun j _ => by
    unfold roomR takenR
    have := sumI_nn (l := contF n (ms.take 0) (j : Int)) (fun x hx => by rw [List.take_zero, contF_nil] at hx; rw [List.eq_of_mem_replicate hx]; exact Int.le_refl _)
    simpa using this, Nat.le_refl _⟩
theorem PInv.skip {n : Nat} {ms : List Move} {L k : Nat} {prev : List (List Int)} {m : Move} (H : PInv n ms L k prev) (hm : movesOk n 0 ms) (hk : ms[k]? = some m) (hc : m.coal ≠ -1) : PInv n ms L (k + 1) prev :=
  ⟨parts_skip H.is hk hc, H.len, H.bd, fun j hj => by
    have := H.room j hj; have := (cont_sum_mono hm hk (j : Int)).1; unfold roomR at *; omega, by have := H.few; omega⟩
theorem PInv.more {n : Nat} {ms : List Move} {L k : Nat} {prev : List (List Int)} {m : Move} (H : PInv n ms L k prev) (hm : movesOk n 0 ms) (hk : ms[k]? = some m) (hc : m.coal = -1) (h2 : ¬ (vecR (roomR n ms k prev) L m.tons).2 > 0) : PInv n ms L (k + 1) (prev ++ [(vecR (roomR n ms k prev) L m.tons).1]) := by
  obtain ⟨_, _, t1, t2⟩ := movesOk_at hm hk
  obtain ⟨a, b, c⟩ := vecR_bd (room := roomR n ms k prev) (t := m.tons) (by omega) L H.room
  refine ⟨parts_more H.is hk hc h2, fun v hv => ?_, fun v hv x hx => ?_, fun j hj => ?_, by rw [List.length_append, List.length_singleton]; have := H.few; omega⟩
  · rcases List.mem_append.1 hv with hv | hv
    · exact H.len v hv
    · rw [List.mem_singleton.1 hv]; exact vecR_len _ _ _
  · rcases List.mem_append.1 hv with hv | hv
    · exact H.bd v hv x hx
    · rw [List.mem_singleton.1 hv] at hx
      have := b x hx; omega
  · have h1 := (cont_sum_mono hm hk (j : Int)).2 hc
    have h3 := c j hj
    unfold roomR at *
    rw [h1, taken_snoc]
    omega
theorem taken_bd {prev : List (List Int)} (h : ∀ v ∈ prev, ∀ x ∈ v, 0 ≤ x ∧ x ≤ 1048576) (j : Nat) : 0 ≤ takenR prev j ∧ takenR prev j ≤ 1048576 * (prev.length : Int) := by
  unfold takenR
  have : ∀ x ∈ prev.map (·.getD j 0), 0 ≤ x ∧ x ≤ 1048576 := fun x hx => by
    obtain ⟨v, hv, rfl⟩ := List.mem_map.1 hx
    rw [List.getD_eq_getElem?_getD]
    cases hg : v[j]? with
    | none => simp
    | some y => simpa using h v hv y (List.mem_of_getElem? hg)
  have := sumI_bd this
  unfold sumI at this
  rw [List.length_map] at this
  omega
structure Hd where
  a : Option Addr
  m : List Int
  c : Nat
def eHd (z : Hd) : List Value := [.slice z.a z.m.length z.c]
theorem eHd_len (z : Hd) : (eHd z).length = 1 := rfl
theorem hd_flat (hds : List Hd) (a : Option Addr) (m : List Int) (c : Nat) : (hds ++ [(⟨a, m, c⟩ : Hd)]).flatMap eHd = hds.flatMap eHd ++ [.slice a m.length c] := by simp [eHd]
theorem vset {v : List Int} {j L : Nat} {x : Int} (hv : v.length = j) (hj : j < L) : (v ++ List.replicate (L - j) 0).set j x = v ++ [x] ++ List.replicate (L - (j + 1)) 0 := by
  obtain ⟨q, hq⟩ : ∃ q, L - j = q + 1 := ⟨L - j - 1, by omega⟩
  rw [hq, show L - (j + 1) = q by omega, List.set_append_right _ _ (by omega), hv, Nat.sub_self, List.replicate_succ, List.set_cons_zero]
  simp
theorem vget {v r : List Int} {j : Nat} {x : Int} (hv : v.length = j) : (v ++ [x] ++ r)[j]? = some x := by
  rw [List.append_assoc, List.getElem?_append_right (by omega), hv, Nat.sub_self]; rfl
end Go.Proofs.Ytmaldhbjhomdkaa.Coal

/-
  The answers: the parts of a draw, what is left.
-/
set_option linter.all false
namespace Go.Proofs.Ytmaldhbjhomdkaa.Coal
open Go Go.H
instance decMoves (n : Nat) : (last : Int) → (l : List Move) → Decidable (movesOk n last l)
  | _, [] => .isTrue trivial
  | last, m :: l => @instDecidableAnd _ _ _ (decMoves n m.hour l)
instance (y : Yard) : Decidable (GoodYard y) := by unfold GoodYard; infer_instance
def nzF (f : Nat → Int) (L : Nat) : List Part := (List.range L).filterMap fun j => if f j > 0 then some ⟨(j : Int), f j⟩ else none
theorem nzF_succ (f : Nat → Int) (j : Nat) : nzF f (j + 1) = if f j > 0 then nzF f j ++ [⟨(j : Int), f j⟩] else nzF f j := by
  unfold nzF
  rw [List.range_succ, List.filterMap_append]
  by_cases h : f j > 0 <;> simp [h]
theorem nzF_len (f : Nat → Int) (L : Nat) : (nzF f L).length ≤ L := by
  have := List.length_filterMap_le (fun j : Nat => if f j > 0 then some (⟨(j : Int), f j⟩ : Part) else none) (List.range L)
  rwa [List.length_range] at this
def vecsR (y : Yard) : Option (List (List Int)) := partsR y.coals.length y.moves (opn y.moves).1 y.moves.length
section
variable {y : Yard} {draw : Int} {vs : List (List Int)}
end
end Go.Proofs.Ytmaldhbjhomdkaa.Coal

/-
  Layers that are not there yet are empty; the program's six places.
-/
set_option linter.all false
namespace Go.Proofs.Ytmaldhbjhomdkaa.Coal
open Go Go.H
theorem opn_mono (l : List Move) (m : Move) : (opn l).1 ≤ (opn (l ++ [m])).1 := by
  rw [opn_snoc]; unfold stepO
  split
  · exact Nat.le_refl _
  · split
    · exact Nat.le_refl _
    · exact Nat.le_succ _
theorem contF_zero {n : Nat} (l : List Move) {j : Int} (h : ((opn l).1 : Int) ≤ j) : contF n l j = List.replicate n 0 := by
  induction l using snoc_ind with
  | h0 => rfl
  | h1 l m ih =>
    have hm := opn_mono l m
    rw [contF_snoc, if_neg (fun hq => by omega)]
    exact ih (by omega)
theorem sumI_rep (n : Nat) : sumI (List.replicate n 0) = 0 := by
  unfold sumI
  induction n with
  | zero => rfl
  | succ n ih => rw [List.replicate_succ, List.sum_cons, ih]; rfl
theorem contF_pad {n q : Nat} {last : Int} {l : List Move} {j : Int} (h : movesOk n last l) : contF (n + q) l j = contF n l j ++ List.replicate q 0 := by
  induction l using snoc_ind with
  | h0 => rw [contF_nil, contF_nil, List.replicate_append_replicate]
  | h1 l m ih =>
    rw [movesOk_snoc] at h
    have ih := ih h.1
    obtain ⟨_, ⟨c1, c2⟩, _⟩ := h.2
    rw [contF_snoc, contF_snoc, ih]
    split
    · rename_i hq
      have hlt : m.coal.toNat < (contF n l j).length := by rw [contF_len]; have := hq.1; omega
      rw [List.set_append_left _ _ hlt]
      congr 2
      rw [List.getD_eq_getElem?_getD, List.getD_eq_getElem?_getD, List.getElem?_append_left hlt]
    · rfl
theorem sumI_app (a b : List Int) : sumI (a ++ b) = sumI a + sumI b := by unfold sumI; exact List.sum_append_int
theorem vecR_more {room : Nat → Int} {t : Int} {c : Nat} (h : ∀ j, c ≤ j → room j = 0) (ht : 0 ≤ (vecR room c t).2) : ∀ d, vecR room (c + d) t = ((vecR room c t).1 ++ List.replicate d 0, (vecR room c t).2)
  | 0 => by simp
  | d + 1 => by
    have ih := vecR_more h ht d
    rw [← Nat.add_assoc, vecR, ih, h (c + d) (by omega)]
    dsimp only
    rw [show min (0 : Int) (vecR room c t).2 = 0 by omega, List.replicate_succ', List.append_assoc]
    congr 1; omega
theorem nzF_more {f : Nat → Int} {c : Nat} (h : ∀ j, c ≤ j → ¬ f j > 0) : ∀ d, nzF f (c + d) = nzF f c
  | 0 => rfl
  | d + 1 => by rw [← Nat.add_assoc, nzF_succ, if_neg (h (c + d) (by omega)), nzF_more h d]
theorem nzF_congr {f g : Nat → Int} : ∀ {c : Nat}, (∀ j, j < c → f j = g j) → nzF f c = nzF g c
  | 0, _ => rfl
  | c + 1, h => by rw [nzF_succ, nzF_succ, h c (by omega), nzF_congr fun j hj => h j (by omega)]
end Go.Proofs.Ytmaldhbjhomdkaa.Coal
