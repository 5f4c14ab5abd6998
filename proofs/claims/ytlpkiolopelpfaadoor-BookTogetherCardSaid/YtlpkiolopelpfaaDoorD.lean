/-
  A copy of numbers; a slice of numbers sorted by the library.
-/
import Derived.Test.YtlpkiolopelpfaaDoorHV
import Derived.Laws.CopyRow
import Derived.Laws.IdiomCopy
import Derived.Sort.OwnSortedInts
import Derived.Sort.AssemblyPlain
import Derived.Sort.LotD1
import Derived.Lib.AppendStr
import Derived.Lib.AppendZeros
import Derived.Lib.MakeNoZero
import Derived.Lib.Builder
import Derived.Lib.UnsafeStr
import Derived.Laws.IdiomStrings
import Derived.Laws.BytesArg
import Derived.Laws.Strings2
import Derived.Laws.Externs
set_option linter.all false
namespace Go.H
open Go
section
variable {P : Program} {r : Option Nat} {E : Env} {h h' g : Hp} {K : Value → Hp → Prop} {T : List PanicEntry → Hp → Prop} {dst : Option Nat} {ty : TypeId} {pos : String} {af : Array Edge} {gd : Option (Nat × Bool)}
end
end Go.H

/-
  Sorting: an array in a block; the kit's plain functions of the sort, one step at a time.
-/
set_option linter.all false
namespace Go.H
open Go Go.Sort
variable {α : Type} [Inhabited α]
structure Arr (N : Nat) (p : α → Prop) (d : Array α) : Prop where
  size : d.size = N
  all : ∀ i, i < N → p d[i]!
theorem get_set {d : Array α} {i j : Nat} {v : α} (hi : i < d.size) : (d.setIfInBounds i v)[j]! = if i = j then v else d[j]! := by
  simp only [getElem!_def, Array.getElem?_setIfInBounds]
  by_cases h : i = j
  · subst h; simp [hi]
  · simp [h]
theorem Arr.set {N : Nat} {p : α → Prop} {d : Array α} {i : Nat} {v : α} (H : Arr N p d) (hi : i < N) (hv : p v) : Arr N p (d.setIfInBounds i v) :=
  ⟨by rw [Array.size_setIfInBounds]; exact H.size, fun j hj => by
    rw [get_set (by rw [H.size]; exact hi)]
    split
    · exact hv
    · exact H.all j hj⟩
section
variable {enc : α → List Value} {sz : Nat}
end
section
variable {lt : α → α → Bool}
end
section
variable {lt : α → α → Bool}
section
variable {d : Array α} {a b limit : Nat} {wb wp : Bool} (h : ¬ b - a ≤ 12) (h0 : ¬ limit = 0) (h50 : b - a < 50)
include h h0 h50
end
structure PdqS (α : Type) where
  a : Nat
  b : Nat
  lim : Nat
  wb : Bool
  wp : Bool
  d : Array α
end
end Go.H

/-
  Rules: words of 64 bits; bytes of a text that is known.
-/
set_option linter.all false
namespace Go.H
open Go
variable {P : Program} {r : Option Nat} {E : Env} {h : Hp}
variable {K : Value → Hp → Prop} {T : List PanicEntry → Hp → Prop} {dst : Option Nat} {ty : TypeId} {pos : String} {af : Array Edge} {gd : Option (Nat × Bool)}
theorem xv_indexT {x y : Operand} {t : TypeId} {s : ByteArray} {k : IntKind} {i : Int} {f : Nat → Nat} {m : Nat} (ht : P.underlying t = some .string) (hx : ev E x = some (.string s)) (hy : ev E y = some (.int k i)) (h0 : 0 ≤ i) (h1 : i < m) (h2 : (List.range m).all (fun j => if h : j < s.size then s[j] == UInt8.ofNat (f j) else false) = true)
    (H : K (.int .u8 (((UInt8.ofNat (f i.toNat)).toNat : Nat) : Int)) h) : XV P r ⟨dst, .index t x y, ty, pos, af, gd⟩ K T E h :=
  xv_of_run (by simp [plainOp]) fun w ρ ho he => by
    have hs := List.all_eq_true.1 h2 i.toNat (List.mem_range.2 (by omega))
    have hlt : i.toNat < s.size := by
      by_cases hlt : i.toNat < s.size
      · exact hlt
      · rw [dif_neg hlt] at hs; cases hs
    rw [dif_pos hlt] at hs
    have hv := eq_of_beq hs
    refine ⟨_, h, w, ?_, H, .refl ho⟩
    simp [execOp, he _ _ hx, he _ _ hy, Instr.index, asIntOf, run_underlying ht, h0, hlt, hv]
end Go.H

/-
  Rules: maps with structs as keys (sets), calls of methods through interfaces.
-/
set_option linter.all false
namespace Go.H
open Go
section
variable {P : Program} {r : Option Nat} {E : Env} {h : Hp}
variable {K : Value → Hp → Prop} {T : List PanicEntry → Hp → Prop} {dst : Option Nat} {ty : TypeId} {pos : String} {af : Array Edge} {gd : Option (Nat × Bool)}
theorem SlV.drop {α : Type} {sz : Nat} {enc : α → List Value} {b o : Nat} {xs : List α} (H : SlV h sz enc (some ⟨b, o, none⟩) xs) (k : Nat) : SlV h sz enc (some ⟨b, o + k * sz, none⟩) (xs.drop k) := by
  rcases H with rfl | ⟨b2, o2, l, t, fz, h1, h2, h3⟩
  · exact .inl (by simp)
  · cases h1
    refine .inr ⟨b, o + k * sz, l, t, fz, rfl, h2, fun i x hx => ?_⟩
    rw [List.getElem?_drop] at hx
    have := h3 (k + i) x hx
    rw [Nat.add_mul] at this
    rw [Nat.add_assoc]; exact this
def dropA (a : Option Addr) (c m sz : Nat) : Option Addr := if c = m then a else a.map fun z => z.add (m * sz)
theorem slv_dropA {α : Type} {enc : α → List Value} {a : Option Addr} {c m sz : Nat} {l : List α} (hl : SlV h sz enc a l) (hc : l.length ≤ c) : SlV h sz enc (dropA a c m sz) (l.drop m) := by
  by_cases hlt : m < l.length
  · obtain ⟨b, o, li, t9, fz, ha, hm, hx9⟩ := hl.at hlt
    subst ha
    unfold dropA
    split
    · omega
    · have := SlV.drop hl m
      have e : (⟨b, o, none⟩ : Addr).add (m * sz) = ⟨b, o + m * sz, none⟩ := addr_add _ _ _
      simp only [Option.map_some, e]
      exact this
  · exact .inl (List.drop_eq_nil_of_le (by omega))
theorem xv_sliceFrom {x y : Operand} {t e : TypeId} {d : TD} {a : Option Addr} {n c m sz : Nat} {k : IntKind} {i : Int} (ht : SlT P t e) (hd : TyOk P e d) (hsz : d.size = sz) (hx : ev E x = some (.slice a n c)) (hy : ev E y = some (.int k i)) (hm : i.toNat = m) (h0 : 0 ≤ i) (h1 : i ≤ n)
    (H : K (.slice (dropA a c m sz) (n - m) (c - m)) h) : XV P r ⟨dst, .slice t x (some y) none none, ty, pos, af, gd⟩ K T E h := by
  subst hsz hm
  refine xv_of_run (by simp [plainOp]) fun w ρ ho he => ⟨_, h, w, ?_, H, .refl ho⟩
  have hb := run_sliceBoundH (P := P) (k := k) (y := n) (code := .sliceB) (w := w) h0 h1
  simp only [execOp, he _ _ hx, Option.map_none, Option.map_some, he _ _ hy]
  simp [Instr.sliceAt, run_underlying ht, Instr.slice, Instr.sliceBounds, hb, hd.run_size, dropA]
end
end Go.H

/-
  Regions whose order is open, once more: each stable read names the blocks that it relies on, and an effect keeps those of the reads that are not ahead of it.
-/
set_option linter.all false
namespace Go.H
open Go
variable {P : Program} {r : Option Nat} {N : Nat} {Q : Post} {E : Env} {D : List Deferred} {h : Hp}
variable {K : Value → Hp → Prop} {T : List PanicEntry → Hp → Prop}
abbrev LsT := List (Nat × List (Nat × (Obj → Prop)))
def lof : LsT → Nat → List (Nat × (Obj → Prop))
  | [], _ => []
  | (x, p) :: l, i => if x = i then p else lof l i
theorem lof_mem : ∀ (Ls : LsT) (i : Nat), lof Ls i = [] ∨ (i, lof Ls i) ∈ Ls
  | [], _ => .inl rfl
  | (x, p) :: l, i => by
    unfold lof
    split
    · rename_i e; subst e; exact .inr List.mem_cons_self
    · exact (lof_mem l i).imp id fun hm => List.mem_cons_of_mem _ hm
def Keep (tbl : List (List Nat)) (Ls : LsT) (y : Nat) (h : Hp) : Prop := ∀ x p, (x, p) ∈ Ls → x ∈ tbl.getD y [] ∨ Holds p h
theorem Keep.cons {tbl : List (List Nat)} {Ls : LsT} {y : Nat} {h : Hp} (z : Nat × Obj) (H : Keep tbl Ls y h) : Keep tbl Ls y (z :: h) := fun x p hm => (H x p hm).imp id fun a => a.cons z
section
variable (P : Program) (r : Option Nat) (N : Nat) (ops : Array Oper) (D : List Deferred) (Q : Post) (f : Hp) (tbl : List (List Nat)) (Ls : LsT)
def JstX (k : Kd) (i : Nat) (o : Oper) (E : Env) (G : Prom) (h : Hp) (K : Env → Prom → Hp → Prop) : Prop :=
  match k with
  | .S => (Skips ops o E ∧ K (E.put o.dst undef) G h) ∨ (Runs ops o E ∧ ∃ v, (∀ hh, Holds (lof Ls i) hh → QV P r o E (hh ++ f) v) ∧ K (E.put o.dst v) G h)
  | .R => (Skips ops o E ∧ K (E.put o.dst undef) G h) ∨ (Runs ops o E ∧ ∃ v, QV P r o E (h ++ f) v ∧ K (E.put o.dst v) G h)
  | .P => o.guard = none ∧ ∃ mk obj, AL P o E mk obj ∧ K E (G.add i ⟨mk, obj, restr o E⟩) h
  | .A => o.guard = none ∧ ∃ p, G i = some p ∧ EqOn o p.env E ∧ ∀ b, b ∉ keys (h ++ f) → K (E.put o.dst (p.val b)) G ((b, p.obj) :: h)
  | .O => (Skips ops o E ∧ K (E.put o.dst undef) G h) ∨ (Runs ops o E ∧ XV P r o (fun v h'' => ∃ h', List.Perm (h' ++ f) h'' ∧ Keep tbl Ls i h' ∧ K (E.put o.dst v) G h') (fun ch h'' => Q (.panic ch) emp D h'') E (h ++ f))
def JX : List Item → Env → Prom → Hp → Prop
  | [], E, _, h => ∃ hh, List.Perm (h ++ f) hh ∧ Q .normal E D hh
  | (i, k) :: l, E, G, h => ∃ o, ops[i]? = some o ∧ dstOk N o.dst = true ∧ JstX P r ops D Q f tbl Ls k i o E G h (JX l)
end
variable {ops : Array Oper} {f : Hp} {tbl : List (List Nat)} {Ls : LsT}
theorem JstX.mono {k : Kd} {i : Nat} {o : Oper} {G : Prom} {K K' : Env → Prom → Hp → Prop} (hk : ∀ E G h, K E G h → K' E G h) (H : JstX P r ops D Q f tbl Ls k i o E G h K) : JstX P r ops D Q f tbl Ls k i o E G h K' := by
  cases k with
  | S => exact H.imp (fun ⟨a, b⟩ => ⟨a, hk _ _ _ b⟩) (fun ⟨a, v, b, c⟩ => ⟨a, v, b, hk _ _ _ c⟩)
  | R => exact H.imp (fun ⟨a, b⟩ => ⟨a, hk _ _ _ b⟩) (fun ⟨a, v, b, c⟩ => ⟨a, v, b, hk _ _ _ c⟩)
  | P => obtain ⟨a, mk, obj, b, c⟩ := H; exact ⟨a, mk, obj, b, hk _ _ _ c⟩
  | A => obtain ⟨a, p, b, c, d⟩ := H; exact ⟨a, p, b, c, fun x hx => hk _ _ _ (d x hx)⟩
  | O => exact H.imp (fun ⟨a, b⟩ => ⟨a, hk _ _ _ b⟩) (fun ⟨a, b⟩ => ⟨a, b.mono (fun v h2 ⟨h', p, iv, c⟩ => ⟨h', p, iv, hk _ _ _ c⟩) (fun _ _ c => c)⟩)
theorem JstX.perm {k : Kd} {i : Nat} {o : Oper} {G : Prom} {K : Env → Prom → Hp → Prop} {h' : Hp} (hp : List.Perm h h') (hk : ∀ E G h h', List.Perm h h' → K E G h → K E G h') (H : JstX P r ops D Q f tbl Ls k i o E G h K) : JstX P r ops D Q f tbl Ls k i o E G h' K := by
  have hpf : List.Perm (h ++ f) (h' ++ f) := hp.append_right f
  cases k with
  | S => exact H.imp (fun ⟨a, b⟩ => ⟨a, hk _ _ _ _ hp b⟩) (fun ⟨a, v, b, c⟩ => ⟨a, v, b, hk _ _ _ _ hp c⟩)
  | R => exact H.imp (fun ⟨a, b⟩ => ⟨a, hk _ _ _ _ hp b⟩) (fun ⟨a, v, b, c⟩ => ⟨a, v, b.perm hpf, hk _ _ _ _ hp c⟩)
  | P => obtain ⟨a, mk, obj, b, c⟩ := H; exact ⟨a, mk, obj, b, hk _ _ _ _ hp c⟩
  | A =>
    obtain ⟨a, p, b, c, d⟩ := H
    refine ⟨a, p, b, c, fun x hx => hk _ _ _ _ (hp.cons _) (d x fun hm => hx ?_)⟩
    exact ((hpf.map Prod.fst).mem_iff).1 hm
  | O => exact H.imp (fun ⟨a, b⟩ => ⟨a, hk _ _ _ _ hp b⟩) (fun ⟨a, b⟩ => ⟨a, XV.perm hpf b⟩)
theorem JX.perm : ∀ (l : List Item) {E : Env} {G : Prom} {h h' : Hp}, List.Perm h h' → JX P r N ops D Q f tbl Ls l E G h → JX P r N ops D Q f tbl Ls l E G h'
  | [], _, _, _, _, hp, ⟨hh, p, q⟩ => ⟨hh, ((hp.append_right f).symm.trans p), q⟩
  | (i, k) :: l, E, G, h, h', hp, ⟨o, ho, hd, H⟩ => ⟨o, ho, hd, JstX.perm hp (fun _ _ _ _ p q => JX.perm l p q) H⟩
theorem JstX.pull {x y : Oper} {k : Kd} {i : Nat} {v : Value} {G : Prom} {K : Env → Prom → Hp → Prop} (ha : x.apart ops y = true) (H : JstX P r ops D Q f tbl Ls k i y (E.put x.dst v) G h K) :
    JstX P r ops D Q f tbl Ls k i y E G h (fun E' G' h' => ExtE y E E' ∧ (k ≠ .O → h' = h ∨ ∃ z, h' = z :: h) ∧ K (E'.put x.dst v) G' h') := by
  have hs := Oper.apart_spec ha
  have e1 : EqOn y (E.put x.dst v) E := (eqOn_put ha v).symm
  have hc : ∀ u, (E.put x.dst v).put y.dst u = (E.put y.dst u).put x.dst v := fun u => put_comm hs.2.1
  cases k with
  | S =>
    rcases H with ⟨a, b⟩ | ⟨a, u, b, c⟩
    · exact .inl ⟨(skips_put hs.1).1 a, .inr ⟨_, rfl⟩, fun _ => .inl rfl, by rw [← hc]; exact b⟩
    · exact .inr ⟨(runs_put hs.1).1 a, u, fun hh iv => (b hh iv).congr e1, .inr ⟨_, rfl⟩, fun _ => .inl rfl, by rw [← hc]; exact c⟩
  | R =>
    rcases H with ⟨a, b⟩ | ⟨a, u, b, c⟩
    · exact .inl ⟨(skips_put hs.1).1 a, .inr ⟨_, rfl⟩, fun _ => .inl rfl, by rw [← hc]; exact b⟩
    · exact .inr ⟨(runs_put hs.1).1 a, u, b.congr e1, .inr ⟨_, rfl⟩, fun _ => .inl rfl, by rw [← hc]; exact c⟩
  | P =>
    obtain ⟨a, mk, obj, b, c⟩ := H
    refine ⟨a, mk, obj, b.congr e1, .inl rfl, fun _ => .inl rfl, ?_⟩
    rw [← restr_congr e1]; exact c
  | A =>
    obtain ⟨a, p, b, c, d⟩ := H
    exact ⟨a, p, b, c.trans e1, fun z hz => ⟨.inr ⟨_, rfl⟩, fun _ => .inr ⟨_, rfl⟩, by rw [← hc]; exact d z hz⟩⟩
  | O =>
    rcases H with ⟨a, b⟩ | ⟨a, b⟩
    · exact .inl ⟨(skips_put hs.1).1 a, .inr ⟨_, rfl⟩, fun hh => absurd rfl hh, by rw [← hc]; exact b⟩
    · refine .inr ⟨(runs_put hs.1).1 a, (b.congr e1).mono ?_ (fun _ _ c => c)⟩
      rintro u h2 ⟨h', p, iv, c⟩
      exact ⟨h', p, iv, .inr ⟨_, rfl⟩, fun hh => absurd rfl hh, by rw [← hc]; exact c⟩
theorem JstX.pullG {x y : Oper} {k : Kd} {i j : Nat} {pr : Pr} {G : Prom} {K : Env → Prom → Hp → Prop} (hne : j ≠ i) (H : JstX P r ops D Q f tbl Ls k i y E (G.add j pr) h K) :
    JstX P r ops D Q f tbl Ls k i y E G h (fun E' G' h' => ExtE y E E' ∧ K E' (G'.add j pr) h') := by
  cases k with
  | S =>
    rcases H with ⟨a, b⟩ | ⟨a, u, b, c⟩
    · exact .inl ⟨a, .inr ⟨_, rfl⟩, b⟩
    · exact .inr ⟨a, u, b, .inr ⟨_, rfl⟩, c⟩
  | R =>
    rcases H with ⟨a, b⟩ | ⟨a, u, b, c⟩
    · exact .inl ⟨a, .inr ⟨_, rfl⟩, b⟩
    · exact .inr ⟨a, u, b, .inr ⟨_, rfl⟩, c⟩
  | P =>
    obtain ⟨a, mk, obj, b, c⟩ := H
    exact ⟨a, mk, obj, b, .inl rfl, by rw [add_comm' hne.symm]; exact c⟩
  | A =>
    obtain ⟨a, p, b, c, d⟩ := H
    refine ⟨a, p, ?_, c, fun z hz => ⟨.inr ⟨_, rfl⟩, d z hz⟩⟩
    simp only [Prom.add] at b
    rwa [if_neg (fun e => hne e.symm)] at b
  | O =>
    rcases H with ⟨a, b⟩ | ⟨a, b⟩
    · exact .inl ⟨a, .inr ⟨_, rfl⟩, b⟩
    · exact .inr ⟨a, b.mono (fun u h2 ⟨h', p, iv, c⟩ => ⟨h', p, iv, .inr ⟨_, rfl⟩, c⟩) (fun _ _ c => c)⟩
theorem JstX.swap {x y : Oper} {kx ky : Kd} {ix iy : Nat} {G : Prom} {K : Env → Prom → Hp → Prop} (ha : x.apart ops y = true) (hok : okSwap kx ky = true) (hne : ix ≠ iy)
    (hI : ky = .A → y.guard = none ∧ ∃ p, G iy = some p ∧ EqOn y p.env E) (hK : ∀ E G h h', List.Perm h h' → K E G h → K E G h')
    (H : JstX P r ops D Q f tbl Ls kx ix x E G h (fun E' G' h' => JstX P r ops D Q f tbl Ls ky iy y E' G' h' K)) : JstX P r ops D Q f tbl Ls ky iy y E G h (fun E' G' h' => JstX P r ops D Q f tbl Ls kx ix x E' G' h' K) := by
  have hs := Oper.apart_spec ha
  cases kx with
  | S =>
    rcases H with ⟨a, b⟩ | ⟨a, v, q, b⟩
    · exact (b.pull ha).mono fun E' G' h' ⟨e, _, c⟩ => .inl ⟨e.skips ha a, c⟩
    · exact (b.pull ha).mono fun E' G' h' ⟨e, _, c⟩ => .inr ⟨e.runs ha a, v, fun hh iv => (q hh iv).congr (e.eqOn ha), c⟩
  | R =>
    have hky : ky ≠ .O := by rintro rfl; simp [okSwap] at hok
    rcases H with ⟨a, b⟩ | ⟨a, v, q, b⟩
    · exact (b.pull ha).mono fun E' G' h' ⟨e, _, c⟩ => .inl ⟨e.skips ha a, c⟩
    · refine (b.pull ha).mono fun E' G' h' ⟨e, eh, c⟩ => .inr ⟨e.runs ha a, v, ?_, c⟩
      rcases eh hky with rfl | ⟨z, rfl⟩
      · exact q.congr (e.eqOn ha)
      · exact (q.congr (e.eqOn ha)).cons z
  | P =>
    obtain ⟨a, mk, obj, b, c⟩ := H
    refine (JstX.pullG (x := x) hne c).mono fun E' G' h' ⟨e, d⟩ => ⟨a, mk, obj, b.congr (e.eqOn ha), ?_⟩
    rw [← restr_congr (e.eqOn ha)]; exact d
  | A =>
    have hky : ky = .A := by cases ky <;> simp [okSwap] at hok; rfl
    subst hky
    obtain ⟨hg, q, hq, hqe⟩ := hI rfl
    obtain ⟨a, p, hp, hpe, H⟩ := H
    refine ⟨hg, q, hq, hqe, fun c hc => ⟨a, p, hp, hpe.trans (apart_eqOn ha E _), fun b hb => ?_⟩⟩
    have hb' : b ∉ keys (h ++ f) := fun hm => hb (List.mem_cons_of_mem _ hm)
    obtain ⟨_, q', hq', _, H⟩ := H b hb'
    rw [hq] at hq'; cases hq'
    have hcb : c ∉ keys ((b, p.obj) :: h ++ f) := by
      intro hm
      rcases List.mem_cons.1 hm with e | hm
      · exact hb (by rw [show b = c from e.symm]; exact List.mem_cons_self)
      · exact hc hm
    have := H c hcb
    rw [put_comm hs.2.1] at this
    exact hK _ _ _ _ (List.Perm.swap _ _ _) this
  | O =>
    have hky : ky = .A := by cases ky <;> simp [okSwap] at hok; rfl
    subst hky
    obtain ⟨hg, q, hq, hqe⟩ := hI rfl
    refine ⟨hg, q, hq, hqe, fun b hb => ?_⟩
    rcases H with ⟨a, H⟩ | ⟨a, H⟩
    · obtain ⟨_, q', hq', _, H⟩ := H
      rw [hq] at hq'; cases hq'
      exact .inl ⟨(skips_put hs.2.2).2 a, by rw [← put_comm hs.2.1]; exact H b hb⟩
    · refine .inr ⟨(runs_put hs.2.2).2 a, ?_⟩
      have h1 := XV.frame [(b, q.obj)] H
      have hp : List.Perm ((h ++ f) ++ [(b, q.obj)]) ((b, q.obj) :: h ++ f) := List.perm_append_comm (l₁ := h ++ f) (l₂ := [(b, q.obj)])
      refine XV.congr (apart_eqOn ha E _) ((XV.perm hp h1).conv ?_ ?_)
      · rintro v h2 hnd ⟨h'', rfl, h', hp', iv, hj⟩
        obtain ⟨_, q', hq', _, hj⟩ := hj
        rw [hq] at hq'; cases hq'
        have hbn : b ∉ keys (h' ++ f) := by
          intro hm
          rw [keys_append, List.nodup_append] at hnd
          exact hnd.2.2 b (((hp'.map Prod.fst).mem_iff).1 hm) b (by simp [keys]) rfl
        refine ⟨h'' ++ [(b, q.obj)], List.Perm.refl _, (b, q.obj) :: h', ?_, iv.cons _, ?_⟩
        · exact (hp'.cons _).trans (List.perm_append_comm (l₁ := [(b, q.obj)]) (l₂ := h''))
        · rw [← put_comm hs.2.1]; exact hj b hbn
      · rintro c h2 ⟨h'', rfl, hq'⟩
        exact ⟨h'' ++ [(b, q.obj)], h'', List.Perm.refl _, List.sublist_append_left _ _, hq'⟩
theorem JstX.info {k : Kd} {i : Nat} {o : Oper} {G : Prom} {K : Env → Prom → Hp → Prop} (H : JstX P r ops D Q f tbl Ls k i o E G h K) :
    JstX P r ops D Q f tbl Ls k i o E G h (fun E' G' h' => ExtE o E E' ∧ (G' = G ∨ ∃ pr, G' = G.add i pr) ∧ K E' G' h') := by
  cases k with
  | S => exact H.imp (fun ⟨a, b⟩ => ⟨a, .inr ⟨_, rfl⟩, .inl rfl, b⟩) (fun ⟨a, v, b, c⟩ => ⟨a, v, b, .inr ⟨_, rfl⟩, .inl rfl, c⟩)
  | R => exact H.imp (fun ⟨a, b⟩ => ⟨a, .inr ⟨_, rfl⟩, .inl rfl, b⟩) (fun ⟨a, v, b, c⟩ => ⟨a, v, b, .inr ⟨_, rfl⟩, .inl rfl, c⟩)
  | P => obtain ⟨a, mk, obj, b, c⟩ := H; exact ⟨a, mk, obj, b, .inl rfl, .inr ⟨_, rfl⟩, c⟩
  | A => obtain ⟨a, p, b, c, d⟩ := H; exact ⟨a, p, b, c, fun x hx => ⟨.inr ⟨_, rfl⟩, .inl rfl, d x hx⟩⟩
  | O => exact H.imp (fun ⟨a, b⟩ => ⟨a, .inr ⟨_, rfl⟩, .inl rfl, b⟩) (fun ⟨a, b⟩ => ⟨a, b.mono (fun v h2 ⟨h', p, iv, c⟩ => ⟨h', p, iv, .inr ⟨_, rfl⟩, .inl rfl, c⟩) (fun _ _ c => c)⟩)
theorem JX.moveFront {x : Nat} {k : Kd} {ox : Oper} (hx : ops[x]? = some ox) (hd : dstOk N ox.dst = true) {q : List Item} : ∀ (p : List Item) {E : Env} {G : Prom} {h : Hp},
    (∀ z kz, (z, kz) ∈ p → z ≠ x ∧ okSwap kz k = true ∧ ∀ oz, ops[z]? = some oz → oz.apart ops ox = true) →
    (k = .A → ox.guard = none ∧ ∃ pr, G x = some pr ∧ EqOn ox pr.env E) → JX P r N ops D Q f tbl Ls (p ++ (x, k) :: q) E G h → JX P r N ops D Q f tbl Ls ((x, k) :: (p ++ q)) E G h
  | [], _, _, _, _, _, H => H
  | (z, kz) :: p, E, G, h, hp, hI, H => by
    obtain ⟨oz, hoz, hdz, H⟩ := H
    obtain ⟨hne, hok, hap⟩ := hp z kz List.mem_cons_self
    have hap := hap oz hoz
    have H2 : JstX P r ops D Q f tbl Ls kz z oz E G h (fun E' G' h' => JstX P r ops D Q f tbl Ls k x ox E' G' h' (JX P r N ops D Q f tbl Ls (p ++ q))) := by
      refine H.info.mono ?_
      rintro E' G' h' ⟨e, g, H⟩
      have H' := JX.moveFront hx hd p (fun z' kz' hm => hp z' kz' (List.mem_cons_of_mem _ hm)) (fun hk => by
        obtain ⟨hg, pr, h1, h2⟩ := hI hk
        refine ⟨hg, pr, ?_, h2.trans ?_⟩
        · rcases g with rfl | ⟨pr', rfl⟩
          · exact h1
          · simp only [Prom.add]; rw [if_neg (fun e => hne e.symm)]; exact h1
        · rcases e with rfl | ⟨u, rfl⟩
          · exact fun _ _ => rfl
          · exact eqOn_put hap u) H
      obtain ⟨o', ho', _, H'⟩ := H'
      rw [hx] at ho'; cases ho'
      exact H'
    refine ⟨ox, hx, hd, (JstX.swap (K := JX P r N ops D Q f tbl Ls (p ++ q)) hap hok hne hI (fun _ _ _ _ hp' q' => JX.perm _ hp' q') H2).mono ?_⟩
    exact fun E' G' h' H' => ⟨oz, hoz, hdz, H'⟩
theorem JstX.exec {Ep : Env} {k : Kd} {i : Nat} {o : Oper} {G : Prom} {K : Env → Prom → Hp → Prop} {w : World} {a : Act} {QQ : Exit → Act → World → Prop} {next : Act → World → Prop} (ho : ops[i]? = some o) (hd : dstOk N o.dst = true) (hk : k ≠ .P)
    (hG : k = .A → ∀ p, G i = some p → AL P o p.env p.val p.obj) (hw : Own (h ++ f) w) (hIv : k = .S → Holds (lof Ls i) h) (ha : Agree N E a) (hda : a.defers = D) (hEp : ∀ t, o.dst = some t → Ep t = none) (hEa : Agree N Ep a)
    (hn : ∀ E' G' h' a' w', (G' = G) → ExtE o E E' → Agree N E' a' → Agree N Ep a' → a'.defers = D → Fol (h ++ f) w (h' ++ f) w' → ((∀ p, Holds p h → Holds p h') ∨ Keep tbl Ls i h') → K E' G' h' → next a' w') (hq : ∀ ch h' w', Q (.panic ch) emp D h' → Fol (h ++ f) w h' w' → QQ (.panic ch) a w')
    (H : JstX P r ops D Q f tbl Ls k i o E G h K) : wpOpIn (fen r) 0 P ops QQ i next a w := by
  have hput : ∀ v, (a.put o.dst v).defers = D := fun v => by cases o.dst <;> exact hda
  have hput2 : ∀ v, Agree N Ep (a.put o.dst v) := fun v => by
    have h1 := (hEa.put (v := v) (dstOk_lt hd))
    refine ⟨h1.size, fun t u hu => h1.val t u ?_⟩
    rw [put_other (fun e => by rw [hEp t e] at hu; cases hu)]; exact hu
  have hskip : Skips ops o E → K (E.put o.dst undef) G h → wpOpIn (fen r) 0 P ops QQ i next a w := by
    rintro ⟨j, t, v, hg, hgv, hne⟩ hK
    unfold wpOpIn
    simp only [ho]
    have hw' : ¬ Region.wanted o (yielded ops a.tmps) = true := by
      simp only [Region.wanted, hg]
      unfold gv at hgv
      unfold yielded
      cases hdj : (ops[j]?).bind (·.dst) with
      | none => rw [hdj] at hgv; cases hgv
      | some d =>
        rw [hdj] at hgv
        have := ha.val d _ hgv
        cases v <;> simp_all [isb]
    rw [if_neg hw']
    exact ⟨fun _ _ => trivial, hn _ _ _ _ _ rfl (.inr ⟨_, rfl⟩) (ha.put (dstOk_lt hd)) (hput2 _) (hput _) (.refl hw) (.inl fun _ q => q) hK⟩
  have hrun : Runs ops o E → (o.wpIn (fen r) 0 P a w next QQ) → wpOpIn (fen r) 0 P ops QQ i next a w := by
    intro hr hh
    unfold wpOpIn
    simp only [ho]
    have hw' : Region.wanted o (yielded ops a.tmps) = true := by
      rcases hr with hr | ⟨j, t, hg, hgv⟩
      · simp [Region.wanted, hr]
      · simp [Region.wanted, hg, gv_yielded ha hgv]
    rw [if_pos hw']
    exact hh
  have hops : OpsAt E o a := fun x _ v hv => ha.ev hv
  cases k with
  | P => exact absurd rfl hk
  | S =>
    rcases H with ⟨hs, hK⟩ | ⟨hr, v, hv, hK⟩
    · exact hskip hs hK
    · refine hrun hr (hv h (hIv rfl) w a hw hops next QQ ?_ (fun _ _ _ k _ => k.elim))
      rintro v' h' w' ⟨rfl, e⟩ hf
      rw [e] at hf
      exact hn _ _ h _ _ rfl (.inr ⟨_, rfl⟩) (ha.put (dstOk_lt hd)) (hput2 _) (hput _) hf (.inl fun _ q => q) hK
  | R =>
    rcases H with ⟨hs, hK⟩ | ⟨hr, v, hv, hK⟩
    · exact hskip hs hK
    · refine hrun hr (hv w a hw hops next QQ ?_ (fun _ _ _ k _ => k.elim))
      rintro v' h' w' ⟨rfl, e⟩ hf
      rw [e] at hf
      exact hn _ _ h _ _ rfl (.inr ⟨_, rfl⟩) (ha.put (dstOk_lt hd)) (hput2 _) (hput _) hf (.inl fun _ q => q) hK
  | A =>
    obtain ⟨hg, p, hp, he, hK⟩ := H
    have hal := (hG rfl p hp).congr he
    obtain ⟨ρ, hρ1, hρ2⟩ := ops_rho hal.1 hops
    refine hrun (.inl hg) ⟨fun _ _ => trivial, ?_⟩
    rw [Oper.semAt_eq _ _ _ hal.1.1, ← hρ2, hal.2 w ρ hρ1]
    exact hn _ _ ((w.heap.size, p.obj) :: h) _ _ rfl (.inr ⟨_, rfl⟩) (ha.put (dstOk_lt hd)) (hput2 _) (hput _) (Fol.alloc hw _) (.inl fun _ q => q.cons _) (hK _ fun hc => Nat.lt_irrefl _ (hw.lt hc))
  | O =>
    rcases H with ⟨hs, hK⟩ | ⟨hr, hx⟩
    · exact hskip hs hK
    · refine hrun hr (hx w a hw hops next QQ ?_ ?_)
      · rintro v h2 w' ⟨h', hp, iv, hK⟩ hf
        exact hn _ _ h' _ _ rfl (.inr ⟨_, rfl⟩) (ha.put (dstOk_lt hd)) (hput2 _) (hput _) (hf.perm hp) (.inr iv) hK
      · intro ch h2 w' hq' hf
        exact hq ch h2 w' hq' hf
theorem drawX_main {Ep : Env} (hEp : ∀ (i : Nat) (o : Oper), ops[i]? = some o → ∀ t, o.dst = some t → Ep t = none) {tbl : List (List Nat)} {h0 : Hp} {w0 : World} (ht : tblOk ops tbl = true) (hdst : ops.toList.all (fun o : Oper => dstOk N o.dst) = true) :
    ∀ (fuel : Nat) (c : List Item) (listed : Array Bool) (E : Env) (G : Prom) (h : Hp) (w : World) (a : Act), WF ops tbl c listed → (c.filter fun x => x.2 != .P).length ≤ fuel → JX P r N ops D (PanEnv Ep Q) f tbl Ls c E G h →
      Own (h ++ f) w → (∀ x p, (x, p) ∈ Ls → listed.getD x true = false → Holds p h) → Agree N E a → Agree N Ep a → a.defers = D → Fol h0 w0 (h ++ f) w →
      wpAnyIn (fen r) 0 P .any ops (fun e a' w' => ∃ E' h', Q e E' a'.defers h' ∧ Agree N E' a' ∧ Fol h0 w0 h' w') fuel listed a w := by
  have hdst' : ∀ (i : Nat) (o : Oper), ops[i]? = some o → dstOk N o.dst = true := fun i o ho => List.all_eq_true.1 hdst o (by simpa using Array.mem_of_getElem? ho)
  -- where nothing is ready all is done
  have hend : ∀ (c : List Item) (listed : Array Bool), WF ops tbl c listed → Region.ready .any ops listed = [] → c = [] := by
    intro c listed W hready
    have hall : ∀ j, j < ops.size → listed.getD j false = true := by
      intro j
      induction j using Nat.strongRecOn with
      | _ j ih =>
        intro hj
        refine Classical.byContradiction fun hn => ?_
        have hlt : j < listed.size := by rw [W.sz]; exact hj
        obtain ⟨o, ho⟩ : ∃ o, ops[j]? = some o := ⟨_, Array.getElem?_eq_getElem hj⟩
        have hmem : j ∈ Region.ready .any ops listed := by
          refine mem_ready.2 ⟨?_, o, ho, fun e he hb => ?_⟩
          · simp [Array.getD, hlt] at hn ⊢; exact hn
          · have hd : e.on ∈ direct o := List.mem_map.2 ⟨e, List.mem_filter.2 ⟨by simpa using he, hb⟩, rfl⟩
            have := List.all_eq_true.1 ht j (List.mem_range.2 hj)
            simp only [ho, Bool.and_eq_true, List.all_eq_true, decide_eq_true_eq] at this
            have hlt2 := this.2 _ hd
            exact ih _ hlt2 (by omega)
        rw [hready] at hmem; cases hmem
    cases c with
    | nil => rfl
    | cons x c =>
      obtain ⟨i, k⟩ := x
      have hu := W.un i k List.mem_cons_self
      have := hall i hu.1
      have hlt : i < listed.size := by rw [W.sz]; exact hu.1
      simp [Array.getD, hlt] at this hu
      rw [this] at hu; exact absurd hu.2 (by simp)
  have hfin : ∀ (c : List Item) (listed : Array Bool) (E : Env) (G : Prom) (h : Hp) (w : World) (a : Act), WF ops tbl c listed → JX P r N ops D (PanEnv Ep Q) f tbl Ls c E G h → Agree N E a → Agree N Ep a → a.defers = D → Fol h0 w0 (h ++ f) w →
      Region.ready .any ops listed = [] → ∃ E' h', Q .normal E' a.defers h' ∧ Agree N E' a ∧ Fol h0 w0 h' w := by
    intro c listed E G h w a W hj ha hEa hda hf hready
    rw [hend c listed W hready] at hj
    obtain ⟨hh, hp, hq⟩ := hj
    exact ⟨E, hh, by rw [hda]; exact hq, ha, hf.perm hp.symm⟩
  intro fuel
  induction fuel with
  | zero =>
    intro c listed E G h w a W hc hj hw hIv ha hEa hda hf
    have hready : Region.ready .any ops listed = [] := by
      cases hr : Region.ready .any ops listed with
      | nil => rfl
      | cons i l =>
        exfalso
        obtain ⟨h1, o, ho, _⟩ := mem_ready.1 (show i ∈ Region.ready .any ops listed by rw [hr]; exact List.mem_cons_self)
        obtain ⟨k, hk, hm⟩ := W.al i (Array.getElem?_eq_some_iff.1 ho).1 h1
        have : (i, k) ∈ c.filter fun x => x.2 != .P := List.mem_filter.2 ⟨hm, by simpa using hk⟩
        have hl : (c.filter fun x => x.2 != .P).length = 0 := by omega
        rw [List.length_eq_zero_iff.1 hl] at this
        cases this
    exact ⟨hready, hfin c listed E G h w a W hj ha hEa hda hf hready⟩
  | succ fuel ih =>
    intro c listed E G h w a W hc hj hw hIv ha hEa hda hf
    refine ⟨fun hready => hfin c listed E G h w a W hj ha hEa hda hf hready, fun i hi => ?_⟩
    obtain ⟨h1, o, ho, hpre⟩ := mem_ready.1 hi
    have hr : ∀ z ∈ direct o, listed.getD z false = true := by
      intro z hz
      obtain ⟨e, he, rfl⟩ := List.mem_map.1 hz
      obtain ⟨he1, he2⟩ := List.mem_filter.1 he
      exact hpre e (by simpa using he1) he2
    obtain ⟨k, hk, hm⟩ := W.al i (Array.getElem?_eq_some_iff.1 ho).1 h1
    have hd := hdst' i o ho
    -- the step itself, once it stands in front
    have go : ∀ (c' : List Item) (G' : Prom), JX P r N ops D (PanEnv Ep Q) f tbl Ls ((i, k) :: c') E G' h → List.Sublist c' c → (∀ j kj, (j, kj) ∈ c' ↔ (j, kj) ∈ c ∧ j ≠ i) →
        (k = .A → ∀ p, G' i = some p → AL P o p.env p.val p.obj) →
        wpOpIn (fen r) 0 P ops (fun e a' w' => ∃ E' h', Q e E' a'.defers h' ∧ Agree N E' a' ∧ Fol h0 w0 h' w') i (wpAnyIn (fen r) 0 P .any ops (fun e a' w' => ∃ E' h', Q e E' a'.defers h' ∧ Agree N E' a' ∧ Fol h0 w0 h' w') fuel (listed.setIfInBounds i true)) a w := by
      intro c' G' hj' hs hmem hal
      obtain ⟨o', ho', _, hst⟩ := hj'
      rw [ho] at ho'; cases ho'
      refine JstX.exec (Ep := Ep) ho hd hk hal hw (fun _ => by
        rcases lof_mem Ls i with e9 | e9
        · rw [e9]; exact .nil
        · exact hIv i _ e9 (by
            have hlt := (Array.getElem?_eq_some_iff.1 ho).1
            have hls : i < listed.size := by rw [W.sz]; exact hlt
            simp [Array.getD, hls] at h1 ⊢; exact h1)) ha hda (hEp i o ho) hEa ?_ ?_ hst
      · intro E' G2 h' a' w' _ _ ha' hEa' hda' hf' iv' hK
        refine ih c' _ E' G2 h' w' a' (W.step ho hr hs hmem) ?_ hK hf'.own (fun x p hxp hl9 => by
          have hls : i < listed.size := by rw [W.sz]; exact (Array.getElem?_eq_some_iff.1 ho).1
          rw [getD_set hls] at hl9
          split at hl9
          · cases hl9
          · rename_i hne9
            rcases iv' with q9 | q9
            · exact q9 p (hIv x p hxp hl9)
            · rcases q9 x p hxp with q8 | q8
              · have q7 := tbl_sound ht W.dc i o ho hr x q8
                exfalso
                by_cases hx9 : x < listed.size
                · simp [Array.getD, hx9] at hl9 q7; rw [hl9] at q7; cases q7
                · simp [Array.getD, hx9] at q7
              · exact q8) ha' hEa' hda' (hf.trans hf')
        have hlt : ((i, k) :: c').length ≤ _ := Nat.le_refl _
        have hsub : List.Sublist (c'.filter fun x => x.2 != .P) (c.filter fun x => x.2 != .P) := hs.filter _
        have hne : (c'.filter fun x => x.2 != .P).length ≠ (c.filter fun x => x.2 != .P).length := by
          intro e
          have e2 := hsub.eq_of_length e
          have : (i, k) ∈ c'.filter fun x => x.2 != .P := by rw [e2]; exact List.mem_filter.2 ⟨hm, by simpa using hk⟩
          exact ((hmem i k).1 (List.mem_filter.1 this).1).2 rfl
        have := hsub.length_le
        omega
      · intro ch h' w' hq hf'
        exact ⟨Ep, h', by rw [hda]; exact hq, hEa, hf.trans hf'⟩
    by_cases hkA : k = .A
    · subst hkA
      have hmP := W.ap i hm
      obtain ⟨p, q, rfl⟩ := List.append_of_mem hmP
      have hnd := wf_nodup W.pr
      have hnp : (i, Kd.P) ∉ p := fun hmm => by
        rw [List.nodup_append] at hnd
        exact hnd.2.2 _ hmm _ List.mem_cons_self rfl
      have hj1 := JX.moveFront ho hd p (W.front ht ho hr (List.Sublist.refl _) hnp) (fun e => by cases e) hj
      obtain ⟨o', ho', _, hg, mk, obj, hal, hj2⟩ := hj1
      rw [ho] at ho'; cases ho'
      have hmA : (i, Kd.A) ∈ p ++ q := by
        rcases List.mem_append.1 hm with hm | hm
        · exact List.mem_append_left _ hm
        · rcases List.mem_cons.1 hm with e | hm
          · cases e
          · exact List.mem_append_right _ hm
      have hs1 : List.Sublist (p ++ q) (p ++ (i, Kd.P) :: q) := (List.Sublist.refl p).append (List.sublist_cons_self _ _)
      have hmP2 : ∀ kk, (i, kk) ∈ p ++ q → kk = .A := by
        intro kk hkk
        obtain ⟨p2, q2, e2⟩ := List.append_of_mem hmA
        by_cases hkk2 : kk = .A
        · exact hkk2
        · exfalso
          have hmem2 : (i, kk) ∈ p2 ++ q2 := by
            rw [e2] at hkk
            rcases List.mem_append.1 hkk with h3 | h3
            · exact List.mem_append_left _ h3
            · rcases List.mem_cons.1 h3 with h3 | h3
              · cases h3; exact absurd rfl hkk2
              · exact List.mem_append_right _ h3
          have := one_np (ops := ops) (tbl := tbl) (x := i) (k := .A) (by rw [← e2]; exact pairs_sub hs1 W.pr) (by simp) hmem2
          obtain ⟨rfl, _, _⟩ := this
          rw [List.nodup_append] at hnd
          rcases List.mem_append.1 hkk with h3 | h3
          · exact hnp h3
          · exact (List.nodup_cons.1 hnd.2.1).1 h3
      obtain ⟨p2, q2, e2⟩ := List.append_of_mem hmA
      rw [e2] at hj2
      have hs2 : List.Sublist (p2 ++ (i, Kd.A) :: q2) (p ++ (i, Kd.P) :: q) := by rw [← e2]; exact hs1
      have hnp2 : (i, Kd.P) ∉ p2 := fun hmm => by
        have := hmP2 .P (by rw [e2]; exact List.mem_append_left _ hmm)
        cases this
      have hj3 := JX.moveFront ho hd p2 (W.front ht ho hr hs2 hnp2) (fun _ => ⟨hg, ⟨mk, obj, restr o E⟩, by simp [Prom.add], restr_eqOn o E⟩) hj2
      refine go (p2 ++ q2) _ hj3 (((List.Sublist.refl p2).append (List.sublist_cons_self _ _)).trans hs2) ?_ ?_
      · intro j kj
        constructor
        · intro hmm
          have hmm2 : (j, kj) ∈ p ++ q := by
            rw [e2]
            rcases List.mem_append.1 hmm with h3 | h3
            · exact List.mem_append_left _ h3
            · exact List.mem_append_right _ (List.mem_cons_of_mem _ h3)
          refine ⟨hs1.subset hmm2, ?_⟩
          rintro rfl
          have := hmP2 kj hmm2
          subst this
          have hnd2 : (p2 ++ (j, Kd.A) :: q2).Nodup := by rw [← e2]; exact hs1.nodup hnd
          rw [List.nodup_append] at hnd2
          rcases List.mem_append.1 hmm with h3 | h3
          · exact hnd2.2.2 _ h3 _ List.mem_cons_self rfl
          · exact (List.nodup_cons.1 hnd2.2.1).1 h3
        · rintro ⟨h3, hne⟩
          have h4 : (j, kj) ∈ p ++ q := by
            rcases List.mem_append.1 h3 with h5 | h5
            · exact List.mem_append_left _ h5
            · rcases List.mem_cons.1 h5 with h5 | h5
              · cases h5; exact absurd rfl hne
              · exact List.mem_append_right _ h5
          rw [e2] at h4
          rcases List.mem_append.1 h4 with h5 | h5
          · exact List.mem_append_left _ h5
          · rcases List.mem_cons.1 h5 with h5 | h5
            · cases h5; exact absurd rfl hne
            · exact List.mem_append_right _ h5
      · intro _ pr hpr
        simp [Prom.add] at hpr
        subst hpr
        exact hal.congr (restr_eqOn o E).symm
    · obtain ⟨p, q, rfl⟩ := List.append_of_mem hm
      have hone : ∀ kk, (i, kk) ∉ p ++ q := fun kk hkk => hkA (one_np W.pr hk hkk).2.1
      have hj1 := JX.moveFront ho hd p (W.front ht ho hr (List.Sublist.refl _) (fun hmm => hone _ (List.mem_append_left _ hmm))) (fun e => absurd e hkA) hj
      refine go (p ++ q) G hj1 ((List.Sublist.refl p).append (List.sublist_cons_self _ _)) ?_ (fun e => absurd e hkA)
      intro j kj
      constructor
      · intro hmm
        refine ⟨((List.Sublist.refl p).append (List.sublist_cons_self _ _)).subset hmm, ?_⟩
        rintro rfl
        exact hone kj hmm
      · rintro ⟨h3, hne⟩
        rcases List.mem_append.1 h3 with h5 | h5
        · exact List.mem_append_left _ h5
        · rcases List.mem_cons.1 h5 with h5 | h5
          · cases h5; exact absurd rfl hne
          · exact List.mem_append_right _ h5
theorem xc_drawX {id : Nat} {h' : Hp} (c : List Item) (f h : Hp) (hm : P.follows .mixedOrders = true) (hck : drawOk N ops c = true) (hp : List.Perm (h ++ f) h') (hIv : ∀ x p, (x, p) ∈ Ls → Holds p h) (H : JX P r N ops D (PanEnv (mask ops E) Q) f (clos ops) Ls c E (fun _ => none) h) : XC P r N (.region id ops true) Q E D h' := by
  refine XC.perm hp ?_
  intro w a ho ha hda
  simp only [drawOk, Bool.and_eq_true] at hck
  obtain ⟨ht, hpr, hdst, hall, hit, hlen⟩ := hck
  refine wpIn_region_any hm ?_
  have hEp : ∀ (i : Nat) (o : Oper), ops[i]? = some o → ∀ t, o.dst = some t → mask ops E t = none := by
    intro i o hio t ht
    have : t ∈ dsts ops := List.mem_filterMap.2 ⟨o, by simpa using Array.mem_of_getElem? hio, ht⟩
    simp [mask, this]
  have hEa : Agree N (mask ops E) a := by
    refine ⟨ha.size, fun t v hv => ha.val t v ?_⟩
    unfold mask at hv
    split at hv
    · cases hv
    · exact hv
  refine drawX_main (Ep := mask ops E) hEp (h0 := h ++ f) (w0 := w) ht hdst ops.size c _ E _ h _ a ⟨hpr, ?_, ?_, ?_, ?_, ?_, by simp, ?_⟩ (of_decide_eq_true hlen) H (ho.drew _) (fun x p hm _ => hIv x p hm) ha hEa hda (Fol.refl (ho.drew _)).drew
  · intro i k hik
    have := List.all_eq_true.1 hit (i, k) hik
    simp only [Bool.and_eq_true, decide_eq_true_eq] at this
    exact ⟨this.1, by simp [Array.getD, this.1]⟩
  · intro i hi _
    have := List.all_eq_true.1 hall i (List.mem_range.2 hi)
    simp only [Bool.or_eq_true, List.contains_iff_mem] at this
    rcases this with ((h1 | h1) | h1) | h1
    · exact ⟨_, by simp, h1⟩
    · exact ⟨_, by simp, h1⟩
    · exact ⟨_, by simp, h1⟩
    · exact ⟨_, by simp, h1⟩
  · intro i hi
    have := List.all_eq_true.1 hit (i, .A) hi
    simp only [Bool.and_eq_true, Bool.or_eq_true, List.contains_iff_mem] at this
    rcases this.2.1 with h1 | h1
    · simp at h1
    · exact h1.2
  · intro i hi
    have := List.all_eq_true.1 hit (i, .P) hi
    simp only [Bool.and_eq_true, Bool.or_eq_true, List.contains_iff_mem] at this
    rcases this.2.2 with h1 | h1
    · simp at h1
    · exact h1
  · intro i o hi ho'
    have := List.all_eq_true.1 hit (i, .A) hi
    simp only [Bool.and_eq_true, Bool.or_eq_true, ho'] at this
    rcases this.2.1 with h1 | h1
    · simp at h1
    · simpa using h1.1
  · intro j o hj
    simp [Array.getD] at hj
end Go.H
namespace Go.H
open Go
section
variable {P : Program} {r : Option Nat} {N : Nat} {Q : Post} {E : Env} {D : List Deferred} {h : Hp} {ops : Array Oper} {tbl : List (List Nat)} {Ls : LsT} {G : Prom} {l : List Item}
theorem jx_S {i : Nat} {o : Oper} {v : Value} (hi : ops[i]? = some o) (hd : dstOk N o.dst = true) (hr : Runs ops o E) (H : XV P r o (fun v' h' => v' = v ∧ h' = []) (fun _ _ => False) E []) (H2 : JX P r N ops D Q [] tbl Ls l (E.put o.dst v) G h) : JX P r N ops D Q [] tbl Ls ((i, .S) :: l) E G h :=
  ⟨o, hi, hd, .inr ⟨hr, v, fun hh _ => qv_ext H hh, H2⟩⟩
theorem jx_I {i : Nat} {o : Oper} {v : Value} (hi : ops[i]? = some o) (hd : dstOk N o.dst = true) (hr : Runs ops o E) (H : ∀ hh, Holds (lof Ls i) hh → XV P r o (fun v' h' => v' = v ∧ h' = hh) (fun _ _ => False) E hh) (H2 : JX P r N ops D Q [] tbl Ls l (E.put o.dst v) G h) : JX P r N ops D Q [] tbl Ls ((i, .S) :: l) E G h :=
  ⟨o, hi, hd, .inr ⟨hr, v, fun hh hv => by rw [List.append_nil]; exact H hh hv, H2⟩⟩
theorem jx_R {i : Nat} {o : Oper} {v : Value} (hi : ops[i]? = some o) (hd : dstOk N o.dst = true) (hr : Runs ops o E) (H : XV P r o (fun v' h' => v' = v ∧ h' = h) (fun _ _ => False) E h) (H2 : JX P r N ops D Q [] tbl Ls l (E.put o.dst v) G h) : JX P r N ops D Q [] tbl Ls ((i, .R) :: l) E G h :=
  ⟨o, hi, hd, .inr ⟨hr, v, by rw [List.append_nil]; exact H, H2⟩⟩
theorem jx_P {i : Nat} {o : Oper} {mk : Nat → Value} {obj : Obj} (hi : ops[i]? = some o) (hd : dstOk N o.dst = true) (hg : o.guard = none) (H : AL P o E mk obj) (H2 : JX P r N ops D Q [] tbl Ls l E (G.add i ⟨mk, obj, restr o E⟩) h) : JX P r N ops D Q [] tbl Ls ((i, .P) :: l) E G h :=
  ⟨o, hi, hd, hg, mk, obj, H, H2⟩
theorem jx_A {i : Nat} {o : Oper} {mk : Nat → Value} {obj : Obj} {E0 : Env} {tl : List Nat} (hi : ops[i]? = some o) (hd : dstOk N o.dst = true) (hg : o.guard = none) (hG : G i = some ⟨mk, obj, restr o E0⟩) (ht : tmpsOf o.op.operands.toList = tl) (he : EqL tl E0 E)
    (H2 : ∀ b, b ∉ keys h → JX P r N ops D Q [] tbl Ls l (E.put o.dst (mk b)) G ((b, obj) :: h)) : JX P r N ops D Q [] tbl Ls ((i, .A) :: l) E G h :=
  ⟨o, hi, hd, hg, _, hG, (restr_eqOn o E0).trans (fun t hm => eqL_mem he t (by rw [← ht]; exact mem_tmpsOf (by simpa using hm))), fun b hb => H2 b (by rwa [List.append_nil] at hb)⟩
theorem jx_O {i : Nat} {o : Oper} (hi : ops[i]? = some o) (hd : dstOk N o.dst = true) (hr : Runs ops o E) (H : XV P r o (fun v h' => Keep tbl Ls i h' ∧ JX P r N ops D Q [] tbl Ls l (E.put o.dst v) G h') (fun ch h'' => Q (.panic ch) emp D h'') E h) : JX P r N ops D Q [] tbl Ls ((i, .O) :: l) E G h :=
  ⟨o, hi, hd, .inr ⟨hr, by rw [List.append_nil]; exact H.mono (fun v h' k => ⟨h', by simp, k.1, k.2⟩) (fun _ _ k => k)⟩⟩
theorem jx_Ss {i : Nat} {o : Oper} (hi : ops[i]? = some o) (hd : dstOk N o.dst = true) (hr : Skips ops o E) (H2 : JX P r N ops D Q [] tbl Ls l (E.put o.dst undef) G h) : JX P r N ops D Q [] tbl Ls ((i, .S) :: l) E G h := ⟨o, hi, hd, .inl ⟨hr, H2⟩⟩
theorem jx_Rs {i : Nat} {o : Oper} (hi : ops[i]? = some o) (hd : dstOk N o.dst = true) (hr : Skips ops o E) (H2 : JX P r N ops D Q [] tbl Ls l (E.put o.dst undef) G h) : JX P r N ops D Q [] tbl Ls ((i, .R) :: l) E G h := ⟨o, hi, hd, .inl ⟨hr, H2⟩⟩
theorem jx_Os {i : Nat} {o : Oper} (hi : ops[i]? = some o) (hd : dstOk N o.dst = true) (hr : Skips ops o E) (H2 : JX P r N ops D Q [] tbl Ls l (E.put o.dst undef) G h) : JX P r N ops D Q [] tbl Ls ((i, .O) :: l) E G h := ⟨o, hi, hd, .inl ⟨hr, H2⟩⟩
theorem jx_end {Ep : Env} (H : Q .normal E D h) : JX P r N ops D (PanEnv Ep Q) [] tbl Ls [] E G h := ⟨h, by simp, H⟩
theorem xc_drawX0 {id : Nat} (Ls : LsT) (c : List Item) (hm : P.follows .mixedOrders = true) (hck : drawOk N ops c = true) (hIv : ∀ x p, (x, p) ∈ Ls → Holds p h) (H : JX P r N ops D (PanEnv (mask ops E) Q) [] (clos ops) Ls c E (fun _ => none) h) : XC P r N (.region id ops true) Q E D h :=
  xc_drawX c [] h hm hck (by simp) hIv H
theorem kp_nil {tbl : List (List Nat)} {y : Nat} {h : Hp} : Keep tbl [] y h := fun _ _ hm => (List.not_mem_nil hm).elim
theorem kp_go {tbl : List (List Nat)} {y x : Nat} {p : List (Nat × (Obj → Prop))} {Ls : LsT} {h : Hp} (h1 : (tbl.getD y []).contains x = true) (H : Keep tbl Ls y h) : Keep tbl ((x, p) :: Ls) y h := fun x' p' hm => by
  rcases List.mem_cons.1 hm with e | hm
  · cases e; exact .inl (by simpa using h1)
  · exact H x' p' hm
theorem kp_in {tbl : List (List Nat)} {y x : Nat} {p : List (Nat × (Obj → Prop))} {Ls : LsT} {h : Hp} (h1 : Holds p h) (H : Keep tbl Ls y h) : Keep tbl ((x, p) :: Ls) y h := fun x' p' hm => by
  rcases List.mem_cons.1 hm with e | hm
  · cases e; exact .inr h1
  · exact H x' p' hm
theorem iv_nil {h : Hp} : ∀ x p, (x, p) ∈ ([] : LsT) → Holds p h := fun _ _ hm => (List.not_mem_nil hm).elim
theorem iv_cons {x : Nat} {p : List (Nat × (Obj → Prop))} {Ls : LsT} {h : Hp} (h1 : Holds p h) (H : ∀ x p, (x, p) ∈ Ls → Holds p h) : ∀ x' p', (x', p') ∈ ((x, p) :: Ls) → Holds p' h := fun x' p' hm => by
  rcases List.mem_cons.1 hm with e | hm
  · cases e; exact h1
  · exact H x' p' hm
end
end Go.H

/-
  Strings and rows of bytes; a builder's pointer; functions without a body.
-/
set_option linter.all false
namespace Go.H
open Go
def eU (b : UInt8) : List Value := [.int .u8 (b.toNat : Int)]
theorem eU_len (x : UInt8) : (eU x).length = 1 := rfl
abbrev S (l : List UInt8) : Value := .string ⟨l.toArray⟩
theorem eU_flat : ∀ l : List UInt8, l.flatMap eU = l.map (fun b => Value.int .u8 (b.toNat : Int))
  | [] => rfl
  | _ :: l => congrArg _ (eU_flat l)
theorem strCells_S (l : List UInt8) : Lib.strCells ⟨l.toArray⟩ = l.flatMap eU := by rw [eU_flat]; rfl
theorem eU_flen (l : List UInt8) : (l.flatMap eU).length = l.length := by rw [eU_flat, List.length_map]
theorem size_S (l : List UInt8) : (⟨l.toArray⟩ : ByteArray).size = l.length := rfl
section
variable {P : Program} {r : Option Nat} {E : Env} {h h' g : Hp} {K : Value → Hp → Prop} {T : List PanicEntry → Hp → Prop} {dst : Option Nat} {ty : TypeId} {pos : String} {af : Array Edge} {gd : Option (Nat × Bool)}
theorem xv_appS {x y : Operand} {t u e : TypeId} {d : TD} {V : Vec} {n : Nat} {xs : List Value} {l : List UInt8} (ht : SlT P t e) (hu : P.underlying u = some .string) (hd : TyOk P e d) (hz : d.zero.cells.size = 1) (hs : d.size = 1) (hby : d.bytes = 1)
    (hx : ev E x = some (V.val n)) (hy : ev E y = some (S l)) (hV : V.ok 1 n xs) (hp : Tk (V.hp e xs) h g) (hb : n + l.length ≤ 140737488355328)
    (H : ∀ V' : Vec, V'.ok 1 (n + l.length) (xs ++ l.flatMap eU) → K (V'.val (n + l.length)) (V'.hp e (xs ++ l.flatMap eU) ++ g)) : XV P r ⟨dst, .call ⟨.builtin .append, #[x, y], #[t, u]⟩, ty, pos, af, gd⟩ K T E h := by
  refine XV.perm hp.perm.symm (xv_of_run (by simp [plainOp]) fun w ρ ho he => ?_)
  obtain ⟨i, hi, his, hib, hiz⟩ := hd.info
  have hi1 : i.size = 1 := by rw [his, hs]
  have hib1 : i.bytes = 1 := by rw [hib, hby]
  obtain ⟨cs, hcs⟩ := run_builtin (P := P) (dst := dst) (ty := ty) (pos := pos) (af := af) (gd := gd) ρ .append #[x, y] #[t, u] w
  have hbase : (execOp ρ ⟨dst, .call ⟨.builtin .append, #[x, y], #[t, u]⟩, ty, pos, af, gd⟩).run P w = ((Builtin.append_ #[t, u] ty #[V.val n, S l]).run P w).andThen fun v w' => .ok (.value v) w' := by
    rw [hcs]; simp [builtin, he _ _ hx, he _ _ hy]
  rw [hbase]
  cases V with
  | nil =>
    obtain ⟨hx1, rfl⟩ := hV
    have hxs : xs = [] := List.length_eq_zero_iff.1 (by simpa using hx1)
    subst hxs
    by_cases h0 : l = []
    · subst h0
      have hr : (Builtin.append_ #[t, u] ty #[Vec.val .nil 0, S []]).run P w = .ok (.slice none 0 0) w := by
        have h9 : (⟨#[]⟩ : ByteArray).size = 0 := rfl
        simp [Vec.val, Builtin.append_, run_underlying ht, run_underlying hu, sizeOf, typeInfo, hi, Builtin.lenOf, Builtin.firstCells, h9]
      refine ⟨_, _, w, by rw [hr]; rfl, H .nil ⟨rfl, rfl⟩, .refl ho⟩
    · have hl0 : 0 < l.length := List.length_pos_iff.2 h0
      simp only [Nat.zero_add] at H hb
      have hcap : l.length ≤ grownCap w l.length 0 e := by unfold grownCap; simp [Question.cut]
      have hr := run_append_nil_string (P := P) w t u ty e i d.zero ht hu hi hiz ⟨l.toArray⟩ (by rw [size_S]; exact hl0) (by rw [size_S]; omega) (by rw [size_S, hib1]; omega)
      rw [size_S] at hr
      refine ⟨_, _, _, by rw [show Vec.val .nil 0 = .slice none 0 0 from rfl, hr]; rfl, H (.at w.heap.size (grownCap w l.length 0 e) (Builtin.zeroCells d.zero.cells (grownCap w l.length 0 e - l.length)).toList) ?_, ?_⟩
      · refine ⟨by rw [List.nil_append, eU_flen, Nat.mul_one], by simpa using hcap, ?_⟩
        simp only [List.nil_append, List.length_append, eU_flen, Array.length_toList, size_zeroCells, hz]
        omega
      · have := (Fol.alloc (ho.drew (w.drawn + 1)) (.cells (Array.map (fun b : UInt8 => Value.int .u8 (b.toNat : Int)) l.toArray ++ Builtin.zeroCells d.zero.cells (grownCap w l.length 0 e - l.length)) e)).drew
        have e2 : (⟨l.flatMap eU ++ (Builtin.zeroCells d.zero.cells (grownCap w l.length 0 e - l.length)).toList⟩ : Array Value) = Array.map (fun b : UInt8 => Value.int .u8 (b.toNat : Int)) l.toArray ++ Builtin.zeroCells d.zero.cells (grownCap w l.length 0 e - l.length) := by apply Array.ext'; simp [eU_flat]
        simp only [Vec.hp, List.nil_append, List.cons_append, e2]
        exact this
  | «at» b cap sp =>
    obtain ⟨hx1, hx2, hx3⟩ := hV
    rw [Nat.mul_one] at hx1 hx3
    have hg : w.heap[b]? = some (.cells ⟨xs ++ sp⟩ e (0, 0)) := ho.has _ _ List.mem_cons_self
    by_cases hroom : n + l.length ≤ cap
    · have hr := Lib.run_append_room_string (P := P) w t u ty e i ht hu hi hi1 b n cap ⟨xs ++ sp⟩ hg ⟨l.toArray⟩ (by rw [size_S]; exact hroom) (by rw [size_S]; show _ ≤ (xs ++ sp).length; omega)
      rw [size_S, strCells_S] at hr
      have hcur : ((xs ++ sp).take n ++ l.flatMap eU ++ (xs ++ sp).drop (n + l.length)) = (xs ++ l.flatMap eU) ++ sp.drop l.length := by
        rw [← hx1, List.take_left, List.drop_append]
        have : List.drop (xs.length + l.length) xs = [] := List.drop_eq_nil_of_le (by omega)
        rw [this]; simp
      refine ⟨_, _, _, by rw [show Vec.val (.at b cap sp) n = .slice (some ⟨b, 0, none⟩) n cap from rfl, hr]; rfl, H (.at b cap (sp.drop l.length)) ?_, ?_⟩
      · refine ⟨by rw [List.length_append, hx1, eU_flen, Nat.mul_one], hroom, ?_⟩
        simp only [List.length_append, List.length_drop, eU_flen] at hx3 ⊢
        omega
      · have := fol_row ho (List.mem_cons_self (a := (b, Obj.cells ⟨xs ++ sp⟩ e (0, 0))) (l := g)) ((xs ++ l.flatMap eU) ++ sp.drop l.length)
        simp only [Vec.hp, List.cons_append, List.nil_append, setH, if_true] at this ⊢
        rw [show ((⟨xs ++ sp⟩ : Array Value).toList.take n ++ l.flatMap eU ++ (⟨xs ++ sp⟩ : Array Value).toList.drop (n + l.length)) = (xs ++ l.flatMap eU) ++ sp.drop l.length from hcur]
        exact this
    · have hgt : cap < n + l.length := by omega
      have hold : ∀ j v, xs[j]? = some v → w.cell? ((⟨b, 0, none⟩ : Addr).add j) = some v := by
        intro j v hv
        rw [addr_add]
        simp only [World.cell?, hg]
        have hlt : j < xs.length := (List.getElem?_eq_some_iff.1 hv).1
        simp [List.getElem?_append_left hlt, hv]
      have hfit : Builtin.nextslicecap (n + l.length) cap * i.bytes ≤ 281474976710656 := by
        rw [hib1]
        have := nextslicecap_le hgt
        omega
      have hr := Lib.run_append_grow_string (P := P) w t u ty e i d.zero ht hu hi hiz ⟨b, 0, none⟩ n cap xs (by rw [hi1, Nat.mul_one]; exact hx1) hold ⟨l.toArray⟩ (by rw [size_S]; exact hgt) (by rw [size_S]; omega) (by rw [size_S]; exact hfit)
      rw [size_S, strCells_S] at hr
      have hcap : n + l.length ≤ grownCap w (n + l.length) cap e := by unfold grownCap; simp [Question.cut]
      refine ⟨_, _, _, by rw [show Vec.val (.at b cap sp) n = .slice (some ⟨b, 0, none⟩) n cap from rfl, hr]; rfl, H (.at w.heap.size (grownCap w (n + l.length) cap e) (Builtin.zeroCells d.zero.cells (grownCap w (n + l.length) cap e - (n + l.length))).toList) ?_, ?_⟩
      · refine ⟨by rw [List.length_append, hx1, eU_flen, Nat.mul_one], hcap, ?_⟩
        simp only [List.length_append, hx1, eU_flen, Array.length_toList, size_zeroCells, hz]
        omega
      · have := fol_grow ho (.cells (xs.toArray ++ (l.flatMap eU).toArray ++ Builtin.zeroCells d.zero.cells (grownCap w (n + l.length) cap e - (n + l.length))) e)
        have e2 : (⟨xs ++ l.flatMap eU ++ (Builtin.zeroCells d.zero.cells (grownCap w (n + l.length) cap e - (n + l.length))).toList⟩ : Array Value) = xs.toArray ++ (l.flatMap eU).toArray ++ Builtin.zeroCells d.zero.cells (grownCap w (n + l.length) cap e - (n + l.length)) := by apply Array.ext'; simp
        simp only [Vec.hp, List.nil_append, List.cons_append, e2]
        exact this
theorem xv_mkz {x y : Operand} {t u e : TypeId} {d : TD} {k kn : IntKind} {c : Nat} (ht : SlT P t e) (hu : P.underlying u = some (.int kn)) (hd : TyOk P e d) (hz : d.zero.cells.size = 1) (hs : d.size = 1) (hby : d.bytes = 1)
    (hx : ev E x = some (.slice none 0 0)) (hy : ev E y = some (.int k (c : Int))) (h0 : 0 < c) (hb : c ≤ 281474976710656)
    (H : ∀ (b cap : Nat) (l : List Value), b ∉ keys h → l.length = cap → c ≤ cap → cap ≤ 9223372036854775807 → K (.slice (some ⟨b, 0, none⟩) c cap) ((b, .cells ⟨l⟩ e (0, 0)) :: h)) : XV P r ⟨dst, .call ⟨.builtin .append, #[x, y], #[t, u]⟩, ty, pos, af, gd⟩ K T E h :=
  xv_of_run (by simp [plainOp]) fun w ρ ho he => by
    obtain ⟨i, hi, his, hib, hiz⟩ := hd.info
    have hi1 : i.size = 1 := by rw [his, hs]
    have hib1 : i.bytes = 1 := by rw [hib, hby]
    obtain ⟨cs, hcs⟩ := run_builtin (P := P) (dst := dst) (ty := ty) (pos := pos) (af := af) (gd := gd) ρ .append #[x, y] #[t, u] w
    have hbase : (execOp ρ ⟨dst, .call ⟨.builtin .append, #[x, y], #[t, u]⟩, ty, pos, af, gd⟩).run P w = ((Builtin.append_ #[t, u] ty #[.slice none 0 0, .int k (c : Int)]).run P w).andThen fun v w' => .ok (.value v) w' := by
      rw [hcs]; simp [builtin, he _ _ hx, he _ _ hy]
    rw [hbase]
    have hr := Lib.run_append_nil_zeros (P := P) w t u ty e i d.zero k kn ht hu hi hiz c h0 (by rw [hi1]; decide) (by omega) (by rw [hib1]; omega)
    have hcap : c ≤ grownCap w c 0 e := by unfold grownCap; simp [Question.cut]
    refine ⟨_, _, _, by rw [hr]; rfl, H w.heap.size (grownCap w c 0 e) (Builtin.zeroCells d.zero.cells c ++ Builtin.zeroCells d.zero.cells (grownCap w c 0 e - c)).toList (fun hc => Nat.lt_irrefl _ (ho.lt hc)) ?_ hcap (by have := grownCap_le_maxLen w c 0 e (by simp only [maxLen]; omega); simp only [maxLen] at this; omega), (Fol.alloc (ho.drew (w.drawn + 1)) _).drew⟩
    rw [Array.length_toList, Array.size_append, size_zeroCells, size_zeroCells, hz]
    omega
theorem xv_copyW {x y : Operand} {t u e te tu : TypeId} {d : TD} {b n c m cl bu ou : Nat} {l lu news : List Value} {fz : Nat × Nat} (ht : SlT P t e) (hd : TyOk P e d) (hsz : d.size = 1)
    (hx : ev E x = some (.slice (some ⟨b, 0, none⟩) n c)) (hy : ev E y = some (.slice (some ⟨bu, ou, none⟩) m cl)) (hmu : (bu, .cells ⟨lu⟩ tu fz) ∈ h) (hlu : (lu.drop ou).take m = news) (hnl : news.length = m) (h1 : news.all Value.oneCell' = true) (hmn : m ≤ n) (hl : m ≤ l.length)
    (hm : Upd h b (.cells ⟨l⟩ te (0, 0)) (.cells ⟨news ++ l.drop m⟩ te (0, 0)) h') (H : K (.int .i64 m) h') : XV P r ⟨dst, .call ⟨.builtin .copy, #[x, y], #[t, u]⟩, ty, pos, af, gd⟩ K T E h :=
  xv_of_run (by simp [plainOp]) fun w ρ ho he => by
    obtain ⟨i, hi, his, hib, hiz⟩ := hd.info
    have hinf : (P.info? e).map (·.size) = some 1 := by rw [hi]; simp [his, hsz]
    obtain ⟨cs, hcs⟩ := run_builtin (P := P) (dst := dst) (ty := ty) (pos := pos) (af := af) (gd := gd) ρ .copy #[x, y] #[t, u] w
    have hbase : (execOp ρ ⟨dst, .call ⟨.builtin .copy, #[x, y], #[t, u]⟩, ty, pos, af, gd⟩).run P w = ((Builtin.copy_ #[t, u] ty #[.slice (some ⟨b, 0, none⟩) n c, .slice (some ⟨bu, ou, none⟩) m cl]).run P w).andThen fun v w' => .ok (.value v) w' := by
      rw [hcs]; simp [builtin, he _ _ hx, he _ _ hy]
    rw [hbase]
    have hub := ho.has _ _ hmu
    have hg := ho.has _ _ hm.mem
    have hr := run_copy_row (P := P) w t u ty e b 0 n c ⟨bu, ou, none⟩ m cl ⟨l⟩ te news ht hinf hg (by rw [hnl]; exact (Nat.min_eq_left hmn).symm) (cells_read (m := m) (sz := 1) hub (by rw [Nat.mul_one]; exact hlu) (by rw [hnl, Nat.mul_one])) (by rw [hnl]; show 0 + _ ≤ l.length; omega) (List.all_eq_true.1 h1)
    refine ⟨.int .i64 (m : Int), h', w.setRow b ⟨news ++ l.drop m⟩, ?_, H, ?_⟩
    · rw [hr, hnl]
      simp only [List.take_zero, List.nil_append, Nat.zero_add]
      rfl
    · have h9 := fol_row ho hm.mem (news ++ l.drop m)
      rw [hm.set ho.nd] at h9
      exact h9
theorem xv_copyN {x y : Operand} {t u e : TypeId} {d : TD} {n c m cl : Nat} {a al : Option Addr} (ht : SlT P t e) (hd : TyOk P e d) (hsz : d.size = 1)
    (hx : ev E x = some (.slice a n c)) (hy : ev E y = some (.slice al m cl)) (hn : Nat.min m n = 0) (H : K (.int .i64 0) h) : XV P r ⟨dst, .call ⟨.builtin .copy, #[x, y], #[t, u]⟩, ty, pos, af, gd⟩ K T E h :=
  xv_of_run (by simp [plainOp]) fun w ρ ho he => by
    obtain ⟨i, hi, his, hib, hiz⟩ := hd.info
    have hinf : (P.info? e).map (·.size) = some 1 := by rw [hi]; simp [his, hsz]
    obtain ⟨cs, hcs⟩ := run_builtin (P := P) (dst := dst) (ty := ty) (pos := pos) (af := af) (gd := gd) ρ .copy #[x, y] #[t, u] w
    have hbase : (execOp ρ ⟨dst, .call ⟨.builtin .copy, #[x, y], #[t, u]⟩, ty, pos, af, gd⟩).run P w = ((Builtin.copy_ #[t, u] ty #[.slice a n c, .slice al m cl]).run P w).andThen fun v w' => .ok (.value v) w' := by
      rw [hcs]; simp [builtin, he _ _ hx, he _ _ hy]
    rw [hbase]
    have hr := run_copy_none (P := P) w t u ty e a al n c m cl ht hinf hn
    exact ⟨.int .i64 0, h, w, by rw [hr]; rfl, H, .refl ho⟩
theorem xv_mkc {x y : Operand} {t e : TypeId} {d : TD} {k k' : IntKind} {n c : Nat} (ht : SlT P t e) (hd : TyOk P e d) (hz : d.zero.cells.size = 1) (hs : d.size = 1) (hby : d.bytes = 1) (hx : ev E x = some (.int k (n : Int))) (hy : ev E y = some (.int k' (c : Int))) (hn : n ≤ c) (hc : c ≤ 281474976710656)
    (H : ∀ (b : Nat) (l : List Value), b ∉ keys h → l.length = c → K (.slice (some ⟨b, 0, none⟩) n c) ((b, .cells ⟨l⟩ e (0, 0)) :: h)) : XV P r ⟨dst, .makeSlice t x y, ty, pos, af, gd⟩ K T E h :=
  xv_of_run (by simp [plainOp]) fun w ρ ho he => by
    obtain ⟨i, hi, his, hib, hiz⟩ := hd.info
    have hr := run_make (P := P) (w := w) t e i d.zero ht hi hiz k k' n c (by omega) (by omega) (by rw [hib, hby]; omega) (by omega)
    refine ⟨.slice (some ⟨w.heap.size, 0, none⟩) n c, _, w.alloc (.cells (madeCells d.zero.cells (c * 1)) e), ?_, H w.heap.size (madeCells d.zero.cells (c * 1)).toList (fun hc => Nat.lt_irrefl _ (ho.lt hc)) (by rw [Array.length_toList, size_madeCells, Nat.mul_one]), .alloc ho _⟩
    simp only [execOp, he _ _ hx, he _ _ hy]
    rw [his, hs] at hr
    simp only [Int.toNat_natCast] at hr
    simp [hr]
theorem xv_ext {gf : FuncId} {vs : List Value} {args : Array Operand} {at_ : Array TypeId} {e : Array Value → Sem Value} (ha : evs E args.toList = some vs) (hf : ∀ az w, (callFunc gf az).run P w = ((e az).run P w).andThen fun v w' => .ok (.value v) w')
    (H : ∀ w, Own h w → ∃ v h' w', (e ⟨vs⟩).run P w = .ok v w' ∧ K v h' ∧ Fol h w h' w') : XV P r ⟨dst, .call ⟨.value (.func gf), args, at_⟩, ty, pos, af, gd⟩ K T E h :=
  xv_of_run (by simp [plainOp]) fun w ρ ho he => by
    obtain ⟨v, h', w', hr, hk, hfo⟩ := H w ho
    have hrs := resolve_value (P := P) (args := args) (at_ := at_) (t := ty) (w := w) (he _ _ (rfl : ev E (.func gf) = some (.func (.func gf) ⟨[]⟩ ⟨[]⟩)))
    have hm := evs_arr he ha
    refine ⟨v, h', w', ?_, hk, hfo⟩
    have h2 := hf ⟨vs⟩ w
    rw [hr] at h2
    simpa [execOp, hrs, invoke, hm] using h2
theorem xv_noesc {gf : FuncId} {v : Value} {x : Operand} {at_ : Array TypeId} (hx : ev E x = some v) (hf : ∀ az w, (callFunc gf az).run P w = ((Extern.AbiNoEscape.same az).run P w).andThen fun v w' => .ok (.value v) w') (H : K v h) : XV P r ⟨dst, .call ⟨.value (.func gf), #[x], at_⟩, ty, pos, af, gd⟩ K T E h :=
  xv_ext (vs := [v]) (by simp [evs, hx]) hf fun w ho => ⟨v, h, w, Lib.run_noEscape w v, H, .refl ho⟩
theorem xv_mnz {gf : FuncId} {ps : Array TypeId} {t e : TypeId} {n : Nat} {x : Operand} {at_ : Array TypeId} (ht : SlT P t e) (hx : ev E x = some (.int .i64 (n : Int))) (hn : n ≤ 281474976710656) (hf : ∀ az w, (callFunc gf az).run P w = ((Extern.BytealgMakeNoZero.makeNoZero ps #[t] az).run P w).andThen fun v w' => .ok (.value v) w')
    (H : ∀ (b cap : Nat) (l : List Value), b ∉ keys h → l.length = cap → n ≤ cap → cap ≤ 9223372036854775807 → K (.slice (some ⟨b, 0, none⟩) n cap) ((b, .cells ⟨l⟩ e (0, 0)) :: h)) : XV P r ⟨dst, .call ⟨.value (.func gf), #[x], at_⟩, ty, pos, af, gd⟩ K T E h :=
  xv_ext (vs := [.int .i64 (n : Int)]) (by simp [evs, hx]) hf fun w ho => by
    obtain ⟨cs, hr, hge, hmx⟩ := Lib.run_makeNoZero (P := P) w ps t e ht n hn
    exact ⟨_, _, _, hr, H w.heap.size cs.size cs.toList (fun hc => Nat.lt_irrefl _ (ho.lt hc)) (by simp) hge (by have := hmx (by simp only [maxLen]; omega); simp only [maxLen] at this; omega), ((Fol.alloc (ho.drew (w.drawn + 2)) _).drew)⟩
theorem xv_toU {s t u : TypeId} {d : TD} {x : Operand} {b : Nat} {l : List Value} {e : TypeId} {fz : Nat × Nat} (hs : P.underlying s = some (.pointer u)) (ht : P.underlying t = some .unsafePointer) (hd : TyOk P u d) (hsz : d.size ≠ 0) (hx : ev E x = some (.pointer (some ⟨b, 0, none⟩))) (hm : (b, .cells ⟨l⟩ e fz) ∈ h) (hl : 0 < l.length)
    (H : K (.pointer (some ⟨b, 0, none⟩)) h) : XV P r ⟨dst, .convert s t x, ty, pos, af, gd⟩ K T E h :=
  xv_of_run (by simp [plainOp]) fun w ρ ho he => by
    obtain ⟨i, hi, his, _, _⟩ := hd.info
    have hb := ho.has _ _ hm
    have hr := Lib.run_to_unsafe (P := P) w (src := s) (dst := t) (t := u) (e := e) (j := i) (cells := l.length) ⟨b, 0, none⟩ hs ht hi (by rw [his]; exact hsz) (by simp [World.shape?, hb]) hl
    exact ⟨_, h, w, by simp [execOp, he _ _ hx, hr], H, .refl ho⟩
theorem xv_fromU {s t u : TypeId} {d : TD} {x : Operand} {b : Nat} {l : List Value} {e : TypeId} {fz : Nat × Nat} (hs : P.underlying s = some .unsafePointer) (ht : P.underlying t = some (.pointer u)) (hd : TyOk P u d) (hx : ev E x = some (.pointer (some ⟨b, 0, none⟩))) (hm : (b, .cells ⟨l⟩ e fz) ∈ h) (hlies : liesAt P P.depth e (l.length / P.cellsOf e) 0 u 1 = true)
    (H : K (.pointer (some ⟨b, 0, none⟩)) h) : XV P r ⟨dst, .convert s t x, ty, pos, af, gd⟩ K T E h :=
  xv_of_run (by simp [plainOp]) fun w ρ ho he => by
    obtain ⟨i, hi, his, _, _⟩ := hd.info
    have hb := ho.has _ _ hm
    have hr := Lib.run_from_unsafe (P := P) w (src := s) (dst := t) (u := u) (e := e) (j := i) (cells := l.length) ⟨b, 0, none⟩ hs ht hi (by simp [World.shape?, hb]) hlies
    exact ⟨_, h, w, by simp [execOp, he _ _ hx, hr], H, .refl ho⟩
theorem xv_usd {x : Operand} {t : TypeId} {a : Option Addr} {n c : Nat} (hx : ev E x = some (.slice a n c)) (hc : a = none ∨ c ≠ 0) (H : K (.pointer a) h) : XV P r ⟨dst, .call ⟨.builtin .unsafeSliceData, #[x], #[t]⟩, ty, pos, af, gd⟩ K T E h :=
  xv_of_run (by simp [plainOp]) fun w ρ ho he => by
    obtain ⟨cs, hcs⟩ := run_builtin (P := P) (dst := dst) (ty := ty) (pos := pos) (af := af) (gd := gd) ρ .unsafeSliceData #[x] #[t] w
    refine ⟨.pointer a, h, w, ?_, H, .refl ho⟩
    rw [hcs]
    cases a with
    | none =>
      have h9 : Builtin.unsafeSliceData_ #[t] ty #[.slice none n c] = pure (.pointer none) := rfl
      simp [builtin, he _ _ hx, h9]
    | some a =>
      have hc0 : c ≠ 0 := by rcases hc with hq | hq; cases hq; exact hq
      have h9 : Builtin.unsafeSliceData_ #[t] ty #[.slice (some a) n c] = (if c ≠ 0 then pure (.pointer (some a)) else do if (← viewAt a.block).isSome then pure (.pointer (some a)) else pure (.pointer (some ⟨← newObj (.view a (← elemOf ty)), 0, none⟩))) := rfl
      rw [if_pos hc0] at h9
      simp [builtin, he _ _ hx, h9]
theorem xv_ustr {x y : Operand} {pt it e : TypeId} {b : Nat} {l : List UInt8} {sp : List Value} (hp : P.underlying pt = some (.pointer e)) (hc : P.cellsOf e = 1) (hx : ev E x = some (.pointer (some ⟨b, 0, none⟩))) (hy : ev E y = some (.int .i64 (l.length : Int))) (h0 : l ≠ []) (h63 : l.length ≤ 9223372036854775807)
    (hm : Tk [(b, .cells ⟨l.flatMap eU ++ sp⟩ e (0, 0))] h g) (H : K (S l) g) : XV P r ⟨dst, .call ⟨.builtin .unsafeString, #[x, y], #[pt, it]⟩, ty, pos, af, gd⟩ K T E h := by
  refine XV.perm hm.perm.symm (xv_of_run (by simp [plainOp]) fun w ρ ho he => ?_)
  obtain ⟨cs, hcs⟩ := run_builtin (P := P) (dst := dst) (ty := ty) (pos := pos) (af := af) (gd := gd) ρ .unsafeString #[x, y] #[pt, it] w
  have hb : w.heap[b]? = some (.cells ⟨l.flatMap eU ++ sp⟩ e (0, 0)) := ho.has _ _ List.mem_cons_self
  have hr := Lib.run_unsafeString_row (P := P) w pt it ty e hp hc b (l.flatMap eU ++ sp).length (by simp [World.shape?, hb]) l h0 (by rw [List.length_append, eU_flen]; omega) h63 (fun j x hj => by
    rw [addr_add]
    simp only [World.cell?, hb]
    have hjl : j < (l.flatMap eU).length := by rw [eU_flen]; exact (List.getElem?_eq_some_iff.1 hj).1
    have e9 : (l.flatMap eU ++ sp)[j]? = some (.int .u8 (x.toNat : Int)) := by rw [List.getElem?_append_left hjl, eU_flat, List.getElem?_map, hj]; rfl
    simp [e9])
  refine ⟨S l, g, w.freeze ⟨b, 0, none⟩ l.length, ?_, H, ?_⟩
  · rw [hcs]; simp [builtin, he _ _ hx, he _ _ hy, hr]
  · have hnd := ho.nd
    have hlt := (Array.getElem?_eq_some_iff.1 hb).1
    have hl0 : ¬ l.length = 0 := fun hq => h0 (List.length_eq_zero_iff.1 hq)
    have hfz : w.freeze ⟨b, 0, none⟩ l.length = { w with heap := w.heap.modify b fun
      | .cells c elem (lo, hi) => .cells c elem (if lo == hi then (0, 0 + l.length) else (min lo 0, max hi (0 + l.length)))
      | o => o } := if_neg hl0
    rw [hfz]
    refine ⟨⟨(List.nodup_cons.1 hnd).2, fun c o hmc => ?_⟩, rfl, rfl, rfl, by simp, fun k hk hn => ⟨fun hq => hn (List.mem_cons_of_mem _ hq), ?_⟩⟩
    · have hne : c ≠ b := fun e => by
        subst e
        exact (List.nodup_cons.1 hnd).1 (List.mem_map.2 ⟨_, hmc, rfl⟩)
      have h1 := ho.has _ _ (List.mem_cons_of_mem _ hmc)
      simp [Array.getElem?_modify, Ne.symm hne, h1]
    · have hne : k ≠ b := fun e => hn (by subst e; exact List.mem_cons_self)
      simp [Array.getElem?_modify, Ne.symm hne]
theorem xv_ustr0 {x y : Operand} {pt it : TypeId} {a : Option Addr} (hx : ev E x = some (.pointer a)) (hy : ev E y = some (.int .i64 0)) (H : K (S []) h) : XV P r ⟨dst, .call ⟨.builtin .unsafeString, #[x, y], #[pt, it]⟩, ty, pos, af, gd⟩ K T E h :=
  xv_of_run (by simp [plainOp]) fun w ρ ho he => by
    obtain ⟨cs, hcs⟩ := run_builtin (P := P) (dst := dst) (ty := ty) (pos := pos) (af := af) (gd := gd) ρ .unsafeString #[x, y] #[pt, it] w
    have hr := Lib.run_unsafeString_none (P := P) w pt it ty a
    exact ⟨S [], h, w, by rw [hcs]; simp [builtin, he _ _ hx, he _ _ hy, hr]; rfl, H, .refl ho⟩
theorem xv_eqS {xt yt : TypeId} {x y : Operand} {a c : List UInt8} {q : Bool} (hx : ev E x = some (S a)) (hy : ev E y = some (S c)) (hq : decide (a = c) = q) (H : K (.bool q) h) : XV P r ⟨dst, .binOp .eql xt x y yt, ty, pos, af, gd⟩ K T E h :=
  xv_of_run (by simp [plainOp]) fun w ρ ho he => ⟨.bool q, h, w, by
    rw [run_bin (he _ _ hx) (he _ _ hy) (fun _ => by simp [eqGuard])]
    rw [binOp_string_eql]
    have e1 : (a == c) = q := by
      rw [← hq]
      by_cases hac : a = c
      · subst hac; simp
      · simp [hac]
    simp [e1], H, .refl ho⟩
theorem xv_cvBS {s t e : TypeId} {x : Operand} {b o n c : Nat} {lu : List Value} {tu : TypeId} {fz : Nat × Nat} {l : List UInt8} (hs : SlT P s e) (he8 : P.underlying e = some (.int .u8)) (ht : P.underlying t = some .string) (hx : ev E x = some (.slice (some ⟨b, o, none⟩) n c)) (hn : n = l.length) (hm : (b, .cells ⟨lu⟩ tu fz) ∈ h) (hl : (lu.drop o).take n = l.flatMap eU)
    (H : K (S l) h) : XV P r ⟨dst, .convert s t x, ty, pos, af, gd⟩ K T E h :=
  xv_of_run (by simp [plainOp]) fun w ρ ho he => by
    subst hn
    have hb := ho.has _ _ hm
    have hr := run_convert_bytes_back (P := P) w s t e ⟨b, o, none⟩ c l hs he8 ht (fun j hj => by
      have h9 := cells_read (m := l.length) (sz := 1) hb (by simpa using hl) (by rw [eU_flen, Nat.mul_one]) j (.int .u8 (l[j].toNat : Int)) (by rw [eU_flat, List.getElem?_map, List.getElem?_eq_getElem hj]; rfl)
      exact h9)
    exact ⟨S l, h, w, by simp [execOp, he _ _ hx, hr], H, .refl ho⟩
theorem xv_slS {x y z : Operand} {t : TypeId} {s : ByteArray} {k k' : IntKind} {i j : Int} {l : List UInt8} (ht : P.underlying t = some .string) (hx : ev E x = some (.string s)) (hy : ev E y = some (.int k i)) (hz : ev E z = some (.int k' j)) (h0 : 0 ≤ i) (h1 : i ≤ j) (h2 : j ≤ s.size) (hl : s.extract i.toNat j.toNat = ⟨l.toArray⟩)
    (H : K (S l) h) : XV P r ⟨dst, .slice t x (some y) (some z) none, ty, pos, af, gd⟩ K T E h :=
  xv_of_run (by simp [plainOp]) fun w ρ ho he => by
    have hr := run_slice_string (P := P) w t s k k' i j ht h0 h1 h2
    exact ⟨S l, h, w, by simp [execOp, he _ _ hx, he _ _ hy, he _ _ hz, run_sliceAt_string _ _ _ _ _ _ ht, hr, hl], H, .refl ho⟩
theorem xv_orK {xt yt : TypeId} {x y : Operand} {k : IntKind} {a b c : Int} (hx : ev E x = some (.int k a)) (hy : ev E y = some (.int k b)) (hc : k.wrap (((BitVec.ofInt k.bits a ||| BitVec.ofInt k.bits b).toNat : Nat) : Int) = c) (H : K (.int k c) h) : XV P r ⟨dst, .binOp .or xt x y yt, ty, pos, af, gd⟩ K T E h :=
  xv_of_run (by simp [plainOp]) fun W ρ ho he => ⟨_, h, W, by
    rw [run_bin (he _ _ hx) (he _ _ hy) (eqGuard_int _ _ _ _ _ _ _)]
    simp only [binOp, Op.intBits, ne_eq, not_true_eq_false, if_false]
    exact congrArg (fun z => ((pure (Value.int k z) : Sem Value).run P W).andThen fun z w' => Result.ok (Next.value z) w') hc, H, .refl ho⟩
theorem xv_andK {xt yt : TypeId} {x y : Operand} {k : IntKind} {a b c : Int} (hx : ev E x = some (.int k a)) (hy : ev E y = some (.int k b)) (hc : k.wrap (((BitVec.ofInt k.bits a &&& BitVec.ofInt k.bits b).toNat : Nat) : Int) = c) (H : K (.int k c) h) : XV P r ⟨dst, .binOp .and xt x y yt, ty, pos, af, gd⟩ K T E h :=
  xv_of_run (by simp [plainOp]) fun W ρ ho he => ⟨_, h, W, by
    rw [run_bin (he _ _ hx) (he _ _ hy) (eqGuard_int _ _ _ _ _ _ _)]
    simp only [binOp, Op.intBits, ne_eq, not_true_eq_false, if_false]
    exact congrArg (fun z => ((pure (Value.int k z) : Sem Value).run P W).andThen fun z w' => Result.ok (Next.value z) w') hc, H, .refl ho⟩
theorem xv_shlK {xt yt : TypeId} {x y : Operand} {k yk : IntKind} {a c : Int} {s : Nat} (hx : ev E x = some (.int k a)) (hy : ev E y = some (.int yk (s : Int))) (hs : s ≤ k.bits) (hc : k.wrap (a * 2 ^ s) = c) (H : K (.int k c) h) : XV P r ⟨dst, .binOp .shl xt x y yt, ty, pos, af, gd⟩ K T E h :=
  xv_of_run (by simp [plainOp]) fun W ρ ho he => ⟨.int k c, h, W, by
    rw [run_bin (he _ _ hx) (he _ _ hy) (fun _ => by simp [eqGuard])]
    have h1 : ¬ ((s : Int) < 0) := by omega
    have h2 : min (s : Int).toNat k.bits = s := by rw [Int.toNat_natCast]; exact Nat.min_eq_left hs
    simp only [binOp, Op.shift, if_neg h1, h2, hc]
    rfl, H, .refl ho⟩
theorem xv_shrK {xt yt : TypeId} {x y : Operand} {k yk : IntKind} {a c : Int} {s : Nat} (hx : ev E x = some (.int k a)) (hy : ev E y = some (.int yk (s : Int))) (hs : s ≤ k.bits) (hc : a.fdiv (2 ^ s) = c) (H : K (.int k c) h) : XV P r ⟨dst, .binOp .shr xt x y yt, ty, pos, af, gd⟩ K T E h :=
  xv_of_run (by simp [plainOp]) fun W ρ ho he => ⟨.int k c, h, W, by
    rw [run_bin (he _ _ hx) (he _ _ hy) (fun _ => by simp [eqGuard])]
    have h1 : ¬ ((s : Int) < 0) := by omega
    have h2 : min (s : Int).toNat k.bits = s := by rw [Int.toNat_natCast]; exact Nat.min_eq_left hs
    simp only [binOp, Op.shift, if_neg h1, h2, hc]
    rfl, H, .refl ho⟩
end
end Go.H

/-
  A deferred function that asks 'recover() != nil', where nothing panics.
-/
set_option linter.all false
namespace Go.H
open Go
variable {P : Program} {N : Nat} {h : Hp}
theorem dcalls_rec0 {f : FuncId} {fn : Func} {id t1 t2 : Nat} {ty1 ty2 xt yt : TypeId} {p1 p2 : String} {a1 a2 : Array Edge} {rest : Code} {vs : List Value} {R : Ending → FrameMode → Hp → Prop}
    (hf : P.funcs[f]? = some fn) (hb : fn.body = some (.seq (.region id #[⟨some t1, .call ⟨.builtin .recover, #[], #[]⟩, ty1, p1, a1, none⟩, ⟨some t2, .binOp .neq xt (.tmp t1) (.const .nilIface) yt, ty2, p2, a2, none⟩] false) rest)) (hres : fn.results = #[])
    (hxt : ∃ ms, P.underlying xt = some (.interface ms)) (hN : N = vs.length + (fn.ntmps - vs.length)) (h1 : Nat.blt t1 N = true) (h2 : Nat.blt t2 N = true)
    (H : XC P none N rest (RecPost R .returning) (((ofL vs).put (some t1) .nilIface).put (some t2) (.bool false)) [] h) : DCalls P f ⟨vs⟩ .returning h R := by
  intro w ho
  refine callsDIn_wpS hf hb fun c₀ cs hu => wpS_seq (wpS_region ?_)
  have hA := agree_ofL vs (fn.ntmps - vs.length)
  rw [← hN] at hA
  have hlt1 : t1 < N := by simpa [Nat.blt_eq] using h1
  have hlt2 : t2 < N := by simpa [Nat.blt_eq] using h2
  obtain ⟨a0, ha0⟩ : ∃ a0 : Act, a0 = { tmps := (⟨vs⟩ : Array Value) ++ Array.replicate (fn.ntmps - (⟨vs⟩ : Array Value).size) undef, defers := [] } := ⟨_, rfl⟩
  have hA' : Agree N (ofL vs) a0 := by rw [ha0]; simpa using hA
  rw [← ha0]
  have hd0 : a0.defers = [] := by rw [ha0]
  have hA1 := hA'.put (d := some t1) (v := .nilIface) (fun k hk => by cases hk; exact hlt1)
  have hA2 := hA1.put (d := some t2) (v := .bool false) (fun k hk => by cases hk; exact hlt2)
  have hx : (a0.put (some t1) .nilIface).eval (.tmp t1) = .nilIface := hA1.ev (by simp [ev, Env.put])
  have hrest := H w _ ho hA2 (by simp [Act.put, hd0])
  have hgo : rest.wpS P (bodyPostS P fn c₀ cs (fun e u' w' => ∃ h', R e u' h' ∧ Fol h w h' w')) ((a0.put (some t1) .nilIface).put (some t2) (.bool false)) ({ c₀ with mode := .returning } :: cs) w := by
    refine wpS_of_wp (wpIn_wide.1 (wpIn_mono hrest ?_))
    rintro e a' w' ⟨E', h', q, ha', hfol⟩
    have hr0 : (results fn a'.tmps).run P w' = .ok (.tuple #[]) w' := results_run (vs := []) (by rw [hres]; simp)
    cases e with
    | normal => obtain ⟨hd, h2, hs, hR⟩ := q; exact ⟨hd, _, rfl, _, hr0, h2, hR, hfol.sub hs⟩
    | ret => obtain ⟨hd, h2, hs, hR⟩ := q; exact ⟨hd, _, rfl, _, hr0, h2, hR, hfol.sub hs⟩
    | panic ch => obtain ⟨hd, h2, hs, hR⟩ := q; exact ⟨hd, _, rfl, h2, hR, hfol.sub hs⟩
    | exit id => exact q.elim
    | goto l => exact q.elim
    | outgrown => exact q.elim
  have hrd := recoverD_recV c₀ cs
  rw [hu] at hrd
  have hl : List.range (#[(⟨some t1, .call ⟨.builtin .recover, #[], #[]⟩, ty1, p1, a1, none⟩ : Oper), ⟨some t2, .binOp .neq xt (.tmp t1) (.const .nilIface) yt, ty2, p2, a2, none⟩] : Array Oper).size = [0, 1] := rfl
  rw [hl]
  have hex : (execOp a0.eval ⟨some t1, .call ⟨.builtin .recover, #[], #[]⟩, ty1, p1, a1, none⟩).run P w = .ok .recover w := by
    obtain ⟨cs, hcs⟩ := run_builtin (P := P) (dst := some t1) (ty := ty1) (pos := p1) (af := a1) (gd := none) a0.eval .recover #[] #[] w
    rw [hcs]; simp [builtin]
  have hx2 : (execOp (a0.put (some t1) .nilIface).eval ⟨some t2, .binOp .neq xt (.tmp t1) (.const .nilIface) yt, ty2, p2, a2, none⟩).run P w = .ok (.value (.bool false)) w := by
    obtain ⟨ms, ht⟩ := hxt
    have hg : ∀ w, (eqGuard .neq xt (.tmp t1) (.const .nilIface) .nilIface .nilIface).run P w = .ok () w := fun w => by unfold eqGuard; simp
    rw [run_bin (v := .nilIface) hx rfl hg]
    have hq0 : ∀ n, (Op.equalIn (n + 1) xt .nilIface .nilIface).run P w = .ok true w := fun n => by
      simp only [Op.equalIn, Sem.run_bind, run_underlying ht, Result.andThen_ok, Sem.run_pure]
    have hq := hq0 9999
    have hb : (binOp .neq xt .nilIface .nilIface).run P w = .ok (.bool false) w := by
      show (do let b ← Op.equalIn (9999 + 1) xt .nilIface .nilIface; pure (Value.bool (!b)) : Sem Value).run P w = _
      simp only [Sem.run_bind, hq, Result.andThen_ok, Sem.run_pure, Bool.not_true]
    rw [hb]; rfl
  have hstep : ∀ cs', wpOpsS P #[⟨some t1, .call ⟨.builtin .recover, #[], #[]⟩, ty1, p1, a1, none⟩, ⟨some t2, .binOp .neq xt (.tmp t1) (.const .nilIface) yt, ty2, p2, a2, none⟩] (Exit.thenS (rest.wpS P (bodyPostS P fn c₀ cs (fun e u' w' => ∃ h', R e u' h' ∧ Fol h w h' w'))) (bodyPostS P fn c₀ cs (fun e u' w' => ∃ h', R e u' h' ∧ Fol h w h' w'))) [1] (a0.put (some t1) .nilIface) cs' w =
      rest.wpS P (bodyPostS P fn c₀ cs (fun e u' w' => ∃ h', R e u' h' ∧ Fol h w h' w')) ((a0.put (some t1) .nilIface).put (some t2) (.bool false)) cs' w := by
    intro cs'
    simp [wpOpsS, Region.wanted, hx2, Oper.upon, Exit.thenS]
  unfold wpOpsS
  simp only [List.getElem?_toArray, List.getElem?_cons_zero, Region.wanted, if_true, hex]
  cases hq : recoverD (c₀ :: cs) with
  | none =>
    rw [hq] at hrd
    simp only [recV, Prod.mk.injEq] at hrd
    rw [hstep, hrd.2]
    exact hgo
  | some p =>
    obtain ⟨v, cs'⟩ := p
    rw [hq] at hrd
    simp only [recV, Prod.mk.injEq] at hrd
    simp only
    rw [hrd.1, hstep, hrd.2]
    exact hgo
section
variable {r : Option Nat} {E : Env} {h' g : Hp} {K : Value → Hp → Prop} {T : List PanicEntry → Hp → Prop} {dst : Option Nat} {ty : TypeId} {pos : String} {af : Array Edge} {gd : Option (Nat × Bool)}
theorem xv_cap {x : Operand} {t e : TypeId} {a : Option Addr} {n c : Nat} (ht : SlT P t e) (hx : ev E x = some (.slice a n c)) (H : K (.int .i64 c) h) : XV P r ⟨dst, .call ⟨.builtin .cap, #[x], #[t]⟩, ty, pos, af, gd⟩ K T E h :=
  xv_of_run (by simp [plainOp]) fun w ρ ho he => ⟨_, h, w, by obtain ⟨cs, hcs⟩ := run_builtin (P := P) (dst := dst) (ty := ty) (pos := pos) (af := af) (gd := gd) ρ _ _ _ w; rw [hcs]; simp [builtin, Builtin.cap_, he _ _ hx, run_underlying ht, goInt], H, .refl ho⟩
theorem xv_sl0 {x y : Operand} {t e : TypeId} {d : TD} {k : IntKind} {a : Option Addr} {n c : Nat} (ht : SlT P t e) (hd : TyOk P e d) (hx : ev E x = some (.slice a n c)) (hy : ev E y = some (.int k 0))
    (H : K (.slice a n c) h) : XV P r ⟨dst, .slice t x (some y) none none, ty, pos, af, gd⟩ K T E h :=
  xv_of_run (by simp [plainOp]) fun w ρ ho he => ⟨_, h, w, by
    have hb := run_sliceBoundH (P := P) (k := k) (i := 0) (y := n) (code := .sliceB) (w := w) (by omega) (by omega)
    have hadd : (if c = 0 then a else a.map (fun z => z.add (0 * d.size))) = a := by
      split
      · rfl
      · cases a <;> simp [addr_add0]
    simp only [Nat.zero_mul] at hadd
    simp [execOp, he _ _ hx, he _ _ hy, Instr.sliceAt, Instr.slice, Instr.sliceBounds, run_underlying ht, hd.run_size, hb, hadd], H, .refl ho⟩
def tailA (a : Option Addr) (c sz : Nat) : Option Addr := if c = 1 then a else a.map fun z => z.add sz
theorem slv_tail {g : Hp} {α : Type} {sz : Nat} {enc : α → List Value} {a : Option Addr} {v : α} {xs : List α} {c : Nat} (hc : xs.length + 1 ≤ c) (hs : SlV g sz enc a (v :: xs)) : SlV g sz enc (tailA a c sz) xs := by
  rcases hs with hs | ⟨b, o, l, t9, fz, rfl, hm, hx9⟩
  · cases hs
  · unfold tailA
    by_cases h1 : c = 1
    · have : xs = [] := List.length_eq_zero_iff.1 (by omega)
      exact .inl this
    · rw [if_neg h1]
      refine .inr ⟨b, o + sz, l, t9, fz, by simp [addr_add], hm, fun i q hq => ?_⟩
      have := hx9 (i + 1) q (by simpa using hq)
      rw [Nat.add_mul, Nat.one_mul] at this
      rw [show o + sz + i * sz = o + (i * sz + sz) by omega]
      exact this
theorem xv_sl1 {α : Type} {enc : α → List Value} {x y : Operand} {t e : TypeId} {d : TD} {k : IntKind} {a : Option Addr} {n c sz : Nat} {v : α} {xs : List α} (ht : SlT P t e) (hd : TyOk P e d) (hsz : d.size = sz) (hx : ev E x = some (.slice a n c)) (hy : ev E y = some (.int k 1)) (hn : n = xs.length + 1) (hc : n ≤ c) (hs : SlV h sz enc a (v :: xs))
    (H : K (.slice (tailA a c sz) xs.length (c - 1)) h) : XV P r ⟨dst, .slice t x (some y) none none, ty, pos, af, gd⟩ K T E h := by
  subst hsz
  rcases hs with hs | ⟨b, o, l, t9, fz, rfl, hm, hx9⟩
  · cases hs
  · refine xv_of_run (by simp [plainOp]) fun w ρ ho he => ⟨_, h, w, ?_, H, .refl ho⟩
    have hb := run_sliceBoundH (P := P) (k := k) (i := 1) (y := n) (code := .sliceB) (w := w) (by omega) (by omega)
    have e1 : n - 1 = xs.length := by omega
    unfold tailA
    by_cases h1 : c = 1
    · simp [execOp, he _ _ hx, he _ _ hy, Instr.sliceAt, Instr.slice, Instr.sliceBounds, run_underlying ht, hd.run_size, hb, h1, e1]
    · simp [execOp, he _ _ hx, he _ _ hy, Instr.sliceAt, Instr.slice, Instr.sliceBounds, run_underlying ht, hd.run_size, hb, h1, e1, addr_add]
end
theorem ACalls.outp {f : FuncId} {args : Array Value} {R R' : Ending → Hp → Prop} (H : ACalls P f args h R') (hr : ∀ e h', R' e h' → ∃ h2, List.Perm h2 h' ∧ R e h2) : ACalls P f args h R := fun w ho => by
  refine (H w ho).mono ?_
  rintro e w' ⟨h', q, hf⟩
  obtain ⟨h2, hp, q2⟩ := hr e h' q
  exact ⟨h2, q2, hf.perm hp⟩
section
variable {r : Option Nat} {E : Env} {h' g : Hp} {K : Value → Hp → Prop} {T : List PanicEntry → Hp → Prop} {dst : Option Nat} {ty : TypeId} {pos : String} {af : Array Edge} {gd : Option (Nat × Bool)}
theorem app_S (a c : List UInt8) : (⟨a.toArray⟩ : ByteArray) ++ ⟨c.toArray⟩ = ⟨(a ++ c).toArray⟩ := by
  apply ByteArray.ext
  simp [ByteArray.data_append]
theorem xv_addS {xt yt : TypeId} {x y : Operand} {a c : List UInt8} (hx : ev E x = some (S a)) (hy : ev E y = some (S c)) (hl : a.length + c.length ≤ 9223372036854775807) (H : K (S (a ++ c)) h) : XV P r ⟨dst, .binOp .add xt x y yt, ty, pos, af, gd⟩ K T E h :=
  xv_of_run (by simp [plainOp]) fun w ρ ho he => ⟨S (a ++ c), h, w, by
    rw [run_bin (he _ _ hx) (he _ _ hy) (fun _ => by simp [eqGuard])]
    rw [binOp_string_add]
    have h9 : ¬ (9223372036854775807 : Int) < ((⟨a.toArray⟩ : ByteArray).size : Int) + ((⟨c.toArray⟩ : ByteArray).size : Int) := by rw [size_S, size_S]; omega
    simp [Op.stringOp, h9, app_S], H, .refl ho⟩
theorem xv_eqPN {xt yt e : TypeId} {x y : Operand} {a : Option Addr} {q : Bool} (ht : P.underlying xt = some (.pointer e)) (hx : ev E x = some (.pointer a)) (hy : ev E y = some (.pointer none)) (hq : a.isNone = q) (H : K (.bool q) h) : XV P r ⟨dst, .binOp .eql xt x y yt, ty, pos, af, gd⟩ K T E h :=
  xv_of_run (by simp [plainOp]) fun w ρ ho he => ⟨.bool q, h, w, by
    rw [run_bin (he _ _ hx) (he _ _ hy) (fun _ => by cases a <;> simp [eqGuard])]
    have hq0 : ∀ m, (Op.equalIn (m + 1) xt (.pointer a) (.pointer none)).run P w = .ok a.isNone w := fun m => by
      simp only [Op.equalIn, Sem.run_bind, run_underlying ht, Result.andThen_ok]
      cases a <;> rfl
    have hb : (binOp .eql xt (.pointer a) (.pointer none)).run P w = .ok (.bool a.isNone) w := by
      show (do let b ← Op.equalIn (9999 + 1) xt (.pointer a) (.pointer none); pure (Value.bool b) : Sem Value).run P w = _
      simp only [Sem.run_bind, hq0 9999, Result.andThen_ok, Sem.run_pure]
    rw [hb, hq]; rfl, H, .refl ho⟩
theorem xv_nePP {xt yt e : TypeId} {x y : Operand} {a : Addr} {d : TD} (ht : P.underlying xt = some (.pointer e)) (hd : TyOk P e d) (hx : ev E x = some (.pointer (some a))) (hy : ev E y = some (.pointer (some a))) (H : K (.bool false) h) : XV P r ⟨dst, .binOp .neq xt x y yt, ty, pos, af, gd⟩ K T E h :=
  xv_of_run (by simp [plainOp]) fun w ρ ho he => ⟨.bool false, h, w, by
    obtain ⟨i, hi, _, _, _⟩ := hd.info
    rw [run_bin (he _ _ hx) (he _ _ hy) (fun _ => by simp [eqGuard])]
    rw [Lib.run_neq_ptr_same (P := P) w a ht hi]; rfl, H, .refl ho⟩
end
def Vec.capOk : Vec → Prop
  | .nil => True
  | .at _ cap _ => cap ≤ 9223372036854775807
theorem ACalls.drop {f : FuncId} {args : Array Value} {R R' : Ending → Hp → Prop} (H : ACalls P f args h R') (hr : ∀ e h', R' e h' → ∃ h2, List.Sublist h2 h' ∧ R e h2) : ACalls P f args h R := fun w ho => by
  refine (H w ho).mono ?_
  rintro e w' ⟨h', q, hf⟩
  obtain ⟨h2, hp, q2⟩ := hr e h' q
  exact ⟨h2, q2, hf.sub hp⟩
end Go.H

/-
  The data of the books, as plain structures; their cells; what is valid.
-/
set_option linter.all false
namespace Go.Proofs.YtlpkiolopelpfaaDoor
open Go Go.H
structure Sight where
  hour : Int
  height : Int
  deriving DecidableEq, Inhabited
structure Load where
  hour : Int
  retort : Int
  coal : Int
  weight : Int
  deriving DecidableEq, Inhabited
structure Leaf where
  house : Int
  ra : Option Addr
  rc : Nat
  rds : List Int
abbrev I (n : Int) : Value := .int .i64 n
abbrev U8 (n : Int) : Value := .int .u8 n
def eI (n : Int) : List Value := [I n]
def eB (n : Int) : List Value := [U8 n]
def eSight (x : Sight) : List Value := [I x.hour, I x.height]
def eLoad (x : Load) : List Value := [I x.hour, I x.retort, I x.coal, I x.weight]
def eLeaf (x : Leaf) : List Value := [I x.house, .slice x.ra x.rds.length x.rc]
theorem eI_len (x : Int) : (eI x).length = 1 := rfl
theorem eB_len (x : Int) : (eB x).length = 1 := rfl
theorem eSight_len (x : Sight) : (eSight x).length = 2 := rfl
theorem eLoad_len (x : Load) : (eLoad x).length = 4 := rfl
theorem eLeaf_len (x : Leaf) : (eLeaf x).length = 2 := rfl
theorem eB_1 (x : Int) : (eB x).all Value.oneCell' = true := rfl
structure LeavesV (h : Hp) (a : Option Addr) (l : List Leaf) : Prop where
  leaves : SlV h 2 eLeaf a l
  rds : ∀ x ∈ l, SlV h 1 eI x.ra x.rds
theorem LeavesV.sub {h g : Hp} {a : Option Addr} {l : List Leaf} (H : LeavesV h a l) (hs : h ⊆ g) : LeavesV g a l := ⟨H.leaves.sub hs, fun x hx => (H.rds x hx).sub hs⟩
def sightOk (x : Sight) : Prop := (0 ≤ x.hour ∧ x.hour ≤ 1048576) ∧ (0 ≤ x.height ∧ x.height ≤ 100000)
instance (x : Sight) : Decidable (sightOk x) := by unfold sightOk; infer_instance
def loadOk (x : Load) : Prop := (0 ≤ x.hour ∧ x.hour ≤ 1048576) ∧ (0 ≤ x.retort ∧ x.retort ≤ 999) ∧ (0 ≤ x.coal ∧ x.coal ≤ 999) ∧ (1 ≤ x.weight ∧ x.weight ≤ 1048576)
instance (x : Load) : Decidable (loadOk x) := by unfold loadOk; infer_instance
def rdOk (n : Int) : Prop := 0 ≤ n ∧ n ≤ 99999
instance (n : Int) : Decidable (rdOk n) := by unfold rdOk; infer_instance
def leafOk (x : Leaf) : Prop := (0 ≤ x.house ∧ x.house ≤ 9999) ∧ x.rds.length ≤ 8 ∧ ∀ n ∈ x.rds, rdOk n
instance (x : Leaf) : Decidable (leafOk x) := by unfold leafOk; infer_instance
def ltSight (x y : Sight) : Prop := x.hour < y.hour
def ltLoad (x y : Load) : Prop := x.hour < y.hour ∨ x.hour = y.hour ∧ x.retort < y.retort
def ltLeaf (x y : Leaf) : Prop := x.house < y.house
def Asc {α : Type} (lt : α → α → Prop) (xs : List α) (k : Nat) : Prop := ∀ i a b, i + 1 < k → xs[i]? = some a → xs[i + 1]? = some b → lt a b
open Classical in
noncomputable def errL {α : Type} (n : Nat) (ok : α → Prop) (lt : α → α → Prop) (xs : List α) : Int :=
  if n < xs.length then 3 else if ∀ x ∈ xs, ok x then (if Asc lt xs xs.length then 0 else 7) else 1
theorem errL_3 {α : Type} {n : Nat} {ok : α → Prop} {lt : α → α → Prop} {xs : List α} (h : n < xs.length) : errL n ok lt xs = 3 := by unfold errL; rw [if_pos h]
theorem errL_1 {α : Type} {n : Nat} {ok : α → Prop} {lt : α → α → Prop} {xs : List α} (h : ¬ n < xs.length) (h2 : ¬ ∀ x ∈ xs, ok x) : errL n ok lt xs = 1 := by unfold errL; rw [if_neg h, if_neg h2]
theorem errL_7 {α : Type} {n : Nat} {ok : α → Prop} {lt : α → α → Prop} {xs : List α} (h : ¬ n < xs.length) (h2 : ∀ x ∈ xs, ok x) (h3 : ¬ Asc lt xs xs.length) : errL n ok lt xs = 7 := by unfold errL; rw [if_neg h, if_pos h2, if_neg h3]
theorem errL_0 {α : Type} {n : Nat} {ok : α → Prop} {lt : α → α → Prop} {xs : List α} (h : ¬ n < xs.length) (h2 : ∀ x ∈ xs, ok x) (h3 : Asc lt xs xs.length) : errL n ok lt xs = 0 := by unfold errL; rw [if_neg h, if_pos h2, if_pos h3]
theorem errL_is {α : Type} {n : Nat} {ok : α → Prop} {lt : α → α → Prop} {xs : List α} (h : errL n ok lt xs = 0) : xs.length ≤ n ∧ (∀ x ∈ xs, ok x) ∧ Asc lt xs xs.length := by
  unfold errL at h
  split at h
  · cases h
  · split at h
    · split at h
      · exact ⟨by omega, by assumption, by assumption⟩
      · cases h
    · cases h
theorem Asc.zero {α : Type} {lt : α → α → Prop} {xs : List α} : Asc lt xs 0 := fun i a b h => absurd h (Nat.not_lt_zero _)
theorem Asc.step {α : Type} {lt : α → α → Prop} {xs : List α} {k : Nat} (H : Asc lt xs k) (hs : ∀ i a b, i + 1 = k → xs[i]? = some a → xs[i + 1]? = some b → lt a b) : Asc lt xs (k + 1) := fun i a b h ha hb => by
  rcases Nat.lt_succ_iff_lt_or_eq.1 h with h | h
  · exact H i a b h ha hb
  · exact hs i a b h ha hb
theorem Asc.not {α : Type} {lt : α → α → Prop} {xs : List α} {i : Nat} {a b : α} (ha : xs[i]? = some a) (hb : xs[i + 1]? = some b) (hn : ¬ lt a b) : ¬ Asc lt xs xs.length := fun H =>
  hn (H i a b (List.getElem?_eq_some_iff.1 hb).1 ha hb)
def cmpI (x y : Int) : Int := if x < y then -1 else if y < x then 1 else 0
theorem cmpI_ge {x y : Int} : 0 ≤ cmpI x y ↔ ¬ x < y := by unfold cmpI; split <;> (try split) <;> omega
def cmpL (x y : Load) : Int := if cmpI x.hour y.hour ≠ 0 then cmpI x.hour y.hour else cmpI x.retort y.retort
theorem cmpL_ge {x y : Load} : 0 ≤ cmpL x y ↔ ¬ ltLoad x y := by
  unfold cmpL ltLoad cmpI
  constructor
  · intro h
    split at h <;> (try split at h) <;> (try split at h) <;> omega
  · intro h
    split <;> (try split) <;> (try split) <;> omega
theorem or_val {p q v : Int} {k : Nat} (hk : k < 2) (hp : 0 < k → p = 0) (h0 : k = 0 → v = p) (h1 : k = 1 → v = q) (hv : v ≠ 0) : (if p ≠ 0 then p else q) = v := by
  rcases (show k = 0 ∨ k = 1 by omega) with h8 | h8
  · have := h0 h8; rw [if_pos (by omega)]; omega
  · have := h1 h8; have := hp (by omega); rw [if_neg (by omega)]; omega
theorem or_inv {p q v : Int} {k : Nat} (hk : k < 2) (hp : 0 < k → p = 0) (hq : 1 < k → q = 0) (h0 : k = 0 → v = p) (h1 : k = 1 → v = q) (hv : v = 0) : k + 1 ≤ 2 ∧ (0 < k + 1 → p = 0) ∧ (1 < k + 1 → q = 0) := by
  refine ⟨by omega, fun _ => ?_, fun _ => ?_⟩
  · rcases Nat.eq_zero_or_pos k with h8 | h8
    · have := h0 h8; omega
    · exact hp h8
  · rcases (show k = 1 ∨ 1 < k by omega) with h8 | h8
    · have := h1 h8; omega
    · exact hq h8
theorem or_end {p q : Int} (hp : p = 0) (hq : q = 0) : (if p ≠ 0 then p else q) = 0 := by rw [if_neg (by omega)]; exact hq
end Go.Proofs.YtlpkiolopelpfaaDoor
