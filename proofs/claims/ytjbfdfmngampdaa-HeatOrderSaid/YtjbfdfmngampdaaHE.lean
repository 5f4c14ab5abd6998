/-
  The logic of owned blocks over the kit, part HE.
-/
import Derived.Test.YtjbfdfmngampdaaHD
import Derived.Below
import Derived.ProofKit
set_option linter.all false
/-
  Rules for the laws' walks: bools that are compared, comparisons that are known.
-/
namespace Go.H
open Go
variable {P : Program} {r : Option Nat} {E : Env} {h : Hp}
variable {K : Value → Hp → Prop} {T : List PanicEntry → Hp → Prop} {dst : Option Nat} {ty : TypeId} {pos : String} {af : Array Edge} {gd : Option (Nat × Bool)} {xt yt : TypeId} {x y : Operand}
/-- A comparison of integers whose outcome is known. -/
theorem xv_cmpK {op : BinOp} {k : IntKind} {a b : Int} {c : Bool} (hx : ev E x = some (.int k a)) (hy : ev E y = some (.int k b)) (hc : cmpB op a b = some c) (H : K (.bool c) h) : XV P r ⟨dst, .binOp op xt x y yt, ty, pos, af, gd⟩ K T E h := xv_cmp hx hy hc H
theorem cmpT {op : BinOp} {a b : Int} (hp : cmpP op a b) : cmpB op a b = some true := by
  cases op <;> simp only [cmpP] at hp <;> simp [cmpB, hp]
theorem cmpF {op : BinOp} {a b : Int} (hq : (cmpB op a b).isSome = true) (hp : ¬ cmpP op a b) : cmpB op a b = some false := by
  cases op <;> simp only [cmpP] at hp <;> simp [cmpB] at hq ⊢ <;> omega
/-- Literal cells that hold a list. -/
theorem slvL {α : Type} {sz : Nat} {enc : α → List Value} {b t : Nat} {fz : Nat × Nat} {xs : List α} (henc : ∀ x, (enc x).length = sz) (hm : (b, .cells ⟨xs.flatMap enc⟩ t fz) ∈ h) : SlV h sz enc (some ⟨b, 0, none⟩) xs := by
  refine .inr ⟨b, 0, xs.flatMap enc, t, fz, rfl, hm, fun i x hx => ?_⟩
  have := flat_at henc [] xs i hx
  simpa using this
end Go.H

/-
  From what an input reads as to the blocks that a walk owns: all blocks of the memory are owned, each stays.
-/
namespace Go.H
open Go Go.RowKit
/-- All blocks of a memory. -/
def full (w : World) : Hp := (List.range w.heap.size).filterMap fun i => (w.heap[i]?).map fun o => (i, o)
theorem mem_full {w : World} {b : Nat} {o : Obj} : (b, o) ∈ full w ↔ w.heap[b]? = some o := by
  unfold full
  rw [List.mem_filterMap]
  constructor
  · rintro ⟨i, _, hi⟩
    cases ho : w.heap[i]? with
    | none => simp [ho] at hi
    | some o' => simp [ho] at hi; obtain ⟨rfl, rfl⟩ := hi; exact ho
  · intro ho
    refine ⟨b, List.mem_range.2 (Array.getElem?_eq_some_iff.1 ho).1, by simp [ho]⟩
theorem full_nd (w : World) : (keys (full w)).Nodup := by
  unfold keys full
  rw [List.map_filterMap]
  have hsub : List.Sublist ((List.range w.heap.size).filterMap fun i => ((w.heap[i]?).map fun o => (i, o)).map (·.1)) (List.range w.heap.size) := by
    generalize List.range w.heap.size = l
    induction l with
    | nil => exact List.Sublist.refl _
    | cons x l ih =>
      rw [List.filterMap_cons]
      cases hx : w.heap[x]? with
      | none => simpa [hx] using List.Sublist.cons _ ih
      | some o => simpa [hx] using List.Sublist.cons_cons x ih
  exact hsub.nodup List.nodup_range
theorem own_full (w : World) : Own (full w) w := ⟨full_nd w, fun _ _ hm => mem_full.1 hm⟩
theorem calls_of_full {P : Program} {f : FuncId} {args : Array Value} {W : World} {v : Value} (H : ∀ R : Ending → Hp → Prop, R (.returned v) (full W) → ACalls P f args (full W) R) : Calls P f args W fun e W' => e = .returned v ∧ Below W.heap.size W W' := by
  refine (H (fun e h' => e = .returned v ∧ h' = full W) ⟨rfl, rfl⟩ W (own_full W)).mono ?_
  rintro e w' ⟨h', ⟨rfl, rfl⟩, hf⟩
  refine ⟨rfl, hf.os, hf.tape, hf.output, hf.size, fun k hk => ?_⟩
  obtain ⟨o, ho⟩ : ∃ o, W.heap[k]? = some o := ⟨_, Array.getElem?_eq_getElem hk⟩
  rw [ho]
  exact hf.own.has _ _ (mem_full.2 ho)
/-! ### Inputs that read as data -/
section
variable {H : Type} {enc : TypeId × Value → H} {P : Program} {w : World} {sp : Nat → Bool} {held : Bool}
theorem trod_struct_open {t : TypeId} {fs : Array Field} (ht : P.underlying t = some (.struct fs)) {fuel : Nat} {cs : List Value} {x : DataW H × List MemPlace} (h : DataW.trod enc P w 0 sp held fuel t cs = some x) :
    cs.length = P.cellsOf t ∧ ∀ f ∈ fs.toList, ∃ n y, DataW.trod enc P w 0 sp held n f.type ((cs.drop f.offset).take (P.cellsOf f.type)) = some y := by
  cases fuel with
  | zero => simp [DataW.trod] at h
  | succ fuel =>
    unfold DataW.trod at h
    rw [ht] at h
    simp only at h
    split at h
    · rename_i hl
      refine ⟨hl, fun f hf => ?_⟩
      cases hm : fs.toList.mapM fun f => DataW.trod enc P w 0 sp held fuel f.type ((cs.drop f.offset).take (P.cellsOf f.type)) with
      | none => rw [hm] at h; cases h
      | some xs =>
        have key : ∀ (l : List Field) (ys : List (DataW H × List MemPlace)), (l.mapM fun f => DataW.trod enc P w 0 sp held fuel f.type ((cs.drop f.offset).take (P.cellsOf f.type))) = some ys → ∀ f ∈ l, ∃ y, DataW.trod enc P w 0 sp held fuel f.type ((cs.drop f.offset).take (P.cellsOf f.type)) = some y := by
          intro l
          induction l with
          | nil => intro _ _ f hf; cases hf
          | cons g l ih =>
            intro ys hy f hf
            rw [List.mapM_cons] at hy
            cases hg : DataW.trod enc P w 0 sp held fuel g.type ((cs.drop g.offset).take (P.cellsOf g.type)) with
            | none => rw [hg] at hy; cases hy
            | some y =>
              rw [hg] at hy
              cases hr : l.mapM fun f => DataW.trod enc P w 0 sp held fuel f.type ((cs.drop f.offset).take (P.cellsOf f.type)) with
              | none => rw [hr] at hy; cases hy
              | some zs =>
                rcases List.mem_cons.1 hf with rfl | hf
                · exact ⟨y, hg⟩
                · exact ih zs hr f hf
        obtain ⟨y, hy⟩ := key _ _ hm f hf
        exact ⟨fuel, y, hy⟩
    · cases h
theorem mapM_range {α : Type} {f : Nat → Option α} : ∀ {n : Nat} {ys : List α}, (List.range n).mapM f = some ys → ys.length = n ∧ ∀ i, i < n → ∃ y, f i = some y ∧ ys[i]? = some y := by
  have key : ∀ (l : List Nat) (ys : List α), l.mapM f = some ys → l.length = ys.length ∧ ∀ (i x : Nat), l[i]? = some x → ∃ y, f x = some y ∧ ys[i]? = some y := by
    intro l
    induction l with
    | nil => intro ys hy; cases hy; exact ⟨rfl, fun i x hx => by simp at hx⟩
    | cons g l ih =>
      intro ys hy
      rw [List.mapM_cons] at hy
      cases hg : f g with
      | none => rw [hg] at hy; cases hy
      | some y =>
        rw [hg] at hy
        cases hr : l.mapM f with
        | none => rw [hr] at hy; cases hy
        | some zs =>
          rw [hr] at hy
          injection hy with hy
          subst hy
          refine ⟨by simp [(ih zs hr).1], fun i x hx => ?_⟩
          cases i with
          | zero => simp at hx; subst hx; exact ⟨y, hg, rfl⟩
          | succ i => simp at hx; obtain ⟨y', h1, h2⟩ := (ih zs hr).2 i x hx; exact ⟨y', h1, by simpa using h2⟩
  intro n ys hy
  exact ⟨by have := (key _ _ hy).1; simpa using this.symm, fun i hi => (key _ _ hy).2 i i (by simp [hi])⟩
/-- What a slice reads as: its elements' cells lie in one block. -/
theorem trod_slice_open {t e : TypeId} {sz : Nat} (ht : P.underlying t = some (.slice e)) (hsz : P.cellsOf e = sz) {fuel : Nat} {cs : List Value} {x : DataW H × List MemPlace} (h : DataW.trod enc P w 0 sp held fuel t cs = some x) :
    ∃ a len cap, cs = [.slice a len cap] ∧ len ≤ 9223372036854775807 ∧ (a = none ∧ len = 0 ∨ ∃ ad, a = some ad ∧ ∀ i, i < len → ∃ l n y, w.cells? 0 (ad.add (i * sz)) sz = some l ∧ DataW.trod enc P w 0 sp held n e l = some y) := by
  cases fuel with
  | zero => simp [DataW.trod] at h
  | succ fuel =>
    unfold DataW.trod at h
    rw [ht] at h
    split at h <;> first | (simp at *; done) | skip
    · exact ⟨none, 0, 0, rfl, by decide, .inl ⟨rfl, rfl⟩⟩
    · rename_i e' a len cap hq
      cases hq
      simp only at h
      split at h
      · rename_i hc
        rw [hsz] at h
        refine ⟨some a, len, cap, rfl, Nat.le_trans hc.2.1 (Nat.le_trans hc.2.2 (by decide)), .inr ⟨a, rfl, fun i hi => ?_⟩⟩
        cases hm : (List.range len).mapM fun i => (w.cells? 0 (a.add (i * sz)) sz).bind (DataW.trod enc P w 0 sp held fuel e) with
        | none => rw [hm] at h; cases h
        | some ys =>
          obtain ⟨y, hy, _⟩ := (mapM_range hm).2 i hi
          cases hl : w.cells? 0 (a.add (i * sz)) sz with
          | none => rw [hl] at hy; cases hy
          | some l => rw [hl] at hy; exact ⟨l, fuel, y, rfl, hy⟩
      · cases h
theorem cells_at {a : Addr} {sz : Nat} {l : List Value} (h0 : 0 < sz) (h : w.cells? 0 a sz = some l) : ∃ c t fz, a.spot = none ∧ w.heap[a.block]? = some (.cells c t fz) ∧ (c.toList.drop a.off).take sz = l := by
  unfold World.cells? at h
  rw [if_pos (Nat.zero_le _)] at h
  obtain ⟨hlen, h1⟩ := mapM_range h
  obtain ⟨v0, hv0, _⟩ := h1 0 h0
  have hadd0 : a.add 0 = a := rfl
  rw [hadd0] at hv0
  unfold World.cell? at hv0
  cases hb : w.heap[a.block]? with
  | none => simp [hb] at hv0
  | some o =>
    rw [hb] at hv0
    cases o with
    | cells c t fz =>
      simp only at hv0
      cases hs : a.spot with
      | some s => simp [hs] at hv0
      | none =>
        refine ⟨c, t, fz, rfl, rfl, ?_⟩
        apply List.ext_getElem?
        intro i
        by_cases hi : i < sz
        · obtain ⟨v, hv, hl⟩ := h1 i hi
          rw [List.getElem?_take, if_pos hi, List.getElem?_drop, hl]
          have hadd : (a.add i).block = a.block ∧ (a.add i).off = a.off + i ∧ (a.add i).spot = none := by
            unfold Addr.add
            split
            · rename_i hz; subst hz; exact ⟨rfl, rfl, hs⟩
            · exact ⟨rfl, rfl, rfl⟩
          unfold World.cell? at hv
          rw [hadd.1, hb] at hv
          simp only [hadd.2.2, hadd.2.1, Option.isSome_none] at hv
          rw [← hv]
          simp
        · rw [List.getElem?_take, if_neg hi, List.getElem?_eq_none (by omega)]
    | _ => simp at hv0
theorem list_of {α : Type} {Q : Nat → α → Prop} : ∀ (n : Nat), (∀ i, i < n → ∃ x, Q i x) → ∃ xs : List α, xs.length = n ∧ ∀ i x, xs[i]? = some x → Q i x
  | 0, _ => ⟨[], rfl, fun i x hx => by simp at hx⟩
  | n + 1, h => by
    obtain ⟨xs, h1, h2⟩ := list_of n fun i hi => h i (by omega)
    obtain ⟨x, hx⟩ := h n (by omega)
    refine ⟨xs ++ [x], by simp [h1], fun i y hy => ?_⟩
    by_cases hi : i < xs.length
    · rw [List.getElem?_append_left hi] at hy; exact h2 i y hy
    · rw [List.getElem?_append_right (by omega)] at hy
      have : i - xs.length = 0 := by
        have := (List.getElem?_eq_some_iff.1 hy).1
        simp at this; omega
      rw [this] at hy
      simp at hy; subst hy
      have : i = n := by omega
      subst this; exact hx
/-- A slice of elements, each known by its cells. -/
theorem open_slv {α : Type} {en : α → List Value} {t e : TypeId} {sz : Nat} (ht : P.underlying t = some (.slice e)) (hsz : P.cellsOf e = sz) (h0 : 0 < sz) (he : ∀ n l y, DataW.trod enc P w 0 sp held n e l = some y → ∃ x, l = en x)
    {fuel : Nat} {cs : List Value} {x : DataW H × List MemPlace} (h : DataW.trod enc P w 0 sp held fuel t cs = some x) :
    ∃ a cap xs, cs = [.slice a (xs : List α).length cap] ∧ xs.length ≤ 9223372036854775807 ∧ SlV (full w) sz en a xs := by
  obtain ⟨a, len, cap, rfl, hlen, hq⟩ := trod_slice_open ht hsz h
  rcases hq with ⟨rfl, rfl⟩ | ⟨ad, rfl, hq⟩
  · exact ⟨none, cap, [], rfl, by simp, .inl rfl⟩
  · obtain ⟨xs, hx1, hx2⟩ := list_of (α := α) (Q := fun i x => w.cells? 0 (ad.add (i * sz)) sz = some (en x)) len fun i hi => by
      obtain ⟨l, n, y, hl, hy⟩ := hq i hi
      obtain ⟨x, rfl⟩ := he n l y hy
      exact ⟨x, hl⟩
    subst hx1
    refine ⟨some ad, cap, xs, rfl, hlen, ?_⟩
    cases xs with
    | nil => exact .inl rfl
    | cons x0 xs =>
      have h1 := hx2 0 x0 rfl
      rw [Nat.zero_mul] at h1
      obtain ⟨c, t', fz, hs, hb, _⟩ := cells_at h0 h1
      have hs' : ad.spot = none := hs
      refine .inr ⟨ad.block, ad.off, c.toList, t', fz, ?_, mem_full.2 hb, fun i x hx => ?_⟩
      · cases ad; simp at hs'; simp [hs']
      · obtain ⟨c', t2, fz2, hs2, hb2, hd⟩ := cells_at h0 (hx2 i x hx)
        have hadd : (ad.add (i * sz)).block = ad.block ∧ (ad.add (i * sz)).off = ad.off + i * sz := by
          unfold Addr.add
          split
          · rename_i hz; rw [hz]; exact ⟨rfl, rfl⟩
          · exact ⟨rfl, rfl⟩
        rw [hadd.1] at hb2
        have hb' : w.heap[ad.block]? = some (.cells c t' fz) := hb
        rw [hb'] at hb2
        cases hb2
        rw [← hadd.2]; exact hd
end
end Go.H

/-
  Rules: numbers of other kinds as int; the first part of a slice.
-/
namespace Go.H
open Go
variable {P : Program} {r : Option Nat} {E : Env} {h h' : Hp}
variable {K : Value → Hp → Prop} {T : List PanicEntry → Hp → Prop} {dst : Option Nat} {ty : TypeId} {pos : String} {af : Array Edge} {gd : Option (Nat × Bool)}
theorem xv_convI {s t : TypeId} {x : Operand} {k k' : IntKind} {n m : Int} (hs : P.underlying s = some (.int k)) (ht : P.underlying t = some (.int k')) (hx : ev E x = some (.int k n)) (hw : k'.wrap n = m) (H : K (.int k' m) h) : XV P r ⟨dst, .convert s t x, ty, pos, af, gd⟩ K T E h :=
  xv_of_run (by simp [plainOp]) fun w ρ ho he => ⟨_, h, w, by
    simp only [execOp, he _ _ hx]
    simp [Go.convert, run_underlying hs, run_underlying ht, Conv.intToInt, hw], H, .refl ho⟩
theorem addr_add0 (a : Addr) : a.add 0 = a := rfl
theorem xv_sliceTo {x y : Operand} {t e : TypeId} {d : TD} {a : Option Addr} {n c : Nat} {k : IntKind} {i : Int} (ht : SlT P t e) (hd : TyOk P e d) (hx : ev E x = some (.slice a n c)) (hy : ev E y = some (.int k i)) (h0 : 0 ≤ i) (h1 : i ≤ c)
    (H : K (.slice a i.toNat c) h) : XV P r ⟨dst, .slice t x none (some y) none, ty, pos, af, gd⟩ K T E h :=
  xv_of_run (by simp [plainOp]) fun w ρ ho he => ⟨_, h, w, by
    have hadd : (if c = 0 then a else a.map (fun z => z.add (0 * d.size))) = a := by
      split
      · rfl
      · cases a <;> simp [addr_add0]
    simp only [execOp, he _ _ hx, Option.map_none, Option.map_some, he _ _ hy]
    simp [Instr.sliceAt, run_underlying ht, Instr.slice, Instr.sliceBounds, run_sliceBoundH h0 h1, hd.run_size, hadd]
    intro _
    cases a <;> simp [addr_add0], H, .refl ho⟩
theorem xv_sliceToN {x y : Operand} {t e : TypeId} {d : TD} {a : Option Addr} {n c m : Nat} {k : IntKind} {i : Int} (ht : SlT P t e) (hd : TyOk P e d) (hx : ev E x = some (.slice a n c)) (hy : ev E y = some (.int k i)) (h0 : 0 ≤ i) (h1 : i ≤ c) (hm : i.toNat = m)
    (H : K (.slice a m c) h) : XV P r ⟨dst, .slice t x none (some y) none, ty, pos, af, gd⟩ K T E h := by
  subst hm; exact xv_sliceTo ht hd hx hy h0 h1 H
theorem SlV.take {α : Type} {sz : Nat} {enc : α → List Value} {a : Option Addr} {xs : List α} (H : SlV h sz enc a xs) (k : Nat) : SlV h sz enc a (xs.take k) := by
  rcases H with rfl | ⟨b, o, l, t, fz, h1, h2, h3⟩
  · exact .inl (by simp)
  · refine .inr ⟨b, o, l, t, fz, h1, h2, fun i x hx => h3 i x ?_⟩
    rw [List.getElem?_take] at hx
    split at hx
    · exact hx
    · cases hx
theorem in16_of {n : Int} (hw : (Lit.int .u16 n).wf = true) : 0 ≤ n ∧ n ≤ 65535 := by
  simp only [Lit.wf, Bool.and_eq_true, decide_eq_true_eq] at hw
  exact ⟨hw.1, hw.2⟩
/-- What a slice reads as, all of it. -/
theorem slv_flat2 {α : Type} {enc : α → List Value} {sz : Nat} (henc : ∀ x, (enc x).length = sz) : ∀ {xs : List α} {l : List Value} {o : Nat}, (∀ (i : Nat) (x : α), xs[i]? = some x → (l.drop (o + i * sz)).take sz = enc x) → (l.drop o).take (xs.length * sz) = xs.flatMap enc
  | [], l, o, _ => by simp
  | x :: xs, l, o, h => by
    have h0 := h 0 x rfl
    rw [Nat.zero_mul, Nat.add_zero] at h0
    have ih := slv_flat2 henc (xs := xs) (l := l) (o := o + sz) (fun i y hy => by have := h (i + 1) y (by simpa using hy); rwa [Nat.add_mul, Nat.one_mul, Nat.add_comm (i * sz) sz, ← Nat.add_assoc] at this)
    rw [List.flatMap_cons, ← h0, ← ih, List.length_cons, Nat.add_mul, Nat.one_mul, Nat.add_comm (xs.length * sz) sz, List.take_add, List.drop_drop]
theorem flat_all {α : Type} {enc : α → List Value} (h1 : ∀ x, (enc x).all Value.oneCell' = true) (xs : List α) : (xs.flatMap enc).all Value.oneCell' = true := by
  induction xs with
  | nil => rfl
  | cons x xs ih => rw [List.flatMap_cons, List.all_append, h1, ih]; rfl
theorem flat_lenM {α : Type} {enc : α → List Value} {sz : Nat} (henc : ∀ x, (enc x).length = sz) (xs : List α) : (xs.flatMap enc).length = xs.length * sz := by
  induction xs with
  | nil => simp
  | cons x xs ih => rw [List.flatMap_cons, List.length_append, henc, ih, List.length_cons, Nat.add_mul]; omega
/-- A copy: 'append([]T{}, xs...)'. -/
theorem xv_copy {α : Type} {enc : α → List Value} {x y : Operand} {t e : TypeId} {d : TD} {b cl sz : Nat} {al : Option Addr} {xs : List α} {g : Hp} (ht : SlT P t e) (hd : TyOk P e d) (hzs : d.zero.cells.size = d.size) (hsz : d.size = sz)
    (hx : ev E x = some (.slice (some ⟨b, 0, none⟩) 0 0)) (hy : ev E y = some (.slice al xs.length cl)) (hl : SlV g sz enc al xs) (henc : ∀ x, (enc x).length = sz) (h1 : ∀ x, (enc x).all Value.oneCell' = true)
    (hb : 2 * xs.length * d.bytes ≤ 281474976710656) (h63 : xs.length ≤ 9223372036854775807)
    (H : ∀ V : Vec, V.ok sz xs.length (xs.flatMap enc) → K (V.val xs.length) (V.hp e (xs.flatMap enc) ++ g)) : XV P r ⟨dst, .call ⟨.builtin .append, #[x, y], #[t, t]⟩, ty, pos, af, gd⟩ K T E ((b, .cells ⟨[]⟩ e (0, 0)) :: g) := by
  subst hsz
  cases xs with
  | nil =>
    refine xv_append0 ht hd hx (c' := cl) (a' := al) hy (Nat.le_refl _) ?_
    exact H (.at b 0 []) ⟨by simp, Nat.le_refl _, by simp⟩
  | cons x0 xs0 =>
    obtain ⟨b9, o9, li, t9, fz, hal, hm, hx9⟩ := hl.at (i := 0) (by simp)
    subst hal
    refine xv_append (V := .at b 0 []) (n := 0) (xs := []) ht hd hzs hx hy ⟨by simp, Nat.le_refl _, by simp⟩ .here hm (slv_flat2 henc hx9) (flat_lenM henc _) (flat_all h1 _) (by simp) (by simpa using hb) (by simpa using h63) ?_
    intro V hV
    have hn : 0 + (x0 :: xs0).length = (x0 :: xs0).length := Nat.zero_add _
    rw [hn] at hV ⊢
    exact H V hV
/-- One element. -/
theorem splice_flat {α : Type} {enc : α → List Value} {sz : Nat} (henc : ∀ x, (enc x).length = sz) {y : α} (sp : List Value) : ∀ (xs : List α) (k : Nat), k < xs.length → splice (xs.flatMap enc ++ sp) (0 + k * sz) (enc y) = (xs.set k y).flatMap enc ++ sp := by
  intro xs k hk
  have hsp : ∀ (l : List Value) (o : Nat) (vs : List Value), splice l o vs = l.take o ++ vs ++ l.drop (o + vs.length) := fun l o vs => rfl
  rw [hsp, henc, Nat.zero_add]
  induction xs generalizing k with
  | nil => simp at hk
  | cons q rs ih =>
    cases k with
    | zero =>
      simp only [List.flatMap_cons, List.append_assoc, List.set_cons_zero, Nat.zero_mul, List.take_zero, List.nil_append, Nat.zero_add]
      rw [List.drop_append_of_le_length (by rw [henc]; exact Nat.le_refl _), List.drop_of_length_le (by rw [henc]; exact Nat.le_refl _), List.nil_append]
    | succ k =>
      have ih := ih k (by simpa using hk)
      simp only [List.flatMap_cons, List.append_assoc, List.set_cons_succ] at ih ⊢
      rw [← ih]
      have e : (k + 1) * sz = sz + k * sz := by rw [Nat.add_mul]; omega
      rw [e, List.take_append, henc, List.drop_append, henc, List.take_of_length_le (by rw [henc]; omega), List.drop_of_length_le (by rw [henc]; omega), show sz + k * sz - sz = k * sz by omega, show sz + k * sz + sz - sz = k * sz + sz by omega]
      simp only [List.append_assoc, List.nil_append]
end Go.H

/-
  A copy of a slice of one's own; three blocks that stay.
-/
namespace Go.H
open Go
variable {P : Program} {r : Option Nat} {E : Env} {h h' : Hp}
variable {K : Value → Hp → Prop} {T : List PanicEntry → Hp → Prop} {dst : Option Nat} {ty : TypeId} {pos : String} {af : Array Edge} {gd : Option (Nat × Bool)}
theorem XR.perm {N : Nat} {ops : Array Oper} {i : Nat} {Q : Post} {D : List Deferred} (hp : List.Perm h h') (H : XR P r N ops i Q E D h) : XR P r N ops i Q E D h' := by
  intro w a ho ha hd
  refine wpOpsIn_mono ?_ _ _ _ (H w a (ho.perm hp) ha hd)
  rintro e a' w' ⟨E2, h2, q, ha2, hf⟩
  exact ⟨E2, h2, q, ha2, hf.permL hp.symm⟩
end Go.H

/-
  Ways that meet again.
-/
namespace Go.H
open Go
variable {P : Program} {r : Option Nat} {N : Nat} {Q : Post} {E : Env} {D : List Deferred} {h : Hp}
def Jn {σ : Type} (I : σ → Prop) (EI : σ → Env) (HI : σ → Hp) (Q : Post) (D : List Deferred) : Post := fun e E' D' h' => match e with
  | .normal => D' = D ∧ ∃ g, I g ∧ EnvLe (EI g) E' ∧ List.Sublist (HI g) h'
  | e => Q e E' D' h'
/-- Two codes, one behind the other, and what is so between them. -/
theorem xc_join {σ : Type} {x y : Code} (I : σ → Prop) (EI : σ → Env) (HI : σ → Hp) (H1 : XC P r N x (Jn I EI HI Q D) E D h) (H2 : ∀ g, I g → XC P r N y Q (EI g) D (HI g)) : XC P r N (.seq x y) Q E D h := by
  refine xc_seq (H1.mono fun e E' D' h' q => ?_)
  cases e with
  | normal => obtain ⟨rfl, g, i, l, s⟩ := q; exact (H2 g i).weaken l s
  | _ => exact q
section
variable {σ : Type} {I : σ → Prop} {EI : σ → Env} {HI : σ → Hp} {id : Nat} {ch : List PanicEntry}
theorem jn_n (g : σ) (hI : I g) (hl : EnvLe (EI g) E) (hs : List.Sublist (HI g) h) : Jn I EI HI Q D .normal E D h := ⟨rfl, g, hI, hl, hs⟩
theorem jn_r (H : Q .ret E D h) : Jn I EI HI Q D .ret E D h := H
end
end Go.H

