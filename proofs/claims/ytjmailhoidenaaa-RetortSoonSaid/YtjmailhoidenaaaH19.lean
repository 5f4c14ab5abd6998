/-
  From what an input reads as to the blocks that a walk owns: all blocks of the memory are owned, each stays.
-/
import Derived.Test.YtjmailhoidenaaaH13
import Derived.Below
import Derived.ProofKit
set_option linter.all false
namespace Go.H
open Go Go.RowKit
/-- All blocks of a memory. -/
def full (w : World) : Hp := (List.range w.heap.size).filterMap fun i => (w.heap[i]?).map fun o => (i, o)
theorem mem_full {w : World} {b : Nat} {o : Obj} : (b, o) ∈ full w ↔ w.heap[b]? = some o := by
  unfold full
  rw [List.mem_filterMap]
  constructor
  · rintro ⟨i, _, hi⟩
    cases ho : w.heap[i]? with
    | none => simp [ho] at hi
    | some o' => simp [ho] at hi; obtain ⟨rfl, rfl⟩ := hi; exact ho
  · intro ho
    refine ⟨b, List.mem_range.2 (Array.getElem?_eq_some_iff.1 ho).1, by simp [ho]⟩
theorem full_nd (w : World) : (keys (full w)).Nodup := by
  unfold keys full
  rw [List.map_filterMap]
  have hsub : List.Sublist ((List.range w.heap.size).filterMap fun i => ((w.heap[i]?).map fun o => (i, o)).map (·.1)) (List.range w.heap.size) := by
    generalize List.range w.heap.size = l
    induction l with
    | nil => exact List.Sublist.refl _
    | cons x l ih =>
      rw [List.filterMap_cons]
      cases hx : w.heap[x]? with
      | none => simpa [hx] using List.Sublist.cons _ ih
      | some o => simpa [hx] using List.Sublist.cons_cons x ih
  exact hsub.nodup List.nodup_range
theorem own_full (w : World) : Own (full w) w := ⟨full_nd w, fun _ _ hm => mem_full.1 hm⟩
theorem calls_of_full {P : Program} {f : FuncId} {args : Array Value} {W : World} {v : Value} (H : ∀ R : Ending → Hp → Prop, R (.returned v) (full W) → ACalls P f args (full W) R) : Calls P f args W fun e W' => e = .returned v ∧ Below W.heap.size W W' := by
  refine (H (fun e h' => e = .returned v ∧ h' = full W) ⟨rfl, rfl⟩ W (own_full W)).mono ?_
  rintro e w' ⟨h', ⟨rfl, rfl⟩, hf⟩
  refine ⟨rfl, hf.os, hf.tape, hf.output, hf.size, fun k hk => ?_⟩
  obtain ⟨o, ho⟩ : ∃ o, W.heap[k]? = some o := ⟨_, Array.getElem?_eq_getElem hk⟩
  rw [ho]
  exact hf.own.has _ _ (mem_full.2 ho)
/-! ### Inputs that read as data -/
section
variable {H : Type} {enc : TypeId × Value → H} {P : Program} {w : World} {sp : Nat → Bool} {held : Bool}
def In64 (v : Value) : Prop := ∃ n, v = .int .i64 n ∧ -9223372036854775808 ≤ n ∧ n ≤ 9223372036854775807
theorem in64_of {n : Int} (hw : (Lit.int .i64 n).wf = true) : -9223372036854775808 ≤ n ∧ n ≤ 9223372036854775807 := by
  simp only [Lit.wf, Bool.and_eq_true, decide_eq_true_eq] at hw
  exact ⟨hw.1, hw.2⟩
theorem trod_i64 {t : TypeId} (ht : P.underlying t = some (.int .i64)) {fuel : Nat} {cs : List Value} {x : DataW H × List MemPlace} (h : DataW.trod enc P w 0 sp held fuel t cs = some x) : ∃ v, cs = [v] ∧ In64 v := by
  cases fuel with
  | zero => simp [DataW.trod] at h
  | succ fuel =>
    unfold DataW.trod at h
    rw [ht] at h
    split at h <;> first | (simp at *; done) | skip
    rename_i k k' n hq
    cases hq
    split at h
    · rename_i hc
      obtain ⟨rfl, hw⟩ := hc
      exact ⟨_, rfl, n, rfl, in64_of hw⟩
    · cases h
theorem trod_struct_open {t : TypeId} {fs : Array Field} (ht : P.underlying t = some (.struct fs)) {fuel : Nat} {cs : List Value} {x : DataW H × List MemPlace} (h : DataW.trod enc P w 0 sp held fuel t cs = some x) :
    cs.length = P.cellsOf t ∧ ∀ f ∈ fs.toList, ∃ n y, DataW.trod enc P w 0 sp held n f.type ((cs.drop f.offset).take (P.cellsOf f.type)) = some y := by
  cases fuel with
  | zero => simp [DataW.trod] at h
  | succ fuel =>
    unfold DataW.trod at h
    rw [ht] at h
    simp only at h
    split at h
    · rename_i hl
      refine ⟨hl, fun f hf => ?_⟩
      cases hm : fs.toList.mapM fun f => DataW.trod enc P w 0 sp held fuel f.type ((cs.drop f.offset).take (P.cellsOf f.type)) with
      | none => rw [hm] at h; cases h
      | some xs =>
        have key : ∀ (l : List Field) (ys : List (DataW H × List MemPlace)), (l.mapM fun f => DataW.trod enc P w 0 sp held fuel f.type ((cs.drop f.offset).take (P.cellsOf f.type))) = some ys → ∀ f ∈ l, ∃ y, DataW.trod enc P w 0 sp held fuel f.type ((cs.drop f.offset).take (P.cellsOf f.type)) = some y := by
          intro l
          induction l with
          | nil => intro _ _ f hf; cases hf
          | cons g l ih =>
            intro ys hy f hf
            rw [List.mapM_cons] at hy
            cases hg : DataW.trod enc P w 0 sp held fuel g.type ((cs.drop g.offset).take (P.cellsOf g.type)) with
            | none => rw [hg] at hy; cases hy
            | some y =>
              rw [hg] at hy
              cases hr : l.mapM fun f => DataW.trod enc P w 0 sp held fuel f.type ((cs.drop f.offset).take (P.cellsOf f.type)) with
              | none => rw [hr] at hy; cases hy
              | some zs =>
                rcases List.mem_cons.1 hf with rfl | hf
                · exact ⟨y, hg⟩
                · exact ih zs hr f hf
        obtain ⟨y, hy⟩ := key _ _ hm f hf
        exact ⟨fuel, y, hy⟩
    · cases h
theorem mapM_range {α : Type} {f : Nat → Option α} : ∀ {n : Nat} {ys : List α}, (List.range n).mapM f = some ys → ys.length = n ∧ ∀ i, i < n → ∃ y, f i = some y ∧ ys[i]? = some y := by
  have key : ∀ (l : List Nat) (ys : List α), l.mapM f = some ys → l.length = ys.length ∧ ∀ (i x : Nat), l[i]? = some x → ∃ y, f x = some y ∧ ys[i]? = some y := by
    intro l
    induction l with
    | nil => intro ys hy; cases hy; exact ⟨rfl, fun i x hx => by simp at hx⟩
    | cons g l ih =>
      intro ys hy
      rw [List.mapM_cons] at hy
      cases hg : f g with
      | none => rw [hg] at hy; cases hy
      | some y =>
        rw [hg] at hy
        cases hr : l.mapM f with
        | none => rw [hr] at hy; cases hy
        | some zs =>
          rw [hr] at hy
          injection hy with hy
          subst hy
          refine ⟨by simp [(ih zs hr).1], fun i x hx => ?_⟩
          cases i with
          | zero => simp at hx; subst hx; exact ⟨y, hg, rfl⟩
          | succ i => simp at hx; obtain ⟨y', h1, h2⟩ := (ih zs hr).2 i x hx; exact ⟨y', h1, by simpa using h2⟩
  intro n ys hy
  exact ⟨by have := (key _ _ hy).1; simpa using this.symm, fun i hi => (key _ _ hy).2 i i (by simp [hi])⟩
/-- What a slice reads as: its elements' cells lie in one block. -/
theorem trod_slice_open {t e : TypeId} {sz : Nat} (ht : P.underlying t = some (.slice e)) (hsz : P.cellsOf e = sz) {fuel : Nat} {cs : List Value} {x : DataW H × List MemPlace} (h : DataW.trod enc P w 0 sp held fuel t cs = some x) :
    ∃ a len cap, cs = [.slice a len cap] ∧ len ≤ 9223372036854775807 ∧ (a = none ∧ len = 0 ∨ ∃ ad, a = some ad ∧ ∀ i, i < len → ∃ l n y, w.cells? 0 (ad.add (i * sz)) sz = some l ∧ DataW.trod enc P w 0 sp held n e l = some y) := by
  cases fuel with
  | zero => simp [DataW.trod] at h
  | succ fuel =>
    unfold DataW.trod at h
    rw [ht] at h
    split at h <;> first | (simp at *; done) | skip
    · exact ⟨none, 0, 0, rfl, by decide, .inl ⟨rfl, rfl⟩⟩
    · rename_i e' a len cap hq
      cases hq
      simp only at h
      split at h
      · rename_i hc
        rw [hsz] at h
        refine ⟨some a, len, cap, rfl, Nat.le_trans hc.2.1 (Nat.le_trans hc.2.2 (by decide)), .inr ⟨a, rfl, fun i hi => ?_⟩⟩
        cases hm : (List.range len).mapM fun i => (w.cells? 0 (a.add (i * sz)) sz).bind (DataW.trod enc P w 0 sp held fuel e) with
        | none => rw [hm] at h; cases h
        | some ys =>
          obtain ⟨y, hy, _⟩ := (mapM_range hm).2 i hi
          cases hl : w.cells? 0 (a.add (i * sz)) sz with
          | none => rw [hl] at hy; cases hy
          | some l => rw [hl] at hy; exact ⟨l, fuel, y, rfl, hy⟩
      · cases h
theorem cells_at {a : Addr} {sz : Nat} {l : List Value} (h0 : 0 < sz) (h : w.cells? 0 a sz = some l) : ∃ c t fz, a.spot = none ∧ w.heap[a.block]? = some (.cells c t fz) ∧ (c.toList.drop a.off).take sz = l := by
  unfold World.cells? at h
  rw [if_pos (Nat.zero_le _)] at h
  obtain ⟨hlen, h1⟩ := mapM_range h
  obtain ⟨v0, hv0, _⟩ := h1 0 h0
  have hadd0 : a.add 0 = a := rfl
  rw [hadd0] at hv0
  unfold World.cell? at hv0
  cases hb : w.heap[a.block]? with
  | none => simp [hb] at hv0
  | some o =>
    rw [hb] at hv0
    cases o with
    | cells c t fz =>
      simp only at hv0
      cases hs : a.spot with
      | some s => simp [hs] at hv0
      | none =>
        refine ⟨c, t, fz, rfl, rfl, ?_⟩
        apply List.ext_getElem?
        intro i
        by_cases hi : i < sz
        · obtain ⟨v, hv, hl⟩ := h1 i hi
          rw [List.getElem?_take, if_pos hi, List.getElem?_drop, hl]
          have hadd : (a.add i).block = a.block ∧ (a.add i).off = a.off + i ∧ (a.add i).spot = none := by
            unfold Addr.add
            split
            · rename_i hz; subst hz; exact ⟨rfl, rfl, hs⟩
            · exact ⟨rfl, rfl, rfl⟩
          unfold World.cell? at hv
          rw [hadd.1, hb] at hv
          simp only [hadd.2.2, hadd.2.1, Option.isSome_none] at hv
          rw [← hv]
          simp
        · rw [List.getElem?_take, if_neg hi, List.getElem?_eq_none (by omega)]
    | _ => simp at hv0
theorem list_of {α : Type} {Q : Nat → α → Prop} : ∀ (n : Nat), (∀ i, i < n → ∃ x, Q i x) → ∃ xs : List α, xs.length = n ∧ ∀ i x, xs[i]? = some x → Q i x
  | 0, _ => ⟨[], rfl, fun i x hx => by simp at hx⟩
  | n + 1, h => by
    obtain ⟨xs, h1, h2⟩ := list_of n fun i hi => h i (by omega)
    obtain ⟨x, hx⟩ := h n (by omega)
    refine ⟨xs ++ [x], by simp [h1], fun i y hy => ?_⟩
    by_cases hi : i < xs.length
    · rw [List.getElem?_append_left hi] at hy; exact h2 i y hy
    · rw [List.getElem?_append_right (by omega)] at hy
      have : i - xs.length = 0 := by
        have := (List.getElem?_eq_some_iff.1 hy).1
        simp at this; omega
      rw [this] at hy
      simp at hy; subst hy
      have : i = n := by omega
      subst this; exact hx
/-- A slice of elements, each known by its cells. -/
theorem open_slv {α : Type} {en : α → List Value} {t e : TypeId} {sz : Nat} (ht : P.underlying t = some (.slice e)) (hsz : P.cellsOf e = sz) (h0 : 0 < sz) (he : ∀ n l y, DataW.trod enc P w 0 sp held n e l = some y → ∃ x, l = en x)
    {fuel : Nat} {cs : List Value} {x : DataW H × List MemPlace} (h : DataW.trod enc P w 0 sp held fuel t cs = some x) :
    ∃ a cap xs, cs = [.slice a (xs : List α).length cap] ∧ xs.length ≤ 9223372036854775807 ∧ SlV (full w) sz en a xs := by
  obtain ⟨a, len, cap, rfl, hlen, hq⟩ := trod_slice_open ht hsz h
  rcases hq with ⟨rfl, rfl⟩ | ⟨ad, rfl, hq⟩
  · exact ⟨none, cap, [], rfl, by simp, .inl rfl⟩
  · obtain ⟨xs, hx1, hx2⟩ := list_of (α := α) (Q := fun i x => w.cells? 0 (ad.add (i * sz)) sz = some (en x)) len fun i hi => by
      obtain ⟨l, n, y, hl, hy⟩ := hq i hi
      obtain ⟨x, rfl⟩ := he n l y hy
      exact ⟨x, hl⟩
    subst hx1
    refine ⟨some ad, cap, xs, rfl, hlen, ?_⟩
    cases xs with
    | nil => exact .inl rfl
    | cons x0 xs =>
      have h1 := hx2 0 x0 rfl
      rw [Nat.zero_mul] at h1
      obtain ⟨c, t', fz, hs, hb, _⟩ := cells_at h0 h1
      have hs' : ad.spot = none := hs
      refine .inr ⟨ad.block, ad.off, c.toList, t', fz, ?_, mem_full.2 hb, fun i x hx => ?_⟩
      · cases ad; simp at hs'; simp [hs']
      · obtain ⟨c', t2, fz2, hs2, hb2, hd⟩ := cells_at h0 (hx2 i x hx)
        have hadd : (ad.add (i * sz)).block = ad.block ∧ (ad.add (i * sz)).off = ad.off + i * sz := by
          unfold Addr.add
          split
          · rename_i hz; rw [hz]; exact ⟨rfl, rfl⟩
          · exact ⟨rfl, rfl⟩
        rw [hadd.1] at hb2
        have hb' : w.heap[ad.block]? = some (.cells c t' fz) := hb
        rw [hb'] at hb2
        cases hb2
        rw [← hadd.2]; exact hd
end
end Go.H
