/-
  Iterators that hand out what they made themselves; parts of slices and of arrays; a slice beside nil; a full slice that grows.
-/
import Derived.Test.YtckaaaebegemoaaDoorHE
import Derived.Laws.MakeOwn
set_option linter.all false
namespace Go.H
open Go
variable {P : Program} {r : Option Nat} {N : Nat} {Q : Post} {E : Env} {D : List Deferred} {h h' : Hp}
section
variable {K : Value → Hp → Prop} {T : List PanicEntry → Hp → Prop} {dst : Option Nat} {ty : TypeId} {pos : String} {af : Array Edge} {gd : Option (Nat × Bool)}
theorem xv_slice3 {x y z : Operand} {t e : TypeId} {d : TD} {a : Option Addr} {n c m : Nat} {k k' : IntKind} {i : Int} (ht : SlT P t e) (hd : TyOk P e d) (hx : ev E x = some (.slice a n c)) (hy : ev E y = some (.int k i)) (hz : ev E z = some (.int k' i)) (h0 : 0 ≤ i) (h1 : i ≤ c) (hm : i.toNat = m)
    (H : K (.slice a m m) h) : XV P r ⟨dst, .slice t x none (some y) (some z), ty, pos, af, gd⟩ K T E h := by
  subst hm
  exact xv_of_run (by simp [plainOp]) fun w ρ ho he => ⟨_, h, w, by
    have h2 : i ≤ i.toNat := by omega
    have hadd : (if i.toNat = 0 then a else a.map (fun z => z.add (0 * d.size))) = a := by
      split
      · rfl
      · cases a <;> simp [addr_add0]
    simp only [execOp, he _ _ hx, Option.map_none, Option.map_some, he _ _ hy, he _ _ hz]
    simp [Instr.sliceAt, run_underlying ht, Instr.slice, Instr.sliceBounds, run_sliceBoundH h0 h1, run_sliceBoundH h0 h2, hd.run_size, hadd]
    intro _
    cases a <;> simp [addr_add0], H, .refl ho⟩
/-- 'append(x[:n:n], ..)': what is read stays as it is. -/
theorem xv_appendN {α : Type} {enc : α → List Value} {x y : Operand} {t e : TypeId} {d : TD} {a : Option Addr} {m bu ou cu sz : Nat} {l : List α} {lu news : List Value} {tu : TypeId} {fz : Nat × Nat} (ht : SlT P t e) (hd : TyOk P e d) (hzs : d.zero.cells.size = d.size) (hsz : d.size = sz)
    (hx : ev E x = some (.slice a l.length l.length)) (hy : ev E y = some (.slice (some ⟨bu, ou, none⟩) m cu)) (hl0 : SlV h sz enc a l) (henc : ∀ x, (enc x).length = sz) (hu : (bu, .cells ⟨lu⟩ tu fz) ∈ h) (hl : (lu.drop ou).take (m * d.size) = news) (hn : news.length = m * d.size)
    (h1 : news.all Value.oneCell' = true) (hm : 0 < m) (hb : 2 * (l.length + m) * d.bytes ≤ 281474976710656) (h63 : l.length + m ≤ 9223372036854775807)
    (H : ∀ b cap sp, (Vec.at b cap sp).ok sz (l.length + m) (l.flatMap enc ++ news) → K (.slice (some ⟨b, 0, none⟩) (l.length + m) cap) ((b, .cells ⟨(l.flatMap enc ++ news) ++ sp⟩ e (0, 0)) :: h)) : XV P r ⟨dst, .call ⟨.builtin .append, #[x, y], #[t, t]⟩, ty, pos, af, gd⟩ K T E h := by
  subst hsz
  refine xv_of_run (by simp [plainOp]) fun w ρ ho he => ?_
  obtain ⟨i, hi, his, hib, hiz⟩ := hd.info
  obtain ⟨cs, hcs⟩ := run_builtin (P := P) (dst := dst) (ty := ty) (pos := pos) (af := af) (gd := gd) ρ .append #[x, y] #[t, t] w
  have hub : w.heap[bu]? = some (.cells ⟨lu⟩ tu fz) := ho.has _ _ hu
  have hnews := cells_read hub hl hn
  have hbase : (execOp ρ ⟨dst, .call ⟨.builtin .append, #[x, y], #[t, t]⟩, ty, pos, af, gd⟩).run P w = ((Builtin.append_ #[t, t] ty #[.slice a l.length l.length, .slice (some ⟨bu, ou, none⟩) m cu]).run P w).andThen fun v w' => .ok (.value v) w' := by
    rw [hcs]; simp [builtin, he _ _ hx, he _ _ hy]
  rw [hbase]
  cases a with
  | none =>
    have hl1 : l = [] := by
      cases l with
      | nil => rfl
      | cons x xs => obtain ⟨b, o, li, t, fz, h0, _⟩ := hl0.at (i := 0) (by simp); cases h0
    subst hl1
    have hcap : m ≤ grownCap w m 0 e := by unfold grownCap; simp [Question.cut]
    have hr := run_append_nil (P := P) w t ty e i d.zero ht hi hiz ⟨bu, ou, none⟩ m cu news (by rw [his]; exact hn) hnews hm (by simp at h63; omega) (by rw [hib]; simp at hb; rw [Nat.mul_assoc] at hb; omega)
    simp only [List.length_nil, List.flatMap_nil, List.nil_append, Nat.zero_add] at H ⊢
    refine ⟨_, _, _, by rw [hr]; rfl, H w.heap.size (grownCap w m 0 e) (Builtin.zeroCells d.zero.cells (grownCap w m 0 e - m)).toList ?_, ?_⟩
    · refine ⟨by simpa using hn, by simpa using hcap, ?_⟩
      simp only [List.length_append, hn, Array.length_toList, size_zeroCells, hzs]
      rw [← Nat.add_mul]; congr 1; omega
    · have := (Fol.alloc (ho.drew (w.drawn + 1)) (.cells (news.toArray ++ Builtin.zeroCells d.zero.cells (grownCap w m 0 e - m)) e)).drew
      have e2 : (⟨news ++ (Builtin.zeroCells d.zero.cells (grownCap w m 0 e - m)).toList⟩ : Array Value) = news.toArray ++ Builtin.zeroCells d.zero.cells (grownCap w m 0 e - m) := by apply Array.ext'; simp
      simp only [e2]
      exact this
  | some a =>
    have hold : ∀ j v, (l.flatMap enc)[j]? = some v → w.cell? (a.add j) = some v := by
      rcases hl0 with rfl | ⟨b, o, li, t9, fz9, ha, hm9, hx9⟩
      · intro j v hv; simp at hv
      · cases ha
        exact cells_read (m := l.length) (ho.has _ _ hm9) (slv_flat2 henc hx9) (flat_lenM henc _)
    have hgt : l.length < l.length + m := by omega
    have hfit : Builtin.nextslicecap (l.length + m) l.length * i.bytes ≤ 281474976710656 := by
      rw [hib]
      exact Nat.le_trans (Nat.mul_le_mul_right _ (nextslicecap_le hgt)) hb
    have h63' : ((l.length + m : Nat) : Int) ≤ 9223372036854775807 := by omega
    have hx1 := flat_lenM henc l
    have hr := run_append_grow (P := P) w t ty e i d.zero ht hi hiz a l.length l.length (l.flatMap enc) (by rw [his]; exact hx1) hold ⟨bu, ou, none⟩ m cu news (by rw [his]; exact hn) hnews hgt h63' hfit
    have hcap : l.length + m ≤ grownCap w (l.length + m) l.length e := by unfold grownCap; simp [Question.cut]
    refine ⟨_, _, _, by rw [hr]; rfl, H w.heap.size (grownCap w (l.length + m) l.length e) (Builtin.zeroCells d.zero.cells (grownCap w (l.length + m) l.length e - (l.length + m))).toList ?_, ?_⟩
    · refine ⟨by simp [hx1, hn, Nat.add_mul], hcap, ?_⟩
      simp only [List.length_append, hx1, hn, Array.length_toList, size_zeroCells, hzs]
      rw [← Nat.add_mul, ← Nat.add_mul]; congr 1; omega
    · have := (Fol.alloc (ho.drew (w.drawn + 1)) (.cells ((l.flatMap enc).toArray ++ news.toArray ++ Builtin.zeroCells d.zero.cells (grownCap w (l.length + m) l.length e - (l.length + m))) e)).drew
      have e2 : (⟨l.flatMap enc ++ news ++ (Builtin.zeroCells d.zero.cells (grownCap w (l.length + m) l.length e - (l.length + m))).toList⟩ : Array Value) = (l.flatMap enc).toArray ++ news.toArray ++ Builtin.zeroCells d.zero.cells (grownCap w (l.length + m) l.length e - (l.length + m)) := by apply Array.ext'; simp
      simp only [e2]
      exact this
theorem wrap_u64 {n : Int} (h1 : 0 ≤ n) (h2 : n ≤ 9223372036854775807) : IntKind.u64.wrap n = n := by
  rw [IntKind.wrap_u64]; omega
theorem wrap_u8 {n : Int} (h1 : 0 ≤ n) (h2 : n ≤ 255) : IntKind.u8.wrap n = n := by
  rw [IntKind.wrap_u8]; omega
end
end Go.H
