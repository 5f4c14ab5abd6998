/-
  Slices that grow: what 'append' leaves, whether there was room or not.
-/
import Derived.Test.YtjmailhoidenaaaH9
set_option linter.all false
namespace Go.H
open Go
variable {P : Program} {r : Option Nat} {N : Nat} {Q : Post} {E : Env} {D : List Deferred} {h h' g : Hp}
variable {K : Value → Hp → Prop} {T : List PanicEntry → Hp → Prop} {dst : Option Nat} {ty : TypeId} {pos : String} {af : Array Edge} {gd : Option (Nat × Bool)}
/-- A slice that the code alone holds: none yet, or a block with room behind. -/
inductive Vec where
  | nil
  | at (b cap : Nat) (sp : List Value)
def Vec.val : Vec → Nat → Value
  | .nil, _ => .slice none 0 0
  | .at b cap _, n => .slice (some ⟨b, 0, none⟩) n cap
def Vec.hp : Vec → TypeId → List Value → Hp
  | .nil, _, _ => []
  | .at b _ sp, t, xs => [(b, .cells ⟨xs ++ sp⟩ t (0, 0))]
def Vec.ok : Vec → Nat → Nat → List Value → Prop
  | .nil, sz, n, xs => xs.length = n * sz ∧ n = 0
  | .at _ cap sp, sz, n, xs => xs.length = n * sz ∧ n ≤ cap ∧ (xs ++ sp).length = cap * sz
/-- A part of the list of blocks, and what is left. -/
inductive Tk : Hp → Hp → Hp → Prop
  | here {a r : Hp} : Tk a (a ++ r) r
  | there {a h r : Hp} {x : Nat × Obj} : Tk a h r → Tk a (x :: h) (x :: r)
  | skip {a h r b : Hp} : Tk a h r → Tk a (b ++ h) (b ++ r)
theorem Tk.perm {a h r : Hp} (H : Tk a h r) : List.Perm h (a ++ r) := by
  induction H with
  | here => exact List.Perm.refl _
  | there _ ih => exact (ih.cons _).trans (List.perm_middle).symm
  | skip _ ih =>
    refine (ih.append_left _).trans ?_
    rw [← List.append_assoc, ← List.append_assoc]
    exact (List.perm_append_comm).append_right _
theorem xv_append0 {x y : Operand} {t e : TypeId} {d : TD} {a a' : Option Addr} {n c c' : Nat} (ht : SlT P t e) (hd : TyOk P e d) (hx : ev E x = some (.slice a n c)) (hy : ev E y = some (.slice a' 0 c')) (hn : n ≤ c) (H : K (.slice a n c) h) : XV P r ⟨dst, .call ⟨.builtin .append, #[x, y], #[t, t]⟩, ty, pos, af, gd⟩ K T E h :=
  xv_of_run (by simp [plainOp]) fun w ρ ho he => ⟨_, h, w, by
    obtain ⟨cs, hcs⟩ := run_builtin (P := P) (dst := dst) (ty := ty) (pos := pos) (af := af) (gd := gd) ρ .append #[x, y] #[t, t] w
    rw [hcs]
    cases a' with
    | none => cases a <;> simp [builtin, Builtin.append_, he _ _ hx, he _ _ hy, run_underlying ht, hd.run_size, Builtin.lenOf, Builtin.firstCells, hn, storeCells]
    | some a' => cases a <;> simp [builtin, Builtin.append_, he _ _ hx, he _ _ hy, run_underlying ht, hd.run_size, Builtin.lenOf, Builtin.firstCells, hn, storeCells, loadCells, loadCellsFrom], H, .refl ho⟩
theorem fol_grow {w : World} {b : Nat} {o : Obj} (ho : Own ((b, o) :: g) w) (o' : Obj) : Fol ((b, o) :: g) w ((w.heap.size, o') :: g) (w.drew.alloc o') := by
  have f1 : Fol ((b, o) :: g) w ((w.heap.size, o') :: (b, o) :: g) (w.drew.alloc o') := by
    have := Fol.alloc (ho.drew (w.drawn + 1)) o'
    exact this.drew
  exact f1.sub ((List.sublist_cons_self _ _).cons_cons _)
theorem cells_read {w : World} {bu ou m sz : Nat} {lu news : List Value} {tu : TypeId} {fz : Nat × Nat} (hb : w.heap[bu]? = some (.cells ⟨lu⟩ tu fz)) (hl : (lu.drop ou).take (m * sz) = news) (hn : news.length = m * sz) :
    ∀ j v, news[j]? = some v → w.cell? ((⟨bu, ou, none⟩ : Addr).add j) = some v := by
  intro j v hv
  have hj : j < m * sz := by rw [← hn]; exact (List.getElem?_eq_some_iff.1 hv).1
  rw [addr_add]
  simp only [World.cell?, hb]
  rw [← hl, List.getElem?_take_of_lt hj, List.getElem?_drop] at hv
  simpa using hv
theorem xv_append {x y : Operand} {t e : TypeId} {d : TD} {V : Vec} {n m bu ou cu : Nat} {xs lu news : List Value} {tu : TypeId} {fz : Nat × Nat} (ht : SlT P t e) (hd : TyOk P e d) (hzs : d.zero.cells.size = d.size)
    (hx : ev E x = some (V.val n)) (hy : ev E y = some (.slice (some ⟨bu, ou, none⟩) m cu)) (hV : V.ok d.size n xs) (hp : Tk (V.hp e xs) h g) (hu : (bu, .cells ⟨lu⟩ tu fz) ∈ g) (hl : (lu.drop ou).take (m * d.size) = news) (hn : news.length = m * d.size)
    (h1 : news.all Value.oneCell' = true) (hm : 0 < m) (hb : 2 * (n + m) * d.bytes ≤ 281474976710656) (h63 : n + m ≤ 9223372036854775807)
    (H : ∀ V' : Vec, V'.ok d.size (n + m) (xs ++ news) → K (V'.val (n + m)) (V'.hp e (xs ++ news) ++ g)) : XV P r ⟨dst, .call ⟨.builtin .append, #[x, y], #[t, t]⟩, ty, pos, af, gd⟩ K T E h := by
  refine XV.perm hp.perm.symm (xv_of_run (by simp [plainOp]) fun w ρ ho he => ?_)
  obtain ⟨i, hi, his, hib, hiz⟩ := hd.info
  obtain ⟨cs, hcs⟩ := run_builtin (P := P) (dst := dst) (ty := ty) (pos := pos) (af := af) (gd := gd) ρ .append #[x, y] #[t, t] w
  have hub : w.heap[bu]? = some (.cells ⟨lu⟩ tu fz) := ho.has _ _ (List.mem_append_right _ hu)
  have hnews := cells_read hub hl hn
  have hbase : (execOp ρ ⟨dst, .call ⟨.builtin .append, #[x, y], #[t, t]⟩, ty, pos, af, gd⟩).run P w = ((Builtin.append_ #[t, t] ty #[V.val n, .slice (some ⟨bu, ou, none⟩) m cu]).run P w).andThen fun v w' => .ok (.value v) w' := by
    rw [hcs]; simp [builtin, he _ _ hx, he _ _ hy]
  rw [hbase]
  have h63' : ((n + m : Nat) : Int) ≤ 9223372036854775807 := by omega
  cases V with
  | nil =>
    obtain ⟨hx1, rfl⟩ := hV
    have hxs : xs = [] := List.length_eq_zero_iff.1 (by simpa using hx1)
    subst hxs
    simp only [Nat.zero_add] at H hb h63 h63'
    have hcap : m ≤ grownCap w m 0 e := by unfold grownCap; simp [Question.cut]
    have hr := run_append_nil (P := P) w t ty e i d.zero ht hi hiz ⟨bu, ou, none⟩ m cu news (by rw [his]; exact hn) hnews hm (by omega) (by rw [hib]; rw [Nat.mul_assoc] at hb; omega)
    refine ⟨_, _, _, by rw [show Vec.val .nil 0 = .slice none 0 0 from rfl, hr]; rfl, H (.at w.heap.size (grownCap w m 0 e) (Builtin.zeroCells d.zero.cells (grownCap w m 0 e - m)).toList) ?_, ?_⟩
    · refine ⟨by simpa using hn, by simpa using hcap, ?_⟩
      simp only [List.nil_append, List.length_append, hn, Array.length_toList, size_zeroCells, hzs]
      rw [← Nat.add_mul]; congr 1; omega
    · have := (Fol.alloc (ho.drew (w.drawn + 1)) (.cells (news.toArray ++ Builtin.zeroCells d.zero.cells (grownCap w m 0 e - m)) e)).drew
      have e2 : (⟨news ++ (Builtin.zeroCells d.zero.cells (grownCap w m 0 e - m)).toList⟩ : Array Value) = news.toArray ++ Builtin.zeroCells d.zero.cells (grownCap w m 0 e - m) := by apply Array.ext'; simp
      simp only [Vec.hp, List.nil_append, List.cons_append, e2]
      exact this
  | «at» b cap sp =>
    obtain ⟨hx1, hx2, hx3⟩ := hV
    have hg : w.heap[b]? = some (.cells ⟨xs ++ sp⟩ e (0, 0)) := ho.has _ _ List.mem_cons_self
    by_cases hroom : n + m ≤ cap
    · have hfit : n * i.size + news.length ≤ (⟨xs ++ sp⟩ : Array Value).size := by
        rw [his, hn, ← Nat.add_mul]
        simp only [List.size_toArray, hx3]
        exact Nat.mul_le_mul_right _ hroom
      have hr := run_append_room (P := P) w t ty e i ht hi b n cap ⟨xs ++ sp⟩ hg ⟨bu, ou, none⟩ m cu news (by rw [his]; exact hn) hnews (List.all_eq_true.1 h1) hroom hfit
      have hcur : ((xs ++ sp).take (n * i.size) ++ news ++ (xs ++ sp).drop (n * i.size + news.length)) = (xs ++ news) ++ sp.drop news.length := by
        rw [his, ← hx1, List.take_left, List.drop_append]
        have : List.drop (xs.length + news.length) xs = [] := List.drop_eq_nil_of_le (by omega)
        rw [this]; simp
      refine ⟨_, _, _, by rw [show Vec.val (.at b cap sp) n = .slice (some ⟨b, 0, none⟩) n cap from rfl, hr]; rfl, H (.at b cap (sp.drop news.length)) ?_, ?_⟩
      · refine ⟨by simp [hx1, hn, Nat.add_mul], hroom, ?_⟩
        simp only [List.length_append, List.length_drop] at hx3 ⊢
        have hle : news.length ≤ sp.length := by
          have := Nat.mul_le_mul_right d.size hroom
          rw [Nat.add_mul] at this
          omega
        omega
      · have := fol_row ho (List.mem_cons_self (a := (b, Obj.cells ⟨xs ++ sp⟩ e (0, 0))) (l := g)) ((xs ++ news) ++ sp.drop news.length)
        simp only [Vec.hp, List.cons_append, List.nil_append, setH, if_true] at this ⊢
        rw [show ((⟨xs ++ sp⟩ : Array Value).toList.take (n * i.size) ++ news ++ (⟨xs ++ sp⟩ : Array Value).toList.drop (n * i.size + news.length)) = (xs ++ news) ++ sp.drop news.length from hcur]
        exact this
    · have hgt : cap < n + m := by omega
      have hold : ∀ j v, xs[j]? = some v → w.cell? ((⟨b, 0, none⟩ : Addr).add j) = some v := by
        intro j v hv
        rw [addr_add]
        simp only [World.cell?, hg]
        have hlt : j < xs.length := (List.getElem?_eq_some_iff.1 hv).1
        simp [List.getElem?_append_left hlt, hv]
      have hfit : Builtin.nextslicecap (n + m) cap * i.bytes ≤ 281474976710656 := by
        rw [hib]
        exact Nat.le_trans (Nat.mul_le_mul_right _ (nextslicecap_le hgt)) hb
      have hr := run_append_grow (P := P) w t ty e i d.zero ht hi hiz ⟨b, 0, none⟩ n cap xs (by rw [his]; exact hx1) hold ⟨bu, ou, none⟩ m cu news (by rw [his]; exact hn) hnews hgt h63' hfit
      have hcap : n + m ≤ grownCap w (n + m) cap e := by unfold grownCap; simp [Question.cut]
      refine ⟨_, _, _, by rw [show Vec.val (.at b cap sp) n = .slice (some ⟨b, 0, none⟩) n cap from rfl, hr]; rfl, H (.at w.heap.size (grownCap w (n + m) cap e) (Builtin.zeroCells d.zero.cells (grownCap w (n + m) cap e - (n + m))).toList) ?_, ?_⟩
      · refine ⟨by simp [hx1, hn, Nat.add_mul], hcap, ?_⟩
        simp only [List.length_append, hx1, hn, Array.length_toList, size_zeroCells, hzs]
        rw [← Nat.add_mul, ← Nat.add_mul]; congr 1; omega
      · have := fol_grow ho (.cells (xs.toArray ++ news.toArray ++ Builtin.zeroCells d.zero.cells (grownCap w (n + m) cap e - (n + m))) e)
        have e2 : (⟨xs ++ news ++ (Builtin.zeroCells d.zero.cells (grownCap w (n + m) cap e - (n + m))).toList⟩ : Array Value) = xs.toArray ++ news.toArray ++ Builtin.zeroCells d.zero.cells (grownCap w (n + m) cap e - (n + m)) := by apply Array.ext'; simp
        simp only [Vec.hp, List.nil_append, List.cons_append, e2]
        exact this
end Go.H
