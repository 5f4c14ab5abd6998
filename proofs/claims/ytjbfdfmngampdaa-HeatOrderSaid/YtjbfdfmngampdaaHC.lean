/-
  The logic of owned blocks over the kit, part HC.
-/
import Derived.Test.YtjbfdfmngampdaaHB
set_option linter.all false
/-
  Slices that grow: what 'append' leaves, whether there was room or not.
-/
namespace Go.H
open Go
variable {P : Program} {r : Option Nat} {N : Nat} {Q : Post} {E : Env} {D : List Deferred} {h h' g : Hp}
variable {K : Value → Hp → Prop} {T : List PanicEntry → Hp → Prop} {dst : Option Nat} {ty : TypeId} {pos : String} {af : Array Edge} {gd : Option (Nat × Bool)}
/-- A slice that the code alone holds: none yet, or a block with room behind. -/
inductive Vec where
  | nil
  | at (b cap : Nat) (sp : List Value)
def Vec.val : Vec → Nat → Value
  | .nil, _ => .slice none 0 0
  | .at b cap _, n => .slice (some ⟨b, 0, none⟩) n cap
def Vec.hp : Vec → TypeId → List Value → Hp
  | .nil, _, _ => []
  | .at b _ sp, t, xs => [(b, .cells ⟨xs ++ sp⟩ t (0, 0))]
def Vec.ok : Vec → Nat → Nat → List Value → Prop
  | .nil, sz, n, xs => xs.length = n * sz ∧ n = 0
  | .at _ cap sp, sz, n, xs => xs.length = n * sz ∧ n ≤ cap ∧ (xs ++ sp).length = cap * sz
/-- A part of the list of blocks, and what is left. -/
inductive Tk : Hp → Hp → Hp → Prop
  | here {a r : Hp} : Tk a (a ++ r) r
  | there {a h r : Hp} {x : Nat × Obj} : Tk a h r → Tk a (x :: h) (x :: r)
  | skip {a h r b : Hp} : Tk a h r → Tk a (b ++ h) (b ++ r)
theorem Tk.perm {a h r : Hp} (H : Tk a h r) : List.Perm h (a ++ r) := by
  induction H with
  | here => exact List.Perm.refl _
  | there _ ih => exact (ih.cons _).trans (List.perm_middle).symm
  | skip _ ih =>
    refine (ih.append_left _).trans ?_
    rw [← List.append_assoc, ← List.append_assoc]
    exact (List.perm_append_comm).append_right _
theorem xv_append0 {x y : Operand} {t e : TypeId} {d : TD} {a a' : Option Addr} {n c c' : Nat} (ht : SlT P t e) (hd : TyOk P e d) (hx : ev E x = some (.slice a n c)) (hy : ev E y = some (.slice a' 0 c')) (hn : n ≤ c) (H : K (.slice a n c) h) : XV P r ⟨dst, .call ⟨.builtin .append, #[x, y], #[t, t]⟩, ty, pos, af, gd⟩ K T E h :=
  xv_of_run (by simp [plainOp]) fun w ρ ho he => ⟨_, h, w, by
    obtain ⟨cs, hcs⟩ := run_builtin (P := P) (dst := dst) (ty := ty) (pos := pos) (af := af) (gd := gd) ρ .append #[x, y] #[t, t] w
    rw [hcs]
    cases a' with
    | none => cases a <;> simp [builtin, Builtin.append_, he _ _ hx, he _ _ hy, run_underlying ht, hd.run_size, Builtin.lenOf, Builtin.firstCells, hn, storeCells]
    | some a' => cases a <;> simp [builtin, Builtin.append_, he _ _ hx, he _ _ hy, run_underlying ht, hd.run_size, Builtin.lenOf, Builtin.firstCells, hn, storeCells, loadCells, loadCellsFrom], H, .refl ho⟩
theorem fol_grow {w : World} {b : Nat} {o : Obj} (ho : Own ((b, o) :: g) w) (o' : Obj) : Fol ((b, o) :: g) w ((w.heap.size, o') :: g) (w.drew.alloc o') := by
  have f1 : Fol ((b, o) :: g) w ((w.heap.size, o') :: (b, o) :: g) (w.drew.alloc o') := by
    have := Fol.alloc (ho.drew (w.drawn + 1)) o'
    exact this.drew
  exact f1.sub ((List.sublist_cons_self _ _).cons_cons _)
theorem cells_read {w : World} {bu ou m sz : Nat} {lu news : List Value} {tu : TypeId} {fz : Nat × Nat} (hb : w.heap[bu]? = some (.cells ⟨lu⟩ tu fz)) (hl : (lu.drop ou).take (m * sz) = news) (hn : news.length = m * sz) :
    ∀ j v, news[j]? = some v → w.cell? ((⟨bu, ou, none⟩ : Addr).add j) = some v := by
  intro j v hv
  have hj : j < m * sz := by rw [← hn]; exact (List.getElem?_eq_some_iff.1 hv).1
  rw [addr_add]
  simp only [World.cell?, hb]
  rw [← hl, List.getElem?_take_of_lt hj, List.getElem?_drop] at hv
  simpa using hv
theorem xv_append {x y : Operand} {t e : TypeId} {d : TD} {V : Vec} {n m bu ou cu : Nat} {xs lu news : List Value} {tu : TypeId} {fz : Nat × Nat} (ht : SlT P t e) (hd : TyOk P e d) (hzs : d.zero.cells.size = d.size)
    (hx : ev E x = some (V.val n)) (hy : ev E y = some (.slice (some ⟨bu, ou, none⟩) m cu)) (hV : V.ok d.size n xs) (hp : Tk (V.hp e xs) h g) (hu : (bu, .cells ⟨lu⟩ tu fz) ∈ g) (hl : (lu.drop ou).take (m * d.size) = news) (hn : news.length = m * d.size)
    (h1 : news.all Value.oneCell' = true) (hm : 0 < m) (hb : 2 * (n + m) * d.bytes ≤ 281474976710656) (h63 : n + m ≤ 9223372036854775807)
    (H : ∀ V' : Vec, V'.ok d.size (n + m) (xs ++ news) → K (V'.val (n + m)) (V'.hp e (xs ++ news) ++ g)) : XV P r ⟨dst, .call ⟨.builtin .append, #[x, y], #[t, t]⟩, ty, pos, af, gd⟩ K T E h := by
  refine XV.perm hp.perm.symm (xv_of_run (by simp [plainOp]) fun w ρ ho he => ?_)
  obtain ⟨i, hi, his, hib, hiz⟩ := hd.info
  obtain ⟨cs, hcs⟩ := run_builtin (P := P) (dst := dst) (ty := ty) (pos := pos) (af := af) (gd := gd) ρ .append #[x, y] #[t, t] w
  have hub : w.heap[bu]? = some (.cells ⟨lu⟩ tu fz) := ho.has _ _ (List.mem_append_right _ hu)
  have hnews := cells_read hub hl hn
  have hbase : (execOp ρ ⟨dst, .call ⟨.builtin .append, #[x, y], #[t, t]⟩, ty, pos, af, gd⟩).run P w = ((Builtin.append_ #[t, t] ty #[V.val n, .slice (some ⟨bu, ou, none⟩) m cu]).run P w).andThen fun v w' => .ok (.value v) w' := by
    rw [hcs]; simp [builtin, he _ _ hx, he _ _ hy]
  rw [hbase]
  have h63' : ((n + m : Nat) : Int) ≤ 9223372036854775807 := by omega
  cases V with
  | nil =>
    obtain ⟨hx1, rfl⟩ := hV
    have hxs : xs = [] := List.length_eq_zero_iff.1 (by simpa using hx1)
    subst hxs
    simp only [Nat.zero_add] at H hb h63 h63'
    have hcap : m ≤ grownCap w m 0 e := by unfold grownCap; simp [Question.cut]
    have hr := run_append_nil (P := P) w t ty e i d.zero ht hi hiz ⟨bu, ou, none⟩ m cu news (by rw [his]; exact hn) hnews hm (by omega) (by rw [hib]; rw [Nat.mul_assoc] at hb; omega)
    refine ⟨_, _, _, by rw [show Vec.val .nil 0 = .slice none 0 0 from rfl, hr]; rfl, H (.at w.heap.size (grownCap w m 0 e) (Builtin.zeroCells d.zero.cells (grownCap w m 0 e - m)).toList) ?_, ?_⟩
    · refine ⟨by simpa using hn, by simpa using hcap, ?_⟩
      simp only [List.nil_append, List.length_append, hn, Array.length_toList, size_zeroCells, hzs]
      rw [← Nat.add_mul]; congr 1; omega
    · have := (Fol.alloc (ho.drew (w.drawn + 1)) (.cells (news.toArray ++ Builtin.zeroCells d.zero.cells (grownCap w m 0 e - m)) e)).drew
      have e2 : (⟨news ++ (Builtin.zeroCells d.zero.cells (grownCap w m 0 e - m)).toList⟩ : Array Value) = news.toArray ++ Builtin.zeroCells d.zero.cells (grownCap w m 0 e - m) := by apply Array.ext'; simp
      simp only [Vec.hp, List.nil_append, List.cons_append, e2]
      exact this
  | «at» b cap sp =>
    obtain ⟨hx1, hx2, hx3⟩ := hV
    have hg : w.heap[b]? = some (.cells ⟨xs ++ sp⟩ e (0, 0)) := ho.has _ _ List.mem_cons_self
    by_cases hroom : n + m ≤ cap
    · have hfit : n * i.size + news.length ≤ (⟨xs ++ sp⟩ : Array Value).size := by
        rw [his, hn, ← Nat.add_mul]
        simp only [List.size_toArray, hx3]
        exact Nat.mul_le_mul_right _ hroom
      have hr := run_append_room (P := P) w t ty e i ht hi b n cap ⟨xs ++ sp⟩ hg ⟨bu, ou, none⟩ m cu news (by rw [his]; exact hn) hnews (List.all_eq_true.1 h1) hroom hfit
      have hcur : ((xs ++ sp).take (n * i.size) ++ news ++ (xs ++ sp).drop (n * i.size + news.length)) = (xs ++ news) ++ sp.drop news.length := by
        rw [his, ← hx1, List.take_left, List.drop_append]
        have : List.drop (xs.length + news.length) xs = [] := List.drop_eq_nil_of_le (by omega)
        rw [this]; simp
      refine ⟨_, _, _, by rw [show Vec.val (.at b cap sp) n = .slice (some ⟨b, 0, none⟩) n cap from rfl, hr]; rfl, H (.at b cap (sp.drop news.length)) ?_, ?_⟩
      · refine ⟨by simp [hx1, hn, Nat.add_mul], hroom, ?_⟩
        simp only [List.length_append, List.length_drop] at hx3 ⊢
        have hle : news.length ≤ sp.length := by
          have := Nat.mul_le_mul_right d.size hroom
          rw [Nat.add_mul] at this
          omega
        omega
      · have := fol_row ho (List.mem_cons_self (a := (b, Obj.cells ⟨xs ++ sp⟩ e (0, 0))) (l := g)) ((xs ++ news) ++ sp.drop news.length)
        simp only [Vec.hp, List.cons_append, List.nil_append, setH, if_true] at this ⊢
        rw [show ((⟨xs ++ sp⟩ : Array Value).toList.take (n * i.size) ++ news ++ (⟨xs ++ sp⟩ : Array Value).toList.drop (n * i.size + news.length)) = (xs ++ news) ++ sp.drop news.length from hcur]
        exact this
    · have hgt : cap < n + m := by omega
      have hold : ∀ j v, xs[j]? = some v → w.cell? ((⟨b, 0, none⟩ : Addr).add j) = some v := by
        intro j v hv
        rw [addr_add]
        simp only [World.cell?, hg]
        have hlt : j < xs.length := (List.getElem?_eq_some_iff.1 hv).1
        simp [List.getElem?_append_left hlt, hv]
      have hfit : Builtin.nextslicecap (n + m) cap * i.bytes ≤ 281474976710656 := by
        rw [hib]
        exact Nat.le_trans (Nat.mul_le_mul_right _ (nextslicecap_le hgt)) hb
      have hr := run_append_grow (P := P) w t ty e i d.zero ht hi hiz ⟨b, 0, none⟩ n cap xs (by rw [his]; exact hx1) hold ⟨bu, ou, none⟩ m cu news (by rw [his]; exact hn) hnews hgt h63' hfit
      have hcap : n + m ≤ grownCap w (n + m) cap e := by unfold grownCap; simp [Question.cut]
      refine ⟨_, _, _, by rw [show Vec.val (.at b cap sp) n = .slice (some ⟨b, 0, none⟩) n cap from rfl, hr]; rfl, H (.at w.heap.size (grownCap w (n + m) cap e) (Builtin.zeroCells d.zero.cells (grownCap w (n + m) cap e - (n + m))).toList) ?_, ?_⟩
      · refine ⟨by simp [hx1, hn, Nat.add_mul], hcap, ?_⟩
        simp only [List.length_append, hx1, hn, Array.length_toList, size_zeroCells, hzs]
        rw [← Nat.add_mul, ← Nat.add_mul]; congr 1; omega
      · have := fol_grow ho (.cells (xs.toArray ++ news.toArray ++ Builtin.zeroCells d.zero.cells (grownCap w (n + m) cap e - (n + m))) e)
        have e2 : (⟨xs ++ news ++ (Builtin.zeroCells d.zero.cells (grownCap w (n + m) cap e - (n + m))).toList⟩ : Array Value) = xs.toArray ++ news.toArray ++ Builtin.zeroCells d.zero.cells (grownCap w (n + m) cap e - (n + m)) := by apply Array.ext'; simp
        simp only [Vec.hp, List.nil_append, List.cons_append, e2]
        exact this
end Go.H

/-
  Small rules that the written walks use.
-/
namespace Go.H
open Go
variable {P : Program} {r : Option Nat} {N : Nat} {Q : Post} {E : Env} {D : List Deferred} {h h' : Hp}
variable {K : Value → Hp → Prop} {T : List PanicEntry → Hp → Prop} {dst : Option Nat} {ty : TypeId} {pos : String} {af : Array Edge} {gd : Option (Nat × Bool)}
section
variable {KK : Env → List Deferred → Hp → Prop} {id id' : Nat} {ch : List PanicEntry}
theorem th_n (H : KK E D h) : Th KK Q .normal E D h := H
theorem th_x (H : Q (.exit id) E D h) : Th KK Q (.exit id) E D h := H
theorem th_r (H : Q .ret E D h) : Th KK Q .ret E D h := H
theorem bk_n (H : Q .normal E D h) : Bk id Q .normal E D h := H
theorem bk_r (H : Q .ret E D h) : Bk id Q .ret E D h := H
end
theorem up_ret {v : Value} (H : K v h) : Up K T (.returned v) h := H
theorem xv_lss2 {xt yt : TypeId} {x y : Operand} {k : IntKind} {a b : Int} (hx : ev E x = some (.int k a)) (hy : ev E y = some (.int k b))
    (H1 : a < b → K (.bool true) h) (H2 : b ≤ a → K (.bool false) h) : XV P r ⟨dst, .binOp .lss xt x y yt, ty, pos, af, gd⟩ K T E h :=
  xv_cmp2 hx hy rfl (fun hh => H1 hh) (fun hh => H2 (by simp only [cmpP] at hh; omega))
theorem xv_leq2 {xt yt : TypeId} {x y : Operand} {k : IntKind} {a b : Int} (hx : ev E x = some (.int k a)) (hy : ev E y = some (.int k b))
    (H1 : a ≤ b → K (.bool true) h) (H2 : b < a → K (.bool false) h) : XV P r ⟨dst, .binOp .leq xt x y yt, ty, pos, af, gd⟩ K T E h :=
  xv_cmp2 hx hy rfl (fun hh => H1 hh) (fun hh => H2 (by simp only [cmpP] at hh; omega))
theorem xv_gtr2 {xt yt : TypeId} {x y : Operand} {k : IntKind} {a b : Int} (hx : ev E x = some (.int k a)) (hy : ev E y = some (.int k b))
    (H1 : b < a → K (.bool true) h) (H2 : a ≤ b → K (.bool false) h) : XV P r ⟨dst, .binOp .gtr xt x y yt, ty, pos, af, gd⟩ K T E h :=
  xv_cmp2 hx hy rfl (fun hh => H1 hh) (fun hh => H2 (by simp only [cmpP] at hh; omega))
theorem xv_geq2 {xt yt : TypeId} {x y : Operand} {k : IntKind} {a b : Int} (hx : ev E x = some (.int k a)) (hy : ev E y = some (.int k b))
    (H1 : b ≤ a → K (.bool true) h) (H2 : a < b → K (.bool false) h) : XV P r ⟨dst, .binOp .geq xt x y yt, ty, pos, af, gd⟩ K T E h :=
  xv_cmp2 hx hy rfl (fun hh => H1 hh) (fun hh => H2 (by simp only [cmpP] at hh; omega))
theorem xv_eql2 {xt yt : TypeId} {x y : Operand} {k : IntKind} {a b : Int} (hx : ev E x = some (.int k a)) (hy : ev E y = some (.int k b))
    (H1 : a = b → K (.bool true) h) (H2 : a ≠ b → K (.bool false) h) : XV P r ⟨dst, .binOp .eql xt x y yt, ty, pos, af, gd⟩ K T E h :=
  xv_cmp2 hx hy rfl (fun hh => H1 hh) (fun hh => H2 hh)
theorem xv_neq2 {xt yt : TypeId} {x y : Operand} {k : IntKind} {a b : Int} (hx : ev E x = some (.int k a)) (hy : ev E y = some (.int k b))
    (H1 : a ≠ b → K (.bool true) h) (H2 : a = b → K (.bool false) h) : XV P r ⟨dst, .binOp .neq xt x y yt, ty, pos, af, gd⟩ K T E h :=
  xv_cmp2 hx hy rfl (fun hh => H1 hh) (fun hh => H2 (Classical.not_not.1 hh))
/-- The end of a body without deferred calls. -/
theorem body_ret {fn : Func} {R : Ending → Hp → Prop} {rl : List ResultVar} {vs : List Value} (hrl : fn.results.toList = rl) (hr : ResOk P E h rl vs) (hs : List.Sublist h' h) (H : R (.returned (tupV vs)) h') : BodyQ P fn R .ret E [] h :=
  ⟨trivial, vs, h', by rw [hrl]; exact hr, hs, fun _ hk => by simp [marked] at hk, H⟩
theorem body_end {fn : Func} {R : Ending → Hp → Prop} {rl : List ResultVar} {vs : List Value} (hrl : fn.results.toList = rl) (hr : ResOk P E h rl vs) (hs : List.Sublist h' h) (H : R (.returned (tupV vs)) h') : BodyQ P fn R .normal E [] h :=
  ⟨trivial, vs, h', by rw [hrl]; exact hr, hs, fun _ hk => by simp [marked] at hk, H⟩
/-- A result in a cell of one part. -/
theorem res_cell {b o : Nat} {l : List Value} {t t' : TypeId} {fz : Nat × Nat} {d : TD} {a : Nat} {v : Value} (ht : TyOk P t d) (ha : aggB d.und = false) (he : E a = some (.pointer (some ⟨b, o, none⟩))) (hm : (b, .cells ⟨l⟩ t' fz) ∈ h) (hl : l[o]? = some v) :
    ∃ b o l t' fz d, E a = some (.pointer (some ⟨b, o, none⟩)) ∧ (b, .cells ⟨l⟩ t' fz) ∈ h ∧ TyOk P t d ∧
      ((aggB d.und = false ∧ l[o]? = some v) ∨ (aggB d.und = true ∧ ∃ l', (l.drop o).take d.size = l' ∧ l'.length = d.size ∧ v = .agg ⟨l'⟩)) :=
  ⟨b, o, l, t', fz, d, he, hm, ht, .inl ⟨ha, hl⟩⟩
theorem res_cellA {b o : Nat} {l l' : List Value} {t t' : TypeId} {fz : Nat × Nat} {d : TD} {a : Nat} (ht : TyOk P t d) (ha : aggB d.und = true) (he : E a = some (.pointer (some ⟨b, o, none⟩))) (hm : (b, .cells ⟨l⟩ t' fz) ∈ h) (hl : (l.drop o).take d.size = l') (hn : l'.length = d.size) :
    ∃ b o l t' fz d, E a = some (.pointer (some ⟨b, o, none⟩)) ∧ (b, .cells ⟨l⟩ t' fz) ∈ h ∧ TyOk P t d ∧
      ((aggB d.und = false ∧ l[o]? = some (.agg ⟨l'⟩)) ∨ (aggB d.und = true ∧ ∃ l'', (l.drop o).take d.size = l'' ∧ l''.length = d.size ∧ (.agg ⟨l'⟩ : Value) = .agg ⟨l''⟩)) :=
  ⟨b, o, l, t', fz, d, he, hm, ht, .inr ⟨ha, l', hl, hn, rfl⟩⟩
/-- A round's end. -/
theorem rnd {σ : Type} {I : σ → Prop} {EI : σ → Env} {HI : σ → Hp} {μ : σ → Nat} {x : σ} {D0 : List Deferred} (x' : σ) (h1 : I x') (h2 : μ x' < μ x) (h3 : EnvLe (EI x') E) (h5 : List.Sublist (HI x') h) :
    Th (fun E' D' h' => ∃ x', I x' ∧ μ x' < μ x ∧ EnvLe (EI x') E' ∧ D' = D0 ∧ List.Sublist (HI x') h') Q .normal E D0 h := ⟨x', h1, h2, h3, rfl, h5⟩
theorem ro_nil : ResOk P E h [] [] := rfl
theorem ro_tmp {t : Nat} {v : Value} {rs : List ResultVar} {vs : List Value} (he : E t = some v) (H : ResOk P E h rs vs) : ResOk P E h (.tmp t :: rs) (v :: vs) := ⟨v, vs, rfl, he, H⟩
theorem ro_cell {b o : Nat} {l : List Value} {t t' : TypeId} {fz : Nat × Nat} {d : TD} {a : Nat} {v : Value} {rs : List ResultVar} {vs : List Value} (ht : TyOk P t d) (ha : aggB d.und = false) (he : E a = some (.pointer (some ⟨b, o, none⟩))) (hm : (b, .cells ⟨l⟩ t' fz) ∈ h) (hl : l[o]? = some v)
    (H : ResOk P E h rs vs) : ResOk P E h (.cell a t :: rs) (v :: vs) := ⟨v, vs, rfl, res_cell ht ha he hm hl, H⟩
theorem ro_cellA {b o : Nat} {l l' : List Value} {t t' : TypeId} {fz : Nat × Nat} {d : TD} {a : Nat} {rs : List ResultVar} {vs : List Value} (ht : TyOk P t d) (ha : aggB d.und = true) (he : E a = some (.pointer (some ⟨b, o, none⟩))) (hm : (b, .cells ⟨l⟩ t' fz) ∈ h) (hl : (l.drop o).take d.size = l') (hn : l'.length = d.size)
    (H : ResOk P E h rs vs) : ResOk P E h (.cell a t :: rs) (.agg ⟨l'⟩ :: vs) := ⟨_, vs, rfl, res_cellA ht ha he hm hl hn, H⟩
end Go.H

/-
  Small rules for drawn regions, and stores in the order in which they are asked.
-/
namespace Go.H
open Go
variable {P : Program} {r : Option Nat} {N : Nat} {Q : Post} {E : Env} {D : List Deferred} {h h' f : Hp} {ops : Array Oper} {G : Prom} {l : List Item} {L : List (Nat × (Obj → Prop))}
variable {K : Value → Hp → Prop} {T : List PanicEntry → Hp → Prop} {dst : Option Nat} {ty : TypeId} {pos : String} {af : Array Edge} {gd : Option (Nat × Bool)}
theorem qv_ext {o : Oper} {v : Value} (H : QV P r o E f v) : ∀ hh : Hp, QV P r o E (hh ++ f) v
  | [] => H
  | x :: hh => (qv_ext H hh).cons x
theorem js_S {i : Nat} {o : Oper} {v : Value} (hi : ops[i]? = some o) (hd : dstOk N o.dst = true) (hr : Runs ops o E) (H : XV P r o (fun v' h' => v' = v ∧ h' = f) (fun _ _ => False) E f) (H2 : J P r N ops D Q f L l (E.put o.dst v) G h) : J P r N ops D Q f L ((i, .S) :: l) E G h :=
  ⟨o, hi, hd, .inr ⟨hr, v, fun hh _ => qv_ext H hh, H2⟩⟩
/-- It reads the same, whatever is written: of some block only what stays is read. -/
theorem js_I {i : Nat} {o : Oper} {v : Value} (hi : ops[i]? = some o) (hd : dstOk N o.dst = true) (hr : Runs ops o E) (H : ∀ hh, Holds L hh → XV P r o (fun v' h' => v' = v ∧ h' = hh ++ f) (fun _ _ => False) E (hh ++ f)) (H2 : J P r N ops D Q f L l (E.put o.dst v) G h) : J P r N ops D Q f L ((i, .S) :: l) E G h :=
  ⟨o, hi, hd, .inr ⟨hr, v, H, H2⟩⟩
theorem js_R {i : Nat} {o : Oper} {v : Value} (hi : ops[i]? = some o) (hd : dstOk N o.dst = true) (hr : Runs ops o E) (H : XV P r o (fun v' h' => v' = v ∧ h' = h ++ f) (fun _ _ => False) E (h ++ f)) (H2 : J P r N ops D Q f L l (E.put o.dst v) G h) : J P r N ops D Q f L ((i, .R) :: l) E G h :=
  ⟨o, hi, hd, .inr ⟨hr, v, H, H2⟩⟩
theorem js_Ss {i : Nat} {o : Oper} (hi : ops[i]? = some o) (hd : dstOk N o.dst = true) (hr : Skips ops o E) (H2 : J P r N ops D Q f L l (E.put o.dst undef) G h) : J P r N ops D Q f L ((i, .S) :: l) E G h := ⟨o, hi, hd, .inl ⟨hr, H2⟩⟩
theorem js_Rs {i : Nat} {o : Oper} (hi : ops[i]? = some o) (hd : dstOk N o.dst = true) (hr : Skips ops o E) (H2 : J P r N ops D Q f L l (E.put o.dst undef) G h) : J P r N ops D Q f L ((i, .R) :: l) E G h := ⟨o, hi, hd, .inl ⟨hr, H2⟩⟩
theorem js_Os {i : Nat} {o : Oper} (hi : ops[i]? = some o) (hd : dstOk N o.dst = true) (hr : Skips ops o E) (H2 : J P r N ops D Q f L l (E.put o.dst undef) G h) : J P r N ops D Q f L ((i, .O) :: l) E G h := ⟨o, hi, hd, .inl ⟨hr, H2⟩⟩
theorem js_P {i : Nat} {o : Oper} {mk : Nat → Value} {obj : Obj} (hi : ops[i]? = some o) (hd : dstOk N o.dst = true) (hg : o.guard = none) (H : AL P o E mk obj) (H2 : J P r N ops D Q f L l E (G.add i ⟨mk, obj, restr o E⟩) h) : J P r N ops D Q f L ((i, .P) :: l) E G h :=
  ⟨o, hi, hd, hg, mk, obj, H, H2⟩
def EqL : List Nat → Env → Env → Prop
  | [], _, _ => True
  | t :: l, E, E' => E t = E' t ∧ EqL l E E'
def tmpsOf : List Operand → List Nat
  | [] => []
  | .tmp t :: l => t :: tmpsOf l
  | _ :: l => tmpsOf l
theorem mem_tmpsOf : ∀ {l : List Operand} {t : Nat}, .tmp t ∈ l → t ∈ tmpsOf l
  | x :: l, t, hm => by
    rcases List.mem_cons.1 hm with e | hm
    · subst e; simp [tmpsOf]
    · have ih := mem_tmpsOf hm
      cases x <;> simp [tmpsOf, ih]
theorem eqL_mem : ∀ {l : List Nat} {E E' : Env}, EqL l E E' → ∀ t ∈ l, E t = E' t
  | _ :: _, _, _, hh, t, hm => by
    rcases List.mem_cons.1 hm with e | hm
    · subst e; exact hh.1
    · exact eqL_mem hh.2 t hm
theorem js_A {i : Nat} {o : Oper} {mk : Nat → Value} {obj : Obj} {E0 : Env} {tl : List Nat} (hi : ops[i]? = some o) (hd : dstOk N o.dst = true) (hg : o.guard = none) (hG : G i = some ⟨mk, obj, restr o E0⟩) (ht : tmpsOf o.op.operands.toList = tl) (he : EqL tl E0 E)
    (H2 : ∀ b, b ∉ keys (h ++ f) → J P r N ops D Q f L l (E.put o.dst (mk b)) G ((b, obj) :: h)) : J P r N ops D Q f L ((i, .A) :: l) E G h :=
  ⟨o, hi, hd, hg, _, hG, (restr_eqOn o E0).trans (fun t hm => eqL_mem he t (by rw [← ht]; exact mem_tmpsOf (by simpa using hm))), H2⟩
theorem js_O {i : Nat} {o : Oper} (hi : ops[i]? = some o) (hd : dstOk N o.dst = true) (hr : Runs ops o E) (H : XV P r o (fun v h'' => ∃ h', List.Perm (h' ++ f) h'' ∧ Holds L h' ∧ J P r N ops D Q f L l (E.put o.dst v) G h') (fun ch h'' => Q (.panic ch) emp D h'') E (h ++ f)) : J P r N ops D Q f L ((i, .O) :: l) E G h :=
  ⟨o, hi, hd, .inr ⟨hr, H⟩⟩
theorem j_end0 {Ep : Env} (H : Q .normal E D h) : J P r N ops D (PanEnv Ep Q) [] L [] E G h := ⟨h, by simp, H⟩
theorem xc_draw {id : Nat} {h' : Hp} (c : List Item) (f h : Hp) (hm : P.follows .mixedOrders = true) (hck : drawOk N ops c = true) (hp : List.Perm (h ++ f) h') (H : J P r N ops D (PanEnv (mask ops E) Q) f [] c E (fun _ => none) h) : XC P r N (.region id ops true) Q E D h' :=
  xc_drawL c f h hm hck hp .nil H
theorem xc_draw0 {id : Nat} (c : List Item) (hm : P.follows .mixedOrders = true) (hck : drawOk N ops c = true) (H : J P r N ops D (PanEnv (mask ops E) Q) [] [] c E (fun _ => none) h) : XC P r N (.region id ops true) Q E D h :=
  xc_draw c [] h hm hck (by simp) H
theorem xv_s1 {t : TypeId} {x y : Operand} {b o : Nat} {l l' : List Value} {t' : TypeId} {v : Value} {d : TD} (ht : TyOk P t d) (hd : d.size = 1) (hx : ev E x = some (.pointer (some ⟨b, o, none⟩))) (hy : ev E y = some v)
    (hm : Upd h b (.cells ⟨l⟩ t' (0, 0)) (.cells ⟨l'⟩ t' (0, 0)) h') (h1 : v.oneCell' = true) (hr : o < l.length) (hl : l.set o v = l') (H : K undef h') : XV P r ⟨dst, .store t x y, ty, pos, af, gd⟩ K T E h :=
  xv_st1 ht hd hx hy h1 hr hl hm H
theorem xv_s {t : TypeId} {x y : Operand} {b o : Nat} {l l' vs : List Value} {t' : TypeId} {v : Value} {d : TD} (ht : TyOk P t d) (hx : ev E x = some (.pointer (some ⟨b, o, none⟩))) (hy : ev E y = some v)
    (hm : Upd h b (.cells ⟨l⟩ t' (0, 0)) (.cells ⟨l'⟩ t' (0, 0)) h') (hv : v.cells.toList = vs) (hn : vs.length = d.size) (h1 : vs.all Value.oneCell' = true) (hr : Nat.ble (o + d.size) l.length = true) (hl : splice l o vs = l') (H : K undef h') : XV P r ⟨dst, .store t x y, ty, pos, af, gd⟩ K T E h :=
  xv_st ht hx hy hv hn h1 hl hr hm H
end Go.H

/-
  A slice that reads as a list of structs.
-/
namespace Go.H
open Go
variable {P : Program} {h h' : Hp}
/-- From address a on lie the elements' cells, sz a piece. -/
def SlV {α : Type} (h : Hp) (sz : Nat) (enc : α → List Value) (a : Option Addr) (xs : List α) : Prop :=
  xs = [] ∨ ∃ b o l t fz, a = some ⟨b, o, none⟩ ∧ (b, .cells ⟨l⟩ t fz) ∈ h ∧ ∀ i x, xs[i]? = some x → (l.drop (o + i * sz)).take sz = enc x
theorem SlV.at {α : Type} {sz : Nat} {enc : α → List Value} {a : Option Addr} {xs : List α} (H : SlV h sz enc a xs) {i : Nat} (hi : i < xs.length) :
    ∃ b o l t fz, a = some ⟨b, o, none⟩ ∧ (b, .cells ⟨l⟩ t fz) ∈ h ∧ ∀ i x, xs[i]? = some x → (l.drop (o + i * sz)).take sz = enc x := by
  rcases H with rfl | H
  · simp at hi
  · exact H
theorem SlV.sub {α : Type} {sz : Nat} {enc : α → List Value} {a : Option Addr} {xs : List α} (H : SlV h sz enc a xs) (hs : h ⊆ h') : SlV h' sz enc a xs := by
  rcases H with rfl | ⟨b, o, l, t, fz, h1, h2, h3⟩
  · exact .inl rfl
  · exact .inr ⟨b, o, l, t, fz, h1, hs h2, h3⟩
theorem SlV.cons {α : Type} {sz : Nat} {enc : α → List Value} {a : Option Addr} {xs : List α} (H : SlV h sz enc a xs) (x : Nat × Obj) : SlV (x :: h) sz enc a xs := H.sub (List.subset_cons_self _ _)
/-- One cell of one element. -/
theorem take_get {l e : List Value} {o sz j : Nat} {v : Value} (hl : (l.drop o).take sz = e) (hj : e[j]? = some v) : l[o + j]? = some v := by
  subst hl
  have hlt : j < sz := by
    have := (List.getElem?_eq_some_iff.1 hj).1
    simp at this; omega
  rwa [List.getElem?_take_of_lt hlt, List.getElem?_drop] at hj
end Go.H

