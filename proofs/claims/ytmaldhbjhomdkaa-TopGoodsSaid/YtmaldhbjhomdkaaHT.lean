/-
  The logic of owned blocks over the kit, part HC.
-/
import Derived.Test.YtmaldhbjhomdkaaHB
import Derived.Recover
import Derived.Tactics2
import Derived.TacticsIn
import Derived.Laws.StructEq
import Derived.Maps.RangeRun
import Derived.Below
import Derived.ProofKit
import Derived.Laws.MakeOwn
import Derived.KernelRfl
import Derived.Test.YtmaldhbjhomdkaaProg
import Derived.Sort.AssemblyPlain
import Derived.Sort.LotD1
set_option linter.all false
/-
  Slices that grow: what 'append' leaves, whether there was room or not.
-/
namespace Go.H
open Go
variable {P : Program} {r : Option Nat} {N : Nat} {Q : Post} {E : Env} {D : List Deferred} {h h' g : Hp}
variable {K : Value → Hp → Prop} {T : List PanicEntry → Hp → Prop} {dst : Option Nat} {ty : TypeId} {pos : String} {af : Array Edge} {gd : Option (Nat × Bool)}
inductive Vec where
  | nil
  | at (b cap : Nat) (sp : List Value)
def Vec.val : Vec → Nat → Value
  | .nil, _ => .slice none 0 0
  | .at b cap _, n => .slice (some ⟨b, 0, none⟩) n cap
def Vec.hp : Vec → TypeId → List Value → Hp
  | .nil, _, _ => []
  | .at b _ sp, t, xs => [(b, .cells ⟨xs ++ sp⟩ t (0, 0))]
def Vec.ok : Vec → Nat → Nat → List Value → Prop
  | .nil, sz, n, xs => xs.length = n * sz ∧ n = 0
  | .at _ cap sp, sz, n, xs => xs.length = n * sz ∧ n ≤ cap ∧ (xs ++ sp).length = cap * sz
inductive Tk : Hp → Hp → Hp → Prop
  | here {a r : Hp} : Tk a (a ++ r) r
  | there {a h r : Hp} {x : Nat × Obj} : Tk a h r → Tk a (x :: h) (x :: r)
  | skip {a h r b : Hp} : Tk a h r → Tk a (b ++ h) (b ++ r)
theorem Tk.perm {a h r : Hp} (H : Tk a h r) : List.Perm h (a ++ r) := by
  induction H with
  | here => exact List.Perm.refl _
  | there _ ih => exact (ih.cons _).trans (List.perm_middle).symm
  | skip _ ih =>
    refine (ih.append_left _).trans ?_
    rw [← List.append_assoc, ← List.append_assoc]
    exact (List.perm_append_comm).append_right _
theorem xv_append0 {x y : Operand} {t e : TypeId} {d : TD} {a a' : Option Addr} {n c c' : Nat} (ht : SlT P t e) (hd : TyOk P e d) (hx : ev E x = some (.slice a n c)) (hy : ev E y = some (.slice a' 0 c')) (hn : n ≤ c) (H : K (.slice a n c) h) : XV P r ⟨dst, .call ⟨.builtin .append, #[x, y], #[t, t]⟩, ty, pos, af, gd⟩ K T E h :=
  xv_of_run (by simp [plainOp]) fun w ρ ho he => ⟨_, h, w, by
    obtain ⟨cs, hcs⟩ := run_builtin (P := P) (dst := dst) (ty := ty) (pos := pos) (af := af) (gd := gd) ρ .append #[x, y] #[t, t] w
    rw [hcs]
    cases a' with
    | none => cases a <;> simp [builtin, Builtin.append_, he _ _ hx, he _ _ hy, run_underlying ht, hd.run_size, Builtin.lenOf, Builtin.firstCells, hn, storeCells]
    | some a' => cases a <;> simp [builtin, Builtin.append_, he _ _ hx, he _ _ hy, run_underlying ht, hd.run_size, Builtin.lenOf, Builtin.firstCells, hn, storeCells, loadCells, loadCellsFrom], H, .refl ho⟩
theorem fol_grow {w : World} {b : Nat} {o : Obj} (ho : Own ((b, o) :: g) w) (o' : Obj) : Fol ((b, o) :: g) w ((w.heap.size, o') :: g) (w.drew.alloc o') := by
  have f1 : Fol ((b, o) :: g) w ((w.heap.size, o') :: (b, o) :: g) (w.drew.alloc o') := by
    have := Fol.alloc (ho.drew (w.drawn + 1)) o'
    exact this.drew
  exact f1.sub ((List.sublist_cons_self _ _).cons_cons _)
theorem cells_read {w : World} {bu ou m sz : Nat} {lu news : List Value} {tu : TypeId} {fz : Nat × Nat} (hb : w.heap[bu]? = some (.cells ⟨lu⟩ tu fz)) (hl : (lu.drop ou).take (m * sz) = news) (hn : news.length = m * sz) :
    ∀ j v, news[j]? = some v → w.cell? ((⟨bu, ou, none⟩ : Addr).add j) = some v := by
  intro j v hv
  have hj : j < m * sz := by rw [← hn]; exact (List.getElem?_eq_some_iff.1 hv).1
  rw [addr_add]
  simp only [World.cell?, hb]
  rw [← hl, List.getElem?_take_of_lt hj, List.getElem?_drop] at hv
  simpa using hv
theorem xv_append {x y : Operand} {t e : TypeId} {d : TD} {V : Vec} {n m bu ou cu : Nat} {xs lu news : List Value} {tu : TypeId} {fz : Nat × Nat} (ht : SlT P t e) (hd : TyOk P e d) (hzs : d.zero.cells.size = d.size)
    (hx : ev E x = some (V.val n)) (hy : ev E y = some (.slice (some ⟨bu, ou, none⟩) m cu)) (hV : V.ok d.size n xs) (hp : Tk (V.hp e xs) h g) (hu : (bu, .cells ⟨lu⟩ tu fz) ∈ g) (hl : (lu.drop ou).take (m * d.size) = news) (hn : news.length = m * d.size)
    (h1 : news.all Value.oneCell' = true) (hm : 0 < m) (hb : 2 * (n + m) * d.bytes ≤ 281474976710656) (h63 : n + m ≤ 9223372036854775807)
    (H : ∀ V' : Vec, V'.ok d.size (n + m) (xs ++ news) → K (V'.val (n + m)) (V'.hp e (xs ++ news) ++ g)) : XV P r ⟨dst, .call ⟨.builtin .append, #[x, y], #[t, t]⟩, ty, pos, af, gd⟩ K T E h := by
  refine XV.perm hp.perm.symm (xv_of_run (by simp [plainOp]) fun w ρ ho he => ?_)
  obtain ⟨i, hi, his, hib, hiz⟩ := hd.info
  obtain ⟨cs, hcs⟩ := run_builtin (P := P) (dst := dst) (ty := ty) (pos := pos) (af := af) (gd := gd) ρ .append #[x, y] #[t, t] w
  have hub : w.heap[bu]? = some (.cells ⟨lu⟩ tu fz) := ho.has _ _ (List.mem_append_right _ hu)
  have hnews := cells_read hub hl hn
  have hbase : (execOp ρ ⟨dst, .call ⟨.builtin .append, #[x, y], #[t, t]⟩, ty, pos, af, gd⟩).run P w = ((Builtin.append_ #[t, t] ty #[V.val n, .slice (some ⟨bu, ou, none⟩) m cu]).run P w).andThen fun v w' => .ok (.value v) w' := by
    rw [hcs]; simp [builtin, he _ _ hx, he _ _ hy]
  rw [hbase]
  have h63' : ((n + m : Nat) : Int) ≤ 9223372036854775807 := by omega
  cases V with
  | nil =>
    obtain ⟨hx1, rfl⟩ := hV
    have hxs : xs = [] := List.length_eq_zero_iff.1 (by simpa using hx1)
    subst hxs
    simp only [Nat.zero_add] at H hb h63 h63'
    have hcap : m ≤ grownCap w m 0 e := by unfold grownCap; simp [Question.cut]
    have hr := run_append_nil (P := P) w t ty e i d.zero ht hi hiz ⟨bu, ou, none⟩ m cu news (by rw [his]; exact hn) hnews hm (by omega) (by rw [hib]; rw [Nat.mul_assoc] at hb; omega)
    refine ⟨_, _, _, by rw [show Vec.val .nil 0 = .slice none 0 0 from rfl, hr]; rfl, H (.at w.heap.size (grownCap w m 0 e) (Builtin.zeroCells d.zero.cells (grownCap w m 0 e - m)).toList) ?_, ?_⟩
    · refine ⟨by simpa using hn, by simpa using hcap, ?_⟩
      simp only [List.nil_append, List.length_append, hn, Array.length_toList, size_zeroCells, hzs]
      rw [← Nat.add_mul]; congr 1; omega
    · have := (Fol.alloc (ho.drew (w.drawn + 1)) (.cells (news.toArray ++ Builtin.zeroCells d.zero.cells (grownCap w m 0 e - m)) e)).drew
      have e2 : (⟨news ++ (Builtin.zeroCells d.zero.cells (grownCap w m 0 e - m)).toList⟩ : Array Value) = news.toArray ++ Builtin.zeroCells d.zero.cells (grownCap w m 0 e - m) := by apply Array.ext'; simp
      simp only [Vec.hp, List.nil_append, List.cons_append, e2]
      exact this
  | «at» b cap sp =>
    obtain ⟨hx1, hx2, hx3⟩ := hV
    have hg : w.heap[b]? = some (.cells ⟨xs ++ sp⟩ e (0, 0)) := ho.has _ _ List.mem_cons_self
    by_cases hroom : n + m ≤ cap
    · have hfit : n * i.size + news.length ≤ (⟨xs ++ sp⟩ : Array Value).size := by
        rw [his, hn, ← Nat.add_mul]
        simp only [List.size_toArray, hx3]
        exact Nat.mul_le_mul_right _ hroom
      have hr := run_append_room (P := P) w t ty e i ht hi b n cap ⟨xs ++ sp⟩ hg ⟨bu, ou, none⟩ m cu news (by rw [his]; exact hn) hnews (List.all_eq_true.1 h1) hroom hfit
      have hcur : ((xs ++ sp).take (n * i.size) ++ news ++ (xs ++ sp).drop (n * i.size + news.length)) = (xs ++ news) ++ sp.drop news.length := by
        rw [his, ← hx1, List.take_left, List.drop_append]
        have : List.drop (xs.length + news.length) xs = [] := List.drop_eq_nil_of_le (by omega)
        rw [this]; simp
      refine ⟨_, _, _, by rw [show Vec.val (.at b cap sp) n = .slice (some ⟨b, 0, none⟩) n cap from rfl, hr]; rfl, H (.at b cap (sp.drop news.length)) ?_, ?_⟩
      · refine ⟨by simp [hx1, hn, Nat.add_mul], hroom, ?_⟩
        simp only [List.length_append, List.length_drop] at hx3 ⊢
        have hle : news.length ≤ sp.length := by
          have := Nat.mul_le_mul_right d.size hroom
          rw [Nat.add_mul] at this
          omega
        omega
      · have := fol_row ho (List.mem_cons_self (a := (b, Obj.cells ⟨xs ++ sp⟩ e (0, 0))) (l := g)) ((xs ++ news) ++ sp.drop news.length)
        simp only [Vec.hp, List.cons_append, List.nil_append, setH, if_true] at this ⊢
        rw [show ((⟨xs ++ sp⟩ : Array Value).toList.take (n * i.size) ++ news ++ (⟨xs ++ sp⟩ : Array Value).toList.drop (n * i.size + news.length)) = (xs ++ news) ++ sp.drop news.length from hcur]
        exact this
    · have hgt : cap < n + m := by omega
      have hold : ∀ j v, xs[j]? = some v → w.cell? ((⟨b, 0, none⟩ : Addr).add j) = some v := by
        intro j v hv
        rw [addr_add]
        simp only [World.cell?, hg]
        have hlt : j < xs.length := (List.getElem?_eq_some_iff.1 hv).1
        simp [List.getElem?_append_left hlt, hv]
      have hfit : Builtin.nextslicecap (n + m) cap * i.bytes ≤ 281474976710656 := by
        rw [hib]
        exact Nat.le_trans (Nat.mul_le_mul_right _ (nextslicecap_le hgt)) hb
      have hr := run_append_grow (P := P) w t ty e i d.zero ht hi hiz ⟨b, 0, none⟩ n cap xs (by rw [his]; exact hx1) hold ⟨bu, ou, none⟩ m cu news (by rw [his]; exact hn) hnews hgt h63' hfit
      have hcap : n + m ≤ grownCap w (n + m) cap e := by unfold grownCap; simp [Question.cut]
      refine ⟨_, _, _, by rw [show Vec.val (.at b cap sp) n = .slice (some ⟨b, 0, none⟩) n cap from rfl, hr]; rfl, H (.at w.heap.size (grownCap w (n + m) cap e) (Builtin.zeroCells d.zero.cells (grownCap w (n + m) cap e - (n + m))).toList) ?_, ?_⟩
      · refine ⟨by simp [hx1, hn, Nat.add_mul], hcap, ?_⟩
        simp only [List.length_append, hx1, hn, Array.length_toList, size_zeroCells, hzs]
        rw [← Nat.add_mul, ← Nat.add_mul]; congr 1; omega
      · have := fol_grow ho (.cells (xs.toArray ++ news.toArray ++ Builtin.zeroCells d.zero.cells (grownCap w (n + m) cap e - (n + m))) e)
        have e2 : (⟨xs ++ news ++ (Builtin.zeroCells d.zero.cells (grownCap w (n + m) cap e - (n + m))).toList⟩ : Array Value) = xs.toArray ++ news.toArray ++ Builtin.zeroCells d.zero.cells (grownCap w (n + m) cap e - (n + m)) := by apply Array.ext'; simp
        simp only [Vec.hp, List.nil_append, List.cons_append, e2]
        exact this
end Go.H

/-
  Small rules that the written walks use.
-/
namespace Go.H
open Go
variable {P : Program} {r : Option Nat} {N : Nat} {Q : Post} {E : Env} {D : List Deferred} {h h' : Hp}
variable {K : Value → Hp → Prop} {T : List PanicEntry → Hp → Prop} {dst : Option Nat} {ty : TypeId} {pos : String} {af : Array Edge} {gd : Option (Nat × Bool)}
section
variable {KK : Env → List Deferred → Hp → Prop} {id id' : Nat} {ch : List PanicEntry}
theorem th_n (H : KK E D h) : Th KK Q .normal E D h := H
theorem th_x (H : Q (.exit id) E D h) : Th KK Q (.exit id) E D h := H
theorem th_r (H : Q .ret E D h) : Th KK Q .ret E D h := H
theorem bk_n (H : Q .normal E D h) : Bk id Q .normal E D h := H
theorem bk_r (H : Q .ret E D h) : Bk id Q .ret E D h := H
end
theorem up_ret {v : Value} (H : K v h) : Up K T (.returned v) h := H
theorem xv_lss2 {xt yt : TypeId} {x y : Operand} {k : IntKind} {a b : Int} (hx : ev E x = some (.int k a)) (hy : ev E y = some (.int k b))
    (H1 : a < b → K (.bool true) h) (H2 : b ≤ a → K (.bool false) h) : XV P r ⟨dst, .binOp .lss xt x y yt, ty, pos, af, gd⟩ K T E h :=
  xv_cmp2 hx hy rfl (fun hh => H1 hh) (fun hh => H2 (by simp only [cmpP] at hh; omega))
theorem xv_leq2 {xt yt : TypeId} {x y : Operand} {k : IntKind} {a b : Int} (hx : ev E x = some (.int k a)) (hy : ev E y = some (.int k b))
    (H1 : a ≤ b → K (.bool true) h) (H2 : b < a → K (.bool false) h) : XV P r ⟨dst, .binOp .leq xt x y yt, ty, pos, af, gd⟩ K T E h :=
  xv_cmp2 hx hy rfl (fun hh => H1 hh) (fun hh => H2 (by simp only [cmpP] at hh; omega))
theorem xv_gtr2 {xt yt : TypeId} {x y : Operand} {k : IntKind} {a b : Int} (hx : ev E x = some (.int k a)) (hy : ev E y = some (.int k b))
    (H1 : b < a → K (.bool true) h) (H2 : a ≤ b → K (.bool false) h) : XV P r ⟨dst, .binOp .gtr xt x y yt, ty, pos, af, gd⟩ K T E h :=
  xv_cmp2 hx hy rfl (fun hh => H1 hh) (fun hh => H2 (by simp only [cmpP] at hh; omega))
theorem xv_geq2 {xt yt : TypeId} {x y : Operand} {k : IntKind} {a b : Int} (hx : ev E x = some (.int k a)) (hy : ev E y = some (.int k b))
    (H1 : b ≤ a → K (.bool true) h) (H2 : a < b → K (.bool false) h) : XV P r ⟨dst, .binOp .geq xt x y yt, ty, pos, af, gd⟩ K T E h :=
  xv_cmp2 hx hy rfl (fun hh => H1 hh) (fun hh => H2 (by simp only [cmpP] at hh; omega))
theorem xv_eql2 {xt yt : TypeId} {x y : Operand} {k : IntKind} {a b : Int} (hx : ev E x = some (.int k a)) (hy : ev E y = some (.int k b))
    (H1 : a = b → K (.bool true) h) (H2 : a ≠ b → K (.bool false) h) : XV P r ⟨dst, .binOp .eql xt x y yt, ty, pos, af, gd⟩ K T E h :=
  xv_cmp2 hx hy rfl (fun hh => H1 hh) (fun hh => H2 hh)
theorem xv_neq2 {xt yt : TypeId} {x y : Operand} {k : IntKind} {a b : Int} (hx : ev E x = some (.int k a)) (hy : ev E y = some (.int k b))
    (H1 : a ≠ b → K (.bool true) h) (H2 : a = b → K (.bool false) h) : XV P r ⟨dst, .binOp .neq xt x y yt, ty, pos, af, gd⟩ K T E h :=
  xv_cmp2 hx hy rfl (fun hh => H1 hh) (fun hh => H2 (Classical.not_not.1 hh))
theorem body_ret {fn : Func} {R : Ending → Hp → Prop} {rl : List ResultVar} {vs : List Value} (hrl : fn.results.toList = rl) (hr : ResOk P E h rl vs) (hs : List.Sublist h' h) (H : R (.returned (tupV vs)) h') : BodyQ P fn R .ret E [] h :=
  ⟨trivial, vs, h', by rw [hrl]; exact hr, hs, fun _ hk => by simp [marked] at hk, H⟩
theorem body_end {fn : Func} {R : Ending → Hp → Prop} {rl : List ResultVar} {vs : List Value} (hrl : fn.results.toList = rl) (hr : ResOk P E h rl vs) (hs : List.Sublist h' h) (H : R (.returned (tupV vs)) h') : BodyQ P fn R .normal E [] h :=
  ⟨trivial, vs, h', by rw [hrl]; exact hr, hs, fun _ hk => by simp [marked] at hk, H⟩
theorem res_cell {b o : Nat} {l : List Value} {t t' : TypeId} {fz : Nat × Nat} {d : TD} {a : Nat} {v : Value} (ht : TyOk P t d) (ha : aggB d.und = false) (he : E a = some (.pointer (some ⟨b, o, none⟩))) (hm : (b, .cells ⟨l⟩ t' fz) ∈ h) (hl : l[o]? = some v) :
    ∃ b o l t' fz d, E a = some (.pointer (some ⟨b, o, none⟩)) ∧ (b, .cells ⟨l⟩ t' fz) ∈ h ∧ TyOk P t d ∧
      ((aggB d.und = false ∧ l[o]? = some v) ∨ (aggB d.und = true ∧ ∃ l', (l.drop o).take d.size = l' ∧ l'.length = d.size ∧ v = .agg ⟨l'⟩)) :=
  ⟨b, o, l, t', fz, d, he, hm, ht, .inl ⟨ha, hl⟩⟩
theorem res_cellA {b o : Nat} {l l' : List Value} {t t' : TypeId} {fz : Nat × Nat} {d : TD} {a : Nat} (ht : TyOk P t d) (ha : aggB d.und = true) (he : E a = some (.pointer (some ⟨b, o, none⟩))) (hm : (b, .cells ⟨l⟩ t' fz) ∈ h) (hl : (l.drop o).take d.size = l') (hn : l'.length = d.size) :
    ∃ b o l t' fz d, E a = some (.pointer (some ⟨b, o, none⟩)) ∧ (b, .cells ⟨l⟩ t' fz) ∈ h ∧ TyOk P t d ∧
      ((aggB d.und = false ∧ l[o]? = some (.agg ⟨l'⟩)) ∨ (aggB d.und = true ∧ ∃ l'', (l.drop o).take d.size = l'' ∧ l''.length = d.size ∧ (.agg ⟨l'⟩ : Value) = .agg ⟨l''⟩)) :=
  ⟨b, o, l, t', fz, d, he, hm, ht, .inr ⟨ha, l', hl, hn, rfl⟩⟩
theorem rnd {σ : Type} {I : σ → Prop} {EI : σ → Env} {HI : σ → Hp} {μ : σ → Nat} {x : σ} {D0 : List Deferred} (x' : σ) (h1 : I x') (h2 : μ x' < μ x) (h3 : EnvLe (EI x') E) (h5 : List.Sublist (HI x') h) :
    Th (fun E' D' h' => ∃ x', I x' ∧ μ x' < μ x ∧ EnvLe (EI x') E' ∧ D' = D0 ∧ List.Sublist (HI x') h') Q .normal E D0 h := ⟨x', h1, h2, h3, rfl, h5⟩
theorem ro_nil : ResOk P E h [] [] := rfl
theorem ro_tmp {t : Nat} {v : Value} {rs : List ResultVar} {vs : List Value} (he : E t = some v) (H : ResOk P E h rs vs) : ResOk P E h (.tmp t :: rs) (v :: vs) := ⟨v, vs, rfl, he, H⟩
theorem ro_cell {b o : Nat} {l : List Value} {t t' : TypeId} {fz : Nat × Nat} {d : TD} {a : Nat} {v : Value} {rs : List ResultVar} {vs : List Value} (ht : TyOk P t d) (ha : aggB d.und = false) (he : E a = some (.pointer (some ⟨b, o, none⟩))) (hm : (b, .cells ⟨l⟩ t' fz) ∈ h) (hl : l[o]? = some v)
    (H : ResOk P E h rs vs) : ResOk P E h (.cell a t :: rs) (v :: vs) := ⟨v, vs, rfl, res_cell ht ha he hm hl, H⟩
theorem ro_cellA {b o : Nat} {l l' : List Value} {t t' : TypeId} {fz : Nat × Nat} {d : TD} {a : Nat} {rs : List ResultVar} {vs : List Value} (ht : TyOk P t d) (ha : aggB d.und = true) (he : E a = some (.pointer (some ⟨b, o, none⟩))) (hm : (b, .cells ⟨l⟩ t' fz) ∈ h) (hl : (l.drop o).take d.size = l') (hn : l'.length = d.size)
    (H : ResOk P E h rs vs) : ResOk P E h (.cell a t :: rs) (.agg ⟨l'⟩ :: vs) := ⟨_, vs, rfl, res_cellA ht ha he hm hl hn, H⟩
end Go.H

/-
  Small rules for drawn regions, and stores in the order in which they are asked.
-/
namespace Go.H
open Go
variable {P : Program} {r : Option Nat} {N : Nat} {Q : Post} {E : Env} {D : List Deferred} {h h' f : Hp} {ops : Array Oper} {G : Prom} {l : List Item} {L : List (Nat × (Obj → Prop))}
variable {K : Value → Hp → Prop} {T : List PanicEntry → Hp → Prop} {dst : Option Nat} {ty : TypeId} {pos : String} {af : Array Edge} {gd : Option (Nat × Bool)}
theorem qv_ext {o : Oper} {v : Value} (H : QV P r o E f v) : ∀ hh : Hp, QV P r o E (hh ++ f) v
  | [] => H
  | x :: hh => (qv_ext H hh).cons x
theorem js_S {i : Nat} {o : Oper} {v : Value} (hi : ops[i]? = some o) (hd : dstOk N o.dst = true) (hr : Runs ops o E) (H : XV P r o (fun v' h' => v' = v ∧ h' = f) (fun _ _ => False) E f) (H2 : J P r N ops D Q f L l (E.put o.dst v) G h) : J P r N ops D Q f L ((i, .S) :: l) E G h :=
  ⟨o, hi, hd, .inr ⟨hr, v, fun hh _ => qv_ext H hh, H2⟩⟩
theorem js_I {i : Nat} {o : Oper} {v : Value} (hi : ops[i]? = some o) (hd : dstOk N o.dst = true) (hr : Runs ops o E) (H : ∀ hh, Holds L hh → XV P r o (fun v' h' => v' = v ∧ h' = hh ++ f) (fun _ _ => False) E (hh ++ f)) (H2 : J P r N ops D Q f L l (E.put o.dst v) G h) : J P r N ops D Q f L ((i, .S) :: l) E G h :=
  ⟨o, hi, hd, .inr ⟨hr, v, H, H2⟩⟩
theorem js_R {i : Nat} {o : Oper} {v : Value} (hi : ops[i]? = some o) (hd : dstOk N o.dst = true) (hr : Runs ops o E) (H : XV P r o (fun v' h' => v' = v ∧ h' = h ++ f) (fun _ _ => False) E (h ++ f)) (H2 : J P r N ops D Q f L l (E.put o.dst v) G h) : J P r N ops D Q f L ((i, .R) :: l) E G h :=
  ⟨o, hi, hd, .inr ⟨hr, v, H, H2⟩⟩
theorem js_Ss {i : Nat} {o : Oper} (hi : ops[i]? = some o) (hd : dstOk N o.dst = true) (hr : Skips ops o E) (H2 : J P r N ops D Q f L l (E.put o.dst undef) G h) : J P r N ops D Q f L ((i, .S) :: l) E G h := ⟨o, hi, hd, .inl ⟨hr, H2⟩⟩
theorem js_Rs {i : Nat} {o : Oper} (hi : ops[i]? = some o) (hd : dstOk N o.dst = true) (hr : Skips ops o E) (H2 : J P r N ops D Q f L l (E.put o.dst undef) G h) : J P r N ops D Q f L ((i, .R) :: l) E G h := ⟨o, hi, hd, .inl ⟨hr, H2⟩⟩
theorem js_Os {i : Nat} {o : Oper} (hi : ops[i]? = some o) (hd : dstOk N o.dst = true) (hr : Skips ops o E) (H2 : J P r N ops D Q f L l (E.put o.dst undef) G h) : J P r N ops D Q f L ((i, .O) :: l) E G h := ⟨o, hi, hd, .inl ⟨hr, H2⟩⟩
theorem js_P {i : Nat} {o : Oper} {mk : Nat → Value} {obj : Obj} (hi : ops[i]? = some o) (hd : dstOk N o.dst = true) (hg : o.guard = none) (H : AL P o E mk obj) (H2 : J P r N ops D Q f L l E (G.add i ⟨mk, obj, restr o E⟩) h) : J P r N ops D Q f L ((i, .P) :: l) E G h :=
  ⟨o, hi, hd, hg, mk, obj, H, H2⟩
def EqL : List Nat → Env → Env → Prop
  | [], _, _ => True
  | t :: l, E, E' => E t = E' t ∧ EqL l E E'
def tmpsOf : List Operand → List Nat
  | [] => []
  | .tmp t :: l => t :: tmpsOf l
  | _ :: l => tmpsOf l
theorem mem_tmpsOf : ∀ {l : List Operand} {t : Nat}, .tmp t ∈ l → t ∈ tmpsOf l
  | x :: l, t, hm => by
    rcases List.mem_cons.1 hm with e | hm
    · subst e; simp [tmpsOf]
    · have ih := mem_tmpsOf hm
      cases x <;> simp [tmpsOf, ih]
theorem eqL_mem : ∀ {l : List Nat} {E E' : Env}, EqL l E E' → ∀ t ∈ l, E t = E' t
  | _ :: _, _, _, hh, t, hm => by
    rcases List.mem_cons.1 hm with e | hm
    · subst e; exact hh.1
    · exact eqL_mem hh.2 t hm
theorem js_A {i : Nat} {o : Oper} {mk : Nat → Value} {obj : Obj} {E0 : Env} {tl : List Nat} (hi : ops[i]? = some o) (hd : dstOk N o.dst = true) (hg : o.guard = none) (hG : G i = some ⟨mk, obj, restr o E0⟩) (ht : tmpsOf o.op.operands.toList = tl) (he : EqL tl E0 E)
    (H2 : ∀ b, b ∉ keys (h ++ f) → J P r N ops D Q f L l (E.put o.dst (mk b)) G ((b, obj) :: h)) : J P r N ops D Q f L ((i, .A) :: l) E G h :=
  ⟨o, hi, hd, hg, _, hG, (restr_eqOn o E0).trans (fun t hm => eqL_mem he t (by rw [← ht]; exact mem_tmpsOf (by simpa using hm))), H2⟩
theorem js_O {i : Nat} {o : Oper} (hi : ops[i]? = some o) (hd : dstOk N o.dst = true) (hr : Runs ops o E) (H : XV P r o (fun v h'' => ∃ h', List.Perm (h' ++ f) h'' ∧ Holds L h' ∧ J P r N ops D Q f L l (E.put o.dst v) G h') (fun ch h'' => Q (.panic ch) emp D h'') E (h ++ f)) : J P r N ops D Q f L ((i, .O) :: l) E G h :=
  ⟨o, hi, hd, .inr ⟨hr, H⟩⟩
theorem jo_same {c : List Item} (H : J P r N ops D Q f [] c E G h) : ∃ h', List.Perm (h' ++ f) (h ++ f) ∧ Holds [] h' ∧ J P r N ops D Q f [] c E G h' := ⟨h, List.Perm.refl _, .nil, H⟩
theorem jo_atL {c : List Item} {h2 : Hp} (h' : Hp) (hp : List.Perm (h' ++ f) h2) (iv : Holds L h') (H : J P r N ops D Q f L c E G h') : ∃ h', List.Perm (h' ++ f) h2 ∧ Holds L h' ∧ J P r N ops D Q f L c E G h' := ⟨h', hp, iv, H⟩
theorem j_end0 {Ep : Env} (H : Q .normal E D h) : J P r N ops D (PanEnv Ep Q) [] L [] E G h := ⟨h, by simp, H⟩
theorem j_endp {Ep : Env} {h2 : Hp} (hp : List.Perm (h ++ f) h2) (H : Q .normal E D h2) : J P r N ops D (PanEnv Ep Q) f L [] E G h := ⟨h2, hp, H⟩
theorem xc_draw {id : Nat} {h' : Hp} (c : List Item) (f h : Hp) (hm : P.follows .mixedOrders = true) (hck : drawOk N ops c = true) (hp : List.Perm (h ++ f) h') (H : J P r N ops D (PanEnv (mask ops E) Q) f [] c E (fun _ => none) h) : XC P r N (.region id ops true) Q E D h' :=
  xc_drawL c f h hm hck hp .nil H
theorem xc_draw0 {id : Nat} (c : List Item) (hm : P.follows .mixedOrders = true) (hck : drawOk N ops c = true) (H : J P r N ops D (PanEnv (mask ops E) Q) [] [] c E (fun _ => none) h) : XC P r N (.region id ops true) Q E D h :=
  xc_draw c [] h hm hck (by simp) H
theorem xv_s1 {t : TypeId} {x y : Operand} {b o : Nat} {l l' : List Value} {t' : TypeId} {v : Value} {d : TD} (ht : TyOk P t d) (hd : d.size = 1) (hx : ev E x = some (.pointer (some ⟨b, o, none⟩))) (hy : ev E y = some v)
    (hm : Upd h b (.cells ⟨l⟩ t' (0, 0)) (.cells ⟨l'⟩ t' (0, 0)) h') (h1 : v.oneCell' = true) (hr : o < l.length) (hl : l.set o v = l') (H : K undef h') : XV P r ⟨dst, .store t x y, ty, pos, af, gd⟩ K T E h :=
  xv_st1 ht hd hx hy h1 hr hl hm H
theorem xv_s {t : TypeId} {x y : Operand} {b o : Nat} {l l' vs : List Value} {t' : TypeId} {v : Value} {d : TD} (ht : TyOk P t d) (hx : ev E x = some (.pointer (some ⟨b, o, none⟩))) (hy : ev E y = some v)
    (hm : Upd h b (.cells ⟨l⟩ t' (0, 0)) (.cells ⟨l'⟩ t' (0, 0)) h') (hv : v.cells.toList = vs) (hn : vs.length = d.size) (h1 : vs.all Value.oneCell' = true) (hr : Nat.ble (o + d.size) l.length = true) (hl : splice l o vs = l') (H : K undef h') : XV P r ⟨dst, .store t x y, ty, pos, af, gd⟩ K T E h :=
  xv_st ht hx hy hv hn h1 hl hr hm H
end Go.H

/-
  A slice that reads as a list of structs.
-/
namespace Go.H
open Go
variable {P : Program} {h h' : Hp}
def SlV {α : Type} (h : Hp) (sz : Nat) (enc : α → List Value) (a : Option Addr) (xs : List α) : Prop :=
  xs = [] ∨ ∃ b o l t fz, a = some ⟨b, o, none⟩ ∧ (b, .cells ⟨l⟩ t fz) ∈ h ∧ ∀ i x, xs[i]? = some x → (l.drop (o + i * sz)).take sz = enc x
theorem SlV.at {α : Type} {sz : Nat} {enc : α → List Value} {a : Option Addr} {xs : List α} (H : SlV h sz enc a xs) {i : Nat} (hi : i < xs.length) :
    ∃ b o l t fz, a = some ⟨b, o, none⟩ ∧ (b, .cells ⟨l⟩ t fz) ∈ h ∧ ∀ i x, xs[i]? = some x → (l.drop (o + i * sz)).take sz = enc x := by
  rcases H with rfl | H
  · simp at hi
  · exact H
theorem SlV.sub {α : Type} {sz : Nat} {enc : α → List Value} {a : Option Addr} {xs : List α} (H : SlV h sz enc a xs) (hs : h ⊆ h') : SlV h' sz enc a xs := by
  rcases H with rfl | ⟨b, o, l, t, fz, h1, h2, h3⟩
  · exact .inl rfl
  · exact .inr ⟨b, o, l, t, fz, h1, hs h2, h3⟩
theorem SlV.cons {α : Type} {sz : Nat} {enc : α → List Value} {a : Option Addr} {xs : List α} (H : SlV h sz enc a xs) (x : Nat × Obj) : SlV (x :: h) sz enc a xs := H.sub (List.subset_cons_self _ _)
theorem take_get {l e : List Value} {o sz j : Nat} {v : Value} (hl : (l.drop o).take sz = e) (hj : e[j]? = some v) : l[o + j]? = some v := by
  subst hl
  have hlt : j < sz := by
    have := (List.getElem?_eq_some_iff.1 hj).1
    simp at this; omega
  rwa [List.getElem?_take_of_lt hlt, List.getElem?_drop] at hj
end Go.H


/-
  The logic of owned blocks over the kit, part HD.
-/
set_option linter.all false
/-
  Small tactics: a block's place in the list of blocks.
-/
namespace Go.H
open Go
theorem evl_cons {α : Type _} {l t t' : List α} {x x' : α} (h : l = x :: t) (hx : x = x') (ht : t = t') : l = x' :: t' := by rw [h, hx, ht]
theorem evl_some {α : Type _} {o : Option (List α)} {l l' : List α} (h : o = some l) (h2 : l = l') : o = some l' := by rw [h, h2]
variable {P : Program} {h h' : Hp}
theorem z_0 {α : Type _} {a : α} {l : List α} : a ∈ a :: l := List.mem_cons_self
theorem z_1 {α : Type _} {a b : α} {l : List α} (h : a ∈ l) : a ∈ b :: l := List.mem_cons_of_mem _ h
theorem z_r {α : Type _} {a : α} {l r : List α} (h : a ∈ r) : a ∈ l ++ r := List.mem_append_right _ h
theorem z_l {α : Type _} {a : α} {l r : List α} (h : a ∈ l) : a ∈ l ++ r := List.mem_append_left _ h
theorem s_0 {α : Type _} {l : List α} : List.Sublist l l := List.Sublist.refl _
theorem s_1 {α : Type _} {l : List α} : List.Sublist [] l := List.nil_sublist _
theorem s_3 {α : Type _} {l r : List α} : List.Sublist l (l ++ r) := List.sublist_append_left _ _
theorem s_4 {α : Type _} {l r r' : List α} (h : List.Sublist r r') : List.Sublist (l ++ r) (l ++ r') := List.Sublist.append (List.Sublist.refl _) h
theorem s_5 {α : Type _} {a : α} {l r : List α} (h : List.Sublist l r) : List.Sublist (a :: l) (a :: r) := List.Sublist.cons_cons _ h
theorem s_6 {α : Type _} {a : α} {l r : List α} (h : List.Sublist l r) : List.Sublist l (a :: r) := List.Sublist.cons _ h
theorem s_7 {α : Type _} {x l r : List α} (h : List.Sublist x r) : List.Sublist x (l ++ r) := List.Sublist.trans h (List.sublist_append_right _ _)
theorem s_8 {α : Type _} {x l r : List α} (h : List.Sublist x l) : List.Sublist x (l ++ r) := List.Sublist.trans h (List.sublist_append_left _ _)
theorem u_0 {b : Nat} {o o' : Obj} {h : Hp} : Upd ((b, o) :: h) b o o' ((b, o') :: h) := .here
theorem u_1 {x : Nat × Obj} {b : Nat} {o o' : Obj} {h h' : Hp} (H : Upd h b o o' h') : Upd (x :: h) b o o' (x :: h') := .there H
theorem u_2 {h h' : Hp} {b : Nat} {o o' : Obj} {f : Hp} (H : Upd h b o o' h') : Upd (f ++ h) b o o' (f ++ h') := Upd.left f H
theorem u_3 {h h' : Hp} {b : Nat} {o o' : Obj} {f : Hp} (H : Upd h b o o' h') : Upd (h ++ f) b o o' (h' ++ f) := Upd.append H
theorem v_1 {k : IntKind} {n : Int} : Value.int k n = .int k n := rfl
theorem v_2 {b : Bool} : Value.bool b = .bool b := rfl
theorem v_3 {a : Option Addr} : Value.pointer a = .pointer a := rfl
theorem v_4 {a : Option Addr} {n c : Nat} : Value.slice a n c = .slice a n c := rfl
theorem v_5 {c : Array Value} : Value.agg c = .agg c := rfl
theorem v_6 {r : Option Nat} : Value.map r = .map r := rfl
theorem v_7 {f : Fn} {a b : Array Value} : Value.func f a b = .func f a b := rfl
theorem v_8 {t : TypeId} {v : Value} : Value.iface t v = .iface t v := rfl
theorem v_9 {s : ByteArray} : Value.string s = .string s := rfl
theorem AFn.framed {fv : Value} {args : List Value} {R : Ending → Hp → Prop} (g : Hp) (H : AFn P fv args h (fun e h' => R e (g ++ h'))) : AFn P fv args (g ++ h) R :=
  (AFn.frameL g H).mono (by rintro e _ ⟨h', rfl, q⟩; exact q)
theorem ACalls.framed {f : FuncId} {args : Array Value} {R : Ending → Hp → Prop} (g : Hp) (H : ACalls P f args h (fun e h' => R e (g ++ h'))) : ACalls P f args (g ++ h) R := by
  intro w ho
  refine (ACalls.frameL g H w ho).mono ?_
  rintro e w' ⟨h2, ⟨h', rfl, q⟩, hf⟩
  exact ⟨_, q, hf⟩
theorem ACalls.framedP {f : FuncId} {args : Array Value} {R : Ending → Hp → Prop} (g : Hp) (hp : List.Perm (g ++ h) h') (H : ACalls P f args h (fun e h' => R e (g ++ h'))) : ACalls P f args h' R :=
  ACalls.perm hp (ACalls.framed g H)
theorem Vec.one (V : Vec) (n : Nat) : (V.val n).oneCell' = true := by cases V <;> rfl
section
variable {r : Option Nat} {E : Env} {K : Value → Hp → Prop} {T : List PanicEntry → Hp → Prop} {dst : Option Nat} {ty : TypeId} {pos : String} {af : Array Edge} {gd : Option (Nat × Bool)}
theorem xv_ia {x y : Operand} {t e : TypeId} {d : TD} {b o n c : Nat} {k : IntKind} {i : Int} {j sz : Nat} (ht : SlT P t e) (hd : TyOk P e d) (hs : d.size = sz) (hx : ev E x = some (.slice (some ⟨b, o, none⟩) n c)) (hy : ev E y = some (.int k i)) (hj : i.toNat = j) (h0 : 0 ≤ i) (h1 : i < n)
    (H : K (.pointer (some ⟨b, o + j * sz, none⟩)) h) : XV P r ⟨dst, .indexAddr t x y, ty, pos, af, gd⟩ K T E h :=
  xv_iaddr ht hd hx hy h0 h1 (by rw [hs, hj]; exact H)
theorem xv_iaA {x y : Operand} {t e : TypeId} {d : TD} {b o n : Nat} {k : IntKind} {i : Int} {j sz : Nat} (ht : P.underlying t = some (.array n e)) (hd : TyOk P e d) (hs : d.size = sz) (hx : ev E x = some (.pointer (some ⟨b, o, none⟩))) (hy : ev E y = some (.int k i)) (hj : i.toNat = j) (h0 : 0 ≤ i) (h1 : i < n)
    (H : K (.pointer (some ⟨b, o + j * sz, none⟩)) h) : XV P r ⟨dst, .indexAddr t x y, ty, pos, af, gd⟩ K T E h :=
  xv_iaddrA ht hd hx hy h0 h1 (by rw [hs, hj]; exact H)
end
section
variable {r : Option Nat} {N : Nat} {Q : Post} {E : Env} {D : List Deferred} {ops : Array Oper} {G : Prom} {l : List Item} {L : List (Nat × (Obj → Prop))}
theorem js_R0 {i : Nat} {o : Oper} {v : Value} (hi : ops[i]? = some o) (hd : dstOk N o.dst = true) (hr : Runs ops o E) (H : XV P r o (fun v' h' => v' = v ∧ h' = h) (fun _ _ => False) E h) (H2 : J P r N ops D Q [] L l (E.put o.dst v) G h) : J P r N ops D Q [] L ((i, .R) :: l) E G h :=
  js_R hi hd hr (by rw [List.append_nil]; exact H) H2
theorem js_O0 {i : Nat} {o : Oper} (hi : ops[i]? = some o) (hd : dstOk N o.dst = true) (hr : Runs ops o E) (H : XV P r o (fun v h' => J P r N ops D Q [] [] l (E.put o.dst v) G h') (fun ch h'' => Q (.panic ch) emp D h'') E h) : J P r N ops D Q [] [] ((i, .O) :: l) E G h :=
  js_O hi hd hr (by rw [List.append_nil]; exact H.mono (fun v h' k => ⟨h', by simp, .nil, k⟩) (fun _ _ k => k))
theorem js_OL0 {i : Nat} {o : Oper} (hi : ops[i]? = some o) (hd : dstOk N o.dst = true) (hr : Runs ops o E) (H : XV P r o (fun v h' => Holds L h' ∧ J P r N ops D Q [] L l (E.put o.dst v) G h') (fun ch h'' => Q (.panic ch) emp D h'') E h) : J P r N ops D Q [] L ((i, .O) :: l) E G h :=
  js_O hi hd hr (by rw [List.append_nil]; exact H.mono (fun v h' k => ⟨h', by simp, k.1, k.2⟩) (fun _ _ k => k))
theorem holds1 {b : Nat} {o : Obj} {p : Obj → Prop} (hm : (b, o) ∈ h) (hp : p o) : Holds [(b, p)] h := fun b' p' hb => by
  simp only [List.mem_singleton, Prod.mk.injEq] at hb
  obtain ⟨rfl, rfl⟩ := hb
  exact ⟨o, hm, hp⟩
theorem js_A0 {i : Nat} {o : Oper} {mk : Nat → Value} {obj : Obj} {E0 : Env} {tl : List Nat} (hi : ops[i]? = some o) (hd : dstOk N o.dst = true) (hg : o.guard = none) (hG : G i = some ⟨mk, obj, restr o E0⟩) (ht : tmpsOf o.op.operands.toList = tl) (he : EqL tl E0 E)
    (H2 : ∀ b, b ∉ keys h → J P r N ops D Q [] L l (E.put o.dst (mk b)) G ((b, obj) :: h)) : J P r N ops D Q [] L ((i, .A) :: l) E G h :=
  js_A hi hd hg hG ht he (by simpa using H2)
end
end Go.H

/-
  Deferred calls: a closure that recovers; the end of a function that has one.
-/
namespace Go.H
open Go
variable {P : Program} {r : Option Nat} {N : Nat} {Q : Post} {E : Env} {D : List Deferred} {h : Hp}
section
variable {K : Value → Hp → Prop} {T : List PanicEntry → Hp → Prop} {dst : Option Nat} {ty : TypeId} {pos : String} {af : Array Edge} {gd : Option (Nat × Bool)} {xt yt : TypeId} {x y : Operand} {k : IntKind} {a b : Int}
theorem xv_neqT (hx : ev E x = some (.int k a)) (hy : ev E y = some (.int k b)) (hn : a ≠ b) (H : K (.bool true) h) : XV P r ⟨dst, .binOp .neq xt x y yt, ty, pos, af, gd⟩ K T E h := xv_cmp hx hy (by simp [cmpB, hn]) H
theorem xv_neqF (hx : ev E x = some (.int k a)) (hy : ev E y = some (.int k b)) (hn : a = b) (H : K (.bool false) h) : XV P r ⟨dst, .binOp .neq xt x y yt, ty, pos, af, gd⟩ K T E h := xv_cmp hx hy (by simp [cmpB, hn]) H
theorem xv_eqlT (hx : ev E x = some (.int k a)) (hy : ev E y = some (.int k b)) (hn : a = b) (H : K (.bool true) h) : XV P r ⟨dst, .binOp .eql xt x y yt, ty, pos, af, gd⟩ K T E h := xv_cmp hx hy (by simp [cmpB, hn]) H
end
end Go.H

/-
  Ranges over functions, as they are walked: a ghost, garbage let go; the end of a body with marks.
-/
namespace Go.H
open Go
variable {P : Program} {r : Option Nat} {N : Nat} {Q : Post} {E : Env} {D : List Deferred} {h h' : Hp}
def Mon (Q : Post) : Prop := ∀ E D h h', List.Sublist h h' → Q .normal E D h → Q .normal E D h'
theorem EnvLe.rfl' (E : Env) : EnvLe E E := fun _ _ hh => hh
theorem mon_th {y : Code} {Q' : Post} : Mon (Th (XC P r N y Q) Q') := fun _ _ _ _ hs hq => XC.weaken (EnvLe.rfl' _) hs hq
theorem mon_bk {id : Nat} (H : Mon Q) : Mon (Bk id Q) := fun E D h h' hs hq => H E D h h' hs hq
def RndA (K : Env → List Deferred → Hp → Prop) : Post
  | .normal, E, D, h => K E D h
  | _, _, _, _ => False
def RndQ {γ : Type} (Inv : Nat → γ → Prop) (HI : Nat → γ → Hp) (k : Nat) (Ix : Code → Nat → Hp → Prop) : Post
  | .normal, _, D, h => D = [] ∧ ∃ g, Inv (k + 1) g ∧ List.Sublist (HI (k + 1) g) h
  | .ret, _, D, h => D = [] ∧ Ix .ret (k + 1) h
  | .exit id, _, D, h => D = [] ∧ Ix (.exit id) (k + 1) h
  | _, _, _, _ => False
theorem rndA_n {K : Env → List Deferred → Hp → Prop} (H : K E D h) : RndA K .normal E D h := H
theorem rndQ_n {γ : Type} {Inv : Nat → γ → Prop} {HI : Nat → γ → Hp} {k : Nat} {Ix : Code → Nat → Hp → Prop} (g : γ) (h1 : Inv (k + 1) g) (h2 : List.Sublist (HI (k + 1) g) h) : RndQ Inv HI k Ix .normal E [] h := ⟨rfl, g, h1, h2⟩
theorem puts_le {ps : List Nat} {vs : List Value} {E E' : Env} (hle : EnvLe E E') : EnvLe (puts E ps vs) (puts E' ps vs) := by
  induction ps generalizing vs E E' with
  | nil => simpa [puts] using hle
  | cons p ps ih =>
    cases vs with
    | nil => simpa [puts] using hle
    | cons v vs =>
      simp only [puts]
      refine ih (fun t u hu => ?_)
      simp only [Env.put] at hu ⊢
      cases hb : Nat.beq t p with
      | true => rw [hb] at hu; exact hu
      | false => rw [hb] at hu; exact hle t u hu
theorem xc_range2 {α γ : Type} {g : Operand} {ps : Array Tmp} {assign body : Code} {gf : FuncId} {fi lb : List Value} (enc : α → List Value) (all : List α) (core : Hp)
    (hg : ev E g = some (.func (.func gf) ⟨fi⟩ ⟨lb⟩)) (hb : HasBody P gf) (hit : Iter P gf fi lb enc all (fun h' => core ⊆ h')) (hps : ∀ x, (enc x).length = ps.size) (hpN : ∀ p ∈ ps.toList, p < N)
    (EI : Env) (Inv : Nat → γ → Prop) (HI : Nat → γ → Hp) (Ix : Code → Nat → Hp → Prop) (g0 : γ) (hm : Mon Q) (hle : EnvLe EI E) (h0 : Inv 0 g0) (hs0 : List.Sublist (HI 0 g0) h) (hcore : ∀ k g, core ⊆ HI k g)
    (round : ∀ l k x g, all[k]? = some x → Inv k g → XC P (some l) N assign (RndA (XC P (some l) N body (RndQ Inv HI k Ix))) (puts EI ps.toList (enc x)) [] (HI k g))
    (stop : ∀ k c j h', j ≤ all.length → Ix c j h' → k ∉ keys h' → XC P none N c Q E (markOf k :: D) ((k, .deferred (some [])) :: h'))
    (done : ∀ k g, Inv all.length g → k ∉ keys (HI all.length g) → Q .normal E (markOf k :: D) ((k, .deferred (some [])) :: HI all.length g)) : XC P none N (.rangeFunc g ps assign body) Q E D h := by
  refine xc_range enc all (fun h' => core ⊆ h') hg hb hit hps hpN (fun k h' => ∃ g, Inv k g ∧ List.Sublist (HI k g) h') Ix ?_ ?_ ⟨g0, h0, hs0⟩ ?_ ?_ stop
  · rintro k h' ⟨g, _, hs⟩ x y z hz
    exact List.mem_cons_of_mem _ (List.mem_cons_of_mem _ (hs.subset (hcore k g hz)))
  · intro h1 h2 hp hr z hz; exact (hp.mem_iff).1 (hr hz)
  · rintro l k x hx h' ⟨g, hi, hs⟩
    refine XC.mono (XC.weaken (puts_le hle) hs (round l k x g hx hi)) ?_
    intro e E1 D1 h1 q
    cases e with
    | normal =>
      refine ⟨rfl, XC.mono q ?_⟩
      intro e2 E2 D2 h2 q2
      cases e2 with
      | normal => exact q2
      | ret => exact q2
      | exit id => exact q2
      | _ => exact q2.elim
    | _ => exact q.elim
  · rintro k h' ⟨g, hi, hs⟩ hk
    have hk2 : k ∉ keys (HI all.length g) := fun hh => hk ((hs.map Prod.fst).subset hh)
    exact hm _ _ _ _ (hs.cons_cons _) (done k g hi hk2)
theorem body_retM {fn : Func} {R : Ending → Hp → Prop} {rl : List ResultVar} {vs : List Value} {k : Nat} (hrl : fn.results.toList = rl) (hr : ResOk P E h rl vs) (hs : List.Sublist h' h) (hk : (k, .deferred (some [])) ∈ h) (hn : k ∉ keys h') (H : R (.returned (tupV vs)) h') : BodyQ P fn R .ret E [markOf k] h :=
  ⟨⟨⟨k, rfl, hk, by simp⟩, trivial⟩, vs, h', by rw [hrl]; exact hr, hs, fun j hj => by simp [marked, markOf] at hj; subst hj; exact hn, H⟩
theorem nkeys {k : Nat} (hs : h ⊆ h') (hn : k ∉ keys h') : k ∉ keys h := fun hh => hn ((List.map_subset Prod.fst hs) hh)
theorem yieldTo {y : Value} {args : List Value} {g h0 : Hp} {J1 J2 : Hp → Prop} {R : Ending → Hp → Prop} (H : AFn P y args h0 (fun e h2 => (e = .returned (.bool true) ∧ J1 h2) ∨ (e = .returned (.bool false) ∧ J2 h2)))
    (H1 : ∀ h2, J1 h2 → R (.returned (.bool true)) (g ++ h2)) (H2 : ∀ h2, J2 h2 → R (.returned (.bool false)) (g ++ h2)) : AFn P y args (g ++ h0) R := by
  refine AFn.framed g (H.mono ?_)
  rintro e h2 (⟨rfl, hj⟩ | ⟨rfl, hj⟩)
  · exact H1 _ hj
  · exact H2 _ hj
theorem flat_at {α : Type} {enc : α → List Value} {sz : Nat} (henc : ∀ x, (enc x).length = sz) {x : α} (sp : List Value) : ∀ (xs : List α) (k : Nat), xs[k]? = some x → ((xs.flatMap enc ++ sp).drop (0 + k * sz)).take sz = enc x
  | [], k, hk => by simp at hk
  | q :: rs, 0, hk => by
    simp at hk; subst hk
    simp only [List.flatMap_cons, List.append_assoc, Nat.zero_mul, Nat.add_zero, List.drop_zero]
    rw [List.take_append_of_le_length (by rw [henc]; exact Nat.le_refl _), List.take_of_length_le (by rw [henc]; exact Nat.le_refl _)]
  | q :: rs, k + 1, hk => by
    have ih := flat_at henc sp rs k (by simpa using hk)
    rw [Nat.zero_add] at ih
    have e : 0 + (k + 1) * sz = (enc q).length + k * sz := by rw [henc, Nat.add_mul]; omega
    simp only [List.flatMap_cons, List.append_assoc]
    rw [e, ← List.drop_drop, List.drop_left]
    exact ih
theorem Vec.slv {α : Type} {V : Vec} {sz : Nat} {enc : α → List Value} (henc : ∀ x, (enc x).length = sz) {xs : List α} {t : TypeId} (hV : V.ok sz xs.length (xs.flatMap enc)) (hsub : V.hp t (xs.flatMap enc) ⊆ h) :
    ∃ a c, V.val xs.length = .slice a xs.length c ∧ SlV h sz enc a xs := by
  cases V with
  | nil =>
    obtain ⟨_, h0⟩ := hV
    have : xs = [] := List.length_eq_zero_iff.1 h0
    subst this
    exact ⟨none, 0, rfl, .inl rfl⟩
  | «at» b cap sp =>
    exact ⟨some ⟨b, 0, none⟩, cap, rfl, .inr ⟨b, 0, _, t, (0, 0), rfl, hsub List.mem_cons_self, fun i x hx => flat_at henc sp xs i hx⟩⟩
end Go.H

/-
  '==' of structs and arrays of numbers; ranges over maps.
-/
namespace Go.H
open Go
variable {P : Program} {r : Option Nat} {N : Nat} {Q : Post} {E : Env} {D : List Deferred} {h h' : Hp}
variable {K : Value → Hp → Prop} {T : List PanicEntry → Hp → Prop} {dst : Option Nat} {ty : TypeId} {pos : String} {af : Array Edge} {gd : Option (Nat × Bool)}
def eqc : List Value → List Value → Bool
  | [], [] => true
  | .int _ a :: xs, .int _ b :: ys => a == b && eqc xs ys
  | .bool a :: xs, .bool b :: ys => a == b && eqc xs ys
  | _, _ => false
def Num (v : Value) : Prop := ∃ n, v = .int .i64 n
def pk : Bool → List Value → Value
  | true, xs => .agg ⟨xs⟩
  | false, x :: _ => x
  | false, [] => undef
def Flat (P : Program) (n : Nat) (t : TypeId) (sz : Nat) (agg : Bool) : Prop :=
  ∀ d, n ≤ d → ∀ xs ys : List Value, xs.length = sz → ys.length = sz → (∀ x ∈ xs, Num x) → (∀ y ∈ ys, Num y) → ∀ w, (Op.equalIn d t (pk agg xs) (pk agg ys)).run P w = .ok (eqc xs ys) w
theorem flat_int {t : TypeId} (ht : P.underlying t = some (.int .i64)) : Flat P 1 t 1 false := by
  intro d hd xs ys hx hy nx ny w
  obtain ⟨d, rfl⟩ : ∃ e, d = e + 1 := ⟨d - 1, by omega⟩
  match xs, ys, hx, hy with
  | [x], [y], _, _ =>
    obtain ⟨a, rfl⟩ := nx x List.mem_cons_self
    obtain ⟨b, rfl⟩ := ny y List.mem_cons_self
    simp only [pk]
    rw [run_equalIn_int w d t .i64 .i64 a b ht]
    simp [eqc]
theorem eqc_append : ∀ {xs ys us vs : List Value}, xs.length = ys.length → (∀ x ∈ xs, Num x) → (∀ y ∈ ys, Num y) → eqc (xs ++ us) (ys ++ vs) = (eqc xs ys && eqc us vs)
  | [], [], us, vs, _, _, _ => by simp [eqc]
  | x :: xs, y :: ys, us, vs, hl, hx, hy => by
    obtain ⟨a, rfl⟩ := hx x List.mem_cons_self
    obtain ⟨b, rfl⟩ := hy y List.mem_cons_self
    have := eqc_append (us := us) (vs := vs) (by simpa using hl) (fun x h => hx x (List.mem_cons_of_mem _ h)) (fun y h => hy y (List.mem_cons_of_mem _ h))
    simp only [List.cons_append, eqc, this, Bool.and_assoc]
inductive FlatF (P : Program) (n : Nat) : List Field → Nat → Nat → Prop
  | nil {o : Nat} : FlatF P n [] o o
  | cons {f : Field} {fs : List Field} {o s e : Nat} {d : TD} (hn : f.name ≠ "_") (ho : f.offset = o) (hd : TyOk P f.type d) (hs : d.size = s) (hf : Flat P n f.type s (aggB d.und)) (h0 : 0 < s) (h1 : (aggB d.und || Nat.beq s 1) = true) (hr : FlatF P n fs (o + s) e) : FlatF P n (f :: fs) o e
theorem FlatF.le {n : Nat} {fs : List Field} {o e : Nat} (H : FlatF P n fs o e) : o ≤ e := by
  induction H with
  | nil => exact Nat.le_refl _
  | cons _ _ _ _ _ _ _ ih => omega
theorem part_run {t : TypeId} {d : TD} (ht : TyOk P t d) {xs : List Value} {o : Nat} (h0 : 0 < d.size) (hl : o + d.size ≤ xs.length) (h1 : aggB d.und = false → d.size = 1) (w : World) : (part t ⟨xs⟩ o).run P w = .ok (pk (aggB d.und) ((xs.drop o).take d.size)) w := by
  cases ha : aggB d.und with
  | true => simp [part, ht.run_agg, ha, ht.run_size, pk]
  | false =>
    have h1 := h1 ha
    have hlt : o < xs.length := by omega
    rw [h1]
    have e : (xs.drop o).take 1 = [xs[o]] := by rw [List.drop_eq_getElem_cons hlt]; rfl
    rw [e]
    simp [part, ht.run_agg, ha, pk, hlt]
theorem seg_num {xs : List Value} (hx : ∀ x ∈ xs, Num x) (o n : Nat) : ∀ x ∈ (xs.drop o).take n, Num x := fun x hm => hx x (List.mem_of_mem_drop (List.mem_of_mem_take hm))
theorem seg_split (xs : List Value) (o s : Nat) : xs.drop o = (xs.drop o).take s ++ xs.drop (o + s) := by
  rw [← List.drop_drop, List.take_append_drop]
theorem flatF_run {n : Nat} : ∀ {fs : List Field} {o e : Nat}, FlatF P n fs o e → ∀ d, n ≤ d → ∀ xs ys : List Value, xs.length = e → ys.length = e → (∀ x ∈ xs, Num x) → (∀ y ∈ ys, Num y) → ∀ w, (Op.eqFields d ⟨xs⟩ ⟨ys⟩ fs).run P w = .ok (eqc (xs.drop o) (ys.drop o)) w := by
  intro fs o e H
  induction H with
  | nil =>
    intro d hd xs ys hx hy nx ny w
    rw [List.drop_eq_nil_of_le (by omega), List.drop_eq_nil_of_le (by omega)]
    simp [Op.eqFields, eqc]
  | @cons f fs o s e td hn ho hd hs hf h0 h1 hr ih =>
    intro d hdn xs ys hx hy nx ny w
    have hle := hr.le
    subst hs
    have hs1 : aggB td.und = false → td.size = 1 := fun ha => by simpa [ha] using h1
    have lx : ((xs.drop o).take td.size).length = td.size := by simp; omega
    have ly : ((ys.drop o).take td.size).length = td.size := by simp; omega
    have pa := part_run hd (xs := xs) (o := o) h0 (by omega) hs1 w
    have pb := part_run hd (xs := ys) (o := o) h0 (by omega) hs1 w
    have pe := hf d hdn _ _ lx ly (seg_num nx o _) (seg_num ny o _) w
    have hrest := ih d hdn xs ys hx hy nx ny w
    rw [seg_split xs o td.size, seg_split ys o td.size, eqc_append (by rw [lx, ly]) (seg_num nx o _) (seg_num ny o _)]
    simp only [Op.eqFields, if_pos hn, ho, Sem.run_bind, pa, pb, pe, Result.andThen_ok]
    cases eqc ((xs.drop o).take td.size) ((ys.drop o).take td.size)
    · simp
    · simpa using hrest
theorem flat_struct {n : Nat} {t : TypeId} {fs : Array Field} {sz : Nat} (hu : P.underlying t = some (.struct fs)) (hp : P.stoodInHeld t = false) (hf : FlatF P n fs.toList 0 sz) : Flat P (n + 1) t sz true := by
  intro d hd xs ys hx hy nx ny w
  obtain ⟨d, rfl⟩ : ∃ e, d = e + 1 := ⟨d - 1, by omega⟩
  have hfo : P.fieldsOf t = fs := by simp [Program.fieldsOf, hu]
  show (Op.equalIn (d + 1) t (.agg ⟨xs⟩) (.agg ⟨ys⟩)).run P w = _
  rw [run_equalIn_struct w d t ⟨xs⟩ ⟨ys⟩ (by rw [hfo]; exact hu) hp, hfo]
  have := flatF_run hf d (by omega) xs ys hx hy nx ny w
  simpa using this
theorem Flat.le {n m sz : Nat} {t : TypeId} {agg : Bool} (H : Flat P n t sz agg) (hm : Nat.ble n m = true) : Flat P m t sz agg := fun d hd => H d (Nat.le_trans (Nat.le_of_ble_eq_true hm) hd)
theorem numNil : ∀ x ∈ ([] : List Value), Num x := fun _ hx => by cases hx
theorem numCons {n : Int} {xs : List Value} (H : ∀ x ∈ xs, Num x) : ∀ x ∈ (Value.int .i64 n :: xs), Num x := fun x hx => by
  rcases List.mem_cons.1 hx with rfl | hx
  · exact ⟨_, rfl⟩
  · exact H x hx
theorem numApp {xs ys : List Value} (H1 : ∀ x ∈ xs, Num x) (H2 : ∀ y ∈ ys, Num y) : ∀ x ∈ xs ++ ys, Num x := fun x hx => (List.mem_append.1 hx).elim (H1 x) (H2 x)
theorem guard_ok {op : BinOp} {t : TypeId} {x y : Operand} {xs ys : List Value} (hg : P.eqGuardType P.depth t = false) (w : World) : (eqGuard op t x y (.agg ⟨xs⟩) (.agg ⟨ys⟩)).run P w = .ok () w := by
  unfold eqGuard
  cases op <;> simp [hg]
theorem xv_eqA {n sz : Nat} {xt yt : TypeId} {x y : Operand} {xs ys : List Value} {b : Bool} (hf : Flat P n xt sz true) (hn : Nat.ble n 10000 = true) (hg : P.eqGuardType P.depth xt = false) (hx : ev E x = some (.agg ⟨xs⟩)) (hy : ev E y = some (.agg ⟨ys⟩)) (lx : xs.length = sz) (ly : ys.length = sz) (nx : ∀ x ∈ xs, Num x) (ny : ∀ y ∈ ys, Num y) (hb : eqc xs ys = b)
    (H : K (.bool b) h) : XV P r ⟨dst, .binOp .eql xt x y yt, ty, pos, af, gd⟩ K T E h :=
  xv_of_run (by simp [plainOp]) fun w ρ ho he => ⟨_, h, w, by
    have hq : (binOp .eql xt (.agg ⟨xs⟩) (.agg ⟨ys⟩)).run P w = .ok (.bool b) w := by
      rw [run_eql_struct, show (Op.equalIn 10000 xt (.agg ⟨xs⟩) (.agg ⟨ys⟩)).run P w = _ from hf 10000 (Nat.le_of_ble_eq_true hn) xs ys lx ly nx ny w, hb]; rfl
    rw [run_bin (he _ _ hx) (he _ _ hy) (guard_ok hg), hq]; rfl, H, .refl ho⟩
theorem xv_neA {n sz : Nat} {xt yt : TypeId} {x y : Operand} {xs ys : List Value} {b : Bool} (hf : Flat P n xt sz true) (hn : Nat.ble n 10000 = true) (hg : P.eqGuardType P.depth xt = false) (hx : ev E x = some (.agg ⟨xs⟩)) (hy : ev E y = some (.agg ⟨ys⟩)) (lx : xs.length = sz) (ly : ys.length = sz) (nx : ∀ x ∈ xs, Num x) (ny : ∀ y ∈ ys, Num y) (hb : (!eqc xs ys) = b)
    (H : K (.bool b) h) : XV P r ⟨dst, .binOp .neq xt x y yt, ty, pos, af, gd⟩ K T E h :=
  xv_of_run (by simp [plainOp]) fun w ρ ho he => ⟨_, h, w, by
    have hq : (binOp .neq xt (.agg ⟨xs⟩) (.agg ⟨ys⟩)).run P w = .ok (.bool b) w := by
      rw [run_neq_struct, show (Op.equalIn 10000 xt (.agg ⟨xs⟩) (.agg ⟨ys⟩)).run P w = _ from hf 10000 (Nat.le_of_ble_eq_true hn) xs ys lx ly nx ny w, ← hb]; rfl
    rw [run_bin (he _ _ hx) (he _ _ hy) (guard_ok hg), hq]; rfl, H, .refl ho⟩
structure Lay (es : List MapEntry) (c : Nat) : Prop where
  ai : AllInt es
  lt : ∀ e ∈ es, e.born < c
  nd : (es.map (·.born)).Nodup
  kd : es.Pairwise (fun x y => x.key ≠ y.key)
theorem Lay.empty (c : Nat) : Lay [] c := ⟨fun _ he => (by cases he), fun _ he => (by cases he), List.nodup_nil, List.Pairwise.nil⟩
theorem Lay.get {es : List MapEntry} {c : Nat} (H : Lay es c) {e : MapEntry} (he : e ∈ es) : ∃ k, e.key = .int .i64 k ∧ mget es k = some e.val := by
  obtain ⟨k, hk⟩ := H.ai e he
  refine ⟨k, hk, ?_⟩
  have hkd := H.kd
  have hai := H.ai
  clear H
  unfold mget
  suffices hs : ∀ i, (mfind k es i).map (·.2) = some e.val from hs 0
  induction es with
  | nil => cases he
  | cons x es ih =>
    intro i
    obtain ⟨j, hj⟩ := hai x List.mem_cons_self
    obtain ⟨h1, h2⟩ := List.pairwise_cons.1 hkd
    simp only [mfind, hj]
    rcases List.mem_cons.1 he with rfl | he
    · rw [hj] at hk; injection hk with _ hk; rw [if_pos hk.symm]; rfl
    · have hne : ¬ k = j := fun hq => h1 e he (by rw [hj, hk, hq])
      rw [if_neg hne]
      exact ih he h2 (fun e he => hai e (List.mem_cons_of_mem _ he)) (i + 1)
theorem xr_nu {ops : Array Oper} {i : Nat} {op : Op} {j : Nat} {t : Bool} (hi : ops[i]? = some ⟨dst, op, ty, pos, af, some (j, t)⟩) (hg : gv ops E j = some undef) (hd : dstOk N dst = true)
    (H : XR P r N ops (i + 1) Q (E.put dst undef) D h) : XR P r N ops i Q E D h := by
  unfold XR
  rw [range'_at hi]
  intro w a ho ha hda
  simp only [wpOpsIn, hi]
  have hy : yielded ops a.tmps j = none := by
    unfold gv at hg
    unfold yielded
    cases hd : (ops[j]?).bind (·.dst) with
    | none => rfl
    | some d =>
      rw [hd] at hg
      have := ha.val d _ hg
      simp [this, undef]
  have hw : ¬ Region.wanted ⟨dst, op, ty, pos, af, some (j, t)⟩ (yielded ops a.tmps) = true := by
    simp [Region.wanted, hy]
  rw [if_neg hw]
  refine ⟨fun _ _ => trivial, ?_⟩
  have hda' : (a.put dst undef).defers = D := by cases dst <;> exact hda
  exact H w _ ho (ha.put (dstOk_lt hd)) hda'
theorem Om_ {p : Prop} (h : p := by (first|omega|(dsimp only at *;omega)|(simp at *;omega))) : p := h
theorem Me_ {p : Prop} (h : p := by ((repeat first|exact z_0|assumption|refine z_1 ?_|(refine z_l ?_;(repeat first|exact z_0|assumption|refine z_1 ?_);done)|refine z_r ?_);done)) : p := h
theorem Up_ {p : Prop} (h : p := by (first|(apply u_3;(repeat first|exact u_0|assumption|apply u_1|apply u_2);done)|((repeat first|exact u_0|assumption|apply u_1|apply u_2);done)|(apply u_3;apply u_3;(repeat first|exact u_0|assumption|apply u_1|apply u_2);done)|((repeat first|exact u_0|assumption|apply u_3|apply u_1);done))) : p := h
theorem Ev_ {p : Prop} (h : p := by ((try apply evl_some rfl);(repeat (first|exact (rfl : _ = [])|apply evl_cons rfl (by (first|exact v_1|exact v_2|exact v_3|exact v_4|exact v_5|exact v_6|exact v_7|exact v_8|exact v_9|exact rfl))|exact rfl)))) : p := h
theorem Su_ {p : Prop} (h : p := by (first|((repeat first|exact s_0|exact s_1|exact s_3|refine s_4 ?_|refine s_5 ?_|refine s_6 ?_|refine s_7 ?_);done)|((repeat first|exact s_0|exact s_1|exact s_3|refine s_4 ?_|refine s_5 ?_|refine s_6 ?_|refine s_8 ?_);done))) : p := h
theorem Ix_ {p : Prop} (h : p := by (first | assumption | with_reducible exact Int.toNat_natCast _ | with_reducible rfl | rfl)) : p := h
theorem One_ {p : Prop} (h : p := by (first | rfl | exact Vec.one _ _)) : p := h
theorem Len_ {p : Prop} (h : p := by (first | decide | exact Nat.le_of_ble_eq_true rfl | (simp only [List.length_cons, List.length_nil]; omega) | (simp; done))) : p := h
theorem Nums_ {p : Prop} (h : p := by ((repeat' first | assumption | exact numNil | refine numCons ?_ | refine numApp ?_ ?_); done)) : p := h
end Go.H


/-
  The logic of owned blocks over the kit, part HE.
-/
set_option linter.all false
/-
  Rules for the laws' walks: bools that are compared, comparisons that are known.
-/
namespace Go.H
open Go
variable {P : Program} {r : Option Nat} {E : Env} {h : Hp}
variable {K : Value → Hp → Prop} {T : List PanicEntry → Hp → Prop} {dst : Option Nat} {ty : TypeId} {pos : String} {af : Array Edge} {gd : Option (Nat × Bool)} {xt yt : TypeId} {x y : Operand}
theorem xv_cmpK {op : BinOp} {k : IntKind} {a b : Int} {c : Bool} (hx : ev E x = some (.int k a)) (hy : ev E y = some (.int k b)) (hc : cmpB op a b = some c) (H : K (.bool c) h) : XV P r ⟨dst, .binOp op xt x y yt, ty, pos, af, gd⟩ K T E h := xv_cmp hx hy hc H
theorem cmpT {op : BinOp} {a b : Int} (hp : cmpP op a b) : cmpB op a b = some true := by
  cases op <;> simp only [cmpP] at hp <;> simp [cmpB, hp]
theorem cmpF {op : BinOp} {a b : Int} (hq : (cmpB op a b).isSome = true) (hp : ¬ cmpP op a b) : cmpB op a b = some false := by
  cases op <;> simp only [cmpP] at hp <;> simp [cmpB] at hq ⊢ <;> omega
theorem slvL {α : Type} {sz : Nat} {enc : α → List Value} {b t : Nat} {fz : Nat × Nat} {xs : List α} (henc : ∀ x, (enc x).length = sz) (hm : (b, .cells ⟨xs.flatMap enc⟩ t fz) ∈ h) : SlV h sz enc (some ⟨b, 0, none⟩) xs := by
  refine .inr ⟨b, 0, xs.flatMap enc, t, fz, rfl, hm, fun i x hx => ?_⟩
  have := flat_at henc [] xs i hx
  simpa using this
end Go.H

/-
  From what an input reads as to the blocks that a walk owns: all blocks of the memory are owned, each stays.
-/
namespace Go.H
open Go Go.RowKit
def full (w : World) : Hp := (List.range w.heap.size).filterMap fun i => (w.heap[i]?).map fun o => (i, o)
theorem mem_full {w : World} {b : Nat} {o : Obj} : (b, o) ∈ full w ↔ w.heap[b]? = some o := by
  unfold full
  rw [List.mem_filterMap]
  constructor
  · rintro ⟨i, _, hi⟩
    cases ho : w.heap[i]? with
    | none => simp [ho] at hi
    | some o' => simp [ho] at hi; obtain ⟨rfl, rfl⟩ := hi; exact ho
  · intro ho
    refine ⟨b, List.mem_range.2 (Array.getElem?_eq_some_iff.1 ho).1, by simp [ho]⟩
theorem full_nd (w : World) : (keys (full w)).Nodup := by
  unfold keys full
  rw [List.map_filterMap]
  have hsub : List.Sublist ((List.range w.heap.size).filterMap fun i => ((w.heap[i]?).map fun o => (i, o)).map (·.1)) (List.range w.heap.size) := by
    generalize List.range w.heap.size = l
    induction l with
    | nil => exact List.Sublist.refl _
    | cons x l ih =>
      rw [List.filterMap_cons]
      cases hx : w.heap[x]? with
      | none => simpa [hx] using List.Sublist.cons _ ih
      | some o => simpa [hx] using List.Sublist.cons_cons x ih
  exact hsub.nodup List.nodup_range
theorem own_full (w : World) : Own (full w) w := ⟨full_nd w, fun _ _ hm => mem_full.1 hm⟩
theorem calls_of_full {P : Program} {f : FuncId} {args : Array Value} {W : World} {v : Value} (H : ∀ R : Ending → Hp → Prop, R (.returned v) (full W) → ACalls P f args (full W) R) : Calls P f args W fun e W' => e = .returned v ∧ Below W.heap.size W W' := by
  refine (H (fun e h' => e = .returned v ∧ h' = full W) ⟨rfl, rfl⟩ W (own_full W)).mono ?_
  rintro e w' ⟨h', ⟨rfl, rfl⟩, hf⟩
  refine ⟨rfl, hf.os, hf.tape, hf.output, hf.size, fun k hk => ?_⟩
  obtain ⟨o, ho⟩ : ∃ o, W.heap[k]? = some o := ⟨_, Array.getElem?_eq_getElem hk⟩
  rw [ho]
  exact hf.own.has _ _ (mem_full.2 ho)
section
variable {H : Type} {enc : TypeId × Value → H} {P : Program} {w : World} {sp : Nat → Bool} {held : Bool}
theorem trod_struct_open {t : TypeId} {fs : Array Field} (ht : P.underlying t = some (.struct fs)) {fuel : Nat} {cs : List Value} {x : DataW H × List MemPlace} (h : DataW.trod enc P w 0 sp held fuel t cs = some x) :
    cs.length = P.cellsOf t ∧ ∀ f ∈ fs.toList, ∃ n y, DataW.trod enc P w 0 sp held n f.type ((cs.drop f.offset).take (P.cellsOf f.type)) = some y := by
  cases fuel with
  | zero => simp [DataW.trod] at h
  | succ fuel =>
    unfold DataW.trod at h
    rw [ht] at h
    simp only at h
    split at h
    · rename_i hl
      refine ⟨hl, fun f hf => ?_⟩
      cases hm : fs.toList.mapM fun f => DataW.trod enc P w 0 sp held fuel f.type ((cs.drop f.offset).take (P.cellsOf f.type)) with
      | none => rw [hm] at h; cases h
      | some xs =>
        have key : ∀ (l : List Field) (ys : List (DataW H × List MemPlace)), (l.mapM fun f => DataW.trod enc P w 0 sp held fuel f.type ((cs.drop f.offset).take (P.cellsOf f.type))) = some ys → ∀ f ∈ l, ∃ y, DataW.trod enc P w 0 sp held fuel f.type ((cs.drop f.offset).take (P.cellsOf f.type)) = some y := by
          intro l
          induction l with
          | nil => intro _ _ f hf; cases hf
          | cons g l ih =>
            intro ys hy f hf
            rw [List.mapM_cons] at hy
            cases hg : DataW.trod enc P w 0 sp held fuel g.type ((cs.drop g.offset).take (P.cellsOf g.type)) with
            | none => rw [hg] at hy; cases hy
            | some y =>
              rw [hg] at hy
              cases hr : l.mapM fun f => DataW.trod enc P w 0 sp held fuel f.type ((cs.drop f.offset).take (P.cellsOf f.type)) with
              | none => rw [hr] at hy; cases hy
              | some zs =>
                rcases List.mem_cons.1 hf with rfl | hf
                · exact ⟨y, hg⟩
                · exact ih zs hr f hf
        obtain ⟨y, hy⟩ := key _ _ hm f hf
        exact ⟨fuel, y, hy⟩
    · cases h
theorem mapM_range {α : Type} {f : Nat → Option α} : ∀ {n : Nat} {ys : List α}, (List.range n).mapM f = some ys → ys.length = n ∧ ∀ i, i < n → ∃ y, f i = some y ∧ ys[i]? = some y := by
  have key : ∀ (l : List Nat) (ys : List α), l.mapM f = some ys → l.length = ys.length ∧ ∀ (i x : Nat), l[i]? = some x → ∃ y, f x = some y ∧ ys[i]? = some y := by
    intro l
    induction l with
    | nil => intro ys hy; cases hy; exact ⟨rfl, fun i x hx => by simp at hx⟩
    | cons g l ih =>
      intro ys hy
      rw [List.mapM_cons] at hy
      cases hg : f g with
      | none => rw [hg] at hy; cases hy
      | some y =>
        rw [hg] at hy
        cases hr : l.mapM f with
        | none => rw [hr] at hy; cases hy
        | some zs =>
          rw [hr] at hy
          injection hy with hy
          subst hy
          refine ⟨by simp [(ih zs hr).1], fun i x hx => ?_⟩
          cases i with
          | zero => simp at hx; subst hx; exact ⟨y, hg, rfl⟩
          | succ i => simp at hx; obtain ⟨y', h1, h2⟩ := (ih zs hr).2 i x hx; exact ⟨y', h1, by simpa using h2⟩
  intro n ys hy
  exact ⟨by have := (key _ _ hy).1; simpa using this.symm, fun i hi => (key _ _ hy).2 i i (by simp [hi])⟩
theorem trod_slice_open {t e : TypeId} {sz : Nat} (ht : P.underlying t = some (.slice e)) (hsz : P.cellsOf e = sz) {fuel : Nat} {cs : List Value} {x : DataW H × List MemPlace} (h : DataW.trod enc P w 0 sp held fuel t cs = some x) :
    ∃ a len cap, cs = [.slice a len cap] ∧ len ≤ 9223372036854775807 ∧ (a = none ∧ len = 0 ∨ ∃ ad, a = some ad ∧ ∀ i, i < len → ∃ l n y, w.cells? 0 (ad.add (i * sz)) sz = some l ∧ DataW.trod enc P w 0 sp held n e l = some y) := by
  cases fuel with
  | zero => simp [DataW.trod] at h
  | succ fuel =>
    unfold DataW.trod at h
    rw [ht] at h
    split at h <;> first | (simp at *; done) | skip
    · exact ⟨none, 0, 0, rfl, by decide, .inl ⟨rfl, rfl⟩⟩
    · rename_i e' a len cap hq
      cases hq
      simp only at h
      split at h
      · rename_i hc
        rw [hsz] at h
        refine ⟨some a, len, cap, rfl, Nat.le_trans hc.2.1 (Nat.le_trans hc.2.2 (by decide)), .inr ⟨a, rfl, fun i hi => ?_⟩⟩
        cases hm : (List.range len).mapM fun i => (w.cells? 0 (a.add (i * sz)) sz).bind (DataW.trod enc P w 0 sp held fuel e) with
        | none => rw [hm] at h; cases h
        | some ys =>
          obtain ⟨y, hy, _⟩ := (mapM_range hm).2 i hi
          cases hl : w.cells? 0 (a.add (i * sz)) sz with
          | none => rw [hl] at hy; cases hy
          | some l => rw [hl] at hy; exact ⟨l, fuel, y, rfl, hy⟩
      · cases h
theorem cells_at {a : Addr} {sz : Nat} {l : List Value} (h0 : 0 < sz) (h : w.cells? 0 a sz = some l) : ∃ c t fz, a.spot = none ∧ w.heap[a.block]? = some (.cells c t fz) ∧ (c.toList.drop a.off).take sz = l := by
  unfold World.cells? at h
  rw [if_pos (Nat.zero_le _)] at h
  obtain ⟨hlen, h1⟩ := mapM_range h
  obtain ⟨v0, hv0, _⟩ := h1 0 h0
  have hadd0 : a.add 0 = a := rfl
  rw [hadd0] at hv0
  unfold World.cell? at hv0
  cases hb : w.heap[a.block]? with
  | none => simp [hb] at hv0
  | some o =>
    rw [hb] at hv0
    cases o with
    | cells c t fz =>
      simp only at hv0
      cases hs : a.spot with
      | some s => simp [hs] at hv0
      | none =>
        refine ⟨c, t, fz, rfl, rfl, ?_⟩
        apply List.ext_getElem?
        intro i
        by_cases hi : i < sz
        · obtain ⟨v, hv, hl⟩ := h1 i hi
          rw [List.getElem?_take, if_pos hi, List.getElem?_drop, hl]
          have hadd : (a.add i).block = a.block ∧ (a.add i).off = a.off + i ∧ (a.add i).spot = none := by
            unfold Addr.add
            split
            · rename_i hz; subst hz; exact ⟨rfl, rfl, hs⟩
            · exact ⟨rfl, rfl, rfl⟩
          unfold World.cell? at hv
          rw [hadd.1, hb] at hv
          simp only [hadd.2.2, hadd.2.1, Option.isSome_none] at hv
          rw [← hv]
          simp
        · rw [List.getElem?_take, if_neg hi, List.getElem?_eq_none (by omega)]
    | _ => simp at hv0
theorem list_of {α : Type} {Q : Nat → α → Prop} : ∀ (n : Nat), (∀ i, i < n → ∃ x, Q i x) → ∃ xs : List α, xs.length = n ∧ ∀ i x, xs[i]? = some x → Q i x
  | 0, _ => ⟨[], rfl, fun i x hx => by simp at hx⟩
  | n + 1, h => by
    obtain ⟨xs, h1, h2⟩ := list_of n fun i hi => h i (by omega)
    obtain ⟨x, hx⟩ := h n (by omega)
    refine ⟨xs ++ [x], by simp [h1], fun i y hy => ?_⟩
    by_cases hi : i < xs.length
    · rw [List.getElem?_append_left hi] at hy; exact h2 i y hy
    · rw [List.getElem?_append_right (by omega)] at hy
      have : i - xs.length = 0 := by
        have := (List.getElem?_eq_some_iff.1 hy).1
        simp at this; omega
      rw [this] at hy
      simp at hy; subst hy
      have : i = n := by omega
      subst this; exact hx
theorem open_slv {α : Type} {en : α → List Value} {t e : TypeId} {sz : Nat} (ht : P.underlying t = some (.slice e)) (hsz : P.cellsOf e = sz) (h0 : 0 < sz) (he : ∀ n l y, DataW.trod enc P w 0 sp held n e l = some y → ∃ x, l = en x)
    {fuel : Nat} {cs : List Value} {x : DataW H × List MemPlace} (h : DataW.trod enc P w 0 sp held fuel t cs = some x) :
    ∃ a cap xs, cs = [.slice a (xs : List α).length cap] ∧ xs.length ≤ 9223372036854775807 ∧ SlV (full w) sz en a xs := by
  obtain ⟨a, len, cap, rfl, hlen, hq⟩ := trod_slice_open ht hsz h
  rcases hq with ⟨rfl, rfl⟩ | ⟨ad, rfl, hq⟩
  · exact ⟨none, cap, [], rfl, by simp, .inl rfl⟩
  · obtain ⟨xs, hx1, hx2⟩ := list_of (α := α) (Q := fun i x => w.cells? 0 (ad.add (i * sz)) sz = some (en x)) len fun i hi => by
      obtain ⟨l, n, y, hl, hy⟩ := hq i hi
      obtain ⟨x, rfl⟩ := he n l y hy
      exact ⟨x, hl⟩
    subst hx1
    refine ⟨some ad, cap, xs, rfl, hlen, ?_⟩
    cases xs with
    | nil => exact .inl rfl
    | cons x0 xs =>
      have h1 := hx2 0 x0 rfl
      rw [Nat.zero_mul] at h1
      obtain ⟨c, t', fz, hs, hb, _⟩ := cells_at h0 h1
      have hs' : ad.spot = none := hs
      refine .inr ⟨ad.block, ad.off, c.toList, t', fz, ?_, mem_full.2 hb, fun i x hx => ?_⟩
      · cases ad; simp at hs'; simp [hs']
      · obtain ⟨c', t2, fz2, hs2, hb2, hd⟩ := cells_at h0 (hx2 i x hx)
        have hadd : (ad.add (i * sz)).block = ad.block ∧ (ad.add (i * sz)).off = ad.off + i * sz := by
          unfold Addr.add
          split
          · rename_i hz; rw [hz]; exact ⟨rfl, rfl⟩
          · exact ⟨rfl, rfl⟩
        rw [hadd.1] at hb2
        have hb' : w.heap[ad.block]? = some (.cells c t' fz) := hb
        rw [hb'] at hb2
        cases hb2
        rw [← hadd.2]; exact hd
end
end Go.H

/-
  Rules: numbers of other kinds as int; the first part of a slice.
-/
namespace Go.H
open Go
variable {P : Program} {r : Option Nat} {E : Env} {h h' : Hp}
variable {K : Value → Hp → Prop} {T : List PanicEntry → Hp → Prop} {dst : Option Nat} {ty : TypeId} {pos : String} {af : Array Edge} {gd : Option (Nat × Bool)}
theorem xv_convI {s t : TypeId} {x : Operand} {k k' : IntKind} {n m : Int} (hs : P.underlying s = some (.int k)) (ht : P.underlying t = some (.int k')) (hx : ev E x = some (.int k n)) (hw : k'.wrap n = m) (H : K (.int k' m) h) : XV P r ⟨dst, .convert s t x, ty, pos, af, gd⟩ K T E h :=
  xv_of_run (by simp [plainOp]) fun w ρ ho he => ⟨_, h, w, by
    simp only [execOp, he _ _ hx]
    simp [Go.convert, run_underlying hs, run_underlying ht, Conv.intToInt, hw], H, .refl ho⟩
theorem addr_add0 (a : Addr) : a.add 0 = a := rfl
theorem SlV.take {α : Type} {sz : Nat} {enc : α → List Value} {a : Option Addr} {xs : List α} (H : SlV h sz enc a xs) (k : Nat) : SlV h sz enc a (xs.take k) := by
  rcases H with rfl | ⟨b, o, l, t, fz, h1, h2, h3⟩
  · exact .inl (by simp)
  · refine .inr ⟨b, o, l, t, fz, h1, h2, fun i x hx => h3 i x ?_⟩
    rw [List.getElem?_take] at hx
    split at hx
    · exact hx
    · cases hx
theorem slv_flat2 {α : Type} {enc : α → List Value} {sz : Nat} (henc : ∀ x, (enc x).length = sz) : ∀ {xs : List α} {l : List Value} {o : Nat}, (∀ (i : Nat) (x : α), xs[i]? = some x → (l.drop (o + i * sz)).take sz = enc x) → (l.drop o).take (xs.length * sz) = xs.flatMap enc
  | [], l, o, _ => by simp
  | x :: xs, l, o, h => by
    have h0 := h 0 x rfl
    rw [Nat.zero_mul, Nat.add_zero] at h0
    have ih := slv_flat2 henc (xs := xs) (l := l) (o := o + sz) (fun i y hy => by have := h (i + 1) y (by simpa using hy); rwa [Nat.add_mul, Nat.one_mul, Nat.add_comm (i * sz) sz, ← Nat.add_assoc] at this)
    rw [List.flatMap_cons, ← h0, ← ih, List.length_cons, Nat.add_mul, Nat.one_mul, Nat.add_comm (xs.length * sz) sz, List.take_add, List.drop_drop]
theorem flat_all {α : Type} {enc : α → List Value} (h1 : ∀ x, (enc x).all Value.oneCell' = true) (xs : List α) : (xs.flatMap enc).all Value.oneCell' = true := by
  induction xs with
  | nil => rfl
  | cons x xs ih => rw [List.flatMap_cons, List.all_append, h1, ih]; rfl
theorem flat_lenM {α : Type} {enc : α → List Value} {sz : Nat} (henc : ∀ x, (enc x).length = sz) (xs : List α) : (xs.flatMap enc).length = xs.length * sz := by
  induction xs with
  | nil => simp
  | cons x xs ih => rw [List.flatMap_cons, List.length_append, henc, ih, List.length_cons, Nat.add_mul]; omega
theorem set_flat {α : Type} {enc : α → List Value} {sz : Nat} (henc : ∀ x, (enc x).length = sz) {x y : α} {v : Value} {j : Nat} (sp : List Value) (hj : j < sz) (hy : (enc x).set j v = enc y) : ∀ (xs : List α) (k : Nat), xs[k]? = some x → (xs.flatMap enc ++ sp).set (0 + k * sz + j) v = (xs.set k y).flatMap enc ++ sp
  | [], k, hk => by simp at hk
  | q :: rs, 0, hk => by
    simp at hk; subst hk
    simp only [List.flatMap_cons, List.append_assoc, List.set_cons_zero, Nat.zero_mul, Nat.add_zero, Nat.zero_add]
    rw [List.set_append_left _ _ (by rw [henc]; exact hj), hy]
  | q :: rs, k + 1, hk => by
    have ih := set_flat henc (v := v) sp hj hy rs k (by simpa using hk)
    simp only [List.flatMap_cons, List.append_assoc, List.set_cons_succ]
    rw [List.set_append_right _ _ (by rw [henc, Nat.add_mul]; omega)]
    congr 1
    rw [← ih, henc]; congr 1
    rw [Nat.add_mul]; omega
theorem splice_flat {α : Type} {enc : α → List Value} {sz : Nat} (henc : ∀ x, (enc x).length = sz) {y : α} (sp : List Value) : ∀ (xs : List α) (k : Nat), k < xs.length → splice (xs.flatMap enc ++ sp) (0 + k * sz) (enc y) = (xs.set k y).flatMap enc ++ sp := by
  intro xs k hk
  have hsp : ∀ (l : List Value) (o : Nat) (vs : List Value), splice l o vs = l.take o ++ vs ++ l.drop (o + vs.length) := fun l o vs => rfl
  rw [hsp, henc, Nat.zero_add]
  induction xs generalizing k with
  | nil => simp at hk
  | cons q rs ih =>
    cases k with
    | zero =>
      simp only [List.flatMap_cons, List.append_assoc, List.set_cons_zero, Nat.zero_mul, List.take_zero, List.nil_append, Nat.zero_add]
      rw [List.drop_append_of_le_length (by rw [henc]; exact Nat.le_refl _), List.drop_of_length_le (by rw [henc]; exact Nat.le_refl _), List.nil_append]
    | succ k =>
      have ih := ih k (by simpa using hk)
      simp only [List.flatMap_cons, List.append_assoc, List.set_cons_succ] at ih ⊢
      rw [← ih]
      have e : (k + 1) * sz = sz + k * sz := by rw [Nat.add_mul]; omega
      rw [e, List.take_append, henc, List.drop_append, henc, List.take_of_length_le (by rw [henc]; omega), List.drop_of_length_le (by rw [henc]; omega), show sz + k * sz - sz = k * sz by omega, show sz + k * sz + sz - sz = k * sz + sz by omega]
      simp only [List.append_assoc, List.nil_append]
end Go.H

/-
  A copy of a slice of one's own; three blocks that stay.
-/
namespace Go.H
open Go
variable {P : Program} {r : Option Nat} {E : Env} {h h' : Hp}
variable {K : Value → Hp → Prop} {T : List PanicEntry → Hp → Prop} {dst : Option Nat} {ty : TypeId} {pos : String} {af : Array Edge} {gd : Option (Nat × Bool)}
theorem XR.perm {N : Nat} {ops : Array Oper} {i : Nat} {Q : Post} {D : List Deferred} (hp : List.Perm h h') (H : XR P r N ops i Q E D h) : XR P r N ops i Q E D h' := by
  intro w a ho ha hd
  refine wpOpsIn_mono ?_ _ _ _ (H w a (ho.perm hp) ha hd)
  rintro e a' w' ⟨E2, h2, q, ha2, hf⟩
  exact ⟨E2, h2, q, ha2, hf.permL hp.symm⟩
end Go.H

/-
  Ways that meet again.
-/
namespace Go.H
open Go
variable {P : Program} {r : Option Nat} {N : Nat} {Q : Post} {E : Env} {D : List Deferred} {h : Hp}
def Jn {σ : Type} (I : σ → Prop) (EI : σ → Env) (HI : σ → Hp) (Q : Post) (D : List Deferred) : Post := fun e E' D' h' => match e with
  | .normal => D' = D ∧ ∃ g, I g ∧ EnvLe (EI g) E' ∧ List.Sublist (HI g) h'
  | e => Q e E' D' h'
theorem xc_join {σ : Type} {x y : Code} (I : σ → Prop) (EI : σ → Env) (HI : σ → Hp) (H1 : XC P r N x (Jn I EI HI Q D) E D h) (H2 : ∀ g, I g → XC P r N y Q (EI g) D (HI g)) : XC P r N (.seq x y) Q E D h := by
  refine xc_seq (H1.mono fun e E' D' h' q => ?_)
  cases e with
  | normal => obtain ⟨rfl, g, i, l, s⟩ := q; exact (H2 g i).weaken l s
  | _ => exact q
section
variable {σ : Type} {I : σ → Prop} {EI : σ → Env} {HI : σ → Hp} {id : Nat} {ch : List PanicEntry}
theorem jn_n (g : σ) (hI : I g) (hl : EnvLe (EI g) E) (hs : List.Sublist (HI g) h) : Jn I EI HI Q D .normal E D h := ⟨rfl, g, hI, hl, hs⟩
theorem jn_r (H : Q .ret E D h) : Jn I EI HI Q D .ret E D h := H
end
end Go.H


/-
  Iterators that hand out what they made themselves; parts of slices and of arrays; a slice beside nil; a full slice that grows.
-/
set_option linter.all false
namespace Go.H
open Go
variable {P : Program} {r : Option Nat} {N : Nat} {Q : Post} {E : Env} {D : List Deferred} {h h' : Hp}
def IterP {α : Type} (P : Program) (g : FuncId) (fi lb : List Value) (Enc : α → List Value → Hp → Prop) (all : List α) (Rd : Hp → Prop) : Prop :=
  ∀ (y : Value) (J Jx : Nat → Hp → Prop) (h : Hp), y.cells = ⟨[y]⟩ → (∀ k h', J k h' → Rd h') →
    (∀ k x, all[k]? = some x → ∀ vs p, Enc x vs p → ∀ h', J k h' → AFn P y vs (p ++ h') (fun e h2 => (e = .returned (.bool true) ∧ J (k + 1) h2) ∨ (e = .returned (.bool false) ∧ Jx (k + 1) h2))) →
    J 0 h → ACalls P g ⟨fi ++ [y] ++ lb⟩ h (fun e h' => (∃ v, e = .returned v) ∧ (J all.length h' ∨ ∃ k, k ≤ all.length ∧ Jx k h'))
theorem xc_rangeP {α : Type} {g : Operand} {ps : Array Tmp} {assign body : Code} {gf : FuncId} {fi lb : List Value} (Enc : α → List Value → Hp → Prop) (all : List α) (Rd : Hp → Prop)
    (hg : ev E g = some (.func (.func gf) ⟨fi⟩ ⟨lb⟩)) (hb : HasBody P gf) (hit : IterP P gf fi lb Enc all Rd) (hps : ∀ x vs p, Enc x vs p → vs.length = ps.size) (hpN : ∀ p ∈ ps.toList, p < N)
    (I : Nat → Hp → Prop) (Ix : Code → Nat → Hp → Prop) (hRd : ∀ k h', I k h' → ∀ x y, Rd (x :: y :: h')) (hRdp : ∀ h1 h2, List.Perm h1 h2 → Rd h1 → Rd h2) (h0 : I 0 h)
    (round : ∀ l k x, all[k]? = some x → ∀ vs p, Enc x vs p → ∀ h', I k h' →
      XC P (some l) N assign (fun e E1 D1 h1 => e = .normal ∧ XC P (some l) N body (fun e2 _ D2 h2 => D2 = [] ∧ (match e2 with
        | .normal => I (k + 1) h2
        | .ret => Ix .ret (k + 1) h2
        | .exit id => Ix (.exit id) (k + 1) h2
        | .goto t => Ix (.goto t) (k + 1) h2
        | _ => False)) E1 D1 h1) (puts E ps.toList vs) [] (p ++ h'))
    (done : ∀ k h', I all.length h' → k ∉ keys h' → Q .normal E (markOf k :: D) ((k, .deferred (some [])) :: h'))
    (stop : ∀ k c j h', j ≤ all.length → Ix c j h' → k ∉ keys h' → XC P none N c Q E (markOf k :: D) ((k, .deferred (some [])) :: h')) : XC P none N (.rangeFunc g ps assign body) Q E D h := by
  intro w a ho ha hd
  refine wpIn_rangeFunc ?_
  intro fn _
  obtain ⟨rec, hrec⟩ : ∃ rec : LoopState → Option Code → Loop, rec = fun st pe => { state := st, pending := pe, fn, tmps := a.tmps, params := ps, assign, body, defers := w.heap.size } := ⟨_, rfl⟩
  have f1 := Fol.alloc ho (.deferred (some []))
  have f2 := Fol.alloc f1.own (.loop (rec .ready none))
  rw [World.size_alloc] at f2
  have f12 := f1.trans f2
  obtain ⟨w1, hw1⟩ : ∃ w1, (w.alloc (.deferred (some []))).alloc (.loop (rec .ready none)) = w1 := ⟨_, rfl⟩
  rw [hw1] at f12
  have hgv := ha.ev hg
  refine ⟨w.heap.size + 1, [markOf w.heap.size], w1, { target := .fn (.func gf) ⟨lb⟩, args := ⟨fi⟩ ++ #[.func (.yield (w.heap.size + 1)) #[] #[]] }, w1, gf,
    ⟨fi ++ [.func (.yield (w.heap.size + 1)) #[] #[]] ++ lb⟩, w1, ?_, ?_, fun _ _ => trivial, ?_, fun hh => by simp [fen, Fence.wide] at hh, callsIn_fen.2 ?_⟩
  · rw [← hw1, hrec]; exact run_enterLoop_outer _ _ _ _ _
  · simp [resolve, Deferred.ofValue, hgv]; rfl
  · simpa [invoke] using hb _ w1
  obtain ⟨Dk, hDk⟩ : ∃ k, k = w.heap.size := ⟨_, rfl⟩
  obtain ⟨l, hl⟩ : ∃ l, l = w.heap.size + 1 := ⟨_, rfl⟩
  rw [← hl, ← hDk] at f12
  rw [← hl]
  let base : LoopState → Option Code → Hp → Hp := fun st pe h' => (l, .loop (rec st pe)) :: (Dk, .deferred (some [])) :: h'
  have hcall := hit (.func (.yield l) #[] #[]) (fun k h' => ∃ h2, List.Perm h' (base .ready none h2) ∧ I k h2) (fun k h' => ∃ c h2, List.Perm h' (base .done (some c) h2) ∧ Ix c k h2) (base .ready none h) rfl
    (fun k h' ⟨h2, hp, hi⟩ => hRdp _ _ hp.symm (hRd k h2 hi _ _)) ?_ ⟨h, List.Perm.refl _, h0⟩
  · refine (hcall w1 f12.own).mono ?_
    rintro e w2 ⟨h2, ⟨⟨v, rfl⟩, q⟩, hf2⟩
    have hf3 := f12.trans hf2
    rcases q with ⟨h3, hp, hi⟩ | ⟨j, hj, c, h3, hp, hi⟩
    · have ho3 := hf3.own.perm hp.symm
      have hl3 := ho3.has l _ List.mem_cons_self
      have hend := run_endLoop (P := P) hl3 (by rw [hrec]; simp)
      have hf4 := (hf3.perm hp.symm).trans (fol_put (o' := .loop { rec .ready none with state := .exhausted }) ho3)
      refine ⟨none, _, hend.trans (congrArg (fun p => Result.ok p _) (show (rec .ready none).pending = none by rw [hrec])), E, (Dk, .deferred (some [])) :: h3, ?_, ⟨ha.size, ha.val⟩, hf4.sub (List.sublist_cons_self _ _)⟩
      have hnd := ho3.nd
      simp only [base, keys, List.map_cons, List.nodup_cons] at hnd
      have := done Dk h3 hi (fun hm => hnd.2.1 hm)
      show Q .normal E ([markOf w.heap.size] ++ a.defers) _
      rw [hd, ← hDk]
      exact this
    · have ho3 := hf3.own.perm hp.symm
      have hl3 := ho3.has l _ List.mem_cons_self
      have hend := run_endLoop (P := P) hl3 (by rw [hrec]; simp)
      have hf4 := (hf3.perm hp.symm).trans (fol_put (o' := .loop { rec .done (some c) with state := .exhausted }) ho3)
      have hf5 := hf4.sub (List.sublist_cons_self _ _)
      have hnd := ho3.nd
      simp only [base, keys, List.map_cons, List.nodup_cons] at hnd
      refine ⟨some c, _, hend.trans (congrArg (fun p => Result.ok p _) (show (rec .done (some c)).pending = some c by rw [hrec])), ?_⟩
      have hst := stop Dk c j h3 hj hi (fun hm => hnd.2.1 hm) _ { a with defers := [markOf w.heap.size] ++ a.defers } hf5.own ⟨ha.size, ha.val⟩ (by show [markOf w.heap.size] ++ a.defers = _; rw [hd, ← hDk]; rfl)
      refine wpIn_mono hst ?_
      rintro e a' w' ⟨E', h', q, x, f⟩
      exact ⟨E', h', q, x, hf5.trans f⟩
  · -- one round
    rintro k x hx vs p henc h' ⟨h2, hp0, hi⟩
    have hp : List.Perm (p ++ h') (base .ready none (p ++ h2)) := (hp0.append_left p).trans (List.perm_middle.trans (List.perm_middle.cons _))
    refine AFn.perm hp.symm ?_
    rintro r2 ⟨dst, op, ty, pos, af, gd⟩ E2 K T ⟨c, as9, at_, rfl, hc, hargs⟩ hk w' a' ho' ha' next QQ hn hq
    obtain ⟨ρ, he, hρ⟩ := ops_rho (by simp [plainOp]) ha'
    have hm := evs_arr he hargs
    have hl1 := ho'.has l _ List.mem_cons_self
    have hy := run_yield (P := P) (args := ⟨vs⟩) hl1 (by rw [hrec]; simpa using hps x vs p henc)
    have hres := resolve_value (P := P) (args := as9) (at_ := at_) (t := ty) (w := w') (he _ _ hc)
    refine ⟨fun _ _ => trivial, ?_⟩
    rw [Oper.semAt_eq _ _ _ (by simp), ← hρ]
    have hex : (execOp ρ ⟨dst, .call ⟨.value c, as9, at_⟩, ty, pos, af, gd⟩).run P w' = .ok (.round l fn ((ps.zip (⟨vs⟩ : Array Value)).foldl (fun tmps (t, a) => tmps.setIfInBounds t a) a.tmps) assign body) w' := by
      have : (execOp ρ ⟨dst, .call ⟨.value c, as9, at_⟩, ty, pos, af, gd⟩).run P w' = (Instr.yield l ⟨vs⟩).run P w' := by
        simp [execOp, hres, invoke, hm]
      rw [this, hy, hrec]
    rw [hex]
    refine ⟨fun hh => by simp [fen, Fence.wide] at hh, ?_⟩
    have hrnd := round l k x hx vs p henc h2 hi
    -- the frame: the record, the block of the deferred calls
    have hpf : ∀ z y (g : Hp), List.Perm (g ++ [z, y]) (z :: y :: g) := fun z y g => List.perm_append_comm (l₁ := g) (l₂ := [z, y])
    have hown : Own ((p ++ h2) ++ [(l, .loop (rec .ready none)), (Dk, .deferred (some []))]) w' := ho'.perm (hpf _ _ _)
    have hag : Agree N (puts E ps.toList vs) { tmps := (ps.zip (⟨vs⟩ : Array Value)).foldl (fun tmps (t, a) => tmps.setIfInBounds t a) a.tmps, defers := [] } := by
      have := agree_puts ps.toList vs E a.tmps ⟨ha.size, ha.val⟩ hpN
      have e : (ps.zip (⟨vs⟩ : Array Value)).foldl (fun tmps (t, a) => tmps.setIfInBounds t a) a.tmps = (ps.toList.zip vs).foldl (fun t (p, v) => t.setIfInBounds p v) a.tmps := by
        rw [← Array.foldl_toList]; simp
      rw [e]; exact this
    refine roundIn_of_wpIn (F := fen r2) trivial ?_
    refine wpIn_mono (XC.frame [(l, .loop (rec .ready none)), (Dk, .deferred (some []))] hrnd w' _ hown hag rfl) ?_
    rintro e a1 w1' ⟨E1, h1, ⟨h1', rfl, rfl, hbody⟩, ha1, hf1⟩
    have ho1 : Own ((l, .loop (rec .ready none)) :: (Dk, .deferred (some [])) :: h1') w1' := hf1.own.perm (hpf _ _ _).symm
    have hl2 := ho1.has l _ List.mem_cons_self
    refine ⟨_, run_beginRound (P := P) hl2 (by rw [hrec]), ?_⟩
    have hf2 := fol_put (o' := .loop { rec .ready none with state := .busy }) ho1
    have ho2 : Own (h1' ++ [(l, .loop { rec .ready none with state := .busy }), (Dk, .deferred (some []))]) (w1'.putObj l (.loop { rec .ready none with state := .busy })) := hf2.own.perm (hpf _ _ _)
    refine wpIn_mono (XC.frame [(l, .loop { rec .ready none with state := .busy }), (Dk, .deferred (some []))] hbody _ a1 ho2 ha1 rfl) ?_
    rintro e a3 w3 ⟨E3, h3, ⟨h3', rfl, hd3, hpost⟩, ha3, hf3⟩
    have ho3 : Own ((l, .loop { rec .ready none with state := .busy }) :: (Dk, .deferred (some [])) :: h3') w3 := hf3.own.perm (hpf _ _ _).symm
    have hl3 := ho3.has l _ List.mem_cons_self
    have hall : Fol ((l, .loop (rec .ready none)) :: (Dk, .deferred (some [])) :: (p ++ h2)) w' ((l, .loop { rec .ready none with state := .busy }) :: (Dk, .deferred (some [])) :: h3') w3 :=
      (((hf1.permL (hpf _ _ _).symm).perm (hpf _ _ _).symm).trans hf2).trans ((hf3.permL (hpf _ _ _).symm).perm (hpf _ _ _).symm)
    have fin : ∀ (jump : Option Code), Fol ((l, .loop (rec .ready none)) :: (Dk, .deferred (some [])) :: (p ++ h2)) w' ((l, .loop (rec (if jump.isNone then .ready else .done) jump)) :: (Dk, .deferred (some [])) :: h3') (w3.putObj l (.loop (rec (if jump.isNone then .ready else .done) jump))) ∧
        (Instr.endRound l jump).run P w3 = .ok (.bool jump.isNone) (w3.putObj l (.loop (rec (if jump.isNone then .ready else .done) jump))) := by
      intro jump
      refine ⟨hall.trans (fol_put ho3), ?_⟩
      have := run_endRound (P := P) jump hl3
      rw [hrec] at this ⊢
      exact this
    cases e with
    | normal =>
      obtain ⟨h4, h5⟩ := fin none
      refine ⟨_, _, h5, ?_⟩
      have := hk _ _ (.inl ⟨rfl, h3', List.Perm.refl _, hpost⟩)
      exact hn _ _ _ this h4
    | ret =>
      obtain ⟨h4, h5⟩ := fin (some .ret)
      refine ⟨_, _, h5, ?_⟩
      have := hk _ _ (.inr ⟨rfl, .ret, h3', List.Perm.refl _, hpost⟩)
      exact hn _ _ _ this h4
    | exit id =>
      obtain ⟨h4, h5⟩ := fin (some (.exit id))
      refine ⟨_, _, h5, ?_⟩
      have := hk _ _ (.inr ⟨rfl, .exit id, h3', List.Perm.refl _, hpost⟩)
      exact hn _ _ _ this h4
    | goto t =>
      obtain ⟨h4, h5⟩ := fin (some (.goto t))
      refine ⟨_, _, h5, ?_⟩
      have := hk _ _ (.inr ⟨rfl, .goto t, h3', List.Perm.refl _, hpost⟩)
      exact hn _ _ _ this h4
    | panic ch => exact hpost.elim
    | outgrown => exact hpost.elim
theorem xc_range2P {α γ : Type} {g : Operand} {ps : Array Tmp} {assign body : Code} {gf : FuncId} {fi lb : List Value} (Enc : α → List Value → Hp → Prop) (all : List α) (core : Hp)
    (hg : ev E g = some (.func (.func gf) ⟨fi⟩ ⟨lb⟩)) (hb : HasBody P gf) (hit : IterP P gf fi lb Enc all (fun h' => core ⊆ h')) (hps : ∀ x vs p, Enc x vs p → vs.length = ps.size) (hpN : ∀ p ∈ ps.toList, p < N)
    (EI : Env) (Inv : Nat → γ → Prop) (HI : Nat → γ → Hp) (Ix : Code → Nat → Hp → Prop) (g0 : γ) (hm : Mon Q) (hle : EnvLe EI E) (h0 : Inv 0 g0) (hs0 : List.Sublist (HI 0 g0) h) (hcore : ∀ k g, core ⊆ HI k g)
    (round : ∀ l k x g vs p, all[k]? = some x → Enc x vs p → Inv k g → XC P (some l) N assign (RndA (XC P (some l) N body (RndQ Inv HI k Ix))) (puts EI ps.toList vs) [] (p ++ HI k g))
    (stop : ∀ k c j h', j ≤ all.length → Ix c j h' → k ∉ keys h' → XC P none N c Q E (markOf k :: D) ((k, .deferred (some [])) :: h'))
    (done : ∀ k g, Inv all.length g → k ∉ keys (HI all.length g) → Q .normal E (markOf k :: D) ((k, .deferred (some [])) :: HI all.length g)) : XC P none N (.rangeFunc g ps assign body) Q E D h := by
  refine xc_rangeP Enc all (fun h' => core ⊆ h') hg hb hit hps hpN (fun k h' => ∃ g, Inv k g ∧ List.Sublist (HI k g) h') Ix ?_ ?_ ⟨g0, h0, hs0⟩ ?_ ?_ stop
  · rintro k h' ⟨g, _, hs⟩ x y z hz
    exact List.mem_cons_of_mem _ (List.mem_cons_of_mem _ (hs.subset (hcore k g hz)))
  · intro h1 h2 hp hr z hz; exact (hp.mem_iff).1 (hr hz)
  · rintro l k x hx vs p henc h' ⟨g, hi, hs⟩
    refine XC.mono (XC.weaken (puts_le hle) (hs.append_left p) (round l k x g vs p hx henc hi)) ?_
    intro e E1 D1 h1 q
    cases e with
    | normal =>
      refine ⟨rfl, XC.mono q ?_⟩
      intro e2 E2 D2 h2 q2
      cases e2 with
      | normal => exact q2
      | ret => exact q2
      | exit id => exact q2
      | _ => exact q2.elim
    | _ => exact q.elim
  · rintro k h' ⟨g, hi, hs⟩ hk
    have hk2 : k ∉ keys (HI all.length g) := fun hh => hk ((hs.map Prod.fst).subset hh)
    exact hm _ _ _ _ (hs.cons_cons _) (done k g hi hk2)

section
variable {K : Value → Hp → Prop} {T : List PanicEntry → Hp → Prop} {dst : Option Nat} {ty : TypeId} {pos : String} {af : Array Edge} {gd : Option (Nat × Bool)}
theorem xv_slice3 {x y z : Operand} {t e : TypeId} {d : TD} {a : Option Addr} {n c m : Nat} {k k' : IntKind} {i : Int} (ht : SlT P t e) (hd : TyOk P e d) (hx : ev E x = some (.slice a n c)) (hy : ev E y = some (.int k i)) (hz : ev E z = some (.int k' i)) (h0 : 0 ≤ i) (h1 : i ≤ c) (hm : i.toNat = m)
    (H : K (.slice a m m) h) : XV P r ⟨dst, .slice t x none (some y) (some z), ty, pos, af, gd⟩ K T E h := by
  subst hm
  exact xv_of_run (by simp [plainOp]) fun w ρ ho he => ⟨_, h, w, by
    have h2 : i ≤ i.toNat := by omega
    have hadd : (if i.toNat = 0 then a else a.map (fun z => z.add (0 * d.size))) = a := by
      split
      · rfl
      · cases a <;> simp [addr_add0]
    simp only [execOp, he _ _ hx, Option.map_none, Option.map_some, he _ _ hy, he _ _ hz]
    simp [Instr.sliceAt, run_underlying ht, Instr.slice, Instr.sliceBounds, run_sliceBoundH h0 h1, run_sliceBoundH h0 h2, hd.run_size, hadd]
    intro _
    cases a <;> simp [addr_add0], H, .refl ho⟩
theorem xv_appendN {α : Type} {enc : α → List Value} {x y : Operand} {t e : TypeId} {d : TD} {a : Option Addr} {m bu ou cu sz : Nat} {l : List α} {lu news : List Value} {tu : TypeId} {fz : Nat × Nat} (ht : SlT P t e) (hd : TyOk P e d) (hzs : d.zero.cells.size = d.size) (hsz : d.size = sz)
    (hx : ev E x = some (.slice a l.length l.length)) (hy : ev E y = some (.slice (some ⟨bu, ou, none⟩) m cu)) (hl0 : SlV h sz enc a l) (henc : ∀ x, (enc x).length = sz) (hu : (bu, .cells ⟨lu⟩ tu fz) ∈ h) (hl : (lu.drop ou).take (m * d.size) = news) (hn : news.length = m * d.size)
    (h1 : news.all Value.oneCell' = true) (hm : 0 < m) (hb : 2 * (l.length + m) * d.bytes ≤ 281474976710656) (h63 : l.length + m ≤ 9223372036854775807)
    (H : ∀ b cap sp, (Vec.at b cap sp).ok sz (l.length + m) (l.flatMap enc ++ news) → K (.slice (some ⟨b, 0, none⟩) (l.length + m) cap) ((b, .cells ⟨(l.flatMap enc ++ news) ++ sp⟩ e (0, 0)) :: h)) : XV P r ⟨dst, .call ⟨.builtin .append, #[x, y], #[t, t]⟩, ty, pos, af, gd⟩ K T E h := by
  subst hsz
  refine xv_of_run (by simp [plainOp]) fun w ρ ho he => ?_
  obtain ⟨i, hi, his, hib, hiz⟩ := hd.info
  obtain ⟨cs, hcs⟩ := run_builtin (P := P) (dst := dst) (ty := ty) (pos := pos) (af := af) (gd := gd) ρ .append #[x, y] #[t, t] w
  have hub : w.heap[bu]? = some (.cells ⟨lu⟩ tu fz) := ho.has _ _ hu
  have hnews := cells_read hub hl hn
  have hbase : (execOp ρ ⟨dst, .call ⟨.builtin .append, #[x, y], #[t, t]⟩, ty, pos, af, gd⟩).run P w = ((Builtin.append_ #[t, t] ty #[.slice a l.length l.length, .slice (some ⟨bu, ou, none⟩) m cu]).run P w).andThen fun v w' => .ok (.value v) w' := by
    rw [hcs]; simp [builtin, he _ _ hx, he _ _ hy]
  rw [hbase]
  cases a with
  | none =>
    have hl1 : l = [] := by
      cases l with
      | nil => rfl
      | cons x xs => obtain ⟨b, o, li, t, fz, h0, _⟩ := hl0.at (i := 0) (by simp); cases h0
    subst hl1
    have hcap : m ≤ grownCap w m 0 e := by unfold grownCap; simp [Question.cut]
    have hr := run_append_nil (P := P) w t ty e i d.zero ht hi hiz ⟨bu, ou, none⟩ m cu news (by rw [his]; exact hn) hnews hm (by simp at h63; omega) (by rw [hib]; simp at hb; rw [Nat.mul_assoc] at hb; omega)
    simp only [List.length_nil, List.flatMap_nil, List.nil_append, Nat.zero_add] at H ⊢
    refine ⟨_, _, _, by rw [hr]; rfl, H w.heap.size (grownCap w m 0 e) (Builtin.zeroCells d.zero.cells (grownCap w m 0 e - m)).toList ?_, ?_⟩
    · refine ⟨by simpa using hn, by simpa using hcap, ?_⟩
      simp only [List.length_append, hn, Array.length_toList, size_zeroCells, hzs]
      rw [← Nat.add_mul]; congr 1; omega
    · have := (Fol.alloc (ho.drew (w.drawn + 1)) (.cells (news.toArray ++ Builtin.zeroCells d.zero.cells (grownCap w m 0 e - m)) e)).drew
      have e2 : (⟨news ++ (Builtin.zeroCells d.zero.cells (grownCap w m 0 e - m)).toList⟩ : Array Value) = news.toArray ++ Builtin.zeroCells d.zero.cells (grownCap w m 0 e - m) := by apply Array.ext'; simp
      simp only [e2]
      exact this
  | some a =>
    have hold : ∀ j v, (l.flatMap enc)[j]? = some v → w.cell? (a.add j) = some v := by
      rcases hl0 with rfl | ⟨b, o, li, t9, fz9, ha, hm9, hx9⟩
      · intro j v hv; simp at hv
      · cases ha
        exact cells_read (m := l.length) (ho.has _ _ hm9) (slv_flat2 henc hx9) (flat_lenM henc _)
    have hgt : l.length < l.length + m := by omega
    have hfit : Builtin.nextslicecap (l.length + m) l.length * i.bytes ≤ 281474976710656 := by
      rw [hib]
      exact Nat.le_trans (Nat.mul_le_mul_right _ (nextslicecap_le hgt)) hb
    have h63' : ((l.length + m : Nat) : Int) ≤ 9223372036854775807 := by omega
    have hx1 := flat_lenM henc l
    have hr := run_append_grow (P := P) w t ty e i d.zero ht hi hiz a l.length l.length (l.flatMap enc) (by rw [his]; exact hx1) hold ⟨bu, ou, none⟩ m cu news (by rw [his]; exact hn) hnews hgt h63' hfit
    have hcap : l.length + m ≤ grownCap w (l.length + m) l.length e := by unfold grownCap; simp [Question.cut]
    refine ⟨_, _, _, by rw [hr]; rfl, H w.heap.size (grownCap w (l.length + m) l.length e) (Builtin.zeroCells d.zero.cells (grownCap w (l.length + m) l.length e - (l.length + m))).toList ?_, ?_⟩
    · refine ⟨by simp [hx1, hn, Nat.add_mul], hcap, ?_⟩
      simp only [List.length_append, hx1, hn, Array.length_toList, size_zeroCells, hzs]
      rw [← Nat.add_mul, ← Nat.add_mul]; congr 1; omega
    · have := (Fol.alloc (ho.drew (w.drawn + 1)) (.cells ((l.flatMap enc).toArray ++ news.toArray ++ Builtin.zeroCells d.zero.cells (grownCap w (l.length + m) l.length e - (l.length + m))) e)).drew
      have e2 : (⟨l.flatMap enc ++ news ++ (Builtin.zeroCells d.zero.cells (grownCap w (l.length + m) l.length e - (l.length + m))).toList⟩ : Array Value) = (l.flatMap enc).toArray ++ news.toArray ++ Builtin.zeroCells d.zero.cells (grownCap w (l.length + m) l.length e - (l.length + m)) := by apply Array.ext'; simp
      simp only [e2]
      exact this
theorem xv_make {x y : Operand} {t e : TypeId} {d : TD} {k k' : IntKind} {n : Nat} {l : List Value} (ht : SlT P t e) (hd : TyOk P e d) (hx : ev E x = some (.int k (n : Int))) (hy : ev E y = some (.int k' (n : Int))) (hn : n ≤ 16777216) (hb : d.bytes * n ≤ 16777216) (hs : n * d.size ≤ 16777216)
    (hz : (madeCells d.zero.cells (n * d.size)).toList = l)
    (H : ∀ b, b ∉ keys h → K (.slice (some ⟨b, 0, none⟩) n n) ((b, .cells ⟨l⟩ e (0, 0)) :: h)) : XV P r ⟨dst, .makeSlice t x y, ty, pos, af, gd⟩ K T E h :=
  xv_of_run (by simp [plainOp]) fun w ρ ho he => ⟨_, _, w.alloc (.cells ⟨l⟩ e), by
    obtain ⟨i, hi, his, hib, hiz⟩ := hd.info
    have hr := run_makeSlice (P := P) (w := w) t e i d.zero ht hi hiz k k' n n (by omega) (by omega) (by rw [his]; simpa using hs) (by rw [hib]; omega) (by omega)
    simp only [execOp, he _ _ hx, he _ _ hy]
    rw [show (⟨l⟩ : Array Value) = madeCells d.zero.cells (n * d.size) by rw [← hz]]
    rw [his] at hr
    simp at hr
    simp [hr], H _ fun hc => Nat.lt_irrefl _ (ho.lt hc), .alloc ho _⟩
theorem wrap_u64 {n : Int} (h1 : 0 ≤ n) (h2 : n ≤ 9223372036854775807) : IntKind.u64.wrap n = n := by
  rw [IntKind.wrap_u64]; omega
theorem wrap_u8 {n : Int} (h1 : 0 ≤ n) (h2 : n ≤ 255) : IntKind.u8.wrap n = n := by
  rw [IntKind.wrap_u8]; omega
theorem xv_indexS {x y : Operand} {t : TypeId} {s : ByteArray} {k : IntKind} {i : Int} {m : Nat} (ht : P.underlying t = some .string) (hx : ev E x = some (.string s)) (hy : ev E y = some (.int k i)) (h0 : 0 ≤ i) (h1 : i < m) (h2 : Nat.ble m s.size = true)
    (H : ∀ b : Nat, b < 256 → K (.int .u8 b) h) : XV P r ⟨dst, .index t x y, ty, pos, af, gd⟩ K T E h :=
  xv_of_run (by simp [plainOp]) fun w ρ ho he => by
    have hs := Nat.le_of_ble_eq_true h2
    have hlt : i.toNat < s.size := by omega
    refine ⟨_, h, w, ?_, H (s[i.toNat]'hlt).toNat (UInt8.toNat_lt _), .refl ho⟩
    simp [execOp, he _ _ hx, he _ _ hy, Instr.index, asIntOf, run_underlying ht, h0, hlt]
end
end Go.H

/-
  Openers: what a law's argument reads as.
-/
set_option linter.all false
namespace Go.H
open Go
section
variable {P : Program} {H : Type} {enc : TypeId × Value → H} {w : World} {sp : Nat → Bool} {held : Bool}
theorem open_num {t : TypeId} {k : IntKind} (ht : P.underlying t = some (.int k)) {fuel : Nat} {cs : List Value} {x : DataW H × List MemPlace} (h : DataW.trod enc P w 0 sp held fuel t cs = some x) : ∃ n, cs = [.int k n] ∧ (Lit.int k n).wf = true := by
  cases fuel with
  | zero => simp [DataW.trod] at h
  | succ fuel =>
    unfold DataW.trod at h
    rw [ht] at h
    split at h <;> first | (simp at *; done) | skip
    rename_i k k' n hq
    cases hq
    split at h
    · rename_i hc
      obtain ⟨rfl, hw⟩ := hc
      exact ⟨n, rfl, hw⟩
    · cases h
theorem in32_of {n : Int} (hw : (Lit.int .u32 n).wf = true) : 0 ≤ n ∧ n ≤ 4294967295 := by
  simp only [Lit.wf, Bool.and_eq_true, decide_eq_true_eq] at hw
  exact ⟨hw.1, hw.2⟩
theorem SlV.map {α β : Type} {f : β → α} {h : Hp} {sz : Nat} {en : α → List Value} {a : Option Addr} {xs : List β} (H : SlV h sz (fun x => en (f x)) a xs) : SlV h sz en a (xs.map f) := by
  rcases H with rfl | ⟨b, o, l, t, fz, ha, hm, hx⟩
  · exact .inl rfl
  · refine .inr ⟨b, o, l, t, fz, ha, hm, fun i x hi => ?_⟩
    rw [List.getElem?_map] at hi
    cases hq : xs[i]? with
    | none => rw [hq] at hi; cases hi
    | some y => rw [hq] at hi; cases hi; exact hx i y hq
end
section
variable {P : Program} {E : Env} {dst : Option Nat} {ty : TypeId} {pos : String} {af : Array Edge} {gd : Option (Nat × Bool)}
end
def Vec.ad : Vec → Option Addr
  | .nil => none
  | .at b _ _ => some ⟨b, 0, none⟩
def Vec.cp : Vec → Nat
  | .nil => 0
  | .at _ c _ => c
theorem Vec.val_ad {V : Vec} {sz n : Nat} {xs : List Value} (h : V.ok sz n xs) : V.val n = .slice V.ad n V.cp := by
  cases V with
  | nil => rw [h.2]; rfl
  | «at» b c sp => rfl
theorem Vec.slvA {α : Type} {V : Vec} {sz n : Nat} {t : TypeId} {enc : α → List Value} {xs : List α} (henc : ∀ x, (enc x).length = sz) (hn : xs.length = n) (hV : V.ok sz n (xs.flatMap enc)) : SlV (V.hp t (xs.flatMap enc)) sz enc V.ad xs := by
  cases V with
  | nil =>
    refine .inl (List.length_eq_zero_iff.1 ?_)
    rw [hn]; exact hV.2
  | «at» b c sp => exact .inr ⟨b, 0, _, t, (0, 0), rfl, List.mem_cons_self, fun i x hx => flat_at henc sp _ i hx⟩
theorem Vec.at_pos {V : Vec} {sz n : Nat} {xs : List Value} (h : V.ok sz n xs) (hn : 0 < n) : ∃ b cap sp, V = .at b cap sp := by
  cases V with
  | nil => exact absurd h.2 (by omega)
  | «at» b cap sp => exact ⟨b, cap, sp, rfl⟩
section
variable {P : Program} {r : Option Nat} {E : Env} {h g : Hp}
variable {K : Value → Hp → Prop} {T : List PanicEntry → Hp → Prop} {dst : Option Nat} {ty : TypeId} {pos : String} {af : Array Edge} {gd : Option (Nat × Bool)}
theorem xv_appendL {α : Type} {enc : α → List Value} {x y : Operand} {t e : TypeId} {d : TD} {V : Vec} {n cl sz : Nat} {al : Option Addr} {xs : List Value} {ys : List α} (ht : SlT P t e) (hd : TyOk P e d) (hzs : d.zero.cells.size = d.size) (hsz : d.size = sz)
    (hx : ev E x = some (V.val n)) (hy : ev E y = some (.slice al ys.length cl)) (hV : V.ok sz n xs) (hp : Tk (V.hp e xs) h g) (hl : SlV g sz enc al ys) (henc : ∀ x, (enc x).length = sz) (h1 : ∀ x, (enc x).all Value.oneCell' = true)
    (hb : 2 * (n + ys.length) * d.bytes ≤ 281474976710656) (h63 : n + ys.length ≤ 9223372036854775807)
    (H : ∀ V' : Vec, V'.ok sz (n + ys.length) (xs ++ ys.flatMap enc) → K (V'.val (n + ys.length)) (V'.hp e (xs ++ ys.flatMap enc) ++ g)) : XV P r ⟨dst, .call ⟨.builtin .append, #[x, y], #[t, t]⟩, ty, pos, af, gd⟩ K T E h := by
  subst hsz
  cases ys with
  | nil =>
    have hv := V.val_ad hV
    have hn : n ≤ V.cp := by
      cases V with
      | nil => rw [hV.2]; exact Nat.le_refl _
      | «at» b c sp => exact hV.2.1
    refine XV.perm hp.perm.symm ?_
    refine xv_append0 ht hd (hx.trans (congrArg some hv)) (c' := cl) (a' := al) hy hn ?_
    rw [← hv]
    have := H V (by simpa using hV)
    simpa using this
  | cons x0 xs0 =>
    obtain ⟨b9, o9, li, t9, fz, hal, hm, hx9⟩ := hl.at (i := 0) (by simp)
    subst hal
    exact xv_append (V := V) (n := n) (xs := xs) ht hd hzs hx hy hV hp hm (slv_flat2 henc hx9) (flat_lenM henc _) (flat_all h1 _) (by simp) hb h63 H
end
theorem list2 {α : Type} {l : List α} (h : l.length = 2) : ∃ a b, l = [a, b] := by
  rcases l with _ | ⟨a, _ | ⟨b, _ | ⟨c, l⟩⟩⟩ <;> simp at h
  exact ⟨_, _, rfl⟩
theorem list3 {α : Type} {l : List α} (h : l.length = 3) : ∃ a b c, l = [a, b, c] := by
  rcases l with _ | ⟨a, _ | ⟨b, _ | ⟨c, _ | ⟨d, l⟩⟩⟩⟩ <;> simp at h
  exact ⟨_, _, _, rfl⟩
theorem list5 {α : Type} {l : List α} (h : l.length = 5) : ∃ a b c d e, l = [a, b, c, d, e] := by
  rcases l with _ | ⟨a, _ | ⟨b, _ | ⟨c, _ | ⟨d, _ | ⟨e, _ | ⟨g, l⟩⟩⟩⟩⟩⟩ <;> simp at h
  exact ⟨_, _, _, _, _, rfl⟩
end Go.H

/-
  Facts on the types and functions of this seat.
-/
namespace Go.Proofs.Ytmaldhbjhomdkaa.Coal
open Go.H
open Go
theorem ty3 : TyOk Try.prog 3 ⟨1, 8, (Go.TypeDesc.int Go.IntKind.i64), (Go.Value.int Go.IntKind.i64 0)⟩ := ⟨Try.underlying3, by kernel_rfl⟩
theorem ty22 : TyOk Try.prog 22 ⟨1, 24, (Go.TypeDesc.slice 52), (Go.Value.slice none 0 0)⟩ := ⟨Try.underlying22, by kernel_rfl⟩
theorem ty23 : TyOk Try.prog 23 ⟨1, 24, (Go.TypeDesc.slice 55), (Go.Value.slice none 0 0)⟩ := ⟨Try.underlying23, by kernel_rfl⟩
theorem ty25 : TyOk Try.prog 25 ⟨2, 48, (Go.TypeDesc.struct #[{ name := "Coals", type := 22, offset := 0, embedded := false, tag := "", pkgPath := "", byteOffset := 0 }, { name := "Moves", type := 23, offset := 1, embedded := false, tag := "", pkgPath := "", byteOffset := 24 }]), (Go.Value.agg #[Go.Value.slice none 0 0, Go.Value.slice none 0 0])⟩ := ⟨Try.underlying25, by kernel_rfl⟩
theorem ty38 : TyOk Try.prog 26 ⟨1, 24, (Go.TypeDesc.slice 3), (Go.Value.slice none 0 0)⟩ := ⟨Try.underlying26, by kernel_rfl⟩
theorem ty33 : TyOk Try.prog 42 ⟨2, 16, (Go.TypeDesc.struct #[{ name := "Lo", type := 3, offset := 0, embedded := false, tag := "", pkgPath := "", byteOffset := 0 }, { name := "Hi", type := 3, offset := 1, embedded := false, tag := "", pkgPath := "", byteOffset := 8 }]), (Go.Value.agg #[Go.Value.int Go.IntKind.i64 0, Go.Value.int Go.IntKind.i64 0])⟩ := ⟨Try.underlying42, by kernel_rfl⟩
theorem ty59 : TyOk Try.prog 52 ⟨8, 64, (Go.TypeDesc.struct #[{ name := "Gas", type := 42, offset := 0, embedded := false, tag := "", pkgPath := "", byteOffset := 0 }, { name := "Tar", type := 42, offset := 2, embedded := false, tag := "", pkgPath := "", byteOffset := 16 }, { name := "Sulphur", type := 42, offset := 4, embedded := false, tag := "", pkgPath := "", byteOffset := 32 }, { name := "Coke", type := 42, offset := 6, embedded := false, tag := "", pkgPath := "", byteOffset := 48 }]), (Go.Value.agg #[Go.Value.int Go.IntKind.i64 0, Go.Value.int Go.IntKind.i64 0, Go.Value.int Go.IntKind.i64 0, Go.Value.int Go.IntKind.i64 0, Go.Value.int Go.IntKind.i64 0, Go.Value.int Go.IntKind.i64 0, Go.Value.int Go.IntKind.i64 0, Go.Value.int Go.IntKind.i64 0])⟩ := ⟨Try.underlying52, by kernel_rfl⟩
theorem ty63 : TyOk Try.prog 55 ⟨3, 24, (Go.TypeDesc.struct #[{ name := "Hour", type := 3, offset := 0, embedded := false, tag := "", pkgPath := "", byteOffset := 0 }, { name := "Coal", type := 3, offset := 1, embedded := false, tag := "", pkgPath := "", byteOffset := 8 }, { name := "Tons", type := 3, offset := 2, embedded := false, tag := "", pkgPath := "", byteOffset := 16 }]), (Go.Value.agg #[Go.Value.int Go.IntKind.i64 0, Go.Value.int Go.IntKind.i64 0, Go.Value.int Go.IntKind.i64 0])⟩ := ⟨Try.underlying55, by kernel_rfl⟩
theorem ty66 : TyOk Try.prog 64 ⟨1, 8, (Go.TypeDesc.pointer 70), (Go.Value.pointer none)⟩ := ⟨Try.underlying64, by kernel_rfl⟩
theorem ty70 : TyOk Try.prog 67 ⟨1, 24, (Go.TypeDesc.slice 98), (Go.Value.slice none 0 0)⟩ := ⟨Try.underlying67, by kernel_rfl⟩
theorem ty71 : TyOk Try.prog 68 ⟨1, 24, (Go.TypeDesc.slice 101), (Go.Value.slice none 0 0)⟩ := ⟨Try.underlying68, by kernel_rfl⟩
theorem ty88 : TyOk Try.prog 71 ⟨1, 8, (Go.TypeDesc.func #[52] #[42] false), Go.Value.nilFunc⟩ := ⟨Try.underlying71, by kernel_rfl⟩
theorem ty89 : TyOk Try.prog 72 ⟨1, 8, (Go.TypeDesc.struct #[{ name := "span", type := 71, offset := 0, embedded := false, tag := "", pkgPath := "gasworks/coal", byteOffset := 0 }]), (Go.Value.agg #[Go.Value.nilFunc])⟩ := ⟨Try.underlying72, by kernel_rfl⟩
theorem ty90 : TyOk Try.prog 73 ⟨4, 32, (Go.TypeDesc.array 4 72), (Go.Value.agg #[Go.Value.nilFunc, Go.Value.nilFunc, Go.Value.nilFunc, Go.Value.nilFunc])⟩ := ⟨Try.underlying73, by kernel_rfl⟩
theorem ty93 : TyOk Try.prog 76 ⟨2, 16, (Go.TypeDesc.struct #[{ name := "tons", type := 3, offset := 0, embedded := false, tag := "", pkgPath := "gasworks/coal", byteOffset := 0 }, { name := "each", type := 3, offset := 1, embedded := false, tag := "", pkgPath := "gasworks/coal", byteOffset := 8 }]), (Go.Value.agg #[Go.Value.int Go.IntKind.i64 0, Go.Value.int Go.IntKind.i64 0])⟩ := ⟨Try.underlying76, by kernel_rfl⟩
theorem ty94 : TyOk Try.prog 77 ⟨1, 8, (Go.TypeDesc.func #[76, 76] #[3] false), Go.Value.nilFunc⟩ := ⟨Try.underlying77, by kernel_rfl⟩
theorem ty75 : TyOk Try.prog 79 ⟨2, 16, (Go.TypeDesc.struct #[{ name := "least", type := 3, offset := 0, embedded := false, tag := "", pkgPath := "gasworks/coal", byteOffset := 0 }, { name := "most", type := 3, offset := 1, embedded := false, tag := "", pkgPath := "gasworks/coal", byteOffset := 8 }]), (Go.Value.agg #[Go.Value.int Go.IntKind.i64 0, Go.Value.int Go.IntKind.i64 0])⟩ := ⟨Try.underlying79, by kernel_rfl⟩
theorem ty80 : TyOk Try.prog 84 ⟨6, 48, (Go.TypeDesc.array 6 3), (Go.Value.agg #[Go.Value.int Go.IntKind.i64 0, Go.Value.int Go.IntKind.i64 0, Go.Value.int Go.IntKind.i64 0, Go.Value.int Go.IntKind.i64 0, Go.Value.int Go.IntKind.i64 0, Go.Value.int Go.IntKind.i64 0])⟩ := ⟨Try.underlying84, by kernel_rfl⟩
theorem ty105 : TyOk Try.prog 98 ⟨1, 8, (Go.TypeDesc.pointer 100), (Go.Value.pointer none)⟩ := ⟨Try.underlying98, by kernel_rfl⟩
theorem ty39 : TyOk Try.prog 101 ⟨1, 24, (Go.TypeDesc.slice 103), (Go.Value.slice none 0 0)⟩ := ⟨Try.underlying101, by kernel_rfl⟩
theorem ty43 : TyOk Try.prog 103 ⟨2, 16, (Go.TypeDesc.struct #[{ name := "Layer", type := 3, offset := 0, embedded := false, tag := "", pkgPath := "", byteOffset := 0 }, { name := "Tons", type := 3, offset := 1, embedded := false, tag := "", pkgPath := "", byteOffset := 8 }]), (Go.Value.agg #[Go.Value.int Go.IntKind.i64 0, Go.Value.int Go.IntKind.i64 0])⟩ := ⟨Try.underlying103, by kernel_rfl⟩
theorem ty129 : TyOk Try.prog 145 ⟨1, 8, (Go.TypeDesc.int Go.IntKind.u64), (Go.Value.int Go.IntKind.u64 0)⟩ := ⟨Try.underlying145, by kernel_rfl⟩
theorem fl25_0 : FldOk Try.prog 25 0 0 1 false := ⟨_, _, Try.underlying25, rfl, rfl, _, ty22, rfl, rfl⟩
theorem fl25_1 : FldOk Try.prog 25 1 1 1 false := ⟨_, _, Try.underlying25, rfl, rfl, _, ty23, rfl, rfl⟩
theorem fl33_0 : FldOk Try.prog 42 0 0 1 false := ⟨_, _, Try.underlying42, rfl, rfl, _, ty3, rfl, rfl⟩
theorem fl33_1 : FldOk Try.prog 42 1 1 1 false := ⟨_, _, Try.underlying42, rfl, rfl, _, ty3, rfl, rfl⟩
theorem fl59_0 : FldOk Try.prog 52 0 0 2 true := ⟨_, _, Try.underlying52, rfl, rfl, _, ty33, rfl, rfl⟩
theorem fl59_1 : FldOk Try.prog 52 1 2 2 true := ⟨_, _, Try.underlying52, rfl, rfl, _, ty33, rfl, rfl⟩
theorem fl59_2 : FldOk Try.prog 52 2 4 2 true := ⟨_, _, Try.underlying52, rfl, rfl, _, ty33, rfl, rfl⟩
theorem fl59_3 : FldOk Try.prog 52 3 6 2 true := ⟨_, _, Try.underlying52, rfl, rfl, _, ty33, rfl, rfl⟩
theorem fl63_0 : FldOk Try.prog 55 0 0 1 false := ⟨_, _, Try.underlying55, rfl, rfl, _, ty3, rfl, rfl⟩
theorem fl63_1 : FldOk Try.prog 55 1 1 1 false := ⟨_, _, Try.underlying55, rfl, rfl, _, ty3, rfl, rfl⟩
theorem fl63_2 : FldOk Try.prog 55 2 2 1 false := ⟨_, _, Try.underlying55, rfl, rfl, _, ty3, rfl, rfl⟩
theorem fl73_0 : FldOk Try.prog 70 0 0 1 false := ⟨_, _, Try.underlying70, rfl, rfl, _, ty22, rfl, rfl⟩
theorem fl73_1 : FldOk Try.prog 70 1 1 1 false := ⟨_, _, Try.underlying70, rfl, rfl, _, ty70, rfl, rfl⟩
theorem fl73_2 : FldOk Try.prog 70 2 2 1 false := ⟨_, _, Try.underlying70, rfl, rfl, _, ty71, rfl, rfl⟩
theorem fl89_0 : FldOk Try.prog 72 0 0 1 false := ⟨_, _, Try.underlying72, rfl, rfl, _, ty88, rfl, rfl⟩
theorem fl93_0 : FldOk Try.prog 76 0 0 1 false := ⟨_, _, Try.underlying76, rfl, rfl, _, ty3, rfl, rfl⟩
theorem fl93_1 : FldOk Try.prog 76 1 1 1 false := ⟨_, _, Try.underlying76, rfl, rfl, _, ty3, rfl, rfl⟩
theorem fl75_0 : FldOk Try.prog 79 0 0 1 false := ⟨_, _, Try.underlying79, rfl, rfl, _, ty3, rfl, rfl⟩
theorem fl75_1 : FldOk Try.prog 79 1 1 1 false := ⟨_, _, Try.underlying79, rfl, rfl, _, ty3, rfl, rfl⟩
theorem fl107_0 : FldOk Try.prog 100 0 0 6 true := ⟨_, _, Try.underlying100, rfl, rfl, _, ty80, rfl, rfl⟩
theorem fl107_1 : FldOk Try.prog 100 1 6 1 false := ⟨_, _, Try.underlying100, rfl, rfl, _, ty3, rfl, rfl⟩
theorem fl43_0 : FldOk Try.prog 103 0 0 1 false := ⟨_, _, Try.underlying103, rfl, rfl, _, ty3, rfl, rfl⟩
theorem fl43_1 : FldOk Try.prog 103 1 1 1 false := ⟨_, _, Try.underlying103, rfl, rfl, _, ty3, rfl, rfl⟩
theorem sl22 : SlT Try.prog 22 52 := Try.underlying22
theorem sl23 : SlT Try.prog 23 55 := Try.underlying23
theorem sl38 : SlT Try.prog 26 3 := Try.underlying26
theorem sl53 : SlT Try.prog 38 26 := Try.underlying38
theorem bt33 : BtOk Try.prog 42 [Go.Value.int Go.IntKind.i64 0, Go.Value.int Go.IntKind.i64 0] (fun i => (#[(0, 1), (1, 1)] : Array (Nat × Nat))[i]?) := fun _ => by kernel_rfl
theorem sl70 : SlT Try.prog 67 98 := Try.underlying67
theorem sl71 : SlT Try.prog 68 101 := Try.underlying68
theorem bt73 : BtOk Try.prog 70 [Go.Value.slice none 0 0, Go.Value.slice none 0 0, Go.Value.slice none 0 0] (fun i => (#[(0, 1), (1, 1), (2, 1)] : Array (Nat × Nat))[i]?) := fun _ => by kernel_rfl
theorem bt89 : BtOk Try.prog 72 [Go.Value.nilFunc] (fun i => (#[(0, 1)] : Array (Nat × Nat))[i]?) := fun _ => by kernel_rfl
theorem bt90 : BtOk Try.prog 73 [Go.Value.nilFunc, Go.Value.nilFunc, Go.Value.nilFunc, Go.Value.nilFunc] (fun i => some (i * 1, 1)) := fun _ => by kernel_rfl
theorem bt93 : BtOk Try.prog 76 [Go.Value.int Go.IntKind.i64 0, Go.Value.int Go.IntKind.i64 0] (fun i => (#[(0, 1), (1, 1)] : Array (Nat × Nat))[i]?) := fun _ => by kernel_rfl
theorem bt75 : BtOk Try.prog 79 [Go.Value.int Go.IntKind.i64 0, Go.Value.int Go.IntKind.i64 0] (fun i => (#[(0, 1), (1, 1)] : Array (Nat × Nat))[i]?) := fun _ => by kernel_rfl
theorem sl95 : SlT Try.prog 85 76 := Try.underlying85
theorem bt107 : BtOk Try.prog 100 [Go.Value.int Go.IntKind.i64 0, Go.Value.int Go.IntKind.i64 0, Go.Value.int Go.IntKind.i64 0, Go.Value.int Go.IntKind.i64 0, Go.Value.int Go.IntKind.i64 0, Go.Value.int Go.IntKind.i64 0, Go.Value.int Go.IntKind.i64 0] (fun i => (#[(0, 6), (6, 1)] : Array (Nat × Nat))[i]?) := fun _ => by kernel_rfl
theorem sl39 : SlT Try.prog 101 103 := Try.underlying101
theorem bt43 : BtOk Try.prog 103 [Go.Value.int Go.IntKind.i64 0, Go.Value.int Go.IntKind.i64 0] (fun i => (#[(0, 1), (1, 1)] : Array (Nat × Nat))[i]?) := fun _ => by kernel_rfl
theorem mixed : Try.prog.follows .mixedOrders = true := by kernel_rfl
theorem hb13 : HasBody Try.prog 8 := Try.call8
theorem hb51 : HasBody Try.prog 11 := Try.call11
theorem hb37 : HasBody Try.prog 12 := Try.call12
theorem hb38 : HasBody Try.prog 16 := Try.call16
theorem hb39 : HasBody Try.prog 17 := Try.call17
theorem hb20 : HasBody Try.prog 18 := Try.call18
theorem hb30 : HasBody Try.prog 19 := Try.call19
theorem hb31 : HasBody Try.prog 20 := Try.call20
theorem hb40 : HasBody Try.prog 21 := Try.call21
theorem hb41 : HasBody Try.prog 22 := Try.call22
theorem hb32 : HasBody Try.prog 23 := Try.call23
theorem hb42 : HasBody Try.prog 24 := Try.call24
theorem hb43 : HasBody Try.prog 25 := Try.call25
theorem hb33 : HasBody Try.prog 26 := Try.call26
theorem hb44 : HasBody Try.prog 27 := Try.call27
theorem hb35 : HasBody Try.prog 28 := Try.call28
theorem hb50 : HasBody Try.prog 33 := Try.call33
theorem hb52 : HasBody Try.prog 34 := Try.call34
theorem hb54 : HasBody Try.prog 35 := Try.call35
theorem hb55 : HasBody Try.prog 36 := Try.call36
theorem hb56 : HasBody Try.prog 37 := Try.call37
theorem hb57 : HasBody Try.prog 38 := Try.call38
theorem hb53 : HasBody Try.prog 39 := Try.call39
theorem hb58 : HasBody Try.prog 40 := Try.call40
theorem hb59 : HasBody Try.prog 41 := Try.call41
theorem hb61 : HasBody Try.prog 59 := Try.call59
theorem hb62 : HasBody Try.prog 60 := Try.call60
theorem hb63 : HasBody Try.prog 61 := Try.call61
theorem hb64 : HasBody Try.prog 62 := Try.call62
theorem hb65 : HasBody Try.prog 63 := Try.call63
theorem hb66 : HasBody Try.prog 64 := Try.call64
theorem hb67 : HasBody Try.prog 65 := Try.call65
theorem hb68 : HasBody Try.prog 66 := Try.call66
theorem hb69 : HasBody Try.prog 67 := Try.call67
theorem hb70 : HasBody Try.prog 68 := Try.call68
theorem hb72 : HasBody Try.prog 70 := Try.call70
theorem hb73 : HasBody Try.prog 75 := Try.call75
theorem hb74 : HasBody Try.prog 76 := Try.call76
theorem hb75 : HasBody Try.prog 77 := Try.call77
theorem hb76 : HasBody Try.prog 78 := Try.call78
theorem hb77 : HasBody Try.prog 79 := Try.call79
theorem hb78 : HasBody Try.prog 80 := Try.call80
theorem hb79 : HasBody Try.prog 89 := Try.call89
end Go.Proofs.Ytmaldhbjhomdkaa.Coal

/-
  Sorting: an array in a block; the kit's plain functions of the sort, one step at a time.
-/
set_option linter.all false
namespace Go.H
open Go Go.Sort
variable {α : Type} [Inhabited α]
def ltc (cm : α → α → Int) : α → α → Bool := fun x y => decide (cm x y < 0)
theorem ltc_T {cm : α → α → Int} {x y : α} (h : cm x y < 0) : ltc cm x y = true := decide_eq_true h
theorem ltc_F {cm : α → α → Int} {x y : α} (h : 0 ≤ cm x y) : ltc cm x y = false := decide_eq_false (by omega)
structure Arr (N : Nat) (p : α → Prop) (d : Array α) : Prop where
  size : d.size = N
  all : ∀ i, i < N → p d[i]!
theorem get_set {d : Array α} {i j : Nat} {v : α} (hi : i < d.size) : (d.setIfInBounds i v)[j]! = if i = j then v else d[j]! := by
  simp only [getElem!_def, Array.getElem?_setIfInBounds]
  by_cases h : i = j
  · subst h; simp [hi]
  · simp [h]
theorem Arr.set {N : Nat} {p : α → Prop} {d : Array α} {i : Nat} {v : α} (H : Arr N p d) (hi : i < N) (hv : p v) : Arr N p (d.setIfInBounds i v) :=
  ⟨by rw [Array.size_setIfInBounds]; exact H.size, fun j hj => by
    rw [get_set (by rw [H.size]; exact hi)]
    split
    · exact hv
    · exact H.all j hj⟩
theorem Arr.swp {N : Nat} {p : α → Prop} {d : Array α} {i j : Nat} (H : Arr N p d) (hi : i < N) (hj : j < N) : Arr N p (swp d i j) := (H.set hi (H.all j hj)).set hj (H.all i hi)
section
variable {enc : α → List Value} {sz : Nat}
theorem ca_list {d : Array α} {k : Nat} (h : k < d.size) : d.toList[k]? = some d[k]! := by
  rw [Array.getElem?_toList, getElem!_def]
  simp [h]
theorem ca_get (henc : ∀ x, (enc x).length = sz) {d : Array α} {k : Nat} {sp : List Value} (h : k < d.size) : ((d.toList.flatMap enc ++ sp).drop (0 + k * sz)).take sz = enc d[k]! := flat_at henc sp d.toList k (ca_list h)
theorem ca_splice (henc : ∀ x, (enc x).length = sz) {d : Array α} {k : Nat} {y : α} {sp : List Value} (h : k < d.size) : splice (d.toList.flatMap enc ++ sp) (0 + k * sz) (enc y) = (d.setIfInBounds k y).toList.flatMap enc ++ sp := by
  rw [splice_flat henc sp d.toList k (by simpa using h), Array.toList_setIfInBounds]
theorem ca_len (henc : ∀ x, (enc x).length = sz) {d : Array α} {sp : List Value} : (d.toList.flatMap enc ++ sp).length = d.size * sz + sp.length := by rw [List.length_append, flat_lenM henc]; simp
theorem ca_room (henc : ∀ x, (enc x).length = sz) {d : Array α} {k : Nat} {sp : List Value} (h : k < d.size) : Nat.ble (0 + k * sz + sz) (d.toList.flatMap enc ++ sp).length = true := by
  rw [ca_len henc, Nat.ble_eq]
  have := Nat.mul_le_mul_right sz (show k + 1 ≤ d.size from h)
  rw [Nat.add_mul] at this
  omega
end
section
variable {lt : α → α → Bool}
theorem insInner_stop {a j : Nat} {d : Array α} (h : j ≤ a ∨ lt d[j]! d[j - 1]! = false) : insInner lt a j d = d := by
  cases j with
  | zero => rfl
  | succ j =>
    simp only [Nat.add_sub_cancel] at h
    unfold insInner
    rw [if_neg]
    rcases h with h | h
    · simp; omega
    · simp [h]
theorem insInner_step {a j : Nat} {d : Array α} (h1 : a < j) (h2 : lt d[j]! d[j - 1]! = true) : insInner lt a j d = insInner lt a (j - 1) (swp d j (j - 1)) := by
  cases j with
  | zero => omega
  | succ j =>
    simp only [Nat.add_sub_cancel] at h2 ⊢
    rw [insInner, if_pos (by simp [h2]; omega)]
theorem insOuter_stop {a b i : Nat} {d : Array α} (h : b ≤ i) : insOuter lt a b i d = d := by rw [insOuter, if_neg (by omega)]
theorem insOuter_step {a b i : Nat} {d : Array α} (h : i < b) : insOuter lt a b i d = insOuter lt a b (i + 1) (insInner lt a i d) := by rw [insOuter, if_pos h]
theorem sift_stop {hi first root : Nat} {d : Array α} (h : hi ≤ 2 * root + 1) : siftDown lt hi first root d = d := by rw [siftDown, dif_pos h]
def kid (lt : α → α → Bool) (hi first root : Nat) (d : Array α) : Nat := if 2 * root + 1 + 1 < hi ∧ lt d[first + (2 * root + 1)]! d[first + (2 * root + 1) + 1]! = true then 2 * root + 1 + 1 else 2 * root + 1
theorem sift_none {hi first root : Nat} {d : Array α} (h : ¬ hi ≤ 2 * root + 1) (h2 : lt d[first + root]! d[first + kid lt hi first root d]! = false) : siftDown lt hi first root d = d := by
  rw [siftDown, dif_neg h]
  unfold kid at h2
  by_cases hc : 2 * root + 1 + 1 < hi ∧ lt d[first + (2 * root + 1)]! d[first + (2 * root + 1) + 1]! = true
  · rw [if_pos hc] at h2
    rw [if_pos (by simp [hc.1, hc.2]), if_pos (by simpa using h2)]
  · rw [if_neg hc] at h2
    rw [if_neg (by simpa using hc), if_pos (by simpa using h2)]
theorem sift_some {hi first root : Nat} {d : Array α} (h : ¬ hi ≤ 2 * root + 1) (h2 : lt d[first + root]! d[first + kid lt hi first root d]! = true) : siftDown lt hi first root d = siftDown lt hi first (kid lt hi first root d) (swp d (first + root) (first + kid lt hi first root d)) := by
  rw [siftDown, dif_neg h]
  unfold kid at h2 ⊢
  by_cases hc : 2 * root + 1 + 1 < hi ∧ lt d[first + (2 * root + 1)]! d[first + (2 * root + 1) + 1]! = true
  · rw [if_pos hc] at h2 ⊢
    rw [if_pos (by simp [hc.1, hc.2]), if_neg (by simpa using h2), dif_pos hc.1]
  · rw [if_neg hc] at h2 ⊢
    rw [if_neg (by simpa using hc), if_neg (by simpa using h2)]
theorem kid_lt {hi first root : Nat} {d : Array α} (h : ¬ hi ≤ 2 * root + 1) : root < kid lt hi first root d ∧ kid lt hi first root d < hi := by
  unfold kid; split <;> omega
theorem heapPop_step {first k : Nat} {d : Array α} : heapPop lt first (k + 1) d = heapPop lt first k (siftDown lt k first 0 (swp d first (first + k))) := rfl
theorem heapBuild_step {hi first k : Nat} {d : Array α} : heapBuild lt hi first (k + 1) d = heapBuild lt hi first k (siftDown lt hi first k d) := rfl
theorem scanUp_stop {p : α → Bool} {d : Array α} {j i : Nat} (h : j < i ∨ p d[i]! = false) : scanUp p d j i = i := by
  rw [scanUp, if_neg]
  rcases h with h | h
  · simp; omega
  · simp [h]
theorem scanUp_step {p : α → Bool} {d : Array α} {j i : Nat} (h1 : i ≤ j) (h2 : p d[i]! = true) : scanUp p d j i = scanUp p d j (i + 1) := by rw [scanUp, if_pos (by simp [h1, h2])]
theorem scanDown_stop {p : α → Bool} {d : Array α} {i j : Nat} (h : j < i ∨ p d[j]! = false) : scanDown p d i j = j := by
  cases j with
  | zero => rfl
  | succ j =>
    unfold scanDown
    rw [if_neg]
    rcases h with h | h
    · simp; omega
    · simp [h]
theorem scanDown_step {p : α → Bool} {d : Array α} {i j : Nat} (h0 : 0 < j) (h1 : i ≤ j) (h2 : p d[j]! = true) : scanDown p d i j = scanDown p d i (j - 1) := by
  cases j with
  | zero => omega
  | succ j => rw [scanDown, if_pos (by simp [h1, h2]), Nat.add_sub_cancel]
theorem scanUp_ge {p : α → Bool} {d : Array α} {j : Nat} : ∀ {n i : Nat}, j + 1 - i = n → i ≤ scanUp p d j i ∧ scanUp p d j i ≤ max i (j + 1)
  | 0, i, h => by rw [scanUp_stop (.inl (by omega))]; omega
  | n + 1, i, h => by
    by_cases hp : p d[i]! = true
    · rw [scanUp_step (by omega) hp]
      have := scanUp_ge (p := p) (d := d) (j := j) (n := n) (i := i + 1) (by omega)
      omega
    · rw [scanUp_stop (.inr (by simpa using hp))]; omega
theorem scanDown_le {p : α → Bool} {d : Array α} {i : Nat} : ∀ {j : Nat}, scanDown p d i j ≤ j ∧ min j (i - 1) ≤ scanDown p d i j
  | 0 => by simp [scanDown]
  | j + 1 => by
    unfold scanDown
    split
    · rename_i h
      have := scanDown_le (p := p) (d := d) (i := i) (j := j)
      simp at h
      omega
    · omega
theorem part_stop {a i j : Nat} {d : Array α} (h : scanDown (fun x => !lt x d[a]!) d (scanUp (fun x => lt x d[a]!) d j i) j < scanUp (fun x => lt x d[a]!) d j i) : partLoop lt a i j d = (scanDown (fun x => !lt x d[a]!) d (scanUp (fun x => lt x d[a]!) d j i) j, d) := by
  rw [partLoop]
  rw [if_pos h]
theorem part_step {a i j i2 j2 : Nat} {d : Array α} (h1 : scanUp (fun x => lt x d[a]!) d j i = i2) (h2 : scanDown (fun x => !lt x d[a]!) d i2 j = j2) (h : i2 ≤ j2) : partLoop lt a i j d = partLoop lt a (i2 + 1) (j2 - 1) (swp d i2 j2) := by
  have hu := scanUp_ge (p := fun x => lt x d[a]!) (d := d) (j := j) (i := i) rfl
  have hd := scanDown_le (p := fun x => !lt x d[a]!) (d := d) (i := i2) (j := j)
  rw [h1] at hu
  rw [h2] at hd
  rw [partLoop]
  rw [h1, h2, if_neg (by omega), dif_pos (by omega)]
theorem partEq_stop {a i j i2 j2 : Nat} {d : Array α} (h1 : scanUp (fun x => !lt d[a]! x) d j i = i2) (h2 : scanDown (fun x => lt d[a]! x) d i2 j = j2) (h : j2 < i2) : partEqLoop lt a i j d = (i2, d) := by
  rw [partEqLoop]
  rw [h1, h2, if_pos h]
theorem partEq_step {a i j i2 j2 : Nat} {d : Array α} (h1 : scanUp (fun x => !lt d[a]! x) d j i = i2) (h2 : scanDown (fun x => lt d[a]! x) d i2 j = j2) (h : i2 ≤ j2) : partEqLoop lt a i j d = partEqLoop lt a (i2 + 1) (j2 - 1) (swp d i2 j2) := by
  have hu := scanUp_ge (p := fun x => !lt d[a]! x) (d := d) (j := j) (i := i) rfl
  have hd := scanDown_le (p := fun x => lt d[a]! x) (d := d) (i := i2) (j := j)
  rw [h1] at hu
  rw [h2] at hd
  rw [partEqLoop]
  rw [h1, h2, if_neg (by omega), dif_pos (by omega)]
theorem scanSorted_stop {d : Array α} {b i : Nat} (h : b ≤ i ∨ lt d[i]! d[i - 1]! = true) : scanSorted lt d b i = i := by
  rw [scanSorted, if_neg]
  rcases h with h | h
  · simp; omega
  · simp [h]
theorem scanSorted_step {d : Array α} {b i : Nat} (h1 : i < b) (h2 : lt d[i]! d[i - 1]! = false) : scanSorted lt d b i = scanSorted lt d b (i + 1) := by rw [scanSorted, if_pos (by simp [h1, h2])]
theorem partial_res {d : Array α} {a b : Nat} (h : b - a < 50) : partialInsertionSort lt d a b = (d, decide (scanSorted lt d b (a + 1) = b)) := by
  unfold partialInsertionSort partialIns
  dsimp only
  by_cases hc : scanSorted lt d b (a + 1) = b
  · rw [if_pos hc]; simp [hc]
  · rw [if_neg hc, if_pos h]; simp [hc]
theorem rev_stop {i j : Nat} {d : Array α} (h : j ≤ i) : reverseLoop i j d = d := by rw [reverseLoop, if_neg (by omega)]
theorem rev_step {i j : Nat} {d : Array α} (h : i < j) : reverseLoop i j d = reverseLoop (i + 1) (j - 1) (swp d i j) := by rw [reverseLoop, if_pos h]
theorem part_res1 {d : Array α} {a b pivot i j : Nat} (h1 : scanUp (fun x => lt x (swp d a pivot)[a]!) (swp d a pivot) (b - 1) (a + 1) = i) (h2 : scanDown (fun x => !lt x (swp d a pivot)[a]!) (swp d a pivot) i (b - 1) = j) (h : j < i) : Go.Sort.partition lt d a b pivot = (j, true, swp (swp d a pivot) j a) := by
  unfold Go.Sort.partition
  dsimp only
  rw [h1, h2, if_pos h]
theorem part_res2 {d d2 : Array α} {a b pivot i j j2 : Nat} (h1 : scanUp (fun x => lt x (swp d a pivot)[a]!) (swp d a pivot) (b - 1) (a + 1) = i) (h2 : scanDown (fun x => !lt x (swp d a pivot)[a]!) (swp d a pivot) i (b - 1) = j) (h : i ≤ j) (h3 : partLoop lt a (i + 1) (j - 1) (swp (swp d a pivot) i j) = (j2, d2)) : Go.Sort.partition lt d a b pivot = (j2, false, swp d2 j2 a) := by
  unfold Go.Sort.partition
  dsimp only
  rw [h1, h2, if_neg (by omega), h3]
theorem part_stop2 {a i j i2 j2 : Nat} {d : Array α} (h1 : scanUp (fun x => lt x d[a]!) d j i = i2) (h2 : scanDown (fun x => !lt x d[a]!) d i2 j = j2) (h : j2 < i2) : partLoop lt a i j d = (j2, d) := by
  rw [part_stop (by rw [h1, h2]; exact h), h1, h2]
theorem notT {b : Bool} (h : b = false) : (!b) = true := by subst h; rfl
theorem notF {b : Bool} (h : b = true) : (!b) = false := by subst h; rfl
theorem quo_half {a b : Nat} (h : a ≤ b) : ((b : Int) - a - 1).tdiv 2 = (((b - a - 1) / 2 + 1 : Nat) : Int) - 1 := by
  rcases Nat.lt_or_eq_of_le h with h | rfl
  · rw [Int.tdiv_eq_ediv_of_nonneg (by omega)]; omega
  · rw [show ((a : Int) - a - 1) = -1 by omega, Nat.sub_self]; decide
theorem quo_nat {x : Int} {n k : Nat} (h : x = n) : x.tdiv (k : Int) = ((n / k : Nat) : Int) := by subst h; rfl
end
section
variable {lt : α → α → Bool}
def hintI : Hint → Int
  | .unknown => 0
  | .increasing => 1
  | .decreasing => 2
theorem hintI_2 {h : Hint} : hintI h = 2 ↔ h = .decreasing := by cases h <;> simp [hintI]
theorem hintI_1 {h : Hint} : hintI h = 1 ↔ h = .increasing := by cases h <;> simp [hintI]
theorem order2_bd {d : Array α} {a b s N : Nat} (ha : a < N) (hb : b < N) : (order2 lt d a b s).1 < N ∧ (order2 lt d a b s).2.1 < N ∧ (order2 lt d a b s).2.2 ≤ s + 1 := by
  unfold order2; split <;> simp <;> omega
def hintN (s : Nat) : Hint := if s = 0 then .increasing else if s = 12 then .decreasing else .unknown
theorem choose_8 {d : Array α} {a b : Nat} (h8 : 8 ≤ b - a) (h50 : b - a < 50) : choosePivot lt d a b = ((median lt d (a + (b - a) / 4 * 1) (a + (b - a) / 4 * 2) (a + (b - a) / 4 * 3) 0).1, hintN (median lt d (a + (b - a) / 4 * 1) (a + (b - a) / 4 * 2) (a + (b - a) / 4 * 3) 0).2) := by
  unfold choosePivot
  dsimp only
  rw [if_pos h8, if_neg (by omega)]
  rfl
def pq1 (wb : Bool) (d : Array α) (a b : Nat) : Array α := if !wb then breakPatterns d a b else d
def pl1 (wb : Bool) (limit : Nat) : Nat := if !wb then limit - 1 else limit
def pq2 (lt : α → α → Bool) (d1 : Array α) (a b : Nat) : Array α := if (choosePivot lt d1 a b).2 = .decreasing then reverseRange d1 a b else d1
def pv2 (lt : α → α → Bool) (d1 : Array α) (a b : Nat) : Nat := if (choosePivot lt d1 a b).2 = .decreasing then (b - 1) - ((choosePivot lt d1 a b).1 - a) else (choosePivot lt d1 a b).1
def ph2 (lt : α → α → Bool) (d1 : Array α) (a b : Nat) : Hint := if (choosePivot lt d1 a b).2 = .decreasing then .increasing else (choosePivot lt d1 a b).2
theorem pdq_ins {d : Array α} {a b limit : Nat} {wb wp : Bool} (h : b - a ≤ 12) : pdq lt d a b limit wb wp = insertionSort lt d a b := by rw [pdq, if_pos h]
theorem pdq_heap {d : Array α} {a b limit : Nat} {wb wp : Bool} (h : ¬ b - a ≤ 12) (h0 : limit = 0) : pdq lt d a b limit wb wp = heapSort lt d a b := by rw [pdq, if_neg h, if_pos h0]
section
variable {d : Array α} {a b limit : Nat} {wb wp : Bool} (h : ¬ b - a ≤ 12) (h0 : ¬ limit = 0) (h50 : b - a < 50)
include h h0 h50
theorem pdq_pi (hw : wb = true) (hp : wp = true) (hh : ph2 lt (pq1 wb d a b) a b = .increasing) (hq : (partialInsertionSort lt (pq2 lt (pq1 wb d a b) a b) a b).2 = true) : pdq lt d a b limit wb wp = pq2 lt (pq1 wb d a b) a b := by
  rw [pdq, if_neg h, if_neg h0]
  dsimp only
  have key : (if (wb && wp && decide (ph2 lt (pq1 wb d a b) a b = Hint.increasing)) = true then partialInsertionSort lt (pq2 lt (pq1 wb d a b) a b) a b else (pq2 lt (pq1 wb d a b) a b, false)) = (pq2 lt (pq1 wb d a b) a b, true) := by
    rw [if_pos (by simp only [Bool.and_eq_true, decide_eq_true_eq]; exact ⟨⟨hw, hp⟩, hh⟩)]
    rw [partial_res h50] at hq ⊢
    rw [show decide (scanSorted lt (pq2 lt (pq1 wb d a b) a b) b (a + 1) = b) = true from hq]
  unfold ph2 pq2 pq1 at key
  unfold pq2 pq1
  rw [key, if_pos rfl]
theorem pdq_eq {pi : Bool} {mid : Nat} {d4 : Array α} (hno : ¬ (wb = true ∧ wp = true ∧ ph2 lt (pq1 wb d a b) a b = .increasing ∧ (partialInsertionSort lt (pq2 lt (pq1 wb d a b) a b) a b).2 = true)) (ha : 0 < a)
    (hl : lt (pq2 lt (pq1 wb d a b) a b)[a - 1]! (pq2 lt (pq1 wb d a b) a b)[pv2 lt (pq1 wb d a b) a b]! = false) (he : partitionEqual lt (pq2 lt (pq1 wb d a b) a b) a b (pv2 lt (pq1 wb d a b) a b) = (mid, d4)) (m1 : a < mid) (m2 : mid ≤ b) :
    pdq lt d a b limit wb wp = pdq lt d4 mid b (pl1 wb limit) wb wp := by
  rw [pdq, if_neg h, if_neg h0]
  dsimp only
  have hr := fun x : Array α => partial_res (lt := lt) (d := x) h50
  have key : (if (wb && wp && decide (ph2 lt (pq1 wb d a b) a b = Hint.increasing)) = true then partialInsertionSort lt (pq2 lt (pq1 wb d a b) a b) a b else (pq2 lt (pq1 wb d a b) a b, false)) = (pq2 lt (pq1 wb d a b) a b, false) := by
    split
    · rename_i hc
      simp only [Bool.and_eq_true, decide_eq_true_eq] at hc
      have hf : (partialInsertionSort lt (pq2 lt (pq1 wb d a b) a b) a b).2 = false := by
        cases hq : (partialInsertionSort lt (pq2 lt (pq1 wb d a b) a b) a b).2 with
        | false => rfl
        | true => exact absurd ⟨hc.1.1, hc.1.2, hc.2, hq⟩ hno
      rw [hr] at hf ⊢
      rw [show decide (scanSorted lt (pq2 lt (pq1 wb d a b) a b) b (a + 1) = b) = false from hf]
    · rfl
  unfold ph2 pq2 pq1 at key
  unfold pv2 pq2 pq1 at he
  unfold pv2 pq2 pq1 at hl
  rw [key, if_neg (by simp), if_pos (by simp only [Bool.and_eq_true, decide_eq_true_eq]; exact ⟨ha, by rw [hl]; rfl⟩)]
  dsimp only
  rw [he]
  dsimp only
  rw [dif_pos ⟨m1, m2⟩]
  rfl
theorem pdq_part {mid : Nat} {ap : Bool} {d4 : Array α} (hno : ¬ (wb = true ∧ wp = true ∧ ph2 lt (pq1 wb d a b) a b = .increasing ∧ (partialInsertionSort lt (pq2 lt (pq1 wb d a b) a b) a b).2 = true))
    (hl : ¬ (0 < a ∧ lt (pq2 lt (pq1 wb d a b) a b)[a - 1]! (pq2 lt (pq1 wb d a b) a b)[pv2 lt (pq1 wb d a b) a b]! = false)) (he : Go.Sort.partition lt (pq2 lt (pq1 wb d a b) a b) a b (pv2 lt (pq1 wb d a b) a b) = (mid, ap, d4)) (m1 : a ≤ mid) (m2 : mid < b) :
    pdq lt d a b limit wb wp = if mid - a < b - mid then pdq lt (pdq lt d4 a mid (pl1 wb limit) true true) (mid + 1) b (pl1 wb limit) (decide (mid - a ≥ (b - a) / 8)) ap else pdq lt (pdq lt d4 (mid + 1) b (pl1 wb limit) true true) a mid (pl1 wb limit) (decide (b - mid ≥ (b - a) / 8)) ap := by
  rw [pdq, if_neg h, if_neg h0]
  dsimp only
  have hr := fun x : Array α => partial_res (lt := lt) (d := x) h50
  have key : (if (wb && wp && decide (ph2 lt (pq1 wb d a b) a b = Hint.increasing)) = true then partialInsertionSort lt (pq2 lt (pq1 wb d a b) a b) a b else (pq2 lt (pq1 wb d a b) a b, false)) = (pq2 lt (pq1 wb d a b) a b, false) := by
    split
    · rename_i hc
      simp only [Bool.and_eq_true, decide_eq_true_eq] at hc
      have hf : (partialInsertionSort lt (pq2 lt (pq1 wb d a b) a b) a b).2 = false := by
        cases hq : (partialInsertionSort lt (pq2 lt (pq1 wb d a b) a b) a b).2 with
        | false => rfl
        | true => exact absurd ⟨hc.1.1, hc.1.2, hc.2, hq⟩ hno
      rw [hr] at hf ⊢
      rw [show decide (scanSorted lt (pq2 lt (pq1 wb d a b) a b) b (a + 1) = b) = false from hf]
    · rfl
  unfold ph2 pq2 pq1 at key
  unfold pv2 pq2 pq1 at he
  unfold pv2 pq2 pq1 at hl
  rw [key, if_neg (by simp), if_neg (by simp only [Bool.and_eq_true, decide_eq_true_eq]; exact fun hc => hl ⟨hc.1, by simpa using hc.2⟩)]
  dsimp only
  rw [he]
  dsimp only
  rw [dif_pos ⟨m1, m2⟩]
  rfl
end
structure PdqS (α : Type) where
  a : Nat
  b : Nat
  lim : Nat
  wb : Bool
  wp : Bool
  d : Array α
def brkN (a len md : Nat) (st : UInt64 × Array α) (idx : Nat) : Nat → UInt64 × Array α
  | 0 => st
  | k + 1 => breakStep a len md (brkN a len md st idx k) (idx + k)
theorem brk_res {d : Array α} {a b : Nat} (h : 8 ≤ b - a) : breakPatterns d a b = (brkN a (b - a) (1 <<< bitsLen (b - a)) (UInt64.ofNat (b - a), d) (a + (b - a) / 4 * 2 - 1) 3).2 := by
  unfold breakPatterns
  dsimp only
  rw [if_pos h]
  rfl
end
end Go.H

/-
  Rules: words of 64 bits; bytes of a text that is known.
-/
set_option linter.all false
namespace Go.H
open Go
variable {P : Program} {r : Option Nat} {E : Env} {h : Hp}
variable {K : Value → Hp → Prop} {T : List PanicEntry → Hp → Prop} {dst : Option Nat} {ty : TypeId} {pos : String} {af : Array Edge} {gd : Option (Nat × Bool)}
abbrev U (w : UInt64) : Value := .int .u64 (w.toNat : Int)
theorem xv_shlU {xt yt : TypeId} {x y : Operand} {yk : IntKind} {w w' : UInt64} {s : Nat} (hx : ev E x = some (U w)) (hy : ev E y = some (.int yk (s : Int))) (hs : s < 64) (hw : w <<< (UInt64.ofNat s) = w') (H : K (U w') h) : XV P r ⟨dst, .binOp .shl xt x y yt, ty, pos, af, gd⟩ K T E h :=
  xv_of_run (by simp [plainOp]) fun W ρ ho he => ⟨_, h, W, by
    rw [run_bin (he _ _ hx) (he _ _ hy) (fun _ => by simp [eqGuard])]
    have h1 : ¬ ((s : Int) < 0) := by omega
    have h2 : min (s : Int).toNat IntKind.u64.bits = s := by simp [IntKind.bits]; omega
    have h3 : IntKind.u64.wrap ((w.toNat : Int) * 2 ^ s) = (w'.toNat : Int) := by
      have hq : (UInt64.ofNat s).toNat % 64 = s := by rw [UInt64.toNat_ofNat']; omega
      rw [IntKind.wrap_u64, ← hw, UInt64.toNat_shiftLeft, hq, Nat.shiftLeft_eq, Int.natCast_emod, Int.natCast_mul, Int.natCast_pow]
      rfl
    simp only [binOp, Op.shift, if_neg h1, h2, h3]
    rfl, H, .refl ho⟩
theorem xv_shrU {xt yt : TypeId} {x y : Operand} {yk : IntKind} {w w' : UInt64} {s : Nat} (hx : ev E x = some (U w)) (hy : ev E y = some (.int yk (s : Int))) (hs : s < 64) (hw : w >>> (UInt64.ofNat s) = w') (H : K (U w') h) : XV P r ⟨dst, .binOp .shr xt x y yt, ty, pos, af, gd⟩ K T E h :=
  xv_of_run (by simp [plainOp]) fun W ρ ho he => ⟨_, h, W, by
    rw [run_bin (he _ _ hx) (he _ _ hy) (fun _ => by simp [eqGuard])]
    have h1 : ¬ ((s : Int) < 0) := by omega
    have h2 : min (s : Int).toNat IntKind.u64.bits = s := by simp [IntKind.bits]; omega
    have h3 : (w.toNat : Int).fdiv (2 ^ s) = (w'.toNat : Int) := by
      have hq : (UInt64.ofNat s).toNat % 64 = s := by rw [UInt64.toNat_ofNat']; omega
      rw [← hw, UInt64.toNat_shiftRight, hq, Nat.shiftRight_eq_div_pow]
      rw [Int.fdiv_eq_ediv_of_nonneg _ (by exact Int.le_of_lt (Int.pow_pos (by decide)))]
      push_cast
      rfl
    simp only [binOp, Op.shift, if_neg h1, h2, h3]
    rfl, H, .refl ho⟩
theorem bv_of (w : UInt64) : BitVec.ofInt 64 (w.toNat : Int) = w.toBitVec := by
  rw [BitVec.ofInt_natCast]
  simp
theorem xv_xorU {xt yt : TypeId} {x y : Operand} {a b c : UInt64} (hx : ev E x = some (U a)) (hy : ev E y = some (U b)) (hw : a ^^^ b = c) (H : K (U c) h) : XV P r ⟨dst, .binOp .xor xt x y yt, ty, pos, af, gd⟩ K T E h :=
  xv_of_run (by simp [plainOp]) fun W ρ ho he => ⟨_, h, W, by
    rw [run_bin (he _ _ hx) (he _ _ hy) (eqGuard_int _ _ _ _ _ _ _)]
    have h3 : IntKind.u64.wrap (((BitVec.ofInt 64 (a.toNat : Int) ^^^ BitVec.ofInt 64 (b.toNat : Int)).toNat : Nat) : Int) = (c.toNat : Int) := by
      rw [IntKind.wrap_u64, bv_of, bv_of, ← hw]
      have := (a ^^^ b).toNat_lt
      show ((((a ^^^ b).toNat : Nat) : Int)) % _ = _
      omega
    simp only [binOp, Op.intBits, ne_eq, not_true_eq_false, if_false]
    exact congrArg (fun z => ((pure (Value.int IntKind.u64 z) : Sem Value).run P W).andThen fun z w' => Result.ok (Next.value z) w') h3, H, .refl ho⟩
theorem xv_andU {xt yt : TypeId} {x y : Operand} {a b c : UInt64} (hx : ev E x = some (U a)) (hy : ev E y = some (U b)) (hw : a &&& b = c) (H : K (U c) h) : XV P r ⟨dst, .binOp .and xt x y yt, ty, pos, af, gd⟩ K T E h :=
  xv_of_run (by simp [plainOp]) fun W ρ ho he => ⟨_, h, W, by
    rw [run_bin (he _ _ hx) (he _ _ hy) (eqGuard_int _ _ _ _ _ _ _)]
    have h3 : IntKind.u64.wrap (((BitVec.ofInt 64 (a.toNat : Int) &&& BitVec.ofInt 64 (b.toNat : Int)).toNat : Nat) : Int) = (c.toNat : Int) := by
      rw [IntKind.wrap_u64, bv_of, bv_of, ← hw]
      have := (a &&& b).toNat_lt
      show ((((a &&& b).toNat : Nat) : Int)) % _ = _
      omega
    simp only [binOp, Op.intBits, ne_eq, not_true_eq_false, if_false]
    exact congrArg (fun z => ((pure (Value.int IntKind.u64 z) : Sem Value).run P W).andThen fun z w' => Result.ok (Next.value z) w') h3, H, .refl ho⟩
theorem xv_indexT {x y : Operand} {t : TypeId} {s : ByteArray} {k : IntKind} {i : Int} {f : Nat → Nat} {m : Nat} (ht : P.underlying t = some .string) (hx : ev E x = some (.string s)) (hy : ev E y = some (.int k i)) (h0 : 0 ≤ i) (h1 : i < m) (h2 : (List.range m).all (fun j => if h : j < s.size then s[j] == UInt8.ofNat (f j) else false) = true)
    (H : K (.int .u8 (((UInt8.ofNat (f i.toNat)).toNat : Nat) : Int)) h) : XV P r ⟨dst, .index t x y, ty, pos, af, gd⟩ K T E h :=
  xv_of_run (by simp [plainOp]) fun w ρ ho he => by
    have hs := List.all_eq_true.1 h2 i.toNat (List.mem_range.2 (by omega))
    have hlt : i.toNat < s.size := by
      by_cases hlt : i.toNat < s.size
      · exact hlt
      · rw [dif_neg hlt] at hs; cases hs
    rw [dif_pos hlt] at hs
    have hv := eq_of_beq hs
    refine ⟨_, h, w, ?_, H, .refl ho⟩
    simp [execOp, he _ _ hx, he _ _ hy, Instr.index, asIntOf, run_underlying ht, h0, hlt, hv]
theorem len8 : ∀ {n : Nat}, n ≤ 49 → (UInt8.ofNat (Go.Sort.bitsLen n)).toNat = Go.Sort.bitsLen n ∧ Go.Sort.bitsLen n ≤ 6 := fun {n} h => by
  have hb : Go.Sort.bitsLen n ≤ 6 := (Go.Sort.bitsLen_le_iff n 6).2 (by omega)
  exact ⟨by rw [UInt8.toNat_ofNat']; omega, hb⟩
theorem mod_facts {n : Nat} (h8 : 8 ≤ n) (h : n ≤ 49) : ((1 : UInt64) <<< UInt64.ofNat (Go.Sort.bitsLen n)).toNat = 1 <<< Go.Sort.bitsLen n ∧ n < 1 <<< Go.Sort.bitsLen n ∧ 1 <<< Go.Sort.bitsLen n ≤ 2 * n := by
  have hb := (len8 h).2
  have h1 : n < 2 ^ Go.Sort.bitsLen n := Go.Sort.lt_two_pow_bitsLen n
  have h2 : ¬ n < 2 ^ (Go.Sort.bitsLen n - 1) := fun hc => by
    have := (Go.Sort.bitsLen_le_iff n (Go.Sort.bitsLen n - 1)).2 hc
    have h0 : 0 < Go.Sort.bitsLen n := Nat.pos_of_ne_zero (fun h0 => by rw [h0] at h1; simp at h1; omega)
    omega
  have h0 : 0 < Go.Sort.bitsLen n := Nat.pos_of_ne_zero (fun h0 => by rw [h0] at h1; simp at h1; omega)
  have h3 : 2 ^ Go.Sort.bitsLen n = 2 * 2 ^ (Go.Sort.bitsLen n - 1) := by
    rw [show Go.Sort.bitsLen n = (Go.Sort.bitsLen n - 1) + 1 by omega, Nat.pow_succ, Nat.add_sub_cancel]; omega
  rw [Nat.shiftLeft_eq, Nat.one_mul]
  refine ⟨?_, h1, by omega⟩
  have hq : (UInt64.ofNat (Go.Sort.bitsLen n)).toNat % 64 = Go.Sort.bitsLen n := by rw [UInt64.toNat_ofNat']; omega
  have hp : 2 ^ Go.Sort.bitsLen n ≤ 2 ^ 6 := Nat.pow_le_pow_right (by decide) hb
  rw [UInt64.toNat_shiftLeft, hq, Nat.shiftLeft_eq]
  show 1 * 2 ^ Go.Sort.bitsLen n % 2 ^ 64 = _
  rw [Nat.one_mul, Nat.mod_eq_of_lt (by omega)]
end Go.H
