/-
  The logic of owned blocks over the kit, part HC.
-/
import Derived.Test.YtlpkiolopelpfaaDoorHB
import Derived.Recover
import Derived.Tactics2
import Derived.TacticsIn
import Derived.Laws.StructEq
import Derived.Maps.RangeRun
import Derived.Below
import Derived.ProofKit
import Derived.Laws.MakeOwn
import Derived.KernelRfl
import Derived.Test.YtlpkiolopelpfaaDoorProg
import Derived.Scope
set_option linter.all false
/-
  Slices that grow: what 'append' leaves, whether there was room or not.
-/
namespace Go.H
open Go
variable {P : Program} {r : Option Nat} {N : Nat} {Q : Post} {E : Env} {D : List Deferred} {h h' g : Hp}
variable {K : Value → Hp → Prop} {T : List PanicEntry → Hp → Prop} {dst : Option Nat} {ty : TypeId} {pos : String} {af : Array Edge} {gd : Option (Nat × Bool)}
inductive Vec where
  | nil
  | at (b cap : Nat) (sp : List Value)
def Vec.val : Vec → Nat → Value
  | .nil, _ => .slice none 0 0
  | .at b cap _, n => .slice (some ⟨b, 0, none⟩) n cap
def Vec.hp : Vec → TypeId → List Value → Hp
  | .nil, _, _ => []
  | .at b _ sp, t, xs => [(b, .cells ⟨xs ++ sp⟩ t (0, 0))]
def Vec.ok : Vec → Nat → Nat → List Value → Prop
  | .nil, sz, n, xs => xs.length = n * sz ∧ n = 0
  | .at _ cap sp, sz, n, xs => xs.length = n * sz ∧ n ≤ cap ∧ (xs ++ sp).length = cap * sz
inductive Tk : Hp → Hp → Hp → Prop
  | here {a r : Hp} : Tk a (a ++ r) r
  | there {a h r : Hp} {x : Nat × Obj} : Tk a h r → Tk a (x :: h) (x :: r)
  | skip {a h r b : Hp} : Tk a h r → Tk a (b ++ h) (b ++ r)
theorem Tk.perm {a h r : Hp} (H : Tk a h r) : List.Perm h (a ++ r) := by
  induction H with
  | here => exact List.Perm.refl _
  | there _ ih => exact (ih.cons _).trans (List.perm_middle).symm
  | skip _ ih =>
    refine (ih.append_left _).trans ?_
    rw [← List.append_assoc, ← List.append_assoc]
    exact (List.perm_append_comm).append_right _
theorem xv_append0 {x y : Operand} {t e : TypeId} {d : TD} {a a' : Option Addr} {n c c' : Nat} (ht : SlT P t e) (hd : TyOk P e d) (hx : ev E x = some (.slice a n c)) (hy : ev E y = some (.slice a' 0 c')) (hn : n ≤ c) (H : K (.slice a n c) h) : XV P r ⟨dst, .call ⟨.builtin .append, #[x, y], #[t, t]⟩, ty, pos, af, gd⟩ K T E h :=
  xv_of_run (by simp [plainOp]) fun w ρ ho he => ⟨_, h, w, by
    obtain ⟨cs, hcs⟩ := run_builtin (P := P) (dst := dst) (ty := ty) (pos := pos) (af := af) (gd := gd) ρ .append #[x, y] #[t, t] w
    rw [hcs]
    cases a' with
    | none => cases a <;> simp [builtin, Builtin.append_, he _ _ hx, he _ _ hy, run_underlying ht, hd.run_size, Builtin.lenOf, Builtin.firstCells, hn, storeCells]
    | some a' => cases a <;> simp [builtin, Builtin.append_, he _ _ hx, he _ _ hy, run_underlying ht, hd.run_size, Builtin.lenOf, Builtin.firstCells, hn, storeCells, loadCells, loadCellsFrom], H, .refl ho⟩
theorem fol_grow {w : World} {b : Nat} {o : Obj} (ho : Own ((b, o) :: g) w) (o' : Obj) : Fol ((b, o) :: g) w ((w.heap.size, o') :: g) (w.drew.alloc o') := by
  have f1 : Fol ((b, o) :: g) w ((w.heap.size, o') :: (b, o) :: g) (w.drew.alloc o') := by
    have := Fol.alloc (ho.drew (w.drawn + 1)) o'
    exact this.drew
  exact f1.sub ((List.sublist_cons_self _ _).cons_cons _)
theorem cells_read {w : World} {bu ou m sz : Nat} {lu news : List Value} {tu : TypeId} {fz : Nat × Nat} (hb : w.heap[bu]? = some (.cells ⟨lu⟩ tu fz)) (hl : (lu.drop ou).take (m * sz) = news) (hn : news.length = m * sz) :
    ∀ j v, news[j]? = some v → w.cell? ((⟨bu, ou, none⟩ : Addr).add j) = some v := by
  intro j v hv
  have hj : j < m * sz := by rw [← hn]; exact (List.getElem?_eq_some_iff.1 hv).1
  rw [addr_add]
  simp only [World.cell?, hb]
  rw [← hl, List.getElem?_take_of_lt hj, List.getElem?_drop] at hv
  simpa using hv
theorem xv_append {x y : Operand} {t e : TypeId} {d : TD} {V : Vec} {n m bu ou cu : Nat} {xs lu news : List Value} {tu : TypeId} {fz : Nat × Nat} (ht : SlT P t e) (hd : TyOk P e d) (hzs : d.zero.cells.size = d.size)
    (hx : ev E x = some (V.val n)) (hy : ev E y = some (.slice (some ⟨bu, ou, none⟩) m cu)) (hV : V.ok d.size n xs) (hp : Tk (V.hp e xs) h g) (hu : (bu, .cells ⟨lu⟩ tu fz) ∈ g) (hl : (lu.drop ou).take (m * d.size) = news) (hn : news.length = m * d.size)
    (h1 : news.all Value.oneCell' = true) (hm : 0 < m) (hb : 2 * (n + m) * d.bytes ≤ 281474976710656) (h63 : n + m ≤ 9223372036854775807)
    (H : ∀ V' : Vec, V'.ok d.size (n + m) (xs ++ news) → K (V'.val (n + m)) (V'.hp e (xs ++ news) ++ g)) : XV P r ⟨dst, .call ⟨.builtin .append, #[x, y], #[t, t]⟩, ty, pos, af, gd⟩ K T E h := by
  refine XV.perm hp.perm.symm (xv_of_run (by simp [plainOp]) fun w ρ ho he => ?_)
  obtain ⟨i, hi, his, hib, hiz⟩ := hd.info
  obtain ⟨cs, hcs⟩ := run_builtin (P := P) (dst := dst) (ty := ty) (pos := pos) (af := af) (gd := gd) ρ .append #[x, y] #[t, t] w
  have hub : w.heap[bu]? = some (.cells ⟨lu⟩ tu fz) := ho.has _ _ (List.mem_append_right _ hu)
  have hnews := cells_read hub hl hn
  have hbase : (execOp ρ ⟨dst, .call ⟨.builtin .append, #[x, y], #[t, t]⟩, ty, pos, af, gd⟩).run P w = ((Builtin.append_ #[t, t] ty #[V.val n, .slice (some ⟨bu, ou, none⟩) m cu]).run P w).andThen fun v w' => .ok (.value v) w' := by
    rw [hcs]; simp [builtin, he _ _ hx, he _ _ hy]
  rw [hbase]
  have h63' : ((n + m : Nat) : Int) ≤ 9223372036854775807 := by omega
  cases V with
  | nil =>
    obtain ⟨hx1, rfl⟩ := hV
    have hxs : xs = [] := List.length_eq_zero_iff.1 (by simpa using hx1)
    subst hxs
    simp only [Nat.zero_add] at H hb h63 h63'
    have hcap : m ≤ grownCap w m 0 e := by unfold grownCap; simp [Question.cut]
    have hr := run_append_nil (P := P) w t ty e i d.zero ht hi hiz ⟨bu, ou, none⟩ m cu news (by rw [his]; exact hn) hnews hm (by omega) (by rw [hib]; rw [Nat.mul_assoc] at hb; omega)
    refine ⟨_, _, _, by rw [show Vec.val .nil 0 = .slice none 0 0 from rfl, hr]; rfl, H (.at w.heap.size (grownCap w m 0 e) (Builtin.zeroCells d.zero.cells (grownCap w m 0 e - m)).toList) ?_, ?_⟩
    · refine ⟨by simpa using hn, by simpa using hcap, ?_⟩
      simp only [List.nil_append, List.length_append, hn, Array.length_toList, size_zeroCells, hzs]
      rw [← Nat.add_mul]; congr 1; omega
    · have := (Fol.alloc (ho.drew (w.drawn + 1)) (.cells (news.toArray ++ Builtin.zeroCells d.zero.cells (grownCap w m 0 e - m)) e)).drew
      have e2 : (⟨news ++ (Builtin.zeroCells d.zero.cells (grownCap w m 0 e - m)).toList⟩ : Array Value) = news.toArray ++ Builtin.zeroCells d.zero.cells (grownCap w m 0 e - m) := by apply Array.ext'; simp
      simp only [Vec.hp, List.nil_append, List.cons_append, e2]
      exact this
  | «at» b cap sp =>
    obtain ⟨hx1, hx2, hx3⟩ := hV
    have hg : w.heap[b]? = some (.cells ⟨xs ++ sp⟩ e (0, 0)) := ho.has _ _ List.mem_cons_self
    by_cases hroom : n + m ≤ cap
    · have hfit : n * i.size + news.length ≤ (⟨xs ++ sp⟩ : Array Value).size := by
        rw [his, hn, ← Nat.add_mul]
        simp only [List.size_toArray, hx3]
        exact Nat.mul_le_mul_right _ hroom
      have hr := run_append_room (P := P) w t ty e i ht hi b n cap ⟨xs ++ sp⟩ hg ⟨bu, ou, none⟩ m cu news (by rw [his]; exact hn) hnews (List.all_eq_true.1 h1) hroom hfit
      have hcur : ((xs ++ sp).take (n * i.size) ++ news ++ (xs ++ sp).drop (n * i.size + news.length)) = (xs ++ news) ++ sp.drop news.length := by
        rw [his, ← hx1, List.take_left, List.drop_append]
        have : List.drop (xs.length + news.length) xs = [] := List.drop_eq_nil_of_le (by omega)
        rw [this]; simp
      refine ⟨_, _, _, by rw [show Vec.val (.at b cap sp) n = .slice (some ⟨b, 0, none⟩) n cap from rfl, hr]; rfl, H (.at b cap (sp.drop news.length)) ?_, ?_⟩
      · refine ⟨by simp [hx1, hn, Nat.add_mul], hroom, ?_⟩
        simp only [List.length_append, List.length_drop] at hx3 ⊢
        have hle : news.length ≤ sp.length := by
          have := Nat.mul_le_mul_right d.size hroom
          rw [Nat.add_mul] at this
          omega
        omega
      · have := fol_row ho (List.mem_cons_self (a := (b, Obj.cells ⟨xs ++ sp⟩ e (0, 0))) (l := g)) ((xs ++ news) ++ sp.drop news.length)
        simp only [Vec.hp, List.cons_append, List.nil_append, setH, if_true] at this ⊢
        rw [show ((⟨xs ++ sp⟩ : Array Value).toList.take (n * i.size) ++ news ++ (⟨xs ++ sp⟩ : Array Value).toList.drop (n * i.size + news.length)) = (xs ++ news) ++ sp.drop news.length from hcur]
        exact this
    · have hgt : cap < n + m := by omega
      have hold : ∀ j v, xs[j]? = some v → w.cell? ((⟨b, 0, none⟩ : Addr).add j) = some v := by
        intro j v hv
        rw [addr_add]
        simp only [World.cell?, hg]
        have hlt : j < xs.length := (List.getElem?_eq_some_iff.1 hv).1
        simp [List.getElem?_append_left hlt, hv]
      have hfit : Builtin.nextslicecap (n + m) cap * i.bytes ≤ 281474976710656 := by
        rw [hib]
        exact Nat.le_trans (Nat.mul_le_mul_right _ (nextslicecap_le hgt)) hb
      have hr := run_append_grow (P := P) w t ty e i d.zero ht hi hiz ⟨b, 0, none⟩ n cap xs (by rw [his]; exact hx1) hold ⟨bu, ou, none⟩ m cu news (by rw [his]; exact hn) hnews hgt h63' hfit
      have hcap : n + m ≤ grownCap w (n + m) cap e := by unfold grownCap; simp [Question.cut]
      refine ⟨_, _, _, by rw [show Vec.val (.at b cap sp) n = .slice (some ⟨b, 0, none⟩) n cap from rfl, hr]; rfl, H (.at w.heap.size (grownCap w (n + m) cap e) (Builtin.zeroCells d.zero.cells (grownCap w (n + m) cap e - (n + m))).toList) ?_, ?_⟩
      · refine ⟨by simp [hx1, hn, Nat.add_mul], hcap, ?_⟩
        simp only [List.length_append, hx1, hn, Array.length_toList, size_zeroCells, hzs]
        rw [← Nat.add_mul, ← Nat.add_mul]; congr 1; omega
      · have := fol_grow ho (.cells (xs.toArray ++ news.toArray ++ Builtin.zeroCells d.zero.cells (grownCap w (n + m) cap e - (n + m))) e)
        have e2 : (⟨xs ++ news ++ (Builtin.zeroCells d.zero.cells (grownCap w (n + m) cap e - (n + m))).toList⟩ : Array Value) = xs.toArray ++ news.toArray ++ Builtin.zeroCells d.zero.cells (grownCap w (n + m) cap e - (n + m)) := by apply Array.ext'; simp
        simp only [Vec.hp, List.nil_append, List.cons_append, e2]
        exact this
end Go.H

/-
  Small rules that the written walks use.
-/
namespace Go.H
open Go
variable {P : Program} {r : Option Nat} {N : Nat} {Q : Post} {E : Env} {D : List Deferred} {h h' : Hp}
variable {K : Value → Hp → Prop} {T : List PanicEntry → Hp → Prop} {dst : Option Nat} {ty : TypeId} {pos : String} {af : Array Edge} {gd : Option (Nat × Bool)}
section
variable {KK : Env → List Deferred → Hp → Prop} {id id' : Nat} {ch : List PanicEntry}
theorem th_n (H : KK E D h) : Th KK Q .normal E D h := H
theorem th_x (H : Q (.exit id) E D h) : Th KK Q (.exit id) E D h := H
theorem th_r (H : Q .ret E D h) : Th KK Q .ret E D h := H
theorem th_p (H : Q (.panic ch) E D h) : Th KK Q (.panic ch) E D h := H
theorem bk_n (H : Q .normal E D h) : Bk id Q .normal E D h := H
theorem bk_r (H : Q .ret E D h) : Bk id Q .ret E D h := H
theorem bk_p (H : Q (.panic ch) E D h) : Bk id Q (.panic ch) E D h := H
end
theorem up_ret {v : Value} (H : K v h) : Up K T (.returned v) h := H
theorem up_pan {c : List PanicEntry} (H : T c h) : Up K T (.panicked c) h := H
theorem xv_lss2 {xt yt : TypeId} {x y : Operand} {k : IntKind} {a b : Int} (hx : ev E x = some (.int k a)) (hy : ev E y = some (.int k b))
    (H1 : a < b → K (.bool true) h) (H2 : b ≤ a → K (.bool false) h) : XV P r ⟨dst, .binOp .lss xt x y yt, ty, pos, af, gd⟩ K T E h :=
  xv_cmp2 hx hy rfl (fun hh => H1 hh) (fun hh => H2 (by simp only [cmpP] at hh; omega))
theorem xv_leq2 {xt yt : TypeId} {x y : Operand} {k : IntKind} {a b : Int} (hx : ev E x = some (.int k a)) (hy : ev E y = some (.int k b))
    (H1 : a ≤ b → K (.bool true) h) (H2 : b < a → K (.bool false) h) : XV P r ⟨dst, .binOp .leq xt x y yt, ty, pos, af, gd⟩ K T E h :=
  xv_cmp2 hx hy rfl (fun hh => H1 hh) (fun hh => H2 (by simp only [cmpP] at hh; omega))
theorem xv_gtr2 {xt yt : TypeId} {x y : Operand} {k : IntKind} {a b : Int} (hx : ev E x = some (.int k a)) (hy : ev E y = some (.int k b))
    (H1 : b < a → K (.bool true) h) (H2 : a ≤ b → K (.bool false) h) : XV P r ⟨dst, .binOp .gtr xt x y yt, ty, pos, af, gd⟩ K T E h :=
  xv_cmp2 hx hy rfl (fun hh => H1 hh) (fun hh => H2 (by simp only [cmpP] at hh; omega))
theorem xv_geq2 {xt yt : TypeId} {x y : Operand} {k : IntKind} {a b : Int} (hx : ev E x = some (.int k a)) (hy : ev E y = some (.int k b))
    (H1 : b ≤ a → K (.bool true) h) (H2 : a < b → K (.bool false) h) : XV P r ⟨dst, .binOp .geq xt x y yt, ty, pos, af, gd⟩ K T E h :=
  xv_cmp2 hx hy rfl (fun hh => H1 hh) (fun hh => H2 (by simp only [cmpP] at hh; omega))
theorem xv_eql2 {xt yt : TypeId} {x y : Operand} {k : IntKind} {a b : Int} (hx : ev E x = some (.int k a)) (hy : ev E y = some (.int k b))
    (H1 : a = b → K (.bool true) h) (H2 : a ≠ b → K (.bool false) h) : XV P r ⟨dst, .binOp .eql xt x y yt, ty, pos, af, gd⟩ K T E h :=
  xv_cmp2 hx hy rfl (fun hh => H1 hh) (fun hh => H2 hh)
theorem xv_neq2 {xt yt : TypeId} {x y : Operand} {k : IntKind} {a b : Int} (hx : ev E x = some (.int k a)) (hy : ev E y = some (.int k b))
    (H1 : a ≠ b → K (.bool true) h) (H2 : a = b → K (.bool false) h) : XV P r ⟨dst, .binOp .neq xt x y yt, ty, pos, af, gd⟩ K T E h :=
  xv_cmp2 hx hy rfl (fun hh => H1 hh) (fun hh => H2 (Classical.not_not.1 hh))
theorem body_ret {fn : Func} {R : Ending → Hp → Prop} {rl : List ResultVar} {vs : List Value} (hrl : fn.results.toList = rl) (hr : ResOk P E h rl vs) (hs : List.Sublist h' h) (H : R (.returned (tupV vs)) h') : BodyQ P fn R .ret E [] h :=
  ⟨trivial, vs, h', by rw [hrl]; exact hr, hs, fun _ hk => by simp [marked] at hk, H⟩
theorem body_end {fn : Func} {R : Ending → Hp → Prop} {rl : List ResultVar} {vs : List Value} (hrl : fn.results.toList = rl) (hr : ResOk P E h rl vs) (hs : List.Sublist h' h) (H : R (.returned (tupV vs)) h') : BodyQ P fn R .normal E [] h :=
  ⟨trivial, vs, h', by rw [hrl]; exact hr, hs, fun _ hk => by simp [marked] at hk, H⟩
theorem body_pan {fn : Func} {R : Ending → Hp → Prop} {ch : List PanicEntry} (H : R (.panicked ch) h) : BodyQ P fn R (.panic ch) E [] h := ⟨rfl, H⟩
theorem res_cell {b o : Nat} {l : List Value} {t t' : TypeId} {fz : Nat × Nat} {d : TD} {a : Nat} {v : Value} (ht : TyOk P t d) (ha : aggB d.und = false) (he : E a = some (.pointer (some ⟨b, o, none⟩))) (hm : (b, .cells ⟨l⟩ t' fz) ∈ h) (hl : l[o]? = some v) :
    ∃ b o l t' fz d, E a = some (.pointer (some ⟨b, o, none⟩)) ∧ (b, .cells ⟨l⟩ t' fz) ∈ h ∧ TyOk P t d ∧
      ((aggB d.und = false ∧ l[o]? = some v) ∨ (aggB d.und = true ∧ ∃ l', (l.drop o).take d.size = l' ∧ l'.length = d.size ∧ v = .agg ⟨l'⟩)) :=
  ⟨b, o, l, t', fz, d, he, hm, ht, .inl ⟨ha, hl⟩⟩
theorem res_cellA {b o : Nat} {l l' : List Value} {t t' : TypeId} {fz : Nat × Nat} {d : TD} {a : Nat} (ht : TyOk P t d) (ha : aggB d.und = true) (he : E a = some (.pointer (some ⟨b, o, none⟩))) (hm : (b, .cells ⟨l⟩ t' fz) ∈ h) (hl : (l.drop o).take d.size = l') (hn : l'.length = d.size) :
    ∃ b o l t' fz d, E a = some (.pointer (some ⟨b, o, none⟩)) ∧ (b, .cells ⟨l⟩ t' fz) ∈ h ∧ TyOk P t d ∧
      ((aggB d.und = false ∧ l[o]? = some (.agg ⟨l'⟩)) ∨ (aggB d.und = true ∧ ∃ l'', (l.drop o).take d.size = l'' ∧ l''.length = d.size ∧ (.agg ⟨l'⟩ : Value) = .agg ⟨l''⟩)) :=
  ⟨b, o, l, t', fz, d, he, hm, ht, .inr ⟨ha, l', hl, hn, rfl⟩⟩
theorem rnd {σ : Type} {I : σ → Prop} {EI : σ → Env} {HI : σ → Hp} {μ : σ → Nat} {x : σ} {D0 : List Deferred} (x' : σ) (h1 : I x') (h2 : μ x' < μ x) (h3 : EnvLe (EI x') E) (h5 : List.Sublist (HI x') h) :
    Th (fun E' D' h' => ∃ x', I x' ∧ μ x' < μ x ∧ EnvLe (EI x') E' ∧ D' = D0 ∧ List.Sublist (HI x') h') Q .normal E D0 h := ⟨x', h1, h2, h3, rfl, h5⟩
theorem ro_nil : ResOk P E h [] [] := rfl
theorem ro_tmp {t : Nat} {v : Value} {rs : List ResultVar} {vs : List Value} (he : E t = some v) (H : ResOk P E h rs vs) : ResOk P E h (.tmp t :: rs) (v :: vs) := ⟨v, vs, rfl, he, H⟩
theorem ro_cell {b o : Nat} {l : List Value} {t t' : TypeId} {fz : Nat × Nat} {d : TD} {a : Nat} {v : Value} {rs : List ResultVar} {vs : List Value} (ht : TyOk P t d) (ha : aggB d.und = false) (he : E a = some (.pointer (some ⟨b, o, none⟩))) (hm : (b, .cells ⟨l⟩ t' fz) ∈ h) (hl : l[o]? = some v)
    (H : ResOk P E h rs vs) : ResOk P E h (.cell a t :: rs) (v :: vs) := ⟨v, vs, rfl, res_cell ht ha he hm hl, H⟩
theorem ro_cellA {b o : Nat} {l l' : List Value} {t t' : TypeId} {fz : Nat × Nat} {d : TD} {a : Nat} {rs : List ResultVar} {vs : List Value} (ht : TyOk P t d) (ha : aggB d.und = true) (he : E a = some (.pointer (some ⟨b, o, none⟩))) (hm : (b, .cells ⟨l⟩ t' fz) ∈ h) (hl : (l.drop o).take d.size = l') (hn : l'.length = d.size)
    (H : ResOk P E h rs vs) : ResOk P E h (.cell a t :: rs) (.agg ⟨l'⟩ :: vs) := ⟨_, vs, rfl, res_cellA ht ha he hm hl hn, H⟩
end Go.H

/-
  Small rules for drawn regions, and stores in the order in which they are asked.
-/
namespace Go.H
open Go
variable {P : Program} {r : Option Nat} {N : Nat} {Q : Post} {E : Env} {D : List Deferred} {h h' f : Hp} {ops : Array Oper} {G : Prom} {l : List Item} {L : List (Nat × (Obj → Prop))}
variable {K : Value → Hp → Prop} {T : List PanicEntry → Hp → Prop} {dst : Option Nat} {ty : TypeId} {pos : String} {af : Array Edge} {gd : Option (Nat × Bool)}
theorem qv_ext {o : Oper} {v : Value} (H : QV P r o E f v) : ∀ hh : Hp, QV P r o E (hh ++ f) v
  | [] => H
  | x :: hh => (qv_ext H hh).cons x
theorem js_S {i : Nat} {o : Oper} {v : Value} (hi : ops[i]? = some o) (hd : dstOk N o.dst = true) (hr : Runs ops o E) (H : XV P r o (fun v' h' => v' = v ∧ h' = f) (fun _ _ => False) E f) (H2 : J P r N ops D Q f L l (E.put o.dst v) G h) : J P r N ops D Q f L ((i, .S) :: l) E G h :=
  ⟨o, hi, hd, .inr ⟨hr, v, fun hh _ => qv_ext H hh, H2⟩⟩
theorem js_R {i : Nat} {o : Oper} {v : Value} (hi : ops[i]? = some o) (hd : dstOk N o.dst = true) (hr : Runs ops o E) (H : XV P r o (fun v' h' => v' = v ∧ h' = h ++ f) (fun _ _ => False) E (h ++ f)) (H2 : J P r N ops D Q f L l (E.put o.dst v) G h) : J P r N ops D Q f L ((i, .R) :: l) E G h :=
  ⟨o, hi, hd, .inr ⟨hr, v, H, H2⟩⟩
theorem js_Ss {i : Nat} {o : Oper} (hi : ops[i]? = some o) (hd : dstOk N o.dst = true) (hr : Skips ops o E) (H2 : J P r N ops D Q f L l (E.put o.dst undef) G h) : J P r N ops D Q f L ((i, .S) :: l) E G h := ⟨o, hi, hd, .inl ⟨hr, H2⟩⟩
theorem js_Rs {i : Nat} {o : Oper} (hi : ops[i]? = some o) (hd : dstOk N o.dst = true) (hr : Skips ops o E) (H2 : J P r N ops D Q f L l (E.put o.dst undef) G h) : J P r N ops D Q f L ((i, .R) :: l) E G h := ⟨o, hi, hd, .inl ⟨hr, H2⟩⟩
theorem js_Os {i : Nat} {o : Oper} (hi : ops[i]? = some o) (hd : dstOk N o.dst = true) (hr : Skips ops o E) (H2 : J P r N ops D Q f L l (E.put o.dst undef) G h) : J P r N ops D Q f L ((i, .O) :: l) E G h := ⟨o, hi, hd, .inl ⟨hr, H2⟩⟩
theorem js_P {i : Nat} {o : Oper} {mk : Nat → Value} {obj : Obj} (hi : ops[i]? = some o) (hd : dstOk N o.dst = true) (hg : o.guard = none) (H : AL P o E mk obj) (H2 : J P r N ops D Q f L l E (G.add i ⟨mk, obj, restr o E⟩) h) : J P r N ops D Q f L ((i, .P) :: l) E G h :=
  ⟨o, hi, hd, hg, mk, obj, H, H2⟩
def EqL : List Nat → Env → Env → Prop
  | [], _, _ => True
  | t :: l, E, E' => E t = E' t ∧ EqL l E E'
def tmpsOf : List Operand → List Nat
  | [] => []
  | .tmp t :: l => t :: tmpsOf l
  | _ :: l => tmpsOf l
theorem mem_tmpsOf : ∀ {l : List Operand} {t : Nat}, .tmp t ∈ l → t ∈ tmpsOf l
  | x :: l, t, hm => by
    rcases List.mem_cons.1 hm with e | hm
    · subst e; simp [tmpsOf]
    · have ih := mem_tmpsOf hm
      cases x <;> simp [tmpsOf, ih]
theorem eqL_mem : ∀ {l : List Nat} {E E' : Env}, EqL l E E' → ∀ t ∈ l, E t = E' t
  | _ :: _, _, _, hh, t, hm => by
    rcases List.mem_cons.1 hm with e | hm
    · subst e; exact hh.1
    · exact eqL_mem hh.2 t hm
theorem js_A {i : Nat} {o : Oper} {mk : Nat → Value} {obj : Obj} {E0 : Env} {tl : List Nat} (hi : ops[i]? = some o) (hd : dstOk N o.dst = true) (hg : o.guard = none) (hG : G i = some ⟨mk, obj, restr o E0⟩) (ht : tmpsOf o.op.operands.toList = tl) (he : EqL tl E0 E)
    (H2 : ∀ b, b ∉ keys (h ++ f) → J P r N ops D Q f L l (E.put o.dst (mk b)) G ((b, obj) :: h)) : J P r N ops D Q f L ((i, .A) :: l) E G h :=
  ⟨o, hi, hd, hg, _, hG, (restr_eqOn o E0).trans (fun t hm => eqL_mem he t (by rw [← ht]; exact mem_tmpsOf (by simpa using hm))), H2⟩
theorem js_O {i : Nat} {o : Oper} (hi : ops[i]? = some o) (hd : dstOk N o.dst = true) (hr : Runs ops o E) (H : XV P r o (fun v h'' => ∃ h', List.Perm (h' ++ f) h'' ∧ Holds L h' ∧ J P r N ops D Q f L l (E.put o.dst v) G h') (fun ch h'' => Q (.panic ch) emp D h'') E (h ++ f)) : J P r N ops D Q f L ((i, .O) :: l) E G h :=
  ⟨o, hi, hd, .inr ⟨hr, H⟩⟩
theorem j_end0 {Ep : Env} (H : Q .normal E D h) : J P r N ops D (PanEnv Ep Q) [] L [] E G h := ⟨h, by simp, H⟩
theorem xc_draw {id : Nat} {h' : Hp} (c : List Item) (f h : Hp) (hm : P.follows .mixedOrders = true) (hck : drawOk N ops c = true) (hp : List.Perm (h ++ f) h') (H : J P r N ops D (PanEnv (mask ops E) Q) f [] c E (fun _ => none) h) : XC P r N (.region id ops true) Q E D h' :=
  xc_drawL c f h hm hck hp .nil H
theorem xc_draw0 {id : Nat} (c : List Item) (hm : P.follows .mixedOrders = true) (hck : drawOk N ops c = true) (H : J P r N ops D (PanEnv (mask ops E) Q) [] [] c E (fun _ => none) h) : XC P r N (.region id ops true) Q E D h :=
  xc_draw c [] h hm hck (by simp) H
theorem xv_s1 {t : TypeId} {x y : Operand} {b o : Nat} {l l' : List Value} {t' : TypeId} {v : Value} {d : TD} (ht : TyOk P t d) (hd : d.size = 1) (hx : ev E x = some (.pointer (some ⟨b, o, none⟩))) (hy : ev E y = some v)
    (hm : Upd h b (.cells ⟨l⟩ t' (0, 0)) (.cells ⟨l'⟩ t' (0, 0)) h') (h1 : v.oneCell' = true) (hr : o < l.length) (hl : l.set o v = l') (H : K undef h') : XV P r ⟨dst, .store t x y, ty, pos, af, gd⟩ K T E h :=
  xv_st1 ht hd hx hy h1 hr hl hm H
theorem xv_s {t : TypeId} {x y : Operand} {b o : Nat} {l l' vs : List Value} {t' : TypeId} {v : Value} {d : TD} (ht : TyOk P t d) (hx : ev E x = some (.pointer (some ⟨b, o, none⟩))) (hy : ev E y = some v)
    (hm : Upd h b (.cells ⟨l⟩ t' (0, 0)) (.cells ⟨l'⟩ t' (0, 0)) h') (hv : v.cells.toList = vs) (hn : vs.length = d.size) (h1 : vs.all Value.oneCell' = true) (hr : Nat.ble (o + d.size) l.length = true) (hl : splice l o vs = l') (H : K undef h') : XV P r ⟨dst, .store t x y, ty, pos, af, gd⟩ K T E h :=
  xv_st ht hx hy hv hn h1 hl hr hm H
end Go.H

/-
  A slice that reads as a list of structs.
-/
namespace Go.H
open Go
variable {P : Program} {h h' : Hp}
def SlV {α : Type} (h : Hp) (sz : Nat) (enc : α → List Value) (a : Option Addr) (xs : List α) : Prop :=
  xs = [] ∨ ∃ b o l t fz, a = some ⟨b, o, none⟩ ∧ (b, .cells ⟨l⟩ t fz) ∈ h ∧ ∀ i x, xs[i]? = some x → (l.drop (o + i * sz)).take sz = enc x
theorem SlV.at {α : Type} {sz : Nat} {enc : α → List Value} {a : Option Addr} {xs : List α} (H : SlV h sz enc a xs) {i : Nat} (hi : i < xs.length) :
    ∃ b o l t fz, a = some ⟨b, o, none⟩ ∧ (b, .cells ⟨l⟩ t fz) ∈ h ∧ ∀ i x, xs[i]? = some x → (l.drop (o + i * sz)).take sz = enc x := by
  rcases H with rfl | H
  · simp at hi
  · exact H
theorem SlV.sub {α : Type} {sz : Nat} {enc : α → List Value} {a : Option Addr} {xs : List α} (H : SlV h sz enc a xs) (hs : h ⊆ h') : SlV h' sz enc a xs := by
  rcases H with rfl | ⟨b, o, l, t, fz, h1, h2, h3⟩
  · exact .inl rfl
  · exact .inr ⟨b, o, l, t, fz, h1, hs h2, h3⟩
theorem SlV.cons {α : Type} {sz : Nat} {enc : α → List Value} {a : Option Addr} {xs : List α} (H : SlV h sz enc a xs) (x : Nat × Obj) : SlV (x :: h) sz enc a xs := H.sub (List.subset_cons_self _ _)
theorem take_get {l e : List Value} {o sz j : Nat} {v : Value} (hl : (l.drop o).take sz = e) (hj : e[j]? = some v) : l[o + j]? = some v := by
  subst hl
  have hlt : j < sz := by
    have := (List.getElem?_eq_some_iff.1 hj).1
    simp at this; omega
  rwa [List.getElem?_take_of_lt hlt, List.getElem?_drop] at hj
end Go.H


/-
  The logic of owned blocks over the kit, part HD.
-/
set_option linter.all false
/-
  Small tactics: a block's place in the list of blocks.
-/
namespace Go.H
open Go
theorem evl_cons {α : Type _} {l t t' : List α} {x x' : α} (h : l = x :: t) (hx : x = x') (ht : t = t') : l = x' :: t' := by rw [h, hx, ht]
theorem evl_some {α : Type _} {o : Option (List α)} {l l' : List α} (h : o = some l) (h2 : l = l') : o = some l' := by rw [h, h2]
variable {P : Program} {h h' : Hp}
theorem z_0 {α : Type _} {a : α} {l : List α} : a ∈ a :: l := List.mem_cons_self
theorem z_1 {α : Type _} {a b : α} {l : List α} (h : a ∈ l) : a ∈ b :: l := List.mem_cons_of_mem _ h
theorem z_r {α : Type _} {a : α} {l r : List α} (h : a ∈ r) : a ∈ l ++ r := List.mem_append_right _ h
theorem z_l {α : Type _} {a : α} {l r : List α} (h : a ∈ l) : a ∈ l ++ r := List.mem_append_left _ h
theorem s_0 {α : Type _} {l : List α} : List.Sublist l l := List.Sublist.refl _
theorem s_1 {α : Type _} {l : List α} : List.Sublist [] l := List.nil_sublist _
theorem s_3 {α : Type _} {l r : List α} : List.Sublist l (l ++ r) := List.sublist_append_left _ _
theorem s_4 {α : Type _} {l r r' : List α} (h : List.Sublist r r') : List.Sublist (l ++ r) (l ++ r') := List.Sublist.append (List.Sublist.refl _) h
theorem s_5 {α : Type _} {a : α} {l r : List α} (h : List.Sublist l r) : List.Sublist (a :: l) (a :: r) := List.Sublist.cons_cons _ h
theorem s_6 {α : Type _} {a : α} {l r : List α} (h : List.Sublist l r) : List.Sublist l (a :: r) := List.Sublist.cons _ h
theorem s_7 {α : Type _} {x l r : List α} (h : List.Sublist x r) : List.Sublist x (l ++ r) := List.Sublist.trans h (List.sublist_append_right _ _)
theorem s_8 {α : Type _} {x l r : List α} (h : List.Sublist x l) : List.Sublist x (l ++ r) := List.Sublist.trans h (List.sublist_append_left _ _)
theorem u_0 {b : Nat} {o o' : Obj} {h : Hp} : Upd ((b, o) :: h) b o o' ((b, o') :: h) := .here
theorem u_1 {x : Nat × Obj} {b : Nat} {o o' : Obj} {h h' : Hp} (H : Upd h b o o' h') : Upd (x :: h) b o o' (x :: h') := .there H
theorem u_2 {h h' : Hp} {b : Nat} {o o' : Obj} {f : Hp} (H : Upd h b o o' h') : Upd (f ++ h) b o o' (f ++ h') := Upd.left f H
theorem u_3 {h h' : Hp} {b : Nat} {o o' : Obj} {f : Hp} (H : Upd h b o o' h') : Upd (h ++ f) b o o' (h' ++ f) := Upd.append H
theorem v_1 {k : IntKind} {n : Int} : Value.int k n = .int k n := rfl
theorem v_2 {b : Bool} : Value.bool b = .bool b := rfl
theorem v_3 {a : Option Addr} : Value.pointer a = .pointer a := rfl
theorem v_4 {a : Option Addr} {n c : Nat} : Value.slice a n c = .slice a n c := rfl
theorem v_5 {c : Array Value} : Value.agg c = .agg c := rfl
theorem v_6 {r : Option Nat} : Value.map r = .map r := rfl
theorem v_7 {f : Fn} {a b : Array Value} : Value.func f a b = .func f a b := rfl
theorem v_8 {t : TypeId} {v : Value} : Value.iface t v = .iface t v := rfl
theorem v_9 {s : ByteArray} : Value.string s = .string s := rfl
theorem AFn.framed {fv : Value} {args : List Value} {R : Ending → Hp → Prop} (g : Hp) (H : AFn P fv args h (fun e h' => R e (g ++ h'))) : AFn P fv args (g ++ h) R :=
  (AFn.frameL g H).mono (by rintro e _ ⟨h', rfl, q⟩; exact q)
theorem ACalls.framed {f : FuncId} {args : Array Value} {R : Ending → Hp → Prop} (g : Hp) (H : ACalls P f args h (fun e h' => R e (g ++ h'))) : ACalls P f args (g ++ h) R := by
  intro w ho
  refine (ACalls.frameL g H w ho).mono ?_
  rintro e w' ⟨h2, ⟨h', rfl, q⟩, hf⟩
  exact ⟨_, q, hf⟩
theorem Vec.one (V : Vec) (n : Nat) : (V.val n).oneCell' = true := by cases V <;> rfl
section
variable {r : Option Nat} {E : Env} {K : Value → Hp → Prop} {T : List PanicEntry → Hp → Prop} {dst : Option Nat} {ty : TypeId} {pos : String} {af : Array Edge} {gd : Option (Nat × Bool)}
theorem xv_ia {x y : Operand} {t e : TypeId} {d : TD} {b o n c : Nat} {k : IntKind} {i : Int} {j sz : Nat} (ht : SlT P t e) (hd : TyOk P e d) (hs : d.size = sz) (hx : ev E x = some (.slice (some ⟨b, o, none⟩) n c)) (hy : ev E y = some (.int k i)) (hj : i.toNat = j) (h0 : 0 ≤ i) (h1 : i < n)
    (H : K (.pointer (some ⟨b, o + j * sz, none⟩)) h) : XV P r ⟨dst, .indexAddr t x y, ty, pos, af, gd⟩ K T E h :=
  xv_iaddr ht hd hx hy h0 h1 (by rw [hs, hj]; exact H)
theorem xv_iaA {x y : Operand} {t e : TypeId} {d : TD} {b o n : Nat} {k : IntKind} {i : Int} {j sz : Nat} (ht : P.underlying t = some (.array n e)) (hd : TyOk P e d) (hs : d.size = sz) (hx : ev E x = some (.pointer (some ⟨b, o, none⟩))) (hy : ev E y = some (.int k i)) (hj : i.toNat = j) (h0 : 0 ≤ i) (h1 : i < n)
    (H : K (.pointer (some ⟨b, o + j * sz, none⟩)) h) : XV P r ⟨dst, .indexAddr t x y, ty, pos, af, gd⟩ K T E h :=
  xv_iaddrA ht hd hx hy h0 h1 (by rw [hs, hj]; exact H)
end
section
variable {r : Option Nat} {N : Nat} {Q : Post} {E : Env} {D : List Deferred} {ops : Array Oper} {G : Prom} {l : List Item} {L : List (Nat × (Obj → Prop))}
theorem js_R0 {i : Nat} {o : Oper} {v : Value} (hi : ops[i]? = some o) (hd : dstOk N o.dst = true) (hr : Runs ops o E) (H : XV P r o (fun v' h' => v' = v ∧ h' = h) (fun _ _ => False) E h) (H2 : J P r N ops D Q [] L l (E.put o.dst v) G h) : J P r N ops D Q [] L ((i, .R) :: l) E G h :=
  js_R hi hd hr (by rw [List.append_nil]; exact H) H2
theorem js_O0 {i : Nat} {o : Oper} (hi : ops[i]? = some o) (hd : dstOk N o.dst = true) (hr : Runs ops o E) (H : XV P r o (fun v h' => J P r N ops D Q [] [] l (E.put o.dst v) G h') (fun ch h'' => Q (.panic ch) emp D h'') E h) : J P r N ops D Q [] [] ((i, .O) :: l) E G h :=
  js_O hi hd hr (by rw [List.append_nil]; exact H.mono (fun v h' k => ⟨h', by simp, .nil, k⟩) (fun _ _ k => k))
theorem holds1 {b : Nat} {o : Obj} {p : Obj → Prop} (hm : (b, o) ∈ h) (hp : p o) : Holds [(b, p)] h := fun b' p' hb => by
  simp only [List.mem_singleton, Prod.mk.injEq] at hb
  obtain ⟨rfl, rfl⟩ := hb
  exact ⟨o, hm, hp⟩
theorem js_A0 {i : Nat} {o : Oper} {mk : Nat → Value} {obj : Obj} {E0 : Env} {tl : List Nat} (hi : ops[i]? = some o) (hd : dstOk N o.dst = true) (hg : o.guard = none) (hG : G i = some ⟨mk, obj, restr o E0⟩) (ht : tmpsOf o.op.operands.toList = tl) (he : EqL tl E0 E)
    (H2 : ∀ b, b ∉ keys h → J P r N ops D Q [] L l (E.put o.dst (mk b)) G ((b, obj) :: h)) : J P r N ops D Q [] L ((i, .A) :: l) E G h :=
  js_A hi hd hg hG ht he (by simpa using H2)
end
end Go.H

/-
  Deferred calls: a closure that recovers; the end of a function that has one.
-/
namespace Go.H
open Go
variable {P : Program} {r : Option Nat} {N : Nat} {Q : Post} {E : Env} {D : List Deferred} {h : Hp}
def DCalls (P : Program) (f : FuncId) (args : Array Value) (u : FrameMode) (h : Hp) (R : Ending → FrameMode → Hp → Prop) : Prop :=
  ∀ w, Own h w → CallsDIn (fen none) 0 P f args u w fun e u' w' => ∃ h', R e u' h' ∧ Fol h w h' w'
theorem callsDIn_wpS {f : FuncId} {fn : Func} {c : Code} {args : Array Value} {u : FrameMode} {w : World} {R : Ending → FrameMode → World → Prop}
    (hf : P.funcs[f]? = some fn) (hb : fn.body = some c)
    (H : ∀ (c₀ : Frame) (cs : List Frame), c₀.mode = u → c.wpS P (bodyPostS P fn c₀ cs R) { tmps := args ++ Array.replicate (fn.ntmps - args.size) undef, defers := [] } (c₀ :: cs) w) :
    CallsDIn (fen none) 0 P f args u w R := by
  refine ⟨trivial, fun c₀ cs hu _ => ?_⟩
  obtain ⟨b, hbq⟩ : ∃ b : Frame, b = { (default : Frame) with fn := f, kind := .deferred } := ⟨_, rfl⟩
  have hbk : b.kind = .deferred := by rw [hbq]
  have hbr : b.roundOf = none := by rw [hbq]; rfl
  have hbf : b.fn = f := by rw [hbq]
  have henter : Frame.enter P f args .deferred = b.at { tmps := args ++ Array.replicate (fn.ntmps - args.size) undef, defers := [] } [.code c] := by
    simp [Frame.enter, Frame.at, hf, hb, hbq]
  obtain ⟨e, a', cs', w', hq, harr⟩ := H c₀ cs hu b [] hbk hbr
  rw [← henter] at harr
  cases e with
  | normal =>
    obtain ⟨hd, u', rfl, v, hr, hR⟩ := hq
    exact ⟨.returned v, u', w', { b.at a' [] with mode := .returning }, hR, (comesIn_wide (e := .returned v)).2 (Steps.trans harr (.one step_end)), hbk, hbf, rfl, hd, fn, by simp only [Frame.at, hbf]; exact hf, hr⟩
  | ret =>
    obtain ⟨hd, u', rfl, v, hr, hR⟩ := hq
    obtain ⟨todo, hs⟩ := harr
    exact ⟨.returned v, u', w', { b.at a' todo with mode := .returning }, hR, (comesIn_wide (e := .returned v)).2 hs, hbk, hbf, rfl, hd, fn, by simp only [Frame.at, hbf]; exact hf, hr⟩
  | panic chain =>
    obtain ⟨hd, u', rfl, hR⟩ := hq
    obtain ⟨todo, hs⟩ := harr
    exact ⟨.panicked chain, u', w', { b.at a' todo with mode := .panicking chain }, hR, (comesIn_wide (e := .panicked chain)).2 hs, hbk, hbf, rfl, hd, fn, by simp only [Frame.at, hbf]; exact hf⟩
  | exit id => exact hq.elim
  | goto l => exact hq.elim
  | outgrown =>
    obtain ⟨u', hR⟩ := hq
    exact ⟨.outgrown, u', w', b, hR, harr.resolve_left (by rw [hbk]; simp), hbk, hbf, trivial⟩
def recV : FrameMode → Value × FrameMode
  | .panicking ({ v, recovered := false, goexit := false } :: older) => (v, .panicking ({ v, recovered := true } :: older))
  | u => (.nilIface, u)
def RecPost (R : Ending → FrameMode → Hp → Prop) (u : FrameMode) : Post
  | .normal, _, D, h | .ret, _, D, h => D = [] ∧ ∃ h', List.Sublist h' h ∧ R (.returned (.tuple #[])) u h'
  | .panic ch, _, D, h => D = [] ∧ ∃ h', List.Sublist h' h ∧ R (.panicked ch) u h'
  | _, _, _, _ => False
theorem recoverD_recV (c : Frame) (cs : List Frame) : (match recoverD (c :: cs) with | some (v, cs') => (v, cs') | none => (Value.nilIface, c :: cs)) = ((recV c.mode).1, { c with mode := (recV c.mode).2 } :: cs) := by
  obtain ⟨m⟩ : ∃ m, m = c.mode := ⟨_, rfl⟩
  unfold recoverD recV
  cases hm : c.mode with
  | panicking ch =>
    cases ch with
    | nil => simp [hm]; cases c; simp_all
    | cons e older =>
      obtain ⟨v, rc, gx⟩ := e
      cases rc <;> cases gx <;> simp [hm] <;> cases c <;> simp_all
  | _ => simp [hm]; cases c; simp_all
theorem dcalls_rec {f : FuncId} {fn : Func} {id t1 t2 : Nat} {ty1 ty2 : TypeId} {p1 p2 : String} {a1 a2 : Array Edge} {rest : Code} {vs : List Value} {u : FrameMode} {R : Ending → FrameMode → Hp → Prop}
    (hf : P.funcs[f]? = some fn) (hb : fn.body = some (.seq (.region id #[⟨some t1, .call ⟨.builtin .recover, #[], #[]⟩, ty1, p1, a1, none⟩, ⟨some t2, .assign (.tmp t1), ty2, p2, a2, none⟩] false) rest)) (hres : fn.results = #[])
    (hN : N = vs.length + (fn.ntmps - vs.length)) (h1 : Nat.blt t1 N = true) (h2 : Nat.blt t2 N = true)
    (H : XC P none N rest (RecPost R (recV u).2) (((ofL vs).put (some t1) (recV u).1).put (some t2) (recV u).1) [] h) : DCalls P f ⟨vs⟩ u h R := by
  intro w ho
  refine callsDIn_wpS hf hb fun c₀ cs hu => wpS_seq (wpS_region ?_)
  have hA := agree_ofL vs (fn.ntmps - vs.length)
  rw [← hN] at hA
  have hlt1 : t1 < N := by simpa [Nat.blt_eq] using h1
  have hlt2 : t2 < N := by simpa [Nat.blt_eq] using h2
  obtain ⟨a0, ha0⟩ : ∃ a0 : Act, a0 = { tmps := (⟨vs⟩ : Array Value) ++ Array.replicate (fn.ntmps - (⟨vs⟩ : Array Value).size) undef, defers := [] } := ⟨_, rfl⟩
  have hA' : Agree N (ofL vs) a0 := by rw [ha0]; simpa using hA
  rw [← ha0]
  have hd0 : a0.defers = [] := by rw [ha0]
  have hA1 := hA'.put (d := some t1) (v := (recV u).1) (fun k hk => by cases hk; exact hlt1)
  have hA2 := hA1.put (d := some t2) (v := (recV u).1) (fun k hk => by cases hk; exact hlt2)
  have hx : (a0.put (some t1) (recV u).1).eval (.tmp t1) = (recV u).1 := hA1.ev (by simp [ev, Env.put])
  have hrest := H w _ ho hA2 (by simp [Act.put, hd0])
  have hgo : rest.wpS P (bodyPostS P fn c₀ cs (fun e u' w' => ∃ h', R e u' h' ∧ Fol h w h' w')) ((a0.put (some t1) (recV u).1).put (some t2) (recV u).1) ({ c₀ with mode := (recV u).2 } :: cs) w := by
    refine wpS_of_wp (wpIn_wide.1 (wpIn_mono hrest ?_))
    rintro e a' w' ⟨E', h', q, ha', hfol⟩
    have hr0 : (results fn a'.tmps).run P w' = .ok (.tuple #[]) w' := results_run (vs := []) (by rw [hres]; simp)
    cases e with
    | normal => obtain ⟨hd, h2, hs, hR⟩ := q; exact ⟨hd, _, rfl, _, hr0, h2, hR, hfol.sub hs⟩
    | ret => obtain ⟨hd, h2, hs, hR⟩ := q; exact ⟨hd, _, rfl, _, hr0, h2, hR, hfol.sub hs⟩
    | panic ch => obtain ⟨hd, h2, hs, hR⟩ := q; exact ⟨hd, _, rfl, h2, hR, hfol.sub hs⟩
    | exit id => exact q.elim
    | goto l => exact q.elim
    | outgrown => exact q.elim
  have hrd := recoverD_recV c₀ cs
  rw [hu] at hrd
  have hl : List.range (#[(⟨some t1, .call ⟨.builtin .recover, #[], #[]⟩, ty1, p1, a1, none⟩ : Oper), ⟨some t2, .assign (.tmp t1), ty2, p2, a2, none⟩] : Array Oper).size = [0, 1] := rfl
  rw [hl]
  have hex : (execOp a0.eval ⟨some t1, .call ⟨.builtin .recover, #[], #[]⟩, ty1, p1, a1, none⟩).run P w = .ok .recover w := by
    obtain ⟨cs, hcs⟩ := run_builtin (P := P) (dst := some t1) (ty := ty1) (pos := p1) (af := a1) (gd := none) a0.eval .recover #[] #[] w
    rw [hcs]; simp [builtin]
  have hx2 : (execOp (a0.put (some t1) (recV u).1).eval ⟨some t2, .assign (.tmp t1), ty2, p2, a2, none⟩).run P w = .ok (.value (recV u).1) w := by
    simp [execOp, hx]
  have hstep : ∀ cs', wpOpsS P #[⟨some t1, .call ⟨.builtin .recover, #[], #[]⟩, ty1, p1, a1, none⟩, ⟨some t2, .assign (.tmp t1), ty2, p2, a2, none⟩] (Exit.thenS (rest.wpS P (bodyPostS P fn c₀ cs (fun e u' w' => ∃ h', R e u' h' ∧ Fol h w h' w'))) (bodyPostS P fn c₀ cs (fun e u' w' => ∃ h', R e u' h' ∧ Fol h w h' w'))) [1] (a0.put (some t1) (recV u).1) cs' w =
      rest.wpS P (bodyPostS P fn c₀ cs (fun e u' w' => ∃ h', R e u' h' ∧ Fol h w h' w')) ((a0.put (some t1) (recV u).1).put (some t2) (recV u).1) cs' w := by
    intro cs'
    simp [wpOpsS, Region.wanted, hx2, Oper.upon, Exit.thenS]
  unfold wpOpsS
  simp only [List.getElem?_toArray, List.getElem?_cons_zero, Region.wanted, if_true, hex]
  cases hq : recoverD (c₀ :: cs) with
  | none =>
    rw [hq] at hrd
    simp only [Prod.mk.injEq] at hrd
    rw [hrd.1, hstep, hrd.2]
    exact hgo
  | some p =>
    obtain ⟨v, cs'⟩ := p
    rw [hq] at hrd
    simp only [Prod.mk.injEq] at hrd
    simp only
    rw [hrd.1, hstep, hrd.2]
    exact hgo
def LeavesH (P : Program) (fn : Func) (R : Ending → Hp → Prop) (E : Env) : List Deferred → FrameMode → Hp → Prop
  | [], .returning, h => ∃ vs h', ResOk P E h fn.results.toList vs ∧ List.Sublist h' h ∧ R (.returned (tupV vs)) h'
  | [], .panicking ch, h => R (.panicked ch) h
  | [], .run, _ => False
  | d :: ds, u, h => u ≠ .run ∧ ∃ g cap args, d = { target := .fn (.func g) ⟨cap⟩, args := ⟨args⟩ } ∧ HasBody P g ∧ DCalls P g ⟨args ++ cap⟩ u h fun
      | .returned _, u', h' => LeavesH P fn R E ds (settle u') h'
      | .panicked ch, u', h' => LeavesH P fn R E ds (raised u' ch) h'
      | .outgrown, _, _ => False
theorem leavesH_M {fn : Func} {R : Ending → Hp → Prop} {a : Act} {h0 : Hp} {w0 : World} (ha : Agree N E a) : ∀ (ds : List Deferred) (u : FrameMode) (h : Hp) (w : World), LeavesH P fn R E ds u h → Fol h0 w0 h w →
    LeavesInM (fen none) 0 P fn a.tmps (fun e w' => ∃ h', R e h' ∧ Fol h0 w0 h' w') ds u w
  | [], u, h, w, H, hf => by
    cases u with
    | run => exact H.elim
    | returning =>
      obtain ⟨vs, h', hres, hs, hR⟩ := H
      exact ⟨tupV vs, results_run (hres.run ha rfl (fun b l t fz hb => hf.own.has _ _ hb)), h', hR, hf.sub hs⟩
    | panicking ch => exact ⟨h, H, hf⟩
  | d :: ds, u, h, w, H, hf => by
    obtain ⟨hu, g, cap, args, rfl, hb, hD⟩ := H
    refine ⟨hu, .inr ⟨fun hh => by simp [fen, Fence.wide] at hh, .func g, ⟨cap⟩, g, ⟨args ++ cap⟩, rfl, ?_, fun _ _ => trivial, ?_⟩⟩
    · simpa [invoke] using hb ⟨args ++ cap⟩ w
    · refine (hD w hf.own).mono ?_
      rintro e u' w' ⟨h', hR, hf'⟩
      cases e with
      | returned v => exact leavesH_M ha ds _ h' w' hR (hf.trans hf')
      | panicked ch => exact leavesH_M ha ds _ h' w' hR (hf.trans hf')
      | outgrown => exact hR.elim
def BodyD (P : Program) (fn : Func) (R : Ending → Hp → Prop) : Post
  | .normal, E, D, h | .ret, E, D, h => LeavesH P fn R E D .returning h
  | .panic ch, E, D, h => LeavesH P fn R E D (.panicking ch) h
  | _, _, _, _ => False
theorem calls_of_xcD {f : FuncId} {fn : Func} {c : Code} {vs : List Value} {R : Ending → Hp → Prop} (hf : P.funcs[f]? = some fn) (hb : fn.body = some c) (hN : N = vs.length + (fn.ntmps - vs.length))
    (H : XC P none N c (BodyD P fn R) (ofL vs) [] h) : ACalls P f ⟨vs⟩ h R := by
  intro w ho
  have hA := agree_ofL vs (fn.ntmps - vs.length)
  rw [← hN] at hA
  refine (callsIn_fen (r := none) (n := 0)).1 (callsIn_of_wp_marks hf hb trivial (wpIn_mono (H w _ ho hA rfl) ?_) rfl)
  rintro e a' w' ⟨E', h', q, ha', hfol⟩
  cases e with
  | normal => exact leavesH_M ha' _ _ h' w' q hfol
  | ret => exact leavesH_M ha' _ _ h' w' q hfol
  | panic ch => exact leavesH_M ha' _ _ h' w' q hfol
  | exit id => exact q.elim
  | goto l => exact q.elim
  | outgrown => exact q.elim
theorem xr_defer {ops : Array Oper} {i : Nat} {c : Operand} {az : Array Operand} {at_ : Array TypeId} {fn : Fn} {fi ca vs : List Value} {dst : Option Nat} {ty : TypeId} {pos : String} {af : Array Edge} (hi : ops[i]? = some ⟨dst, .defer ⟨.value c, az, at_⟩, ty, pos, af, none⟩) (hd : dstOk N dst = true)
    (hc : ev E c = some (.func fn ⟨fi⟩ ⟨ca⟩)) (hv : evs E az.toList = some vs)
    (H : XR P none N ops (i + 1) Q (E.put dst undef) ({ target := .fn fn ⟨ca⟩, args := ⟨fi ++ vs⟩ } :: D) h) : XR P none N ops i Q E D h := by
  unfold XR
  rw [range'_at hi]
  intro w a ho ha hda
  simp only [wpOpsIn, hi]
  have hw : Region.wanted ⟨dst, .defer ⟨.value c, az, at_⟩, ty, pos, af, none⟩ (yielded ops a.tmps) = true := rfl
  rw [if_pos hw]
  refine ⟨fun _ _ => trivial, ?_⟩
  have hres := resolve_value (P := P) (ρ := a.eval) (args := az) (at_ := at_) (t := ty) (w := w) (ha.ev hc)
  have hm : az.map a.eval = ⟨vs⟩ := evs_arr (fun x v hx => ha.ev hx) hv
  have hex : (Oper.semAt (fen none).round a.eval ⟨dst, .defer ⟨.value c, az, at_⟩, ty, pos, af, none⟩).run P w = .ok (.defer { target := .fn fn ⟨ca⟩, args := ⟨fi ++ vs⟩ }) w := by
    simp [Oper.semAt, fen, execOp, hres, hm]
  rw [hex]
  simp only [Oper.uponIn]
  have ha2 : Agree N E { a with defers := { target := .fn fn ⟨ca⟩, args := ⟨fi ++ vs⟩ } :: a.defers } := ⟨ha.size, ha.val⟩
  refine H w _ ho (ha2.put (dstOk_lt hd)) ?_
  cases dst <;> simp [Act.put, hda]
theorem xv_neNil0 {K : Value → Hp → Prop} {T : List PanicEntry → Hp → Prop} {dst : Option Nat} {ty : TypeId} {pos : String} {af : Array Edge} {gd : Option (Nat × Bool)} {xt yt : TypeId} {x : Operand} (ht : ∃ ms, P.underlying xt = some (.interface ms)) (hx : ev E x = some .nilIface) (H : K (.bool false) h) : XV P r ⟨dst, .binOp .neq xt x (.const .nilIface) yt, ty, pos, af, gd⟩ K T E h :=
  xv_of_run (by simp [plainOp]) fun w ρ ho he => ⟨_, h, w, by
    obtain ⟨ms, ht⟩ := ht
    have hg : ∀ w, (eqGuard .neq xt x (.const .nilIface) .nilIface .nilIface).run P w = .ok () w := fun w => by unfold eqGuard; simp
    rw [run_bin (he _ _ hx) (he (.const .nilIface) _ rfl) hg]
    have hq0 : ∀ n, (Op.equalIn (n + 1) xt .nilIface .nilIface).run P w = .ok true w := fun n => by
      simp only [Op.equalIn, Sem.run_bind, run_underlying ht, Result.andThen_ok, Sem.run_pure]
    have hq := hq0 9999
    have hb : (binOp .neq xt .nilIface .nilIface).run P w = .ok (.bool false) w := by
      show (do let b ← Op.equalIn (9999 + 1) xt .nilIface .nilIface; pure (Value.bool (!b)) : Sem Value).run P w = _
      simp only [Sem.run_bind, hq, Result.andThen_ok, Sem.run_pure, Bool.not_true]
    rw [hb]; rfl, H, .refl ho⟩
section
variable {K : Value → Hp → Prop} {T : List PanicEntry → Hp → Prop} {dst : Option Nat} {ty : TypeId} {pos : String} {af : Array Edge} {gd : Option (Nat × Bool)} {xt yt : TypeId} {x y : Operand} {k : IntKind} {a b : Int}
theorem xv_neqT (hx : ev E x = some (.int k a)) (hy : ev E y = some (.int k b)) (hn : a ≠ b) (H : K (.bool true) h) : XV P r ⟨dst, .binOp .neq xt x y yt, ty, pos, af, gd⟩ K T E h := xv_cmp hx hy (by simp [cmpB, hn]) H
theorem xv_neqF (hx : ev E x = some (.int k a)) (hy : ev E y = some (.int k b)) (hn : a = b) (H : K (.bool false) h) : XV P r ⟨dst, .binOp .neq xt x y yt, ty, pos, af, gd⟩ K T E h := xv_cmp hx hy (by simp [cmpB, hn]) H
theorem xv_eqlT (hx : ev E x = some (.int k a)) (hy : ev E y = some (.int k b)) (hn : a = b) (H : K (.bool true) h) : XV P r ⟨dst, .binOp .eql xt x y yt, ty, pos, af, gd⟩ K T E h := xv_cmp hx hy (by simp [cmpB, hn]) H
theorem xv_eqlF (hx : ev E x = some (.int k a)) (hy : ev E y = some (.int k b)) (hn : a ≠ b) (H : K (.bool false) h) : XV P r ⟨dst, .binOp .eql xt x y yt, ty, pos, af, gd⟩ K T E h := xv_cmp hx hy (by simp [cmpB, hn]) H
end
end Go.H

/-
  Ranges over functions, as they are walked: a ghost, garbage let go; the end of a body with marks.
-/
namespace Go.H
open Go
variable {P : Program} {r : Option Nat} {N : Nat} {Q : Post} {E : Env} {D : List Deferred} {h h' : Hp}
def Mon (Q : Post) : Prop := ∀ E D h h', List.Sublist h h' → Q .normal E D h → Q .normal E D h'
theorem EnvLe.rfl' (E : Env) : EnvLe E E := fun _ _ hh => hh
theorem mon_th {y : Code} {Q' : Post} : Mon (Th (XC P r N y Q) Q') := fun _ _ _ _ hs hq => XC.weaken (EnvLe.rfl' _) hs hq
theorem mon_bk {id : Nat} (H : Mon Q) : Mon (Bk id Q) := fun E D h h' hs hq => H E D h h' hs hq
def RndA (K : Env → List Deferred → Hp → Prop) : Post
  | .normal, E, D, h => K E D h
  | _, _, _, _ => False
def RndQ {γ : Type} (Inv : Nat → γ → Prop) (HI : Nat → γ → Hp) (k : Nat) (Ix : Code → Nat → Hp → Prop) : Post
  | .normal, _, D, h => D = [] ∧ ∃ g, Inv (k + 1) g ∧ List.Sublist (HI (k + 1) g) h
  | .ret, _, D, h => D = [] ∧ Ix .ret (k + 1) h
  | .exit id, _, D, h => D = [] ∧ Ix (.exit id) (k + 1) h
  | _, _, _, _ => False
theorem rndA_n {K : Env → List Deferred → Hp → Prop} (H : K E D h) : RndA K .normal E D h := H
theorem rndQ_n {γ : Type} {Inv : Nat → γ → Prop} {HI : Nat → γ → Hp} {k : Nat} {Ix : Code → Nat → Hp → Prop} (g : γ) (h1 : Inv (k + 1) g) (h2 : List.Sublist (HI (k + 1) g) h) : RndQ Inv HI k Ix .normal E [] h := ⟨rfl, g, h1, h2⟩
theorem puts_le {ps : List Nat} {vs : List Value} {E E' : Env} (hle : EnvLe E E') : EnvLe (puts E ps vs) (puts E' ps vs) := by
  induction ps generalizing vs E E' with
  | nil => simpa [puts] using hle
  | cons p ps ih =>
    cases vs with
    | nil => simpa [puts] using hle
    | cons v vs =>
      simp only [puts]
      refine ih (fun t u hu => ?_)
      simp only [Env.put] at hu ⊢
      cases hb : Nat.beq t p with
      | true => rw [hb] at hu; exact hu
      | false => rw [hb] at hu; exact hle t u hu
theorem xc_range2 {α γ : Type} {g : Operand} {ps : Array Tmp} {assign body : Code} {gf : FuncId} {fi lb : List Value} (enc : α → List Value) (all : List α) (core : Hp)
    (hg : ev E g = some (.func (.func gf) ⟨fi⟩ ⟨lb⟩)) (hb : HasBody P gf) (hit : Iter P gf fi lb enc all (fun h' => core ⊆ h')) (hps : ∀ x, (enc x).length = ps.size) (hpN : ∀ p ∈ ps.toList, p < N)
    (EI : Env) (Inv : Nat → γ → Prop) (HI : Nat → γ → Hp) (Ix : Code → Nat → Hp → Prop) (g0 : γ) (hm : Mon Q) (hle : EnvLe EI E) (h0 : Inv 0 g0) (hs0 : List.Sublist (HI 0 g0) h) (hcore : ∀ k g, core ⊆ HI k g)
    (round : ∀ l k x g, all[k]? = some x → Inv k g → XC P (some l) N assign (RndA (XC P (some l) N body (RndQ Inv HI k Ix))) (puts EI ps.toList (enc x)) [] (HI k g))
    (stop : ∀ k c j h', j ≤ all.length → Ix c j h' → k ∉ keys h' → XC P none N c Q E (markOf k :: D) ((k, .deferred (some [])) :: h'))
    (done : ∀ k g, Inv all.length g → k ∉ keys (HI all.length g) → Q .normal E (markOf k :: D) ((k, .deferred (some [])) :: HI all.length g)) : XC P none N (.rangeFunc g ps assign body) Q E D h := by
  refine xc_range enc all (fun h' => core ⊆ h') hg hb hit hps hpN (fun k h' => ∃ g, Inv k g ∧ List.Sublist (HI k g) h') Ix ?_ ?_ ⟨g0, h0, hs0⟩ ?_ ?_ stop
  · rintro k h' ⟨g, _, hs⟩ x y z hz
    exact List.mem_cons_of_mem _ (List.mem_cons_of_mem _ (hs.subset (hcore k g hz)))
  · intro h1 h2 hp hr z hz; exact (hp.mem_iff).1 (hr hz)
  · rintro l k x hx h' ⟨g, hi, hs⟩
    refine XC.mono (XC.weaken (puts_le hle) hs (round l k x g hx hi)) ?_
    intro e E1 D1 h1 q
    cases e with
    | normal =>
      refine ⟨rfl, XC.mono q ?_⟩
      intro e2 E2 D2 h2 q2
      cases e2 with
      | normal => exact q2
      | ret => exact q2
      | exit id => exact q2
      | _ => exact q2.elim
    | _ => exact q.elim
  · rintro k h' ⟨g, hi, hs⟩ hk
    have hk2 : k ∉ keys (HI all.length g) := fun hh => hk ((hs.map Prod.fst).subset hh)
    exact hm _ _ _ _ (hs.cons_cons _) (done k g hi hk2)
theorem body_retM {fn : Func} {R : Ending → Hp → Prop} {rl : List ResultVar} {vs : List Value} {k : Nat} (hrl : fn.results.toList = rl) (hr : ResOk P E h rl vs) (hs : List.Sublist h' h) (hk : (k, .deferred (some [])) ∈ h) (hn : k ∉ keys h') (H : R (.returned (tupV vs)) h') : BodyQ P fn R .ret E [markOf k] h :=
  ⟨⟨⟨k, rfl, hk, by simp⟩, trivial⟩, vs, h', by rw [hrl]; exact hr, hs, fun j hj => by simp [marked, markOf] at hj; subst hj; exact hn, H⟩
theorem nkeys {k : Nat} (hs : h ⊆ h') (hn : k ∉ keys h') : k ∉ keys h := fun hh => hn ((List.map_subset Prod.fst hs) hh)
theorem yieldTo {y : Value} {args : List Value} {g h0 : Hp} {J1 J2 : Hp → Prop} {R : Ending → Hp → Prop} (H : AFn P y args h0 (fun e h2 => (e = .returned (.bool true) ∧ J1 h2) ∨ (e = .returned (.bool false) ∧ J2 h2)))
    (H1 : ∀ h2, J1 h2 → R (.returned (.bool true)) (g ++ h2)) (H2 : ∀ h2, J2 h2 → R (.returned (.bool false)) (g ++ h2)) : AFn P y args (g ++ h0) R := by
  refine AFn.framed g (H.mono ?_)
  rintro e h2 (⟨rfl, hj⟩ | ⟨rfl, hj⟩)
  · exact H1 _ hj
  · exact H2 _ hj
theorem flat_at {α : Type} {enc : α → List Value} {sz : Nat} (henc : ∀ x, (enc x).length = sz) {x : α} (sp : List Value) : ∀ (xs : List α) (k : Nat), xs[k]? = some x → ((xs.flatMap enc ++ sp).drop (0 + k * sz)).take sz = enc x
  | [], k, hk => by simp at hk
  | q :: rs, 0, hk => by
    simp at hk; subst hk
    simp only [List.flatMap_cons, List.append_assoc, Nat.zero_mul, Nat.add_zero, List.drop_zero]
    rw [List.take_append_of_le_length (by rw [henc]; exact Nat.le_refl _), List.take_of_length_le (by rw [henc]; exact Nat.le_refl _)]
  | q :: rs, k + 1, hk => by
    have ih := flat_at henc sp rs k (by simpa using hk)
    rw [Nat.zero_add] at ih
    have e : 0 + (k + 1) * sz = (enc q).length + k * sz := by rw [henc, Nat.add_mul]; omega
    simp only [List.flatMap_cons, List.append_assoc]
    rw [e, ← List.drop_drop, List.drop_left]
    exact ih
end Go.H

/-
  '==' of structs and arrays of numbers; ranges over maps.
-/
namespace Go.H
open Go
variable {P : Program} {r : Option Nat} {N : Nat} {Q : Post} {E : Env} {D : List Deferred} {h h' : Hp}
variable {K : Value → Hp → Prop} {T : List PanicEntry → Hp → Prop} {dst : Option Nat} {ty : TypeId} {pos : String} {af : Array Edge} {gd : Option (Nat × Bool)}
def eqc : List Value → List Value → Bool
  | [], [] => true
  | .int _ a :: xs, .int _ b :: ys => a == b && eqc xs ys
  | .bool a :: xs, .bool b :: ys => a == b && eqc xs ys
  | _, _ => false
def Num (v : Value) : Prop := ∃ n, v = .int .i64 n
def pk : Bool → List Value → Value
  | true, xs => .agg ⟨xs⟩
  | false, x :: _ => x
  | false, [] => undef
def Flat (P : Program) (n : Nat) (t : TypeId) (sz : Nat) (agg : Bool) : Prop :=
  ∀ d, n ≤ d → ∀ xs ys : List Value, xs.length = sz → ys.length = sz → (∀ x ∈ xs, Num x) → (∀ y ∈ ys, Num y) → ∀ w, (Op.equalIn d t (pk agg xs) (pk agg ys)).run P w = .ok (eqc xs ys) w
theorem flat_int {t : TypeId} (ht : P.underlying t = some (.int .i64)) : Flat P 1 t 1 false := by
  intro d hd xs ys hx hy nx ny w
  obtain ⟨d, rfl⟩ : ∃ e, d = e + 1 := ⟨d - 1, by omega⟩
  match xs, ys, hx, hy with
  | [x], [y], _, _ =>
    obtain ⟨a, rfl⟩ := nx x List.mem_cons_self
    obtain ⟨b, rfl⟩ := ny y List.mem_cons_self
    simp only [pk]
    rw [run_equalIn_int w d t .i64 .i64 a b ht]
    simp [eqc]
theorem eqc_append : ∀ {xs ys us vs : List Value}, xs.length = ys.length → (∀ x ∈ xs, Num x) → (∀ y ∈ ys, Num y) → eqc (xs ++ us) (ys ++ vs) = (eqc xs ys && eqc us vs)
  | [], [], us, vs, _, _, _ => by simp [eqc]
  | x :: xs, y :: ys, us, vs, hl, hx, hy => by
    obtain ⟨a, rfl⟩ := hx x List.mem_cons_self
    obtain ⟨b, rfl⟩ := hy y List.mem_cons_self
    have := eqc_append (us := us) (vs := vs) (by simpa using hl) (fun x h => hx x (List.mem_cons_of_mem _ h)) (fun y h => hy y (List.mem_cons_of_mem _ h))
    simp only [List.cons_append, eqc, this, Bool.and_assoc]
inductive FlatF (P : Program) (n : Nat) : List Field → Nat → Nat → Prop
  | nil {o : Nat} : FlatF P n [] o o
  | cons {f : Field} {fs : List Field} {o s e : Nat} {d : TD} (hn : f.name ≠ "_") (ho : f.offset = o) (hd : TyOk P f.type d) (hs : d.size = s) (hf : Flat P n f.type s (aggB d.und)) (h0 : 0 < s) (h1 : (aggB d.und || Nat.beq s 1) = true) (hr : FlatF P n fs (o + s) e) : FlatF P n (f :: fs) o e
theorem FlatF.le {n : Nat} {fs : List Field} {o e : Nat} (H : FlatF P n fs o e) : o ≤ e := by
  induction H with
  | nil => exact Nat.le_refl _
  | cons _ _ _ _ _ _ _ ih => omega
theorem part_run {t : TypeId} {d : TD} (ht : TyOk P t d) {xs : List Value} {o : Nat} (h0 : 0 < d.size) (hl : o + d.size ≤ xs.length) (h1 : aggB d.und = false → d.size = 1) (w : World) : (part t ⟨xs⟩ o).run P w = .ok (pk (aggB d.und) ((xs.drop o).take d.size)) w := by
  cases ha : aggB d.und with
  | true => simp [part, ht.run_agg, ha, ht.run_size, pk]
  | false =>
    have h1 := h1 ha
    have hlt : o < xs.length := by omega
    rw [h1]
    have e : (xs.drop o).take 1 = [xs[o]] := by rw [List.drop_eq_getElem_cons hlt]; rfl
    rw [e]
    simp [part, ht.run_agg, ha, pk, hlt]
theorem seg_num {xs : List Value} (hx : ∀ x ∈ xs, Num x) (o n : Nat) : ∀ x ∈ (xs.drop o).take n, Num x := fun x hm => hx x (List.mem_of_mem_drop (List.mem_of_mem_take hm))
theorem seg_split (xs : List Value) (o s : Nat) : xs.drop o = (xs.drop o).take s ++ xs.drop (o + s) := by
  rw [← List.drop_drop, List.take_append_drop]
theorem flatF_run {n : Nat} : ∀ {fs : List Field} {o e : Nat}, FlatF P n fs o e → ∀ d, n ≤ d → ∀ xs ys : List Value, xs.length = e → ys.length = e → (∀ x ∈ xs, Num x) → (∀ y ∈ ys, Num y) → ∀ w, (Op.eqFields d ⟨xs⟩ ⟨ys⟩ fs).run P w = .ok (eqc (xs.drop o) (ys.drop o)) w := by
  intro fs o e H
  induction H with
  | nil =>
    intro d hd xs ys hx hy nx ny w
    rw [List.drop_eq_nil_of_le (by omega), List.drop_eq_nil_of_le (by omega)]
    simp [Op.eqFields, eqc]
  | @cons f fs o s e td hn ho hd hs hf h0 h1 hr ih =>
    intro d hdn xs ys hx hy nx ny w
    have hle := hr.le
    subst hs
    have hs1 : aggB td.und = false → td.size = 1 := fun ha => by simpa [ha] using h1
    have lx : ((xs.drop o).take td.size).length = td.size := by simp; omega
    have ly : ((ys.drop o).take td.size).length = td.size := by simp; omega
    have pa := part_run hd (xs := xs) (o := o) h0 (by omega) hs1 w
    have pb := part_run hd (xs := ys) (o := o) h0 (by omega) hs1 w
    have pe := hf d hdn _ _ lx ly (seg_num nx o _) (seg_num ny o _) w
    have hrest := ih d hdn xs ys hx hy nx ny w
    rw [seg_split xs o td.size, seg_split ys o td.size, eqc_append (by rw [lx, ly]) (seg_num nx o _) (seg_num ny o _)]
    simp only [Op.eqFields, if_pos hn, ho, Sem.run_bind, pa, pb, pe, Result.andThen_ok]
    cases eqc ((xs.drop o).take td.size) ((ys.drop o).take td.size)
    · simp
    · simpa using hrest
theorem flat_struct {n : Nat} {t : TypeId} {fs : Array Field} {sz : Nat} (hu : P.underlying t = some (.struct fs)) (hp : P.stoodInHeld t = false) (hf : FlatF P n fs.toList 0 sz) : Flat P (n + 1) t sz true := by
  intro d hd xs ys hx hy nx ny w
  obtain ⟨d, rfl⟩ : ∃ e, d = e + 1 := ⟨d - 1, by omega⟩
  have hfo : P.fieldsOf t = fs := by simp [Program.fieldsOf, hu]
  show (Op.equalIn (d + 1) t (.agg ⟨xs⟩) (.agg ⟨ys⟩)).run P w = _
  rw [run_equalIn_struct w d t ⟨xs⟩ ⟨ys⟩ (by rw [hfo]; exact hu) hp, hfo]
  have := flatF_run hf d (by omega) xs ys hx hy nx ny w
  simpa using this
theorem Flat.le {n m sz : Nat} {t : TypeId} {agg : Bool} (H : Flat P n t sz agg) (hm : Nat.ble n m = true) : Flat P m t sz agg := fun d hd => H d (Nat.le_trans (Nat.le_of_ble_eq_true hm) hd)
theorem numNil : ∀ x ∈ ([] : List Value), Num x := fun _ hx => by cases hx
theorem numCons {n : Int} {xs : List Value} (H : ∀ x ∈ xs, Num x) : ∀ x ∈ (Value.int .i64 n :: xs), Num x := fun x hx => by
  rcases List.mem_cons.1 hx with rfl | hx
  · exact ⟨_, rfl⟩
  · exact H x hx
theorem numApp {xs ys : List Value} (H1 : ∀ x ∈ xs, Num x) (H2 : ∀ y ∈ ys, Num y) : ∀ x ∈ xs ++ ys, Num x := fun x hx => (List.mem_append.1 hx).elim (H1 x) (H2 x)
theorem guard_ok {op : BinOp} {t : TypeId} {x y : Operand} {xs ys : List Value} (hg : P.eqGuardType P.depth t = false) (w : World) : (eqGuard op t x y (.agg ⟨xs⟩) (.agg ⟨ys⟩)).run P w = .ok () w := by
  unfold eqGuard
  cases op <;> simp [hg]
theorem xv_neA {n sz : Nat} {xt yt : TypeId} {x y : Operand} {xs ys : List Value} {b : Bool} (hf : Flat P n xt sz true) (hn : Nat.ble n 10000 = true) (hg : P.eqGuardType P.depth xt = false) (hx : ev E x = some (.agg ⟨xs⟩)) (hy : ev E y = some (.agg ⟨ys⟩)) (lx : xs.length = sz) (ly : ys.length = sz) (nx : ∀ x ∈ xs, Num x) (ny : ∀ y ∈ ys, Num y) (hb : (!eqc xs ys) = b)
    (H : K (.bool b) h) : XV P r ⟨dst, .binOp .neq xt x y yt, ty, pos, af, gd⟩ K T E h :=
  xv_of_run (by simp [plainOp]) fun w ρ ho he => ⟨_, h, w, by
    have hq : (binOp .neq xt (.agg ⟨xs⟩) (.agg ⟨ys⟩)).run P w = .ok (.bool b) w := by
      rw [run_neq_struct, show (Op.equalIn 10000 xt (.agg ⟨xs⟩) (.agg ⟨ys⟩)).run P w = _ from hf 10000 (Nat.le_of_ble_eq_true hn) xs ys lx ly nx ny w, ← hb]; rfl
    rw [run_bin (he _ _ hx) (he _ _ hy) (guard_ok hg), hq]; rfl, H, .refl ho⟩
structure Lay (es : List MapEntry) (c : Nat) : Prop where
  ai : AllInt es
  lt : ∀ e ∈ es, e.born < c
  nd : (es.map (·.born)).Nodup
  kd : es.Pairwise (fun x y => x.key ≠ y.key)
theorem Lay.empty (c : Nat) : Lay [] c := ⟨fun _ he => (by cases he), fun _ he => (by cases he), List.nodup_nil, List.Pairwise.nil⟩
theorem Lay.get {es : List MapEntry} {c : Nat} (H : Lay es c) {e : MapEntry} (he : e ∈ es) : ∃ k, e.key = .int .i64 k ∧ mget es k = some e.val := by
  obtain ⟨k, hk⟩ := H.ai e he
  refine ⟨k, hk, ?_⟩
  have hkd := H.kd
  have hai := H.ai
  clear H
  unfold mget
  suffices hs : ∀ i, (mfind k es i).map (·.2) = some e.val from hs 0
  induction es with
  | nil => cases he
  | cons x es ih =>
    intro i
    obtain ⟨j, hj⟩ := hai x List.mem_cons_self
    obtain ⟨h1, h2⟩ := List.pairwise_cons.1 hkd
    simp only [mfind, hj]
    rcases List.mem_cons.1 he with rfl | he
    · rw [hj] at hk; injection hk with _ hk; rw [if_pos hk.symm]; rfl
    · have hne : ¬ k = j := fun hq => h1 e he (by rw [hj, hk, hq])
      rw [if_neg hne]
      exact ih he h2 (fun e he => hai e (List.mem_cons_of_mem _ he)) (i + 1)
theorem xr_nu {ops : Array Oper} {i : Nat} {op : Op} {j : Nat} {t : Bool} (hi : ops[i]? = some ⟨dst, op, ty, pos, af, some (j, t)⟩) (hg : gv ops E j = some undef) (hd : dstOk N dst = true)
    (H : XR P r N ops (i + 1) Q (E.put dst undef) D h) : XR P r N ops i Q E D h := by
  unfold XR
  rw [range'_at hi]
  intro w a ho ha hda
  simp only [wpOpsIn, hi]
  have hy : yielded ops a.tmps j = none := by
    unfold gv at hg
    unfold yielded
    cases hd : (ops[j]?).bind (·.dst) with
    | none => rfl
    | some d =>
      rw [hd] at hg
      have := ha.val d _ hg
      simp [this, undef]
  have hw : ¬ Region.wanted ⟨dst, op, ty, pos, af, some (j, t)⟩ (yielded ops a.tmps) = true := by
    simp [Region.wanted, hy]
  rw [if_neg hw]
  refine ⟨fun _ _ => trivial, ?_⟩
  have hda' : (a.put dst undef).defers = D := by cases dst <;> exact hda
  exact H w _ ho (ha.put (dstOk_lt hd)) hda'
end Go.H


/-
  The logic of owned blocks over the kit, part HE.
-/
set_option linter.all false
/-
  Rules for the laws' walks: bools that are compared, comparisons that are known.
-/
namespace Go.H
open Go
variable {P : Program} {r : Option Nat} {E : Env} {h : Hp}
variable {K : Value → Hp → Prop} {T : List PanicEntry → Hp → Prop} {dst : Option Nat} {ty : TypeId} {pos : String} {af : Array Edge} {gd : Option (Nat × Bool)} {xt yt : TypeId} {x y : Operand}
theorem xv_cmpK {op : BinOp} {k : IntKind} {a b : Int} {c : Bool} (hx : ev E x = some (.int k a)) (hy : ev E y = some (.int k b)) (hc : cmpB op a b = some c) (H : K (.bool c) h) : XV P r ⟨dst, .binOp op xt x y yt, ty, pos, af, gd⟩ K T E h := xv_cmp hx hy hc H
theorem cmpT {op : BinOp} {a b : Int} (hp : cmpP op a b) : cmpB op a b = some true := by
  cases op <;> simp only [cmpP] at hp <;> simp [cmpB, hp]
theorem cmpF {op : BinOp} {a b : Int} (hq : (cmpB op a b).isSome = true) (hp : ¬ cmpP op a b) : cmpB op a b = some false := by
  cases op <;> simp only [cmpP] at hp <;> simp [cmpB] at hq ⊢ <;> omega
theorem slvL {α : Type} {sz : Nat} {enc : α → List Value} {b t : Nat} {fz : Nat × Nat} {xs : List α} (henc : ∀ x, (enc x).length = sz) (hm : (b, .cells ⟨xs.flatMap enc⟩ t fz) ∈ h) : SlV h sz enc (some ⟨b, 0, none⟩) xs := by
  refine .inr ⟨b, 0, xs.flatMap enc, t, fz, rfl, hm, fun i x hx => ?_⟩
  have := flat_at henc [] xs i hx
  simpa using this
end Go.H

/-
  From what an input reads as to the blocks that a walk owns: all blocks of the memory are owned, each stays.
-/
namespace Go.H
open Go Go.RowKit
def full (w : World) : Hp := (List.range w.heap.size).filterMap fun i => (w.heap[i]?).map fun o => (i, o)
theorem mem_full {w : World} {b : Nat} {o : Obj} : (b, o) ∈ full w ↔ w.heap[b]? = some o := by
  unfold full
  rw [List.mem_filterMap]
  constructor
  · rintro ⟨i, _, hi⟩
    cases ho : w.heap[i]? with
    | none => simp [ho] at hi
    | some o' => simp [ho] at hi; obtain ⟨rfl, rfl⟩ := hi; exact ho
  · intro ho
    refine ⟨b, List.mem_range.2 (Array.getElem?_eq_some_iff.1 ho).1, by simp [ho]⟩
theorem full_nd (w : World) : (keys (full w)).Nodup := by
  unfold keys full
  rw [List.map_filterMap]
  have hsub : List.Sublist ((List.range w.heap.size).filterMap fun i => ((w.heap[i]?).map fun o => (i, o)).map (·.1)) (List.range w.heap.size) := by
    generalize List.range w.heap.size = l
    induction l with
    | nil => exact List.Sublist.refl _
    | cons x l ih =>
      rw [List.filterMap_cons]
      cases hx : w.heap[x]? with
      | none => simpa [hx] using List.Sublist.cons _ ih
      | some o => simpa [hx] using List.Sublist.cons_cons x ih
  exact hsub.nodup List.nodup_range
theorem own_full (w : World) : Own (full w) w := ⟨full_nd w, fun _ _ hm => mem_full.1 hm⟩
theorem calls_of_full {P : Program} {f : FuncId} {args : Array Value} {W : World} {v : Value} (H : ∀ R : Ending → Hp → Prop, R (.returned v) (full W) → ACalls P f args (full W) R) : Calls P f args W fun e W' => e = .returned v ∧ Below W.heap.size W W' := by
  refine (H (fun e h' => e = .returned v ∧ h' = full W) ⟨rfl, rfl⟩ W (own_full W)).mono ?_
  rintro e w' ⟨h', ⟨rfl, rfl⟩, hf⟩
  refine ⟨rfl, hf.os, hf.tape, hf.output, hf.size, fun k hk => ?_⟩
  obtain ⟨o, ho⟩ : ∃ o, W.heap[k]? = some o := ⟨_, Array.getElem?_eq_getElem hk⟩
  rw [ho]
  exact hf.own.has _ _ (mem_full.2 ho)
section
variable {H : Type} {enc : TypeId × Value → H} {P : Program} {w : World} {sp : Nat → Bool} {held : Bool}
theorem trod_struct_open {t : TypeId} {fs : Array Field} (ht : P.underlying t = some (.struct fs)) {fuel : Nat} {cs : List Value} {x : DataW H × List MemPlace} (h : DataW.trod enc P w 0 sp held fuel t cs = some x) :
    cs.length = P.cellsOf t ∧ ∀ f ∈ fs.toList, ∃ n y, DataW.trod enc P w 0 sp held n f.type ((cs.drop f.offset).take (P.cellsOf f.type)) = some y := by
  cases fuel with
  | zero => simp [DataW.trod] at h
  | succ fuel =>
    unfold DataW.trod at h
    rw [ht] at h
    simp only at h
    split at h
    · rename_i hl
      refine ⟨hl, fun f hf => ?_⟩
      cases hm : fs.toList.mapM fun f => DataW.trod enc P w 0 sp held fuel f.type ((cs.drop f.offset).take (P.cellsOf f.type)) with
      | none => rw [hm] at h; cases h
      | some xs =>
        have key : ∀ (l : List Field) (ys : List (DataW H × List MemPlace)), (l.mapM fun f => DataW.trod enc P w 0 sp held fuel f.type ((cs.drop f.offset).take (P.cellsOf f.type))) = some ys → ∀ f ∈ l, ∃ y, DataW.trod enc P w 0 sp held fuel f.type ((cs.drop f.offset).take (P.cellsOf f.type)) = some y := by
          intro l
          induction l with
          | nil => intro _ _ f hf; cases hf
          | cons g l ih =>
            intro ys hy f hf
            rw [List.mapM_cons] at hy
            cases hg : DataW.trod enc P w 0 sp held fuel g.type ((cs.drop g.offset).take (P.cellsOf g.type)) with
            | none => rw [hg] at hy; cases hy
            | some y =>
              rw [hg] at hy
              cases hr : l.mapM fun f => DataW.trod enc P w 0 sp held fuel f.type ((cs.drop f.offset).take (P.cellsOf f.type)) with
              | none => rw [hr] at hy; cases hy
              | some zs =>
                rcases List.mem_cons.1 hf with rfl | hf
                · exact ⟨y, hg⟩
                · exact ih zs hr f hf
        obtain ⟨y, hy⟩ := key _ _ hm f hf
        exact ⟨fuel, y, hy⟩
    · cases h
theorem mapM_range {α : Type} {f : Nat → Option α} : ∀ {n : Nat} {ys : List α}, (List.range n).mapM f = some ys → ys.length = n ∧ ∀ i, i < n → ∃ y, f i = some y ∧ ys[i]? = some y := by
  have key : ∀ (l : List Nat) (ys : List α), l.mapM f = some ys → l.length = ys.length ∧ ∀ (i x : Nat), l[i]? = some x → ∃ y, f x = some y ∧ ys[i]? = some y := by
    intro l
    induction l with
    | nil => intro ys hy; cases hy; exact ⟨rfl, fun i x hx => by simp at hx⟩
    | cons g l ih =>
      intro ys hy
      rw [List.mapM_cons] at hy
      cases hg : f g with
      | none => rw [hg] at hy; cases hy
      | some y =>
        rw [hg] at hy
        cases hr : l.mapM f with
        | none => rw [hr] at hy; cases hy
        | some zs =>
          rw [hr] at hy
          injection hy with hy
          subst hy
          refine ⟨by simp [(ih zs hr).1], fun i x hx => ?_⟩
          cases i with
          | zero => simp at hx; subst hx; exact ⟨y, hg, rfl⟩
          | succ i => simp at hx; obtain ⟨y', h1, h2⟩ := (ih zs hr).2 i x hx; exact ⟨y', h1, by simpa using h2⟩
  intro n ys hy
  exact ⟨by have := (key _ _ hy).1; simpa using this.symm, fun i hi => (key _ _ hy).2 i i (by simp [hi])⟩
theorem trod_slice_open {t e : TypeId} {sz : Nat} (ht : P.underlying t = some (.slice e)) (hsz : P.cellsOf e = sz) {fuel : Nat} {cs : List Value} {x : DataW H × List MemPlace} (h : DataW.trod enc P w 0 sp held fuel t cs = some x) :
    ∃ a len cap, cs = [.slice a len cap] ∧ len ≤ 9223372036854775807 ∧ (a = none ∧ len = 0 ∨ ∃ ad, a = some ad ∧ ∀ i, i < len → ∃ l n y, w.cells? 0 (ad.add (i * sz)) sz = some l ∧ DataW.trod enc P w 0 sp held n e l = some y) := by
  cases fuel with
  | zero => simp [DataW.trod] at h
  | succ fuel =>
    unfold DataW.trod at h
    rw [ht] at h
    split at h <;> first | (simp at *; done) | skip
    · exact ⟨none, 0, 0, rfl, by decide, .inl ⟨rfl, rfl⟩⟩
    · rename_i e' a len cap hq
      cases hq
      simp only at h
      split at h
      · rename_i hc
        rw [hsz] at h
        refine ⟨some a, len, cap, rfl, Nat.le_trans hc.2.1 (Nat.le_trans hc.2.2 (by decide)), .inr ⟨a, rfl, fun i hi => ?_⟩⟩
        cases hm : (List.range len).mapM fun i => (w.cells? 0 (a.add (i * sz)) sz).bind (DataW.trod enc P w 0 sp held fuel e) with
        | none => rw [hm] at h; cases h
        | some ys =>
          obtain ⟨y, hy, _⟩ := (mapM_range hm).2 i hi
          cases hl : w.cells? 0 (a.add (i * sz)) sz with
          | none => rw [hl] at hy; cases hy
          | some l => rw [hl] at hy; exact ⟨l, fuel, y, rfl, hy⟩
      · cases h
theorem cells_at {a : Addr} {sz : Nat} {l : List Value} (h0 : 0 < sz) (h : w.cells? 0 a sz = some l) : ∃ c t fz, a.spot = none ∧ w.heap[a.block]? = some (.cells c t fz) ∧ (c.toList.drop a.off).take sz = l := by
  unfold World.cells? at h
  rw [if_pos (Nat.zero_le _)] at h
  obtain ⟨hlen, h1⟩ := mapM_range h
  obtain ⟨v0, hv0, _⟩ := h1 0 h0
  have hadd0 : a.add 0 = a := rfl
  rw [hadd0] at hv0
  unfold World.cell? at hv0
  cases hb : w.heap[a.block]? with
  | none => simp [hb] at hv0
  | some o =>
    rw [hb] at hv0
    cases o with
    | cells c t fz =>
      simp only at hv0
      cases hs : a.spot with
      | some s => simp [hs] at hv0
      | none =>
        refine ⟨c, t, fz, rfl, rfl, ?_⟩
        apply List.ext_getElem?
        intro i
        by_cases hi : i < sz
        · obtain ⟨v, hv, hl⟩ := h1 i hi
          rw [List.getElem?_take, if_pos hi, List.getElem?_drop, hl]
          have hadd : (a.add i).block = a.block ∧ (a.add i).off = a.off + i ∧ (a.add i).spot = none := by
            unfold Addr.add
            split
            · rename_i hz; subst hz; exact ⟨rfl, rfl, hs⟩
            · exact ⟨rfl, rfl, rfl⟩
          unfold World.cell? at hv
          rw [hadd.1, hb] at hv
          simp only [hadd.2.2, hadd.2.1, Option.isSome_none] at hv
          rw [← hv]
          simp
        · rw [List.getElem?_take, if_neg hi, List.getElem?_eq_none (by omega)]
    | _ => simp at hv0
theorem list_of {α : Type} {Q : Nat → α → Prop} : ∀ (n : Nat), (∀ i, i < n → ∃ x, Q i x) → ∃ xs : List α, xs.length = n ∧ ∀ i x, xs[i]? = some x → Q i x
  | 0, _ => ⟨[], rfl, fun i x hx => by simp at hx⟩
  | n + 1, h => by
    obtain ⟨xs, h1, h2⟩ := list_of n fun i hi => h i (by omega)
    obtain ⟨x, hx⟩ := h n (by omega)
    refine ⟨xs ++ [x], by simp [h1], fun i y hy => ?_⟩
    by_cases hi : i < xs.length
    · rw [List.getElem?_append_left hi] at hy; exact h2 i y hy
    · rw [List.getElem?_append_right (by omega)] at hy
      have : i - xs.length = 0 := by
        have := (List.getElem?_eq_some_iff.1 hy).1
        simp at this; omega
      rw [this] at hy
      simp at hy; subst hy
      have : i = n := by omega
      subst this; exact hx
theorem open_slv {α : Type} {en : α → List Value} {t e : TypeId} {sz : Nat} (ht : P.underlying t = some (.slice e)) (hsz : P.cellsOf e = sz) (h0 : 0 < sz) (he : ∀ n l y, DataW.trod enc P w 0 sp held n e l = some y → ∃ x, l = en x)
    {fuel : Nat} {cs : List Value} {x : DataW H × List MemPlace} (h : DataW.trod enc P w 0 sp held fuel t cs = some x) :
    ∃ a cap xs, cs = [.slice a (xs : List α).length cap] ∧ xs.length ≤ 9223372036854775807 ∧ SlV (full w) sz en a xs := by
  obtain ⟨a, len, cap, rfl, hlen, hq⟩ := trod_slice_open ht hsz h
  rcases hq with ⟨rfl, rfl⟩ | ⟨ad, rfl, hq⟩
  · exact ⟨none, cap, [], rfl, by simp, .inl rfl⟩
  · obtain ⟨xs, hx1, hx2⟩ := list_of (α := α) (Q := fun i x => w.cells? 0 (ad.add (i * sz)) sz = some (en x)) len fun i hi => by
      obtain ⟨l, n, y, hl, hy⟩ := hq i hi
      obtain ⟨x, rfl⟩ := he n l y hy
      exact ⟨x, hl⟩
    subst hx1
    refine ⟨some ad, cap, xs, rfl, hlen, ?_⟩
    cases xs with
    | nil => exact .inl rfl
    | cons x0 xs =>
      have h1 := hx2 0 x0 rfl
      rw [Nat.zero_mul] at h1
      obtain ⟨c, t', fz, hs, hb, _⟩ := cells_at h0 h1
      have hs' : ad.spot = none := hs
      refine .inr ⟨ad.block, ad.off, c.toList, t', fz, ?_, mem_full.2 hb, fun i x hx => ?_⟩
      · cases ad; simp at hs'; simp [hs']
      · obtain ⟨c', t2, fz2, hs2, hb2, hd⟩ := cells_at h0 (hx2 i x hx)
        have hadd : (ad.add (i * sz)).block = ad.block ∧ (ad.add (i * sz)).off = ad.off + i * sz := by
          unfold Addr.add
          split
          · rename_i hz; rw [hz]; exact ⟨rfl, rfl⟩
          · exact ⟨rfl, rfl⟩
        rw [hadd.1] at hb2
        have hb' : w.heap[ad.block]? = some (.cells c t' fz) := hb
        rw [hb'] at hb2
        cases hb2
        rw [← hadd.2]; exact hd
end
end Go.H

/-
  Rules: numbers of other kinds as int; the first part of a slice.
-/
namespace Go.H
open Go
variable {P : Program} {r : Option Nat} {E : Env} {h h' : Hp}
variable {K : Value → Hp → Prop} {T : List PanicEntry → Hp → Prop} {dst : Option Nat} {ty : TypeId} {pos : String} {af : Array Edge} {gd : Option (Nat × Bool)}
theorem xv_convI {s t : TypeId} {x : Operand} {k k' : IntKind} {n m : Int} (hs : P.underlying s = some (.int k)) (ht : P.underlying t = some (.int k')) (hx : ev E x = some (.int k n)) (hw : k'.wrap n = m) (H : K (.int k' m) h) : XV P r ⟨dst, .convert s t x, ty, pos, af, gd⟩ K T E h :=
  xv_of_run (by simp [plainOp]) fun w ρ ho he => ⟨_, h, w, by
    simp only [execOp, he _ _ hx]
    simp [Go.convert, run_underlying hs, run_underlying ht, Conv.intToInt, hw], H, .refl ho⟩
theorem addr_add0 (a : Addr) : a.add 0 = a := rfl
theorem xv_sliceTo {x y : Operand} {t e : TypeId} {d : TD} {a : Option Addr} {n c : Nat} {k : IntKind} {i : Int} (ht : SlT P t e) (hd : TyOk P e d) (hx : ev E x = some (.slice a n c)) (hy : ev E y = some (.int k i)) (h0 : 0 ≤ i) (h1 : i ≤ c)
    (H : K (.slice a i.toNat c) h) : XV P r ⟨dst, .slice t x none (some y) none, ty, pos, af, gd⟩ K T E h :=
  xv_of_run (by simp [plainOp]) fun w ρ ho he => ⟨_, h, w, by
    have hadd : (if c = 0 then a else a.map (fun z => z.add (0 * d.size))) = a := by
      split
      · rfl
      · cases a <;> simp [addr_add0]
    simp only [execOp, he _ _ hx, Option.map_none, Option.map_some, he _ _ hy]
    simp [Instr.sliceAt, run_underlying ht, Instr.slice, Instr.sliceBounds, run_sliceBoundH h0 h1, hd.run_size, hadd]
    intro _
    cases a <;> simp [addr_add0], H, .refl ho⟩
theorem xv_sliceToN {x y : Operand} {t e : TypeId} {d : TD} {a : Option Addr} {n c m : Nat} {k : IntKind} {i : Int} (ht : SlT P t e) (hd : TyOk P e d) (hx : ev E x = some (.slice a n c)) (hy : ev E y = some (.int k i)) (h0 : 0 ≤ i) (h1 : i ≤ c) (hm : i.toNat = m)
    (H : K (.slice a m c) h) : XV P r ⟨dst, .slice t x none (some y) none, ty, pos, af, gd⟩ K T E h := by
  subst hm; exact xv_sliceTo ht hd hx hy h0 h1 H
theorem SlV.take {α : Type} {sz : Nat} {enc : α → List Value} {a : Option Addr} {xs : List α} (H : SlV h sz enc a xs) (k : Nat) : SlV h sz enc a (xs.take k) := by
  rcases H with rfl | ⟨b, o, l, t, fz, h1, h2, h3⟩
  · exact .inl (by simp)
  · refine .inr ⟨b, o, l, t, fz, h1, h2, fun i x hx => h3 i x ?_⟩
    rw [List.getElem?_take] at hx
    split at hx
    · exact hx
    · cases hx
theorem in8_of {n : Int} (hw : (Lit.int .u8 n).wf = true) : 0 ≤ n ∧ n ≤ 255 := by
  simp only [Lit.wf, Bool.and_eq_true, decide_eq_true_eq] at hw
  exact ⟨hw.1, hw.2⟩
theorem slv_flat2 {α : Type} {enc : α → List Value} {sz : Nat} (henc : ∀ x, (enc x).length = sz) : ∀ {xs : List α} {l : List Value} {o : Nat}, (∀ (i : Nat) (x : α), xs[i]? = some x → (l.drop (o + i * sz)).take sz = enc x) → (l.drop o).take (xs.length * sz) = xs.flatMap enc
  | [], l, o, _ => by simp
  | x :: xs, l, o, h => by
    have h0 := h 0 x rfl
    rw [Nat.zero_mul, Nat.add_zero] at h0
    have ih := slv_flat2 henc (xs := xs) (l := l) (o := o + sz) (fun i y hy => by have := h (i + 1) y (by simpa using hy); rwa [Nat.add_mul, Nat.one_mul, Nat.add_comm (i * sz) sz, ← Nat.add_assoc] at this)
    rw [List.flatMap_cons, ← h0, ← ih, List.length_cons, Nat.add_mul, Nat.one_mul, Nat.add_comm (xs.length * sz) sz, List.take_add, List.drop_drop]
theorem flat_all {α : Type} {enc : α → List Value} (h1 : ∀ x, (enc x).all Value.oneCell' = true) (xs : List α) : (xs.flatMap enc).all Value.oneCell' = true := by
  induction xs with
  | nil => rfl
  | cons x xs ih => rw [List.flatMap_cons, List.all_append, h1, ih]; rfl
theorem flat_lenM {α : Type} {enc : α → List Value} {sz : Nat} (henc : ∀ x, (enc x).length = sz) (xs : List α) : (xs.flatMap enc).length = xs.length * sz := by
  induction xs with
  | nil => simp
  | cons x xs ih => rw [List.flatMap_cons, List.length_append, henc, ih, List.length_cons, Nat.add_mul]; omega
end Go.H

/-
  A copy of a slice of one's own; three blocks that stay.
-/
namespace Go.H
open Go
variable {P : Program} {r : Option Nat} {E : Env} {h h' : Hp}
variable {K : Value → Hp → Prop} {T : List PanicEntry → Hp → Prop} {dst : Option Nat} {ty : TypeId} {pos : String} {af : Array Edge} {gd : Option (Nat × Bool)}
theorem XR.perm {N : Nat} {ops : Array Oper} {i : Nat} {Q : Post} {D : List Deferred} (hp : List.Perm h h') (H : XR P r N ops i Q E D h) : XR P r N ops i Q E D h' := by
  intro w a ho ha hd
  refine wpOpsIn_mono ?_ _ _ _ (H w a (ho.perm hp) ha hd)
  rintro e a' w' ⟨E2, h2, q, ha2, hf⟩
  exact ⟨E2, h2, q, ha2, hf.permL hp.symm⟩
theorem perm2 {α : Type _} {V K : List α} {a b : α} : List.Perm (V ++ a :: b :: K) (b :: a :: (V ++ K)) :=
  List.perm_middle.trans ((List.perm_middle.cons _).trans (List.Perm.swap _ _ _))
end Go.H

/-
  Ways that meet again.
-/
namespace Go.H
open Go
variable {P : Program} {r : Option Nat} {N : Nat} {Q : Post} {E : Env} {D : List Deferred} {h : Hp}
def Jn {σ : Type} (I : σ → Prop) (EI : σ → Env) (HI : σ → Hp) (Q : Post) (D : List Deferred) : Post := fun e E' D' h' => match e with
  | .normal => D' = D ∧ ∃ g, I g ∧ EnvLe (EI g) E' ∧ List.Sublist (HI g) h'
  | e => Q e E' D' h'
theorem xc_join {σ : Type} {x y : Code} (I : σ → Prop) (EI : σ → Env) (HI : σ → Hp) (H1 : XC P r N x (Jn I EI HI Q D) E D h) (H2 : ∀ g, I g → XC P r N y Q (EI g) D (HI g)) : XC P r N (.seq x y) Q E D h := by
  refine xc_seq (H1.mono fun e E' D' h' q => ?_)
  cases e with
  | normal => obtain ⟨rfl, g, i, l, s⟩ := q; exact (H2 g i).weaken l s
  | _ => exact q
section
variable {σ : Type} {I : σ → Prop} {EI : σ → Env} {HI : σ → Hp} {id : Nat} {ch : List PanicEntry}
theorem jn_n (g : σ) (hI : I g) (hl : EnvLe (EI g) E) (hs : List.Sublist (HI g) h) : Jn I EI HI Q D .normal E D h := ⟨rfl, g, hI, hl, hs⟩
end
end Go.H


/-
  Iterators that hand out what they made themselves; parts of slices and of arrays; a slice beside nil; a full slice that grows.
-/
set_option linter.all false
namespace Go.H
open Go
variable {P : Program} {r : Option Nat} {N : Nat} {Q : Post} {E : Env} {D : List Deferred} {h h' : Hp}
section
variable {K : Value → Hp → Prop} {T : List PanicEntry → Hp → Prop} {dst : Option Nat} {ty : TypeId} {pos : String} {af : Array Edge} {gd : Option (Nat × Bool)}
theorem xv_eqNilS {x y : Operand} {xt yt e : TypeId} {a : Option Addr} {n c n' c' : Nat} {b : Bool} (ht : SlT P xt e) (hx : ev E x = some (.slice a n c)) (hy : ev E y = some (.slice none n' c')) (hb : a.isNone = b) (H : K (.bool b) h) : XV P r ⟨dst, .binOp .eql xt x y yt, ty, pos, af, gd⟩ K T E h :=
  xv_of_run (by simp [plainOp]) fun w ρ ho he => ⟨_, h, w, by
    have hg : ∀ w, (eqGuard .eql xt x y (.slice a n c) (.slice none n' c')).run P w = .ok () w := fun w => by unfold eqGuard; simp
    rw [run_bin (he _ _ hx) (he _ _ hy) hg]
    have hq0 : ∀ m, (Op.equalIn (m + 1) xt (.slice a n c) (.slice none n' c')).run P w = .ok a.isNone w := fun m => by
      cases a <;> simp only [Op.equalIn, Sem.run_bind, run_underlying ht, Result.andThen_ok, Sem.run_pure, Option.isNone]
    have hq := hq0 9999
    have hb2 : (binOp .eql xt (.slice a n c) (.slice none n' c')).run P w = .ok (.bool a.isNone) w := by
      show (do let b ← Op.equalIn (9999 + 1) xt _ _; pure (Value.bool b) : Sem Value).run P w = _
      simp only [Sem.run_bind, hq, Result.andThen_ok, Sem.run_pure]
    rw [hb2]; subst hb; rfl, H, .refl ho⟩
theorem wrap_u64 {n : Int} (h1 : 0 ≤ n) (h2 : n ≤ 9223372036854775807) : IntKind.u64.wrap n = n := by
  rw [IntKind.wrap_u64]; omega
theorem wrap_u8 {n : Int} (h1 : 0 ≤ n) (h2 : n ≤ 255) : IntKind.u8.wrap n = n := by
  rw [IntKind.wrap_u8]; omega
end
end Go.H

/-
  Openers: what a law's argument reads as.
-/
set_option linter.all false
namespace Go.H
open Go
section
variable {P : Program} {H : Type} {enc : TypeId × Value → H} {w : World} {sp : Nat → Bool} {held : Bool}
theorem open_num {t : TypeId} {k : IntKind} (ht : P.underlying t = some (.int k)) {fuel : Nat} {cs : List Value} {x : DataW H × List MemPlace} (h : DataW.trod enc P w 0 sp held fuel t cs = some x) : ∃ n, cs = [.int k n] ∧ (Lit.int k n).wf = true := by
  cases fuel with
  | zero => simp [DataW.trod] at h
  | succ fuel =>
    unfold DataW.trod at h
    rw [ht] at h
    split at h <;> first | (simp at *; done) | skip
    rename_i k k' n hq
    cases hq
    split at h
    · rename_i hc
      obtain ⟨rfl, hw⟩ := hc
      exact ⟨n, rfl, hw⟩
    · cases h
theorem SlV.map {α β : Type} {f : β → α} {h : Hp} {sz : Nat} {en : α → List Value} {a : Option Addr} {xs : List β} (H : SlV h sz (fun x => en (f x)) a xs) : SlV h sz en a (xs.map f) := by
  rcases H with rfl | ⟨b, o, l, t, fz, ha, hm, hx⟩
  · exact .inl rfl
  · refine .inr ⟨b, o, l, t, fz, ha, hm, fun i x hi => ?_⟩
    rw [List.getElem?_map] at hi
    cases hq : xs[i]? with
    | none => rw [hq] at hi; cases hi
    | some y => rw [hq] at hi; cases hi; exact hx i y hq
theorem cells_sl {t e : TypeId} (ht : P.underlying t = some (.slice e)) {v : Value} {r : Reach} {b : Nat} (hv : Value.okWide P w r b t v) : v.cells.toList = [v] := by
  unfold Value.okWide at hv
  rw [ht] at hv
  simp only [Cell.okWide, Cell.ok, ht] at hv
  cases v <;> first | rfl | (simp at hv; done)
theorem open_arg {α β : Type} {f : β → α} {en : α → List Value} {t e : TypeId} {sz : Nat} (ht : P.underlying t = some (.slice e)) (hsz : P.cellsOf e = sz) (h0 : 0 < sz) (he : ∀ n l y, DataW.trod enc P w 0 sp held n e l = some y → ∃ x : β, l = en (f x))
    {v : Value} {d : DataW H} {ps : List MemPlace} {r : Reach} {b : Nat} (hv : Value.okWide P w r b t v) (h : DataW.Trod enc P w 0 sp held t v d ps) : ∃ a c, ∃ xs : List β, v = .slice a (xs.map f).length c ∧ (xs.map f).length ≤ 9223372036854775807 ∧ SlV (full w) sz en a (xs.map f) := by
  obtain ⟨n, hn⟩ := h
  obtain ⟨a, c, l, e, h1, h2⟩ := open_slv (en := fun x => en (f x)) ht hsz h0 he hn
  rw [cells_sl ht hv] at e
  cases e
  exact ⟨a, c, l, by rw [List.length_map], by rw [List.length_map]; exact h1, h2.map⟩
end
section
variable {P : Program} {E : Env} {dst : Option Nat} {ty : TypeId} {pos : String} {af : Array Edge} {gd : Option (Nat × Bool)}
end
def Vec.ad : Vec → Option Addr
  | .nil => none
  | .at b _ _ => some ⟨b, 0, none⟩
def Vec.cp : Vec → Nat
  | .nil => 0
  | .at _ c _ => c
theorem Vec.val_ad {V : Vec} {sz n : Nat} {xs : List Value} (h : V.ok sz n xs) : V.val n = .slice V.ad n V.cp := by
  cases V with
  | nil => rw [h.2]; rfl
  | «at» b c sp => rfl
theorem Vec.slvA {α : Type} {V : Vec} {sz n : Nat} {t : TypeId} {enc : α → List Value} {xs : List α} (henc : ∀ x, (enc x).length = sz) (hn : xs.length = n) (hV : V.ok sz n (xs.flatMap enc)) : SlV (V.hp t (xs.flatMap enc)) sz enc V.ad xs := by
  cases V with
  | nil =>
    refine .inl (List.length_eq_zero_iff.1 ?_)
    rw [hn]; exact hV.2
  | «at» b c sp => exact .inr ⟨b, 0, _, t, (0, 0), rfl, List.mem_cons_self, fun i x hx => flat_at henc sp _ i hx⟩
theorem Vec.at_pos {V : Vec} {sz n : Nat} {xs : List Value} (h : V.ok sz n xs) (hn : 0 < n) : ∃ b cap sp, V = .at b cap sp := by
  cases V with
  | nil => exact absurd h.2 (by omega)
  | «at» b cap sp => exact ⟨b, cap, sp, rfl⟩
section
variable {P : Program} {r : Option Nat} {E : Env} {h g : Hp}
variable {K : Value → Hp → Prop} {T : List PanicEntry → Hp → Prop} {dst : Option Nat} {ty : TypeId} {pos : String} {af : Array Edge} {gd : Option (Nat × Bool)}
theorem xv_appendL {α : Type} {enc : α → List Value} {x y : Operand} {t e : TypeId} {d : TD} {V : Vec} {n cl sz : Nat} {al : Option Addr} {xs : List Value} {ys : List α} (ht : SlT P t e) (hd : TyOk P e d) (hzs : d.zero.cells.size = d.size) (hsz : d.size = sz)
    (hx : ev E x = some (V.val n)) (hy : ev E y = some (.slice al ys.length cl)) (hV : V.ok sz n xs) (hp : Tk (V.hp e xs) h g) (hl : SlV g sz enc al ys) (henc : ∀ x, (enc x).length = sz) (h1 : ∀ x, (enc x).all Value.oneCell' = true)
    (hb : 2 * (n + ys.length) * d.bytes ≤ 281474976710656) (h63 : n + ys.length ≤ 9223372036854775807)
    (H : ∀ V' : Vec, V'.ok sz (n + ys.length) (xs ++ ys.flatMap enc) → K (V'.val (n + ys.length)) (V'.hp e (xs ++ ys.flatMap enc) ++ g)) : XV P r ⟨dst, .call ⟨.builtin .append, #[x, y], #[t, t]⟩, ty, pos, af, gd⟩ K T E h := by
  subst hsz
  cases ys with
  | nil =>
    have hv := V.val_ad hV
    have hn : n ≤ V.cp := by
      cases V with
      | nil => rw [hV.2]; exact Nat.le_refl _
      | «at» b c sp => exact hV.2.1
    refine XV.perm hp.perm.symm ?_
    refine xv_append0 ht hd (hx.trans (congrArg some hv)) (c' := cl) (a' := al) hy hn ?_
    rw [← hv]
    have := H V (by simpa using hV)
    simpa using this
  | cons x0 xs0 =>
    obtain ⟨b9, o9, li, t9, fz, hal, hm, hx9⟩ := hl.at (i := 0) (by simp)
    subst hal
    exact xv_append (V := V) (n := n) (xs := xs) ht hd hzs hx hy hV hp hm (slv_flat2 henc hx9) (flat_lenM henc _) (flat_all h1 _) (by simp) hb h63 H
end
theorem list2 {α : Type} {l : List α} (h : l.length = 2) : ∃ a b, l = [a, b] := by
  rcases l with _ | ⟨a, _ | ⟨b, _ | ⟨c, l⟩⟩⟩ <;> simp at h
  exact ⟨_, _, rfl⟩
theorem list4 {α : Type} {l : List α} (h : l.length = 4) : ∃ a b c d, l = [a, b, c, d] := by
  rcases l with _ | ⟨a, _ | ⟨b, _ | ⟨c, _ | ⟨d, _ | ⟨e, l⟩⟩⟩⟩⟩ <;> simp at h
  exact ⟨_, _, _, _, rfl⟩
end Go.H

/-
  Facts on the types and functions of this seat.
-/
namespace Go.Proofs.YtlpkiolopelpfaaDoor
open Go.H
open Go
theorem ty1 : TyOk Tryd.prog 1 ⟨1, 8, (Go.TypeDesc.func #[] #[] false), Go.Value.nilFunc⟩ := ⟨Tryd.underlying1, by kernel_rfl⟩
theorem ty2 : TyOk Tryd.prog 2 ⟨1, 8, (Go.TypeDesc.int Go.IntKind.i64), (Go.Value.int Go.IntKind.i64 0)⟩ := ⟨Tryd.underlying2, by kernel_rfl⟩
theorem ty3 : TyOk Tryd.prog 3 ⟨1, 8, (Go.TypeDesc.int Go.IntKind.i64), (Go.Value.int Go.IntKind.i64 0)⟩ := ⟨Tryd.underlying3, by kernel_rfl⟩
theorem ty4 : TyOk Tryd.prog 4 ⟨1, 1, Go.TypeDesc.bool, (Go.Value.bool false)⟩ := ⟨Tryd.underlying4, by kernel_rfl⟩
theorem ty5 : TyOk Tryd.prog 5 ⟨1, 1, (Go.TypeDesc.int Go.IntKind.u8), (Go.Value.int Go.IntKind.u8 0)⟩ := ⟨Tryd.underlying5, by kernel_rfl⟩
theorem ty9 : TyOk Tryd.prog 9 ⟨1, 16, Go.TypeDesc.string, (Go.Value.string { data := #[] })⟩ := ⟨Tryd.underlying9, by kernel_rfl⟩
theorem ty22 : TyOk Tryd.prog 22 ⟨1, 24, (Go.TypeDesc.slice 44), (Go.Value.slice none 0 0)⟩ := ⟨Tryd.underlying22, by kernel_rfl⟩
theorem ty23 : TyOk Tryd.prog 23 ⟨1, 24, (Go.TypeDesc.slice 5), (Go.Value.slice none 0 0)⟩ := ⟨Tryd.underlying23, by kernel_rfl⟩
theorem ty25 : TyOk Tryd.prog 25 ⟨1, 8, (Go.TypeDesc.int Go.IntKind.i64), (Go.Value.int Go.IntKind.i64 0)⟩ := ⟨Tryd.underlying25, by kernel_rfl⟩
theorem ty44 : TyOk Tryd.prog 44 ⟨2, 16, (Go.TypeDesc.struct #[{ name := "Hour", type := 3, offset := 0, embedded := false, tag := "", pkgPath := "", byteOffset := 0 }, { name := "Height", type := 3, offset := 1, embedded := false, tag := "", pkgPath := "", byteOffset := 8 }]), (Go.Value.agg #[Go.Value.int Go.IntKind.i64 0, Go.Value.int Go.IntKind.i64 0])⟩ := ⟨Tryd.underlying44, by kernel_rfl⟩
theorem ty45 : TyOk Tryd.prog 45 ⟨1, 8, (Go.TypeDesc.func #[44] #[4] false), Go.Value.nilFunc⟩ := ⟨Tryd.underlying45, by kernel_rfl⟩
theorem ty48 : TyOk Tryd.prog 48 ⟨1, 1, (Go.TypeDesc.int Go.IntKind.i8), (Go.Value.int Go.IntKind.i8 0)⟩ := ⟨Tryd.underlying48, by kernel_rfl⟩
theorem ty50 : TyOk Tryd.prog 50 ⟨3, 40, (Go.TypeDesc.struct #[{ name := "buf", type := 23, offset := 0, embedded := false, tag := "", pkgPath := "bytes", byteOffset := 0 }, { name := "off", type := 3, offset := 1, embedded := false, tag := "", pkgPath := "bytes", byteOffset := 24 }, { name := "lastRead", type := 48, offset := 2, embedded := false, tag := "", pkgPath := "bytes", byteOffset := 32 }]), (Go.Value.agg #[Go.Value.slice none 0 0, Go.Value.int Go.IntKind.i64 0, Go.Value.int Go.IntKind.i8 0])⟩ := ⟨Tryd.underlying50, by kernel_rfl⟩
theorem ty52 : TyOk Tryd.prog 52 ⟨5, 48, (Go.TypeDesc.struct #[{ name := "Buffer", type := 50, offset := 0, embedded := true, tag := "", pkgPath := "", byteOffset := 0 }, { name := "upper", type := 5, offset := 3, embedded := false, tag := "", pkgPath := "gasworks/book", byteOffset := 40 }, { name := "waits", type := 4, offset := 4, embedded := false, tag := "", pkgPath := "gasworks/book", byteOffset := 41 }]), (Go.Value.agg #[Go.Value.slice none 0 0, Go.Value.int Go.IntKind.i64 0, Go.Value.int Go.IntKind.i8 0, Go.Value.int Go.IntKind.u8 0, Go.Value.bool false])⟩ := ⟨Tryd.underlying52, by kernel_rfl⟩
theorem ty60 : TyOk Tryd.prog 60 ⟨1, 24, (Go.TypeDesc.slice 3), (Go.Value.slice none 0 0)⟩ := ⟨Tryd.underlying60, by kernel_rfl⟩
theorem ty63 : TyOk Tryd.prog 63 ⟨1, 8, (Go.TypeDesc.pointer 69), (Go.Value.pointer none)⟩ := ⟨Tryd.underlying63, by kernel_rfl⟩
theorem ty72 : TyOk Tryd.prog 72 ⟨2, 32, (Go.TypeDesc.struct #[{ name := "House", type := 3, offset := 0, embedded := false, tag := "", pkgPath := "", byteOffset := 0 }, { name := "Readings", type := 60, offset := 1, embedded := false, tag := "", pkgPath := "", byteOffset := 8 }]), (Go.Value.agg #[Go.Value.int Go.IntKind.i64 0, Go.Value.slice none 0 0])⟩ := ⟨Tryd.underlying72, by kernel_rfl⟩
theorem ty75 : TyOk Tryd.prog 75 ⟨4, 32, (Go.TypeDesc.struct #[{ name := "Hour", type := 3, offset := 0, embedded := false, tag := "", pkgPath := "", byteOffset := 0 }, { name := "Retort", type := 3, offset := 1, embedded := false, tag := "", pkgPath := "", byteOffset := 8 }, { name := "Coal", type := 3, offset := 2, embedded := false, tag := "", pkgPath := "", byteOffset := 16 }, { name := "Weight", type := 3, offset := 3, embedded := false, tag := "", pkgPath := "", byteOffset := 24 }]), (Go.Value.agg #[Go.Value.int Go.IntKind.i64 0, Go.Value.int Go.IntKind.i64 0, Go.Value.int Go.IntKind.i64 0, Go.Value.int Go.IntKind.i64 0])⟩ := ⟨Tryd.underlying75, by kernel_rfl⟩
theorem ty76 : TyOk Tryd.prog 76 ⟨1, 8, (Go.TypeDesc.func #[75] #[4] false), Go.Value.nilFunc⟩ := ⟨Tryd.underlying76, by kernel_rfl⟩
theorem ty78 : TyOk Tryd.prog 78 ⟨1, 8, (Go.TypeDesc.pointer 80), (Go.Value.pointer none)⟩ := ⟨Tryd.underlying78, by kernel_rfl⟩
theorem ty80 : TyOk Tryd.prog 80 ⟨2, 32, (Go.TypeDesc.struct #[{ name := "addr", type := 78, offset := 0, embedded := false, tag := "", pkgPath := "strings", byteOffset := 0 }, { name := "buf", type := 23, offset := 1, embedded := false, tag := "", pkgPath := "strings", byteOffset := 8 }]), (Go.Value.agg #[Go.Value.pointer none, Go.Value.slice none 0 0])⟩ := ⟨Tryd.underlying80, by kernel_rfl⟩
theorem ty90 : TyOk Tryd.prog 90 ⟨1, 8, (Go.TypeDesc.func #[72] #[4] false), Go.Value.nilFunc⟩ := ⟨Tryd.underlying90, by kernel_rfl⟩
theorem ty93 : TyOk Tryd.prog 93 ⟨5, 5, (Go.TypeDesc.array 5 5), (Go.Value.agg #[Go.Value.int Go.IntKind.u8 0, Go.Value.int Go.IntKind.u8 0, Go.Value.int Go.IntKind.u8 0, Go.Value.int Go.IntKind.u8 0, Go.Value.int Go.IntKind.u8 0])⟩ := ⟨Tryd.underlying93, by kernel_rfl⟩
theorem ty108 : TyOk Tryd.prog 108 ⟨1, 8, (Go.TypeDesc.struct #[{ name := "e", type := 25, offset := 0, embedded := false, tag := "", pkgPath := "gasworks/book", byteOffset := 0 }]), (Go.Value.agg #[Go.Value.int Go.IntKind.i64 0])⟩ := ⟨Tryd.underlying108, by kernel_rfl⟩
theorem ty131 : TyOk Tryd.prog 131 ⟨24, 24, (Go.TypeDesc.array 24 5), (Go.Value.agg #[Go.Value.int Go.IntKind.u8 0, Go.Value.int Go.IntKind.u8 0, Go.Value.int Go.IntKind.u8 0, Go.Value.int Go.IntKind.u8 0, Go.Value.int Go.IntKind.u8 0, Go.Value.int Go.IntKind.u8 0, Go.Value.int Go.IntKind.u8 0, Go.Value.int Go.IntKind.u8 0, Go.Value.int Go.IntKind.u8 0, Go.Value.int Go.IntKind.u8 0, Go.Value.int Go.IntKind.u8 0, Go.Value.int Go.IntKind.u8 0, Go.Value.int Go.IntKind.u8 0, Go.Value.int Go.IntKind.u8 0, Go.Value.int Go.IntKind.u8 0, Go.Value.int Go.IntKind.u8 0, Go.Value.int Go.IntKind.u8 0, Go.Value.int Go.IntKind.u8 0, Go.Value.int Go.IntKind.u8 0, Go.Value.int Go.IntKind.u8 0, Go.Value.int Go.IntKind.u8 0, Go.Value.int Go.IntKind.u8 0, Go.Value.int Go.IntKind.u8 0, Go.Value.int Go.IntKind.u8 0])⟩ := ⟨Tryd.underlying131, by kernel_rfl⟩
theorem ty132 : TyOk Tryd.prog 132 ⟨1, 8, (Go.TypeDesc.int Go.IntKind.u64), (Go.Value.int Go.IntKind.u64 0)⟩ := ⟨Tryd.underlying132, by kernel_rfl⟩
theorem fl44_0 : FldOk Tryd.prog 44 0 0 1 false := ⟨_, _, Tryd.underlying44, rfl, rfl, _, ty3, rfl, rfl⟩
theorem fl44_1 : FldOk Tryd.prog 44 1 1 1 false := ⟨_, _, Tryd.underlying44, rfl, rfl, _, ty3, rfl, rfl⟩
theorem fl50_0 : FldOk Tryd.prog 50 0 0 1 false := ⟨_, _, Tryd.underlying50, rfl, rfl, _, ty23, rfl, rfl⟩
theorem fl50_1 : FldOk Tryd.prog 50 1 1 1 false := ⟨_, _, Tryd.underlying50, rfl, rfl, _, ty3, rfl, rfl⟩
theorem fl50_2 : FldOk Tryd.prog 50 2 2 1 false := ⟨_, _, Tryd.underlying50, rfl, rfl, _, ty48, rfl, rfl⟩
theorem fl52_0 : FldOk Tryd.prog 52 0 0 3 true := ⟨_, _, Tryd.underlying52, rfl, rfl, _, ty50, rfl, rfl⟩
theorem fl52_1 : FldOk Tryd.prog 52 1 3 1 false := ⟨_, _, Tryd.underlying52, rfl, rfl, _, ty5, rfl, rfl⟩
theorem fl52_2 : FldOk Tryd.prog 52 2 4 1 false := ⟨_, _, Tryd.underlying52, rfl, rfl, _, ty4, rfl, rfl⟩
theorem fl69_0 : FldOk Tryd.prog 69 0 0 1 false := ⟨_, _, Tryd.underlying69, rfl, rfl, _, ty23, rfl, rfl⟩
theorem fl69_1 : FldOk Tryd.prog 69 1 1 1 false := ⟨_, _, Tryd.underlying69, rfl, rfl, _, ty3, rfl, rfl⟩
theorem fl72_0 : FldOk Tryd.prog 72 0 0 1 false := ⟨_, _, Tryd.underlying72, rfl, rfl, _, ty3, rfl, rfl⟩
theorem fl72_1 : FldOk Tryd.prog 72 1 1 1 false := ⟨_, _, Tryd.underlying72, rfl, rfl, _, ty60, rfl, rfl⟩
theorem fl75_0 : FldOk Tryd.prog 75 0 0 1 false := ⟨_, _, Tryd.underlying75, rfl, rfl, _, ty3, rfl, rfl⟩
theorem fl75_1 : FldOk Tryd.prog 75 1 1 1 false := ⟨_, _, Tryd.underlying75, rfl, rfl, _, ty3, rfl, rfl⟩
theorem fl75_2 : FldOk Tryd.prog 75 2 2 1 false := ⟨_, _, Tryd.underlying75, rfl, rfl, _, ty3, rfl, rfl⟩
theorem fl75_3 : FldOk Tryd.prog 75 3 3 1 false := ⟨_, _, Tryd.underlying75, rfl, rfl, _, ty3, rfl, rfl⟩
theorem fl80_0 : FldOk Tryd.prog 80 0 0 1 false := ⟨_, _, Tryd.underlying80, rfl, rfl, _, ty78, rfl, rfl⟩
theorem fl80_1 : FldOk Tryd.prog 80 1 1 1 false := ⟨_, _, Tryd.underlying80, rfl, rfl, _, ty23, rfl, rfl⟩
theorem fl108_0 : FldOk Tryd.prog 108 0 0 1 false := ⟨_, _, Tryd.underlying108, rfl, rfl, _, ty25, rfl, rfl⟩
theorem sl22 : SlT Tryd.prog 22 44 := Tryd.underlying22
theorem sl23 : SlT Tryd.prog 23 5 := Tryd.underlying23
theorem sl32 : SlT Tryd.prog 32 75 := Tryd.underlying32
theorem sl33 : SlT Tryd.prog 33 72 := Tryd.underlying33
theorem bt44 : BtOk Tryd.prog 44 [Go.Value.int Go.IntKind.i64 0, Go.Value.int Go.IntKind.i64 0] (fun i => (#[(0, 1), (1, 1)] : Array (Nat × Nat))[i]?) := fun _ => by kernel_rfl
theorem sl60 : SlT Tryd.prog 60 3 := Tryd.underlying60
theorem bt69 : BtOk Tryd.prog 69 [Go.Value.slice none 0 0, Go.Value.int Go.IntKind.i64 0] (fun i => (#[(0, 1), (1, 1)] : Array (Nat × Nat))[i]?) := fun _ => by kernel_rfl
theorem bt72 : BtOk Tryd.prog 72 [Go.Value.int Go.IntKind.i64 0, Go.Value.slice none 0 0] (fun i => (#[(0, 1), (1, 1)] : Array (Nat × Nat))[i]?) := fun _ => by kernel_rfl
theorem bt75 : BtOk Tryd.prog 75 [Go.Value.int Go.IntKind.i64 0, Go.Value.int Go.IntKind.i64 0, Go.Value.int Go.IntKind.i64 0, Go.Value.int Go.IntKind.i64 0] (fun i => (#[(0, 1), (1, 1), (2, 1), (3, 1)] : Array (Nat × Nat))[i]?) := fun _ => by kernel_rfl
theorem sl86 : SlT Tryd.prog 86 9 := Tryd.underlying86
theorem bt108 : BtOk Tryd.prog 108 [Go.Value.int Go.IntKind.i64 0] (fun i => (#[(0, 1)] : Array (Nat × Nat))[i]?) := fun _ => by kernel_rfl
theorem fq3 : Flat Tryd.prog 1 3 1 false := flat_int Tryd.underlying3
theorem fq44 : Flat Tryd.prog 2 44 2 true := flat_struct Tryd.underlying44 (by kernel_rfl) (.cons (by decide) rfl ty3 rfl (fq3.le rfl) (by decide) rfl (.cons (by decide) rfl ty3 rfl (fq3.le rfl) (by decide) rfl .nil))
theorem eg44 : Tryd.prog.eqGuardType Tryd.prog.depth 44 = false := by kernel_rfl
theorem mixed : Tryd.prog.follows .mixedOrders = true := by kernel_rfl
theorem hb3 : HasBody Tryd.prog 3 := Tryd.call3
theorem hb4 : HasBody Tryd.prog 4 := Tryd.call4
theorem hb5 : HasBody Tryd.prog 5 := Tryd.call5
theorem hb6 : HasBody Tryd.prog 6 := Tryd.call6
theorem hb8 : HasBody Tryd.prog 8 := Tryd.call8
theorem hb9 : HasBody Tryd.prog 9 := Tryd.call9
theorem hb10 : HasBody Tryd.prog 10 := Tryd.call10
theorem hb11 : HasBody Tryd.prog 11 := Tryd.call11
theorem hb12 : HasBody Tryd.prog 12 := Tryd.call12
theorem hb13 : HasBody Tryd.prog 13 := Tryd.call13
theorem hb14 : HasBody Tryd.prog 14 := Tryd.call14
theorem hb15 : HasBody Tryd.prog 15 := Tryd.call15
theorem hb16 : HasBody Tryd.prog 16 := Tryd.call16
theorem hb17 : HasBody Tryd.prog 17 := Tryd.call17
theorem hb18 : HasBody Tryd.prog 18 := Tryd.call18
theorem hb19 : HasBody Tryd.prog 19 := Tryd.call19
theorem hb20 : HasBody Tryd.prog 20 := Tryd.call20
theorem hb21 : HasBody Tryd.prog 21 := Tryd.call21
theorem hb22 : HasBody Tryd.prog 22 := Tryd.call22
theorem hb23 : HasBody Tryd.prog 23 := Tryd.call23
theorem hb24 : HasBody Tryd.prog 24 := Tryd.call24
theorem hb25 : HasBody Tryd.prog 25 := Tryd.call25
theorem hb29 : HasBody Tryd.prog 29 := Tryd.call29
theorem hb30 : HasBody Tryd.prog 30 := Tryd.call30
theorem hb31 : HasBody Tryd.prog 31 := Tryd.call31
theorem hb32 : HasBody Tryd.prog 32 := Tryd.call32
theorem hb33 : HasBody Tryd.prog 33 := Tryd.call33
theorem hb34 : HasBody Tryd.prog 34 := Tryd.call34
theorem hb35 : HasBody Tryd.prog 35 := Tryd.call35
theorem hb36 : HasBody Tryd.prog 36 := Tryd.call36
theorem hb37 : HasBody Tryd.prog 37 := Tryd.call37
theorem hb38 : HasBody Tryd.prog 38 := Tryd.call38
theorem hb39 : HasBody Tryd.prog 39 := Tryd.call39
theorem hb40 : HasBody Tryd.prog 40 := Tryd.call40
theorem hb41 : HasBody Tryd.prog 41 := Tryd.call41
theorem hb42 : HasBody Tryd.prog 42 := Tryd.call42
theorem hb43 : HasBody Tryd.prog 43 := Tryd.call43
theorem hb44 : HasBody Tryd.prog 44 := Tryd.call44
theorem hb45 : HasBody Tryd.prog 45 := Tryd.call45
theorem hb46 : HasBody Tryd.prog 46 := Tryd.call46
theorem hb47 : HasBody Tryd.prog 47 := Tryd.call47
theorem hb48 : HasBody Tryd.prog 48 := Tryd.call48
theorem hb49 : HasBody Tryd.prog 49 := Tryd.call49
theorem hb50 : HasBody Tryd.prog 50 := Tryd.call50
theorem hb51 : HasBody Tryd.prog 51 := Tryd.call51
theorem hb52 : HasBody Tryd.prog 52 := Tryd.call52
theorem hb55 : HasBody Tryd.prog 55 := Tryd.call55
theorem hb56 : HasBody Tryd.prog 56 := Tryd.call56
theorem hb57 : HasBody Tryd.prog 57 := Tryd.call57
theorem hb58 : HasBody Tryd.prog 58 := Tryd.call58
theorem hb59 : HasBody Tryd.prog 59 := Tryd.call59
theorem hb60 : HasBody Tryd.prog 60 := Tryd.call60
theorem hb61 : HasBody Tryd.prog 61 := Tryd.call61
theorem hb62 : HasBody Tryd.prog 62 := Tryd.call62
theorem hb63 : HasBody Tryd.prog 63 := Tryd.call63
theorem hb64 : HasBody Tryd.prog 64 := Tryd.call64
theorem hb65 : HasBody Tryd.prog 65 := Tryd.call65
theorem hb66 : HasBody Tryd.prog 66 := Tryd.call66
theorem hb67 : HasBody Tryd.prog 67 := Tryd.call67
theorem hb68 : HasBody Tryd.prog 68 := Tryd.call68
theorem hb69 : HasBody Tryd.prog 69 := Tryd.call69
theorem hb70 : HasBody Tryd.prog 70 := Tryd.call70
theorem hb71 : HasBody Tryd.prog 71 := Tryd.call71
theorem hb72 : HasBody Tryd.prog 72 := Tryd.call72
theorem hb74 : HasBody Tryd.prog 74 := Tryd.call74
theorem hb75 : HasBody Tryd.prog 75 := Tryd.call75
theorem hb76 : HasBody Tryd.prog 76 := Tryd.call76
theorem hb77 : HasBody Tryd.prog 77 := Tryd.call77
theorem hb78 : HasBody Tryd.prog 78 := Tryd.call78
theorem hb80 : HasBody Tryd.prog 80 := Tryd.call80
theorem hb81 : HasBody Tryd.prog 81 := Tryd.call81
theorem hb82 : HasBody Tryd.prog 82 := Tryd.call82
theorem hb83 : HasBody Tryd.prog 83 := Tryd.call83
theorem hb85 : HasBody Tryd.prog 85 := Tryd.call85
theorem hb86 : HasBody Tryd.prog 86 := Tryd.call86
theorem hb87 : HasBody Tryd.prog 87 := Tryd.call87
theorem hb89 : HasBody Tryd.prog 89 := Tryd.call89
theorem hb90 : HasBody Tryd.prog 90 := Tryd.call90
theorem hb91 : HasBody Tryd.prog 91 := Tryd.call91
end Go.Proofs.YtlpkiolopelpfaaDoor

/-
  A copy of a slice onto an empty one.
-/
set_option linter.all false
namespace Go.H
open Go
section
variable {P : Program} {r : Option Nat} {E : Env} {h g : Hp} {K : Value → Hp → Prop} {T : List PanicEntry → Hp → Prop} {dst : Option Nat} {ty : TypeId} {pos : String} {af : Array Edge} {gd : Option (Nat × Bool)}
theorem xv_dup {α : Type} {enc : α → List Value} {x y : Operand} {t e : TypeId} {d : TD} {b n cl sz : Nat} {al : Option Addr} {ys : List α} (ht : SlT P t e) (hd : TyOk P e d) (hzs : d.zero.cells.size = d.size) (hsz : d.size = sz)
    (hx : ev E x = some (.slice (some ⟨b, 0, none⟩) 0 0)) (hy : ev E y = some (.slice al n cl)) (hn : n = ys.length) (hl : SlV g sz enc al ys) (henc : ∀ x, (enc x).length = sz) (h1 : ∀ x, (enc x).all Value.oneCell' = true)
    (hb : 2 * n * d.bytes ≤ 281474976710656) (h63 : n ≤ 9223372036854775807)
    (H : ∀ V' : Vec, V'.ok sz n (ys.flatMap enc) → K (.slice V'.ad n V'.cp) (V'.hp e (ys.flatMap enc) ++ g)) : XV P r ⟨dst, .call ⟨.builtin .append, #[x, y], #[t, t]⟩, ty, pos, af, gd⟩ K T E ((b, .cells ⟨[]⟩ e (0, 0)) :: g) := by
  subst hn
  refine xv_appendL (V := .at b 0 []) (n := 0) (xs := []) (ys := ys) ht hd hzs hsz hx hy ⟨by simp, Nat.le_refl _, by simp⟩ .here hl henc h1 (by rw [Nat.zero_add]; exact hb) (by rw [Nat.zero_add]; exact h63) fun V' hV' => ?_
  rw [Vec.val_ad hV']
  simp only [Nat.zero_add, List.nil_append] at hV' ⊢
  exact H V' hV'
end
end Go.H

/-
  Code with labels that nothing jumps to.
-/
set_option linter.all false
namespace Go
section
variable {P : Program} {F : Fence} {n : Nat} {b : Frame} {a : Act} {k : List Item} {cs : List Frame} {w : World} {Q : Exit → Act → World → Prop}
end
end Go
namespace Go.H
open Go
variable {P : Program} {r : Option Nat} {N : Nat} {Q : Post} {E : Env} {D : List Deferred} {h : Hp}
end Go.H
namespace Go.H
open Go
section
variable {P : Program} {r : Option Nat} {E : Env} {h : Hp} {K : Value → Hp → Prop} {T : List PanicEntry → Hp → Prop} {dst : Option Nat} {ty : TypeId} {pos : String} {af : Array Edge} {gd : Option (Nat × Bool)}
theorem Upd.same {b : Nat} {o : Obj} {h h' : Hp} (H : Upd h b o o h') : h' = h := by
  have : ∀ o2, Upd h b o o2 h' → o2 = o → h' = h := by
    intro o2 H2
    induction H2 with
    | here => intro e; subst e; rfl
    | there _ ih => intro e; rw [ih (by subst e; rename_i a; exact a) e]
  exact this o H rfl
end
end Go.H
namespace Go.H
open Go
section
variable {P : Program} {r : Option Nat} {E : Env} {h : Hp} {K : Value → Hp → Prop} {T : List PanicEntry → Hp → Prop} {dst : Option Nat} {ty : TypeId} {pos : String} {af : Array Edge} {gd : Option (Nat × Bool)}
end
end Go.H
namespace Go.H
open Go
section
variable {P : Program} {r : Option Nat} {E : Env} {h : Hp} {K : Value → Hp → Prop} {T : List PanicEntry → Hp → Prop} {dst : Option Nat} {ty : TypeId} {pos : String} {af : Array Edge} {gd : Option (Nat × Bool)}
end
end Go.H
namespace Go.H
end Go.H
namespace Go.H
open Go
end Go.H
