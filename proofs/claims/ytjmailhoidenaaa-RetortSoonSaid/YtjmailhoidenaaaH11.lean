/-
  Small rules that the written walks use.
-/
import Derived.Test.YtjmailhoidenaaaH10
set_option linter.all false
namespace Go.H
open Go
variable {P : Program} {r : Option Nat} {N : Nat} {Q : Post} {E : Env} {D : List Deferred} {h h' : Hp}
variable {K : Value → Hp → Prop} {T : List PanicEntry → Hp → Prop} {dst : Option Nat} {ty : TypeId} {pos : String} {af : Array Edge} {gd : Option (Nat × Bool)}
section
variable {KK : Env → List Deferred → Hp → Prop} {id id' : Nat} {ch : List PanicEntry}
theorem th_n (H : KK E D h) : Th KK Q .normal E D h := H
theorem th_x (H : Q (.exit id) E D h) : Th KK Q (.exit id) E D h := H
theorem th_r (H : Q .ret E D h) : Th KK Q .ret E D h := H
theorem th_p (H : Q (.panic ch) E D h) : Th KK Q (.panic ch) E D h := H
theorem bk_n (H : Q .normal E D h) : Bk id Q .normal E D h := H
theorem bk_r (H : Q .ret E D h) : Bk id Q .ret E D h := H
theorem bk_p (H : Q (.panic ch) E D h) : Bk id Q (.panic ch) E D h := H
end
theorem up_ret {v : Value} (H : K v h) : Up K T (.returned v) h := H
theorem up_pan {c : List PanicEntry} (H : T c h) : Up K T (.panicked c) h := H
theorem xv_lss2 {xt yt : TypeId} {x y : Operand} {k : IntKind} {a b : Int} (hx : ev E x = some (.int k a)) (hy : ev E y = some (.int k b))
    (H1 : a < b → K (.bool true) h) (H2 : b ≤ a → K (.bool false) h) : XV P r ⟨dst, .binOp .lss xt x y yt, ty, pos, af, gd⟩ K T E h :=
  xv_cmp2 hx hy rfl (fun hh => H1 hh) (fun hh => H2 (by simp only [cmpP] at hh; omega))
theorem xv_leq2 {xt yt : TypeId} {x y : Operand} {k : IntKind} {a b : Int} (hx : ev E x = some (.int k a)) (hy : ev E y = some (.int k b))
    (H1 : a ≤ b → K (.bool true) h) (H2 : b < a → K (.bool false) h) : XV P r ⟨dst, .binOp .leq xt x y yt, ty, pos, af, gd⟩ K T E h :=
  xv_cmp2 hx hy rfl (fun hh => H1 hh) (fun hh => H2 (by simp only [cmpP] at hh; omega))
theorem xv_gtr2 {xt yt : TypeId} {x y : Operand} {k : IntKind} {a b : Int} (hx : ev E x = some (.int k a)) (hy : ev E y = some (.int k b))
    (H1 : b < a → K (.bool true) h) (H2 : a ≤ b → K (.bool false) h) : XV P r ⟨dst, .binOp .gtr xt x y yt, ty, pos, af, gd⟩ K T E h :=
  xv_cmp2 hx hy rfl (fun hh => H1 hh) (fun hh => H2 (by simp only [cmpP] at hh; omega))
theorem xv_geq2 {xt yt : TypeId} {x y : Operand} {k : IntKind} {a b : Int} (hx : ev E x = some (.int k a)) (hy : ev E y = some (.int k b))
    (H1 : b ≤ a → K (.bool true) h) (H2 : a < b → K (.bool false) h) : XV P r ⟨dst, .binOp .geq xt x y yt, ty, pos, af, gd⟩ K T E h :=
  xv_cmp2 hx hy rfl (fun hh => H1 hh) (fun hh => H2 (by simp only [cmpP] at hh; omega))
theorem xv_eql2 {xt yt : TypeId} {x y : Operand} {k : IntKind} {a b : Int} (hx : ev E x = some (.int k a)) (hy : ev E y = some (.int k b))
    (H1 : a = b → K (.bool true) h) (H2 : a ≠ b → K (.bool false) h) : XV P r ⟨dst, .binOp .eql xt x y yt, ty, pos, af, gd⟩ K T E h :=
  xv_cmp2 hx hy rfl (fun hh => H1 hh) (fun hh => H2 hh)
theorem xv_neq2 {xt yt : TypeId} {x y : Operand} {k : IntKind} {a b : Int} (hx : ev E x = some (.int k a)) (hy : ev E y = some (.int k b))
    (H1 : a ≠ b → K (.bool true) h) (H2 : a = b → K (.bool false) h) : XV P r ⟨dst, .binOp .neq xt x y yt, ty, pos, af, gd⟩ K T E h :=
  xv_cmp2 hx hy rfl (fun hh => H1 hh) (fun hh => H2 (Classical.not_not.1 hh))
/-- The end of a body without deferred calls. -/
theorem body_ret {fn : Func} {R : Ending → Hp → Prop} {rl : List ResultVar} {vs : List Value} (hrl : fn.results.toList = rl) (hr : ResOk P E h rl vs) (hs : List.Sublist h' h) (H : R (.returned (tupV vs)) h') : BodyQ P fn R .ret E [] h :=
  ⟨trivial, vs, h', by rw [hrl]; exact hr, hs, fun _ hk => by simp [marked] at hk, H⟩
theorem body_end {fn : Func} {R : Ending → Hp → Prop} {rl : List ResultVar} {vs : List Value} (hrl : fn.results.toList = rl) (hr : ResOk P E h rl vs) (hs : List.Sublist h' h) (H : R (.returned (tupV vs)) h') : BodyQ P fn R .normal E [] h :=
  ⟨trivial, vs, h', by rw [hrl]; exact hr, hs, fun _ hk => by simp [marked] at hk, H⟩
theorem body_pan {fn : Func} {R : Ending → Hp → Prop} {ch : List PanicEntry} (H : R (.panicked ch) h) : BodyQ P fn R (.panic ch) E [] h := ⟨rfl, H⟩
/-- A result in a cell of one part. -/
theorem res_cell {b o : Nat} {l : List Value} {t t' : TypeId} {fz : Nat × Nat} {d : TD} {a : Nat} {v : Value} (ht : TyOk P t d) (ha : aggB d.und = false) (he : E a = some (.pointer (some ⟨b, o, none⟩))) (hm : (b, .cells ⟨l⟩ t' fz) ∈ h) (hl : l[o]? = some v) :
    ∃ b o l t' fz d, E a = some (.pointer (some ⟨b, o, none⟩)) ∧ (b, .cells ⟨l⟩ t' fz) ∈ h ∧ TyOk P t d ∧
      ((aggB d.und = false ∧ l[o]? = some v) ∨ (aggB d.und = true ∧ ∃ l', (l.drop o).take d.size = l' ∧ l'.length = d.size ∧ v = .agg ⟨l'⟩)) :=
  ⟨b, o, l, t', fz, d, he, hm, ht, .inl ⟨ha, hl⟩⟩
theorem res_cellA {b o : Nat} {l l' : List Value} {t t' : TypeId} {fz : Nat × Nat} {d : TD} {a : Nat} (ht : TyOk P t d) (ha : aggB d.und = true) (he : E a = some (.pointer (some ⟨b, o, none⟩))) (hm : (b, .cells ⟨l⟩ t' fz) ∈ h) (hl : (l.drop o).take d.size = l') (hn : l'.length = d.size) :
    ∃ b o l t' fz d, E a = some (.pointer (some ⟨b, o, none⟩)) ∧ (b, .cells ⟨l⟩ t' fz) ∈ h ∧ TyOk P t d ∧
      ((aggB d.und = false ∧ l[o]? = some (.agg ⟨l'⟩)) ∨ (aggB d.und = true ∧ ∃ l'', (l.drop o).take d.size = l'' ∧ l''.length = d.size ∧ (.agg ⟨l'⟩ : Value) = .agg ⟨l''⟩)) :=
  ⟨b, o, l, t', fz, d, he, hm, ht, .inr ⟨ha, l', hl, hn, rfl⟩⟩
/-- A round's end. -/
theorem rnd {σ : Type} {I : σ → Prop} {EI : σ → Env} {HI : σ → Hp} {μ : σ → Nat} {x : σ} {D0 : List Deferred} (x' : σ) (h1 : I x') (h2 : μ x' < μ x) (h3 : EnvLe (EI x') E) (h5 : List.Sublist (HI x') h) :
    Th (fun E' D' h' => ∃ x', I x' ∧ μ x' < μ x ∧ EnvLe (EI x') E' ∧ D' = D0 ∧ List.Sublist (HI x') h') Q .normal E D0 h := ⟨x', h1, h2, h3, rfl, h5⟩
theorem ro_nil : ResOk P E h [] [] := rfl
theorem ro_tmp {t : Nat} {v : Value} {rs : List ResultVar} {vs : List Value} (he : E t = some v) (H : ResOk P E h rs vs) : ResOk P E h (.tmp t :: rs) (v :: vs) := ⟨v, vs, rfl, he, H⟩
theorem ro_cell {b o : Nat} {l : List Value} {t t' : TypeId} {fz : Nat × Nat} {d : TD} {a : Nat} {v : Value} {rs : List ResultVar} {vs : List Value} (ht : TyOk P t d) (ha : aggB d.und = false) (he : E a = some (.pointer (some ⟨b, o, none⟩))) (hm : (b, .cells ⟨l⟩ t' fz) ∈ h) (hl : l[o]? = some v)
    (H : ResOk P E h rs vs) : ResOk P E h (.cell a t :: rs) (v :: vs) := ⟨v, vs, rfl, res_cell ht ha he hm hl, H⟩
theorem ro_cellA {b o : Nat} {l l' : List Value} {t t' : TypeId} {fz : Nat × Nat} {d : TD} {a : Nat} {rs : List ResultVar} {vs : List Value} (ht : TyOk P t d) (ha : aggB d.und = true) (he : E a = some (.pointer (some ⟨b, o, none⟩))) (hm : (b, .cells ⟨l⟩ t' fz) ∈ h) (hl : (l.drop o).take d.size = l') (hn : l'.length = d.size)
    (H : ResOk P E h rs vs) : ResOk P E h (.cell a t :: rs) (.agg ⟨l'⟩ :: vs) := ⟨_, vs, rfl, res_cellA ht ha he hm hl hn, H⟩
end Go.H
