/-
  The logic of owned blocks over the kit, part HD.
-/
import Derived.Test.YtjbfdfmngampdaaHC
import Derived.Recover
import Derived.Tactics2
import Derived.TacticsIn
import Derived.Laws.StructEq
import Derived.Maps.RangeRun
set_option linter.all false
/-
  Small tactics: a block's place in the list of blocks.
-/
namespace Go.H
open Go
/-- 'l = ?': the list is worked out, place by place. -/
theorem evl_cons {α : Type _} {l t t' : List α} {x x' : α} (h : l = x :: t) (hx : x = x') (ht : t = t') : l = x' :: t' := by rw [h, hx, ht]
theorem evl_some {α : Type _} {o : Option (List α)} {l l' : List α} (h : o = some l) (h2 : l = l') : o = some l' := by rw [h, h2]
variable {P : Program} {h h' : Hp}
theorem z_0 {α : Type _} {a : α} {l : List α} : a ∈ a :: l := List.mem_cons_self
theorem z_1 {α : Type _} {a b : α} {l : List α} (h : a ∈ l) : a ∈ b :: l := List.mem_cons_of_mem _ h
theorem z_r {α : Type _} {a : α} {l r : List α} (h : a ∈ r) : a ∈ l ++ r := List.mem_append_right _ h
theorem z_l {α : Type _} {a : α} {l r : List α} (h : a ∈ l) : a ∈ l ++ r := List.mem_append_left _ h
theorem s_0 {α : Type _} {l : List α} : List.Sublist l l := List.Sublist.refl _
theorem s_1 {α : Type _} {l : List α} : List.Sublist [] l := List.nil_sublist _
theorem s_3 {α : Type _} {l r : List α} : List.Sublist l (l ++ r) := List.sublist_append_left _ _
theorem s_4 {α : Type _} {l r r' : List α} (h : List.Sublist r r') : List.Sublist (l ++ r) (l ++ r') := List.Sublist.append (List.Sublist.refl _) h
theorem s_5 {α : Type _} {a : α} {l r : List α} (h : List.Sublist l r) : List.Sublist (a :: l) (a :: r) := List.Sublist.cons_cons _ h
theorem s_6 {α : Type _} {a : α} {l r : List α} (h : List.Sublist l r) : List.Sublist l (a :: r) := List.Sublist.cons _ h
theorem s_7 {α : Type _} {x l r : List α} (h : List.Sublist x r) : List.Sublist x (l ++ r) := List.Sublist.trans h (List.sublist_append_right _ _)
theorem s_8 {α : Type _} {x l r : List α} (h : List.Sublist x l) : List.Sublist x (l ++ r) := List.Sublist.trans h (List.sublist_append_left _ _)
theorem u_0 {b : Nat} {o o' : Obj} {h : Hp} : Upd ((b, o) :: h) b o o' ((b, o') :: h) := .here
theorem u_1 {x : Nat × Obj} {b : Nat} {o o' : Obj} {h h' : Hp} (H : Upd h b o o' h') : Upd (x :: h) b o o' (x :: h') := .there H
theorem u_2 {h h' : Hp} {b : Nat} {o o' : Obj} {f : Hp} (H : Upd h b o o' h') : Upd (f ++ h) b o o' (f ++ h') := Upd.left f H
theorem u_3 {h h' : Hp} {b : Nat} {o o' : Obj} {f : Hp} (H : Upd h b o o' h') : Upd (h ++ f) b o o' (h' ++ f) := Upd.append H
theorem v_1 {k : IntKind} {n : Int} : Value.int k n = .int k n := rfl
theorem v_2 {b : Bool} : Value.bool b = .bool b := rfl
theorem v_3 {a : Option Addr} : Value.pointer a = .pointer a := rfl
theorem v_4 {a : Option Addr} {n c : Nat} : Value.slice a n c = .slice a n c := rfl
theorem v_5 {c : Array Value} : Value.agg c = .agg c := rfl
theorem v_6 {r : Option Nat} : Value.map r = .map r := rfl
theorem v_7 {f : Fn} {a b : Array Value} : Value.func f a b = .func f a b := rfl
theorem v_8 {t : TypeId} {v : Value} : Value.iface t v = .iface t v := rfl
theorem v_9 {s : ByteArray} : Value.string s = .string s := rfl
theorem AFn.framed {fv : Value} {args : List Value} {R : Ending → Hp → Prop} (g : Hp) (H : AFn P fv args h (fun e h' => R e (g ++ h'))) : AFn P fv args (g ++ h) R :=
  (AFn.frameL g H).mono (by rintro e _ ⟨h', rfl, q⟩; exact q)
/-- What lies ahead is framed out. -/
theorem ACalls.framed {f : FuncId} {args : Array Value} {R : Ending → Hp → Prop} (g : Hp) (H : ACalls P f args h (fun e h' => R e (g ++ h'))) : ACalls P f args (g ++ h) R := by
  intro w ho
  refine (ACalls.frameL g H w ho).mono ?_
  rintro e w' ⟨h2, ⟨h', rfl, q⟩, hf⟩
  exact ⟨_, q, hf⟩
theorem Vec.one (V : Vec) (n : Nat) : (V.val n).oneCell' = true := by cases V <;> rfl
section
variable {r : Option Nat} {E : Env} {K : Value → Hp → Prop} {T : List PanicEntry → Hp → Prop} {dst : Option Nat} {ty : TypeId} {pos : String} {af : Array Edge} {gd : Option (Nat × Bool)}
theorem xv_ia {x y : Operand} {t e : TypeId} {d : TD} {b o n c : Nat} {k : IntKind} {i : Int} {j sz : Nat} (ht : SlT P t e) (hd : TyOk P e d) (hs : d.size = sz) (hx : ev E x = some (.slice (some ⟨b, o, none⟩) n c)) (hy : ev E y = some (.int k i)) (hj : i.toNat = j) (h0 : 0 ≤ i) (h1 : i < n)
    (H : K (.pointer (some ⟨b, o + j * sz, none⟩)) h) : XV P r ⟨dst, .indexAddr t x y, ty, pos, af, gd⟩ K T E h :=
  xv_iaddr ht hd hx hy h0 h1 (by rw [hs, hj]; exact H)
theorem xv_iaA {x y : Operand} {t e : TypeId} {d : TD} {b o n : Nat} {k : IntKind} {i : Int} {j sz : Nat} (ht : P.underlying t = some (.array n e)) (hd : TyOk P e d) (hs : d.size = sz) (hx : ev E x = some (.pointer (some ⟨b, o, none⟩))) (hy : ev E y = some (.int k i)) (hj : i.toNat = j) (h0 : 0 ≤ i) (h1 : i < n)
    (H : K (.pointer (some ⟨b, o + j * sz, none⟩)) h) : XV P r ⟨dst, .indexAddr t x y, ty, pos, af, gd⟩ K T E h :=
  xv_iaddrA ht hd hx hy h0 h1 (by rw [hs, hj]; exact H)
end
section
variable {r : Option Nat} {N : Nat} {Q : Post} {E : Env} {D : List Deferred} {ops : Array Oper} {G : Prom} {l : List Item} {L : List (Nat × (Obj → Prop))}
theorem js_R0 {i : Nat} {o : Oper} {v : Value} (hi : ops[i]? = some o) (hd : dstOk N o.dst = true) (hr : Runs ops o E) (H : XV P r o (fun v' h' => v' = v ∧ h' = h) (fun _ _ => False) E h) (H2 : J P r N ops D Q [] L l (E.put o.dst v) G h) : J P r N ops D Q [] L ((i, .R) :: l) E G h :=
  js_R hi hd hr (by rw [List.append_nil]; exact H) H2
theorem js_O0 {i : Nat} {o : Oper} (hi : ops[i]? = some o) (hd : dstOk N o.dst = true) (hr : Runs ops o E) (H : XV P r o (fun v h' => J P r N ops D Q [] [] l (E.put o.dst v) G h') (fun ch h'' => Q (.panic ch) emp D h'') E h) : J P r N ops D Q [] [] ((i, .O) :: l) E G h :=
  js_O hi hd hr (by rw [List.append_nil]; exact H.mono (fun v h' k => ⟨h', by simp, .nil, k⟩) (fun _ _ k => k))
theorem js_OL0 {i : Nat} {o : Oper} (hi : ops[i]? = some o) (hd : dstOk N o.dst = true) (hr : Runs ops o E) (H : XV P r o (fun v h' => Holds L h' ∧ J P r N ops D Q [] L l (E.put o.dst v) G h') (fun ch h'' => Q (.panic ch) emp D h'') E h) : J P r N ops D Q [] L ((i, .O) :: l) E G h :=
  js_O hi hd hr (by rw [List.append_nil]; exact H.mono (fun v h' k => ⟨h', by simp, k.1, k.2⟩) (fun _ _ k => k))
theorem holds1 {b : Nat} {o : Obj} {p : Obj → Prop} (hm : (b, o) ∈ h) (hp : p o) : Holds [(b, p)] h := fun b' p' hb => by
  simp only [List.mem_singleton, Prod.mk.injEq] at hb
  obtain ⟨rfl, rfl⟩ := hb
  exact ⟨o, hm, hp⟩
theorem js_A0 {i : Nat} {o : Oper} {mk : Nat → Value} {obj : Obj} {E0 : Env} {tl : List Nat} (hi : ops[i]? = some o) (hd : dstOk N o.dst = true) (hg : o.guard = none) (hG : G i = some ⟨mk, obj, restr o E0⟩) (ht : tmpsOf o.op.operands.toList = tl) (he : EqL tl E0 E)
    (H2 : ∀ b, b ∉ keys h → J P r N ops D Q [] L l (E.put o.dst (mk b)) G ((b, obj) :: h)) : J P r N ops D Q [] L ((i, .A) :: l) E G h :=
  js_A hi hd hg hG ht he (by simpa using H2)
end
end Go.H

/-
  Deferred calls: a closure that recovers; the end of a function that has one.
-/
namespace Go.H
open Go
variable {P : Program} {r : Option Nat} {N : Nat} {Q : Post} {E : Env} {D : List Deferred} {h : Hp}
/-! ### The end of a function that has deferred calls -/
section
variable {K : Value → Hp → Prop} {T : List PanicEntry → Hp → Prop} {dst : Option Nat} {ty : TypeId} {pos : String} {af : Array Edge} {gd : Option (Nat × Bool)} {xt yt : TypeId} {x y : Operand} {k : IntKind} {a b : Int}
theorem xv_neqT (hx : ev E x = some (.int k a)) (hy : ev E y = some (.int k b)) (hn : a ≠ b) (H : K (.bool true) h) : XV P r ⟨dst, .binOp .neq xt x y yt, ty, pos, af, gd⟩ K T E h := xv_cmp hx hy (by simp [cmpB, hn]) H
theorem xv_neqF (hx : ev E x = some (.int k a)) (hy : ev E y = some (.int k b)) (hn : a = b) (H : K (.bool false) h) : XV P r ⟨dst, .binOp .neq xt x y yt, ty, pos, af, gd⟩ K T E h := xv_cmp hx hy (by simp [cmpB, hn]) H
theorem xv_eqlT (hx : ev E x = some (.int k a)) (hy : ev E y = some (.int k b)) (hn : a = b) (H : K (.bool true) h) : XV P r ⟨dst, .binOp .eql xt x y yt, ty, pos, af, gd⟩ K T E h := xv_cmp hx hy (by simp [cmpB, hn]) H
theorem xv_eqlF (hx : ev E x = some (.int k a)) (hy : ev E y = some (.int k b)) (hn : a ≠ b) (H : K (.bool false) h) : XV P r ⟨dst, .binOp .eql xt x y yt, ty, pos, af, gd⟩ K T E h := xv_cmp hx hy (by simp [cmpB, hn]) H
end
end Go.H

/-
  Ranges over functions, as they are walked: a ghost, garbage let go; the end of a body with marks.
-/
namespace Go.H
open Go
variable {P : Program} {r : Option Nat} {N : Nat} {Q : Post} {E : Env} {D : List Deferred} {h h' : Hp}
/-- What holds of a part of the blocks holds of all. -/
def Mon (Q : Post) : Prop := ∀ E D h h', List.Sublist h h' → Q .normal E D h → Q .normal E D h'
theorem EnvLe.rfl' (E : Env) : EnvLe E E := fun _ _ hh => hh
theorem mon_th {y : Code} {Q' : Post} : Mon (Th (XC P r N y Q) Q') := fun _ _ _ _ hs hq => XC.weaken (EnvLe.rfl' _) hs hq
theorem mon_bk {id : Nat} (H : Mon Q) : Mon (Bk id Q) := fun E D h h' hs hq => H E D h h' hs hq
def RndA (K : Env → List Deferred → Hp → Prop) : Post
  | .normal, E, D, h => K E D h
  | _, _, _, _ => False
def RndQ {γ : Type} (Inv : Nat → γ → Prop) (HI : Nat → γ → Hp) (k : Nat) (Ix : Code → Nat → Hp → Prop) : Post
  | .normal, _, D, h => D = [] ∧ ∃ g, Inv (k + 1) g ∧ List.Sublist (HI (k + 1) g) h
  | .ret, _, D, h => D = [] ∧ Ix .ret (k + 1) h
  | .exit id, _, D, h => D = [] ∧ Ix (.exit id) (k + 1) h
  | _, _, _, _ => False
theorem rndA_n {K : Env → List Deferred → Hp → Prop} (H : K E D h) : RndA K .normal E D h := H
theorem rndQ_n {γ : Type} {Inv : Nat → γ → Prop} {HI : Nat → γ → Hp} {k : Nat} {Ix : Code → Nat → Hp → Prop} (g : γ) (h1 : Inv (k + 1) g) (h2 : List.Sublist (HI (k + 1) g) h) : RndQ Inv HI k Ix .normal E [] h := ⟨rfl, g, h1, h2⟩
theorem puts_le {ps : List Nat} {vs : List Value} {E E' : Env} (hle : EnvLe E E') : EnvLe (puts E ps vs) (puts E' ps vs) := by
  induction ps generalizing vs E E' with
  | nil => simpa [puts] using hle
  | cons p ps ih =>
    cases vs with
    | nil => simpa [puts] using hle
    | cons v vs =>
      simp only [puts]
      refine ih (fun t u hu => ?_)
      simp only [Env.put] at hu ⊢
      cases hb : Nat.beq t p with
      | true => rw [hb] at hu; exact hu
      | false => rw [hb] at hu; exact hle t u hu
theorem xc_range2 {α γ : Type} {g : Operand} {ps : Array Tmp} {assign body : Code} {gf : FuncId} {fi lb : List Value} (enc : α → List Value) (all : List α) (core : Hp)
    (hg : ev E g = some (.func (.func gf) ⟨fi⟩ ⟨lb⟩)) (hb : HasBody P gf) (hit : Iter P gf fi lb enc all (fun h' => core ⊆ h')) (hps : ∀ x, (enc x).length = ps.size) (hpN : ∀ p ∈ ps.toList, p < N)
    (EI : Env) (Inv : Nat → γ → Prop) (HI : Nat → γ → Hp) (Ix : Code → Nat → Hp → Prop) (g0 : γ) (hm : Mon Q) (hle : EnvLe EI E) (h0 : Inv 0 g0) (hs0 : List.Sublist (HI 0 g0) h) (hcore : ∀ k g, core ⊆ HI k g)
    (round : ∀ l k x g, all[k]? = some x → Inv k g → XC P (some l) N assign (RndA (XC P (some l) N body (RndQ Inv HI k Ix))) (puts EI ps.toList (enc x)) [] (HI k g))
    (stop : ∀ k c j h', j ≤ all.length → Ix c j h' → k ∉ keys h' → XC P none N c Q E (markOf k :: D) ((k, .deferred (some [])) :: h'))
    (done : ∀ k g, Inv all.length g → k ∉ keys (HI all.length g) → Q .normal E (markOf k :: D) ((k, .deferred (some [])) :: HI all.length g)) : XC P none N (.rangeFunc g ps assign body) Q E D h := by
  refine xc_range enc all (fun h' => core ⊆ h') hg hb hit hps hpN (fun k h' => ∃ g, Inv k g ∧ List.Sublist (HI k g) h') Ix ?_ ?_ ⟨g0, h0, hs0⟩ ?_ ?_ stop
  · rintro k h' ⟨g, _, hs⟩ x y z hz
    exact List.mem_cons_of_mem _ (List.mem_cons_of_mem _ (hs.subset (hcore k g hz)))
  · intro h1 h2 hp hr z hz; exact (hp.mem_iff).1 (hr hz)
  · rintro l k x hx h' ⟨g, hi, hs⟩
    refine XC.mono (XC.weaken (puts_le hle) hs (round l k x g hx hi)) ?_
    intro e E1 D1 h1 q
    cases e with
    | normal =>
      refine ⟨rfl, XC.mono q ?_⟩
      intro e2 E2 D2 h2 q2
      cases e2 with
      | normal => exact q2
      | ret => exact q2
      | exit id => exact q2
      | _ => exact q2.elim
    | _ => exact q.elim
  · rintro k h' ⟨g, hi, hs⟩ hk
    have hk2 : k ∉ keys (HI all.length g) := fun hh => hk ((hs.map Prod.fst).subset hh)
    exact hm _ _ _ _ (hs.cons_cons _) (done k g hi hk2)
/-- The end of a body after one range over a function. -/
theorem body_retM {fn : Func} {R : Ending → Hp → Prop} {rl : List ResultVar} {vs : List Value} {k : Nat} (hrl : fn.results.toList = rl) (hr : ResOk P E h rl vs) (hs : List.Sublist h' h) (hk : (k, .deferred (some [])) ∈ h) (hn : k ∉ keys h') (H : R (.returned (tupV vs)) h') : BodyQ P fn R .ret E [markOf k] h :=
  ⟨⟨⟨k, rfl, hk, by simp⟩, trivial⟩, vs, h', by rw [hrl]; exact hr, hs, fun j hj => by simp [marked, markOf] at hj; subst hj; exact hn, H⟩
/-- What is not among the keys of all is not among those of a part. -/
theorem nkeys {k : Nat} (hs : h ⊆ h') (hn : k ∉ keys h') : k ∉ keys h := fun hh => hn ((List.map_subset Prod.fst hs) hh)
/-- The call of 'yield' within an iterator. -/
theorem yieldTo {y : Value} {args : List Value} {g h0 : Hp} {J1 J2 : Hp → Prop} {R : Ending → Hp → Prop} (H : AFn P y args h0 (fun e h2 => (e = .returned (.bool true) ∧ J1 h2) ∨ (e = .returned (.bool false) ∧ J2 h2)))
    (H1 : ∀ h2, J1 h2 → R (.returned (.bool true)) (g ++ h2)) (H2 : ∀ h2, J2 h2 → R (.returned (.bool false)) (g ++ h2)) : AFn P y args (g ++ h0) R := by
  refine AFn.framed g (H.mono ?_)
  rintro e h2 (⟨rfl, hj⟩ | ⟨rfl, hj⟩)
  · exact H1 _ hj
  · exact H2 _ hj
theorem flat_at {α : Type} {enc : α → List Value} {sz : Nat} (henc : ∀ x, (enc x).length = sz) {x : α} (sp : List Value) : ∀ (xs : List α) (k : Nat), xs[k]? = some x → ((xs.flatMap enc ++ sp).drop (0 + k * sz)).take sz = enc x
  | [], k, hk => by simp at hk
  | q :: rs, 0, hk => by
    simp at hk; subst hk
    simp only [List.flatMap_cons, List.append_assoc, Nat.zero_mul, Nat.add_zero, List.drop_zero]
    rw [List.take_append_of_le_length (by rw [henc]; exact Nat.le_refl _), List.take_of_length_le (by rw [henc]; exact Nat.le_refl _)]
  | q :: rs, k + 1, hk => by
    have ih := flat_at henc sp rs k (by simpa using hk)
    rw [Nat.zero_add] at ih
    have e : 0 + (k + 1) * sz = (enc q).length + k * sz := by rw [henc, Nat.add_mul]; omega
    simp only [List.flatMap_cons, List.append_assoc]
    rw [e, ← List.drop_drop, List.drop_left]
    exact ih
theorem Vec.slv {α : Type} {V : Vec} {sz : Nat} {enc : α → List Value} (henc : ∀ x, (enc x).length = sz) {xs : List α} {t : TypeId} (hV : V.ok sz xs.length (xs.flatMap enc)) (hsub : V.hp t (xs.flatMap enc) ⊆ h) :
    ∃ a c, V.val xs.length = .slice a xs.length c ∧ SlV h sz enc a xs := by
  cases V with
  | nil =>
    obtain ⟨_, h0⟩ := hV
    have : xs = [] := List.length_eq_zero_iff.1 h0
    subst this
    exact ⟨none, 0, rfl, .inl rfl⟩
  | «at» b cap sp =>
    exact ⟨some ⟨b, 0, none⟩, cap, rfl, .inr ⟨b, 0, _, t, (0, 0), rfl, hsub List.mem_cons_self, fun i x hx => flat_at henc sp xs i hx⟩⟩
end Go.H

/-
  '==' of structs and arrays of numbers; ranges over maps.
-/
namespace Go.H
open Go
variable {P : Program} {r : Option Nat} {N : Nat} {Q : Post} {E : Env} {D : List Deferred} {h h' : Hp}
variable {K : Value → Hp → Prop} {T : List PanicEntry → Hp → Prop} {dst : Option Nat} {ty : TypeId} {pos : String} {af : Array Edge} {gd : Option (Nat × Bool)}
def eqc : List Value → List Value → Bool
  | [], [] => true
  | .int _ a :: xs, .int _ b :: ys => a == b && eqc xs ys
  | .bool a :: xs, .bool b :: ys => a == b && eqc xs ys
  | _, _ => false
def Num (v : Value) : Prop := ∃ n, v = .int .i64 n
def pk : Bool → List Value → Value
  | true, xs => .agg ⟨xs⟩
  | false, x :: _ => x
  | false, [] => undef
/-- A type's values are compared number by number. -/
def Flat (P : Program) (n : Nat) (t : TypeId) (sz : Nat) (agg : Bool) : Prop :=
  ∀ d, n ≤ d → ∀ xs ys : List Value, xs.length = sz → ys.length = sz → (∀ x ∈ xs, Num x) → (∀ y ∈ ys, Num y) → ∀ w, (Op.equalIn d t (pk agg xs) (pk agg ys)).run P w = .ok (eqc xs ys) w
theorem flat_int {t : TypeId} (ht : P.underlying t = some (.int .i64)) : Flat P 1 t 1 false := by
  intro d hd xs ys hx hy nx ny w
  obtain ⟨d, rfl⟩ : ∃ e, d = e + 1 := ⟨d - 1, by omega⟩
  match xs, ys, hx, hy with
  | [x], [y], _, _ =>
    obtain ⟨a, rfl⟩ := nx x List.mem_cons_self
    obtain ⟨b, rfl⟩ := ny y List.mem_cons_self
    simp only [pk]
    rw [run_equalIn_int w d t .i64 .i64 a b ht]
    simp [eqc]
theorem eqc_append : ∀ {xs ys us vs : List Value}, xs.length = ys.length → (∀ x ∈ xs, Num x) → (∀ y ∈ ys, Num y) → eqc (xs ++ us) (ys ++ vs) = (eqc xs ys && eqc us vs)
  | [], [], us, vs, _, _, _ => by simp [eqc]
  | x :: xs, y :: ys, us, vs, hl, hx, hy => by
    obtain ⟨a, rfl⟩ := hx x List.mem_cons_self
    obtain ⟨b, rfl⟩ := hy y List.mem_cons_self
    have := eqc_append (us := us) (vs := vs) (by simpa using hl) (fun x h => hx x (List.mem_cons_of_mem _ h)) (fun y h => hy y (List.mem_cons_of_mem _ h))
    simp only [List.cons_append, eqc, this, Bool.and_assoc]
/-- Fields, one behind the other. -/
inductive FlatF (P : Program) (n : Nat) : List Field → Nat → Nat → Prop
  | nil {o : Nat} : FlatF P n [] o o
  | cons {f : Field} {fs : List Field} {o s e : Nat} {d : TD} (hn : f.name ≠ "_") (ho : f.offset = o) (hd : TyOk P f.type d) (hs : d.size = s) (hf : Flat P n f.type s (aggB d.und)) (h0 : 0 < s) (h1 : (aggB d.und || Nat.beq s 1) = true) (hr : FlatF P n fs (o + s) e) : FlatF P n (f :: fs) o e
theorem FlatF.le {n : Nat} {fs : List Field} {o e : Nat} (H : FlatF P n fs o e) : o ≤ e := by
  induction H with
  | nil => exact Nat.le_refl _
  | cons _ _ _ _ _ _ _ ih => omega
theorem part_run {t : TypeId} {d : TD} (ht : TyOk P t d) {xs : List Value} {o : Nat} (h0 : 0 < d.size) (hl : o + d.size ≤ xs.length) (h1 : aggB d.und = false → d.size = 1) (w : World) : (part t ⟨xs⟩ o).run P w = .ok (pk (aggB d.und) ((xs.drop o).take d.size)) w := by
  cases ha : aggB d.und with
  | true => simp [part, ht.run_agg, ha, ht.run_size, pk]
  | false =>
    have h1 := h1 ha
    have hlt : o < xs.length := by omega
    rw [h1]
    have e : (xs.drop o).take 1 = [xs[o]] := by rw [List.drop_eq_getElem_cons hlt]; rfl
    rw [e]
    simp [part, ht.run_agg, ha, pk, hlt]
theorem seg_num {xs : List Value} (hx : ∀ x ∈ xs, Num x) (o n : Nat) : ∀ x ∈ (xs.drop o).take n, Num x := fun x hm => hx x (List.mem_of_mem_drop (List.mem_of_mem_take hm))
theorem seg_split (xs : List Value) (o s : Nat) : xs.drop o = (xs.drop o).take s ++ xs.drop (o + s) := by
  rw [← List.drop_drop, List.take_append_drop]
theorem flatF_run {n : Nat} : ∀ {fs : List Field} {o e : Nat}, FlatF P n fs o e → ∀ d, n ≤ d → ∀ xs ys : List Value, xs.length = e → ys.length = e → (∀ x ∈ xs, Num x) → (∀ y ∈ ys, Num y) → ∀ w, (Op.eqFields d ⟨xs⟩ ⟨ys⟩ fs).run P w = .ok (eqc (xs.drop o) (ys.drop o)) w := by
  intro fs o e H
  induction H with
  | nil =>
    intro d hd xs ys hx hy nx ny w
    rw [List.drop_eq_nil_of_le (by omega), List.drop_eq_nil_of_le (by omega)]
    simp [Op.eqFields, eqc]
  | @cons f fs o s e td hn ho hd hs hf h0 h1 hr ih =>
    intro d hdn xs ys hx hy nx ny w
    have hle := hr.le
    subst hs
    have hs1 : aggB td.und = false → td.size = 1 := fun ha => by simpa [ha] using h1
    have lx : ((xs.drop o).take td.size).length = td.size := by simp; omega
    have ly : ((ys.drop o).take td.size).length = td.size := by simp; omega
    have pa := part_run hd (xs := xs) (o := o) h0 (by omega) hs1 w
    have pb := part_run hd (xs := ys) (o := o) h0 (by omega) hs1 w
    have pe := hf d hdn _ _ lx ly (seg_num nx o _) (seg_num ny o _) w
    have hrest := ih d hdn xs ys hx hy nx ny w
    rw [seg_split xs o td.size, seg_split ys o td.size, eqc_append (by rw [lx, ly]) (seg_num nx o _) (seg_num ny o _)]
    simp only [Op.eqFields, if_pos hn, ho, Sem.run_bind, pa, pb, pe, Result.andThen_ok]
    cases eqc ((xs.drop o).take td.size) ((ys.drop o).take td.size)
    · simp
    · simpa using hrest
theorem flat_struct {n : Nat} {t : TypeId} {fs : Array Field} {sz : Nat} (hu : P.underlying t = some (.struct fs)) (hp : P.stoodInHeld t = false) (hf : FlatF P n fs.toList 0 sz) : Flat P (n + 1) t sz true := by
  intro d hd xs ys hx hy nx ny w
  obtain ⟨d, rfl⟩ : ∃ e, d = e + 1 := ⟨d - 1, by omega⟩
  have hfo : P.fieldsOf t = fs := by simp [Program.fieldsOf, hu]
  show (Op.equalIn (d + 1) t (.agg ⟨xs⟩) (.agg ⟨ys⟩)).run P w = _
  rw [run_equalIn_struct w d t ⟨xs⟩ ⟨ys⟩ (by rw [hfo]; exact hu) hp, hfo]
  have := flatF_run hf d (by omega) xs ys hx hy nx ny w
  simpa using this
theorem Flat.le {n m sz : Nat} {t : TypeId} {agg : Bool} (H : Flat P n t sz agg) (hm : Nat.ble n m = true) : Flat P m t sz agg := fun d hd => H d (Nat.le_trans (Nat.le_of_ble_eq_true hm) hd)
theorem numNil : ∀ x ∈ ([] : List Value), Num x := fun _ hx => by cases hx
theorem numCons {n : Int} {xs : List Value} (H : ∀ x ∈ xs, Num x) : ∀ x ∈ (Value.int .i64 n :: xs), Num x := fun x hx => by
  rcases List.mem_cons.1 hx with rfl | hx
  · exact ⟨_, rfl⟩
  · exact H x hx
theorem numApp {xs ys : List Value} (H1 : ∀ x ∈ xs, Num x) (H2 : ∀ y ∈ ys, Num y) : ∀ x ∈ xs ++ ys, Num x := fun x hx => (List.mem_append.1 hx).elim (H1 x) (H2 x)
theorem guard_ok {op : BinOp} {t : TypeId} {x y : Operand} {xs ys : List Value} (hg : P.eqGuardType P.depth t = false) (w : World) : (eqGuard op t x y (.agg ⟨xs⟩) (.agg ⟨ys⟩)).run P w = .ok () w := by
  unfold eqGuard
  cases op <;> simp [hg]
theorem xv_eqA {n sz : Nat} {xt yt : TypeId} {x y : Operand} {xs ys : List Value} {b : Bool} (hf : Flat P n xt sz true) (hn : Nat.ble n 10000 = true) (hg : P.eqGuardType P.depth xt = false) (hx : ev E x = some (.agg ⟨xs⟩)) (hy : ev E y = some (.agg ⟨ys⟩)) (lx : xs.length = sz) (ly : ys.length = sz) (nx : ∀ x ∈ xs, Num x) (ny : ∀ y ∈ ys, Num y) (hb : eqc xs ys = b)
    (H : K (.bool b) h) : XV P r ⟨dst, .binOp .eql xt x y yt, ty, pos, af, gd⟩ K T E h :=
  xv_of_run (by simp [plainOp]) fun w ρ ho he => ⟨_, h, w, by
    have hq : (binOp .eql xt (.agg ⟨xs⟩) (.agg ⟨ys⟩)).run P w = .ok (.bool b) w := by
      rw [run_eql_struct, show (Op.equalIn 10000 xt (.agg ⟨xs⟩) (.agg ⟨ys⟩)).run P w = _ from hf 10000 (Nat.le_of_ble_eq_true hn) xs ys lx ly nx ny w, hb]; rfl
    rw [run_bin (he _ _ hx) (he _ _ hy) (guard_ok hg), hq]; rfl, H, .refl ho⟩
theorem xv_neA {n sz : Nat} {xt yt : TypeId} {x y : Operand} {xs ys : List Value} {b : Bool} (hf : Flat P n xt sz true) (hn : Nat.ble n 10000 = true) (hg : P.eqGuardType P.depth xt = false) (hx : ev E x = some (.agg ⟨xs⟩)) (hy : ev E y = some (.agg ⟨ys⟩)) (lx : xs.length = sz) (ly : ys.length = sz) (nx : ∀ x ∈ xs, Num x) (ny : ∀ y ∈ ys, Num y) (hb : (!eqc xs ys) = b)
    (H : K (.bool b) h) : XV P r ⟨dst, .binOp .neq xt x y yt, ty, pos, af, gd⟩ K T E h :=
  xv_of_run (by simp [plainOp]) fun w ρ ho he => ⟨_, h, w, by
    have hq : (binOp .neq xt (.agg ⟨xs⟩) (.agg ⟨ys⟩)).run P w = .ok (.bool b) w := by
      rw [run_neq_struct, show (Op.equalIn 10000 xt (.agg ⟨xs⟩) (.agg ⟨ys⟩)).run P w = _ from hf 10000 (Nat.le_of_ble_eq_true hn) xs ys lx ly nx ny w, ← hb]; rfl
    rw [run_bin (he _ _ hx) (he _ _ hy) (guard_ok hg), hq]; rfl, H, .refl ho⟩
/-! ### Ranges over maps -/
/-- Entries as a map lays them: stamps below the clock, each once; keys numbers, each once. -/
structure Lay (es : List MapEntry) (c : Nat) : Prop where
  ai : AllInt es
  lt : ∀ e ∈ es, e.born < c
  nd : (es.map (·.born)).Nodup
  kd : es.Pairwise (fun x y => x.key ≠ y.key)
/-- An entry that is there is what the map says of its key. -/
theorem Lay.get {es : List MapEntry} {c : Nat} (H : Lay es c) {e : MapEntry} (he : e ∈ es) : ∃ k, e.key = .int .i64 k ∧ mget es k = some e.val := by
  obtain ⟨k, hk⟩ := H.ai e he
  refine ⟨k, hk, ?_⟩
  have hkd := H.kd
  have hai := H.ai
  clear H
  unfold mget
  suffices hs : ∀ i, (mfind k es i).map (·.2) = some e.val from hs 0
  induction es with
  | nil => cases he
  | cons x es ih =>
    intro i
    obtain ⟨j, hj⟩ := hai x List.mem_cons_self
    obtain ⟨h1, h2⟩ := List.pairwise_cons.1 hkd
    simp only [mfind, hj]
    rcases List.mem_cons.1 he with rfl | he
    · rw [hj] at hk; injection hk with _ hk; rw [if_pos hk.symm]; rfl
    · have hne : ¬ k = j := fun hq => h1 e he (by rw [hj, hk, hq])
      rw [if_neg hne]
      exact ih he h2 (fun e he => hai e (List.mem_cons_of_mem _ he)) (i + 1)
/-- The guard's own operation was not carried out. -/
theorem xr_nu {ops : Array Oper} {i : Nat} {op : Op} {j : Nat} {t : Bool} (hi : ops[i]? = some ⟨dst, op, ty, pos, af, some (j, t)⟩) (hg : gv ops E j = some undef) (hd : dstOk N dst = true)
    (H : XR P r N ops (i + 1) Q (E.put dst undef) D h) : XR P r N ops i Q E D h := by
  unfold XR
  rw [range'_at hi]
  intro w a ho ha hda
  simp only [wpOpsIn, hi]
  have hy : yielded ops a.tmps j = none := by
    unfold gv at hg
    unfold yielded
    cases hd : (ops[j]?).bind (·.dst) with
    | none => rfl
    | some d =>
      rw [hd] at hg
      have := ha.val d _ hg
      simp [this, undef]
  have hw : ¬ Region.wanted ⟨dst, op, ty, pos, af, some (j, t)⟩ (yielded ops a.tmps) = true := by
    simp [Region.wanted, hy]
  rw [if_neg hw]
  refine ⟨fun _ _ => trivial, ?_⟩
  have hda' : (a.put dst undef).defers = D := by cases dst <;> exact hda
  exact H w _ ho (ha.put (dstOk_lt hd)) hda'
end Go.H

