/-
  The logic of owned blocks over the kit, part HD.
-/
import Derived.Test.YtckaaaebegemoaaDoorHC
import Derived.Recover
import Derived.Tactics2
import Derived.TacticsIn
import Derived.Laws.StructEq
import Derived.Maps.RangeRun
set_option linter.all false
/-
  Small tactics: a block's place in the list of blocks.
-/
namespace Go.H
open Go
/-- 'l = ?': the list is worked out, place by place. -/
theorem evl_cons {α : Type _} {l t t' : List α} {x x' : α} (h : l = x :: t) (hx : x = x') (ht : t = t') : l = x' :: t' := by rw [h, hx, ht]
theorem evl_some {α : Type _} {o : Option (List α)} {l l' : List α} (h : o = some l) (h2 : l = l') : o = some l' := by rw [h, h2]
theorem evv (x : Value) : x = x := rfl
variable {P : Program} {h h' : Hp}
theorem z_0 {α : Type _} {a : α} {l : List α} : a ∈ a :: l := List.mem_cons_self
theorem z_1 {α : Type _} {a b : α} {l : List α} (h : a ∈ l) : a ∈ b :: l := List.mem_cons_of_mem _ h
theorem z_r {α : Type _} {a : α} {l r : List α} (h : a ∈ r) : a ∈ l ++ r := List.mem_append_right _ h
theorem z_l {α : Type _} {a : α} {l r : List α} (h : a ∈ l) : a ∈ l ++ r := List.mem_append_left _ h
theorem s_0 {α : Type _} {l : List α} : List.Sublist l l := List.Sublist.refl _
theorem s_1 {α : Type _} {l : List α} : List.Sublist [] l := List.nil_sublist _
theorem s_2 {α : Type _} {a : α} {l : List α} : List.Sublist (a :: l) (a :: l) := List.Sublist.refl _
theorem s_3 {α : Type _} {l r : List α} : List.Sublist l (l ++ r) := List.sublist_append_left _ _
theorem s_4 {α : Type _} {l r r' : List α} (h : List.Sublist r r') : List.Sublist (l ++ r) (l ++ r') := List.Sublist.append (List.Sublist.refl _) h
theorem s_5 {α : Type _} {a : α} {l r : List α} (h : List.Sublist l r) : List.Sublist (a :: l) (a :: r) := List.Sublist.cons_cons _ h
theorem s_6 {α : Type _} {a : α} {l r : List α} (h : List.Sublist l r) : List.Sublist l (a :: r) := List.Sublist.cons _ h
theorem s_7 {α : Type _} {x l r : List α} (h : List.Sublist x r) : List.Sublist x (l ++ r) := List.Sublist.trans h (List.sublist_append_right _ _)
theorem s_8 {α : Type _} {x l r : List α} (h : List.Sublist x l) : List.Sublist x (l ++ r) := List.Sublist.trans h (List.sublist_append_left _ _)
theorem u_0 {b : Nat} {o o' : Obj} {h : Hp} : Upd ((b, o) :: h) b o o' ((b, o') :: h) := .here
theorem u_1 {x : Nat × Obj} {b : Nat} {o o' : Obj} {h h' : Hp} (H : Upd h b o o' h') : Upd (x :: h) b o o' (x :: h') := .there H
theorem u_2 {h h' : Hp} {b : Nat} {o o' : Obj} {f : Hp} (H : Upd h b o o' h') : Upd (f ++ h) b o o' (f ++ h') := Upd.left f H
theorem u_3 {h h' : Hp} {b : Nat} {o o' : Obj} {f : Hp} (H : Upd h b o o' h') : Upd (h ++ f) b o o' (h' ++ f) := Upd.append H
theorem v_1 {k : IntKind} {n : Int} : Value.int k n = .int k n := rfl
theorem v_2 {b : Bool} : Value.bool b = .bool b := rfl
theorem v_3 {a : Option Addr} : Value.pointer a = .pointer a := rfl
theorem v_4 {a : Option Addr} {n c : Nat} : Value.slice a n c = .slice a n c := rfl
theorem v_5 {c : Array Value} : Value.agg c = .agg c := rfl
theorem v_6 {r : Option Nat} : Value.map r = .map r := rfl
theorem v_7 {f : Fn} {a b : Array Value} : Value.func f a b = .func f a b := rfl
theorem v_8 {t : TypeId} {v : Value} : Value.iface t v = .iface t v := rfl
theorem v_9 {s : ByteArray} : Value.string s = .string s := rfl
theorem AFn.framed {fv : Value} {args : List Value} {R : Ending → Hp → Prop} (g : Hp) (H : AFn P fv args h (fun e h' => R e (g ++ h'))) : AFn P fv args (g ++ h) R :=
  (AFn.frameL g H).mono (by rintro e _ ⟨h', rfl, q⟩; exact q)
/-- What lies ahead is framed out. -/
theorem ACalls.framed {f : FuncId} {args : Array Value} {R : Ending → Hp → Prop} (g : Hp) (H : ACalls P f args h (fun e h' => R e (g ++ h'))) : ACalls P f args (g ++ h) R := by
  intro w ho
  refine (ACalls.frameL g H w ho).mono ?_
  rintro e w' ⟨h2, ⟨h', rfl, q⟩, hf⟩
  exact ⟨_, q, hf⟩
/-- ... in whatever order. -/
theorem ACalls.framedP {f : FuncId} {args : Array Value} {R : Ending → Hp → Prop} (g : Hp) (hp : List.Perm (g ++ h) h') (H : ACalls P f args h (fun e h' => R e (g ++ h'))) : ACalls P f args h' R :=
  ACalls.perm hp (ACalls.framed g H)
theorem Vec.one (V : Vec) (n : Nat) : (V.val n).oneCell' = true := by cases V <;> rfl
theorem Vec.val_eq {V : Vec} {sz n : Nat} {xs : List Value} (hV : V.ok sz n xs) : ∃ a c, V.val n = .slice a n c := by
  cases V with
  | nil => obtain ⟨_, rfl⟩ := hV; exact ⟨_, _, rfl⟩
  | «at» b cap sp => exact ⟨_, _, rfl⟩
theorem xv_lenV {r : Option Nat} {E : Env} {K : Value → Hp → Prop} {T : List PanicEntry → Hp → Prop} {dst : Option Nat} {ty : TypeId} {pos : String} {af : Array Edge} {gd : Option (Nat × Bool)} {x : Operand} {t e : TypeId} {V : Vec} {sz n : Nat} {xs : List Value} (ht : SlT P t e) (hV : V.ok sz n xs) (hx : ev E x = some (V.val n)) (H : K (.int .i64 n) h) :
    XV P r ⟨dst, .call ⟨.builtin .len, #[x], #[t]⟩, ty, pos, af, gd⟩ K T E h := by
  obtain ⟨a, c, he⟩ := Vec.val_eq hV
  exact xv_len ht (by rw [hx, he]) H
section
variable {r : Option Nat} {E : Env} {K : Value → Hp → Prop} {T : List PanicEntry → Hp → Prop} {dst : Option Nat} {ty : TypeId} {pos : String} {af : Array Edge} {gd : Option (Nat × Bool)}
theorem xv_ia {x y : Operand} {t e : TypeId} {d : TD} {b o n c : Nat} {k : IntKind} {i : Int} {j sz : Nat} (ht : SlT P t e) (hd : TyOk P e d) (hs : d.size = sz) (hx : ev E x = some (.slice (some ⟨b, o, none⟩) n c)) (hy : ev E y = some (.int k i)) (hj : i.toNat = j) (h0 : 0 ≤ i) (h1 : i < n)
    (H : K (.pointer (some ⟨b, o + j * sz, none⟩)) h) : XV P r ⟨dst, .indexAddr t x y, ty, pos, af, gd⟩ K T E h :=
  xv_iaddr ht hd hx hy h0 h1 (by rw [hs, hj]; exact H)
theorem xv_iaA {x y : Operand} {t e : TypeId} {d : TD} {b o n : Nat} {k : IntKind} {i : Int} {j sz : Nat} (ht : P.underlying t = some (.array n e)) (hd : TyOk P e d) (hs : d.size = sz) (hx : ev E x = some (.pointer (some ⟨b, o, none⟩))) (hy : ev E y = some (.int k i)) (hj : i.toNat = j) (h0 : 0 ≤ i) (h1 : i < n)
    (H : K (.pointer (some ⟨b, o + j * sz, none⟩)) h) : XV P r ⟨dst, .indexAddr t x y, ty, pos, af, gd⟩ K T E h :=
  xv_iaddrA ht hd hx hy h0 h1 (by rw [hs, hj]; exact H)
end
section
variable {r : Option Nat} {N : Nat} {Q : Post} {E : Env} {D : List Deferred} {ops : Array Oper} {G : Prom} {l : List Item} {L : List (Nat × (Obj → Prop))}
theorem js_R0 {i : Nat} {o : Oper} {v : Value} (hi : ops[i]? = some o) (hd : dstOk N o.dst = true) (hr : Runs ops o E) (H : XV P r o (fun v' h' => v' = v ∧ h' = h) (fun _ _ => False) E h) (H2 : J P r N ops D Q [] L l (E.put o.dst v) G h) : J P r N ops D Q [] L ((i, .R) :: l) E G h :=
  js_R hi hd hr (by rw [List.append_nil]; exact H) H2
theorem js_O0 {i : Nat} {o : Oper} (hi : ops[i]? = some o) (hd : dstOk N o.dst = true) (hr : Runs ops o E) (H : XV P r o (fun v h' => J P r N ops D Q [] [] l (E.put o.dst v) G h') (fun ch h'' => Q (.panic ch) emp D h'') E h) : J P r N ops D Q [] [] ((i, .O) :: l) E G h :=
  js_O hi hd hr (by rw [List.append_nil]; exact H.mono (fun v h' k => ⟨h', by simp, .nil, k⟩) (fun _ _ k => k))
theorem js_OL0 {i : Nat} {o : Oper} (hi : ops[i]? = some o) (hd : dstOk N o.dst = true) (hr : Runs ops o E) (H : XV P r o (fun v h' => Holds L h' ∧ J P r N ops D Q [] L l (E.put o.dst v) G h') (fun ch h'' => Q (.panic ch) emp D h'') E h) : J P r N ops D Q [] L ((i, .O) :: l) E G h :=
  js_O hi hd hr (by rw [List.append_nil]; exact H.mono (fun v h' k => ⟨h', by simp, k.1, k.2⟩) (fun _ _ k => k))
theorem holds1 {b : Nat} {o : Obj} {p : Obj → Prop} (hm : (b, o) ∈ h) (hp : p o) : Holds [(b, p)] h := fun b' p' hb => by
  simp only [List.mem_singleton, Prod.mk.injEq] at hb
  obtain ⟨rfl, rfl⟩ := hb
  exact ⟨o, hm, hp⟩
theorem js_A0 {i : Nat} {o : Oper} {mk : Nat → Value} {obj : Obj} {E0 : Env} {tl : List Nat} (hi : ops[i]? = some o) (hd : dstOk N o.dst = true) (hg : o.guard = none) (hG : G i = some ⟨mk, obj, restr o E0⟩) (ht : tmpsOf o.op.operands.toList = tl) (he : EqL tl E0 E)
    (H2 : ∀ b, b ∉ keys h → J P r N ops D Q [] L l (E.put o.dst (mk b)) G ((b, obj) :: h)) : J P r N ops D Q [] L ((i, .A) :: l) E G h :=
  js_A hi hd hg hG ht he (by simpa using H2)
end
end Go.H

/-
  Deferred calls: a closure that recovers; the end of a function that has one.
-/
namespace Go.H
open Go
variable {P : Program} {r : Option Nat} {N : Nat} {Q : Post} {E : Env} {D : List Deferred} {h : Hp}
def DCalls (P : Program) (f : FuncId) (args : Array Value) (u : FrameMode) (h : Hp) (R : Ending → FrameMode → Hp → Prop) : Prop :=
  ∀ w, Own h w → CallsDIn (fen none) 0 P f args u w fun e u' w' => ∃ h', R e u' h' ∧ Fol h w h' w'
/-- A deferred call's contract from its body that recovers. -/
theorem callsDIn_wpS {f : FuncId} {fn : Func} {c : Code} {args : Array Value} {u : FrameMode} {w : World} {R : Ending → FrameMode → World → Prop}
    (hf : P.funcs[f]? = some fn) (hb : fn.body = some c)
    (H : ∀ (c₀ : Frame) (cs : List Frame), c₀.mode = u → c.wpS P (bodyPostS P fn c₀ cs R) { tmps := args ++ Array.replicate (fn.ntmps - args.size) undef, defers := [] } (c₀ :: cs) w) :
    CallsDIn (fen none) 0 P f args u w R := by
  refine ⟨trivial, fun c₀ cs hu _ => ?_⟩
  obtain ⟨b, hbq⟩ : ∃ b : Frame, b = { (default : Frame) with fn := f, kind := .deferred } := ⟨_, rfl⟩
  have hbk : b.kind = .deferred := by rw [hbq]
  have hbr : b.roundOf = none := by rw [hbq]; rfl
  have hbf : b.fn = f := by rw [hbq]
  have henter : Frame.enter P f args .deferred = b.at { tmps := args ++ Array.replicate (fn.ntmps - args.size) undef, defers := [] } [.code c] := by
    simp [Frame.enter, Frame.at, hf, hb, hbq]
  obtain ⟨e, a', cs', w', hq, harr⟩ := H c₀ cs hu b [] hbk hbr
  rw [← henter] at harr
  cases e with
  | normal =>
    obtain ⟨hd, u', rfl, v, hr, hR⟩ := hq
    exact ⟨.returned v, u', w', { b.at a' [] with mode := .returning }, hR, (comesIn_wide (e := .returned v)).2 (Steps.trans harr (.one step_end)), hbk, hbf, rfl, hd, fn, by simp only [Frame.at, hbf]; exact hf, hr⟩
  | ret =>
    obtain ⟨hd, u', rfl, v, hr, hR⟩ := hq
    obtain ⟨todo, hs⟩ := harr
    exact ⟨.returned v, u', w', { b.at a' todo with mode := .returning }, hR, (comesIn_wide (e := .returned v)).2 hs, hbk, hbf, rfl, hd, fn, by simp only [Frame.at, hbf]; exact hf, hr⟩
  | panic chain =>
    obtain ⟨hd, u', rfl, hR⟩ := hq
    obtain ⟨todo, hs⟩ := harr
    exact ⟨.panicked chain, u', w', { b.at a' todo with mode := .panicking chain }, hR, (comesIn_wide (e := .panicked chain)).2 hs, hbk, hbf, rfl, hd, fn, by simp only [Frame.at, hbf]; exact hf⟩
  | exit id => exact hq.elim
  | goto l => exact hq.elim
  | outgrown =>
    obtain ⟨u', hR⟩ := hq
    exact ⟨.outgrown, u', w', b, hR, harr.resolve_left (by rw [hbk]; simp), hbk, hbf, trivial⟩
/-- What 'recover' finds where a frame is on its way out, and what is left. -/
def recV : FrameMode → Value × FrameMode
  | .panicking ({ v, recovered := false, goexit := false } :: older) => (v, .panicking ({ v, recovered := true } :: older))
  | u => (.nilIface, u)
def RecPost (R : Ending → FrameMode → Hp → Prop) (u : FrameMode) : Post
  | .normal, _, D, h | .ret, _, D, h => D = [] ∧ ∃ h', List.Sublist h' h ∧ R (.returned (.tuple #[])) u h'
  | .panic ch, _, D, h => D = [] ∧ ∃ h', List.Sublist h' h ∧ R (.panicked ch) u h'
  | _, _, _, _ => False
theorem recoverD_recV (c : Frame) (cs : List Frame) : (match recoverD (c :: cs) with | some (v, cs') => (v, cs') | none => (Value.nilIface, c :: cs)) = ((recV c.mode).1, { c with mode := (recV c.mode).2 } :: cs) := by
  obtain ⟨m⟩ : ∃ m, m = c.mode := ⟨_, rfl⟩
  unfold recoverD recV
  cases hm : c.mode with
  | panicking ch =>
    cases ch with
    | nil => simp [hm]; cases c; simp_all
    | cons e older =>
      obtain ⟨v, rc, gx⟩ := e
      cases rc <;> cases gx <;> simp [hm] <;> cases c <;> simp_all
  | _ => simp [hm]; cases c; simp_all
theorem dcalls_rec {f : FuncId} {fn : Func} {id t1 t2 : Nat} {ty1 ty2 : TypeId} {p1 p2 : String} {a1 a2 : Array Edge} {rest : Code} {vs : List Value} {u : FrameMode} {R : Ending → FrameMode → Hp → Prop}
    (hf : P.funcs[f]? = some fn) (hb : fn.body = some (.seq (.region id #[⟨some t1, .call ⟨.builtin .recover, #[], #[]⟩, ty1, p1, a1, none⟩, ⟨some t2, .assign (.tmp t1), ty2, p2, a2, none⟩] false) rest)) (hres : fn.results = #[])
    (hN : N = vs.length + (fn.ntmps - vs.length)) (h1 : Nat.blt t1 N = true) (h2 : Nat.blt t2 N = true)
    (H : XC P none N rest (RecPost R (recV u).2) (((ofL vs).put (some t1) (recV u).1).put (some t2) (recV u).1) [] h) : DCalls P f ⟨vs⟩ u h R := by
  intro w ho
  refine callsDIn_wpS hf hb fun c₀ cs hu => wpS_seq (wpS_region ?_)
  have hA := agree_ofL vs (fn.ntmps - vs.length)
  rw [← hN] at hA
  have hlt1 : t1 < N := by simpa [Nat.blt_eq] using h1
  have hlt2 : t2 < N := by simpa [Nat.blt_eq] using h2
  obtain ⟨a0, ha0⟩ : ∃ a0 : Act, a0 = { tmps := (⟨vs⟩ : Array Value) ++ Array.replicate (fn.ntmps - (⟨vs⟩ : Array Value).size) undef, defers := [] } := ⟨_, rfl⟩
  have hA' : Agree N (ofL vs) a0 := by rw [ha0]; simpa using hA
  rw [← ha0]
  have hd0 : a0.defers = [] := by rw [ha0]
  have hA1 := hA'.put (d := some t1) (v := (recV u).1) (fun k hk => by cases hk; exact hlt1)
  have hA2 := hA1.put (d := some t2) (v := (recV u).1) (fun k hk => by cases hk; exact hlt2)
  have hx : (a0.put (some t1) (recV u).1).eval (.tmp t1) = (recV u).1 := hA1.ev (by simp [ev, Env.put])
  have hrest := H w _ ho hA2 (by simp [Act.put, hd0])
  have hgo : rest.wpS P (bodyPostS P fn c₀ cs (fun e u' w' => ∃ h', R e u' h' ∧ Fol h w h' w')) ((a0.put (some t1) (recV u).1).put (some t2) (recV u).1) ({ c₀ with mode := (recV u).2 } :: cs) w := by
    refine wpS_of_wp (wpIn_wide.1 (wpIn_mono hrest ?_))
    rintro e a' w' ⟨E', h', q, ha', hfol⟩
    have hr0 : (results fn a'.tmps).run P w' = .ok (.tuple #[]) w' := results_run (vs := []) (by rw [hres]; simp)
    cases e with
    | normal => obtain ⟨hd, h2, hs, hR⟩ := q; exact ⟨hd, _, rfl, _, hr0, h2, hR, hfol.sub hs⟩
    | ret => obtain ⟨hd, h2, hs, hR⟩ := q; exact ⟨hd, _, rfl, _, hr0, h2, hR, hfol.sub hs⟩
    | panic ch => obtain ⟨hd, h2, hs, hR⟩ := q; exact ⟨hd, _, rfl, h2, hR, hfol.sub hs⟩
    | exit id => exact q.elim
    | goto l => exact q.elim
    | outgrown => exact q.elim
  have hrd := recoverD_recV c₀ cs
  rw [hu] at hrd
  have hl : List.range (#[(⟨some t1, .call ⟨.builtin .recover, #[], #[]⟩, ty1, p1, a1, none⟩ : Oper), ⟨some t2, .assign (.tmp t1), ty2, p2, a2, none⟩] : Array Oper).size = [0, 1] := rfl
  rw [hl]
  have hex : (execOp a0.eval ⟨some t1, .call ⟨.builtin .recover, #[], #[]⟩, ty1, p1, a1, none⟩).run P w = .ok .recover w := by
    obtain ⟨cs, hcs⟩ := run_builtin (P := P) (dst := some t1) (ty := ty1) (pos := p1) (af := a1) (gd := none) a0.eval .recover #[] #[] w
    rw [hcs]; simp [builtin]
  have hx2 : (execOp (a0.put (some t1) (recV u).1).eval ⟨some t2, .assign (.tmp t1), ty2, p2, a2, none⟩).run P w = .ok (.value (recV u).1) w := by
    simp [execOp, hx]
  have hstep : ∀ cs', wpOpsS P #[⟨some t1, .call ⟨.builtin .recover, #[], #[]⟩, ty1, p1, a1, none⟩, ⟨some t2, .assign (.tmp t1), ty2, p2, a2, none⟩] (Exit.thenS (rest.wpS P (bodyPostS P fn c₀ cs (fun e u' w' => ∃ h', R e u' h' ∧ Fol h w h' w'))) (bodyPostS P fn c₀ cs (fun e u' w' => ∃ h', R e u' h' ∧ Fol h w h' w'))) [1] (a0.put (some t1) (recV u).1) cs' w =
      rest.wpS P (bodyPostS P fn c₀ cs (fun e u' w' => ∃ h', R e u' h' ∧ Fol h w h' w')) ((a0.put (some t1) (recV u).1).put (some t2) (recV u).1) cs' w := by
    intro cs'
    simp [wpOpsS, Region.wanted, hx2, Oper.upon, Exit.thenS]
  unfold wpOpsS
  simp only [List.getElem?_toArray, List.getElem?_cons_zero, Region.wanted, if_true, hex]
  cases hq : recoverD (c₀ :: cs) with
  | none =>
    rw [hq] at hrd
    simp only [Prod.mk.injEq] at hrd
    rw [hrd.1, hstep, hrd.2]
    exact hgo
  | some p =>
    obtain ⟨v, cs'⟩ := p
    rw [hq] at hrd
    simp only [Prod.mk.injEq] at hrd
    simp only
    rw [hrd.1, hstep, hrd.2]
    exact hgo
/-! ### The end of a function that has deferred calls -/
def LeavesH (P : Program) (fn : Func) (R : Ending → Hp → Prop) (E : Env) : List Deferred → FrameMode → Hp → Prop
  | [], .returning, h => ∃ vs h', ResOk P E h fn.results.toList vs ∧ List.Sublist h' h ∧ R (.returned (tupV vs)) h'
  | [], .panicking ch, h => R (.panicked ch) h
  | [], .run, _ => False
  | d :: ds, u, h => u ≠ .run ∧ ∃ g cap args, d = { target := .fn (.func g) ⟨cap⟩, args := ⟨args⟩ } ∧ HasBody P g ∧ DCalls P g ⟨args ++ cap⟩ u h fun
      | .returned _, u', h' => LeavesH P fn R E ds (settle u') h'
      | .panicked ch, u', h' => LeavesH P fn R E ds (raised u' ch) h'
      | .outgrown, _, _ => False
theorem leavesH_M {fn : Func} {R : Ending → Hp → Prop} {a : Act} {h0 : Hp} {w0 : World} (ha : Agree N E a) : ∀ (ds : List Deferred) (u : FrameMode) (h : Hp) (w : World), LeavesH P fn R E ds u h → Fol h0 w0 h w →
    LeavesInM (fen none) 0 P fn a.tmps (fun e w' => ∃ h', R e h' ∧ Fol h0 w0 h' w') ds u w
  | [], u, h, w, H, hf => by
    cases u with
    | run => exact H.elim
    | returning =>
      obtain ⟨vs, h', hres, hs, hR⟩ := H
      exact ⟨tupV vs, results_run (hres.run ha rfl (fun b l t fz hb => hf.own.has _ _ hb)), h', hR, hf.sub hs⟩
    | panicking ch => exact ⟨h, H, hf⟩
  | d :: ds, u, h, w, H, hf => by
    obtain ⟨hu, g, cap, args, rfl, hb, hD⟩ := H
    refine ⟨hu, .inr ⟨fun hh => by simp [fen, Fence.wide] at hh, .func g, ⟨cap⟩, g, ⟨args ++ cap⟩, rfl, ?_, fun _ _ => trivial, ?_⟩⟩
    · simpa [invoke] using hb ⟨args ++ cap⟩ w
    · refine (hD w hf.own).mono ?_
      rintro e u' w' ⟨h', hR, hf'⟩
      cases e with
      | returned v => exact leavesH_M ha ds _ h' w' hR (hf.trans hf')
      | panicked ch => exact leavesH_M ha ds _ h' w' hR (hf.trans hf')
      | outgrown => exact hR.elim
def BodyD (P : Program) (fn : Func) (R : Ending → Hp → Prop) : Post
  | .normal, E, D, h | .ret, E, D, h => LeavesH P fn R E D .returning h
  | .panic ch, E, D, h => LeavesH P fn R E D (.panicking ch) h
  | _, _, _, _ => False
theorem calls_of_xcD {f : FuncId} {fn : Func} {c : Code} {vs : List Value} {R : Ending → Hp → Prop} (hf : P.funcs[f]? = some fn) (hb : fn.body = some c) (hN : N = vs.length + (fn.ntmps - vs.length))
    (H : XC P none N c (BodyD P fn R) (ofL vs) [] h) : ACalls P f ⟨vs⟩ h R := by
  intro w ho
  have hA := agree_ofL vs (fn.ntmps - vs.length)
  rw [← hN] at hA
  refine (callsIn_fen (r := none) (n := 0)).1 (callsIn_of_wp_marks hf hb trivial (wpIn_mono (H w _ ho hA rfl) ?_) rfl)
  rintro e a' w' ⟨E', h', q, ha', hfol⟩
  cases e with
  | normal => exact leavesH_M ha' _ _ h' w' q hfol
  | ret => exact leavesH_M ha' _ _ h' w' q hfol
  | panic ch => exact leavesH_M ha' _ _ h' w' q hfol
  | exit id => exact q.elim
  | goto l => exact q.elim
  | outgrown => exact q.elim
/-- 'defer f(..)'. -/
theorem xr_defer {ops : Array Oper} {i : Nat} {c : Operand} {as : Array Operand} {at_ : Array TypeId} {fn : Fn} {fi ca vs : List Value} {dst : Option Nat} {ty : TypeId} {pos : String} {af : Array Edge} (hi : ops[i]? = some ⟨dst, .defer ⟨.value c, as, at_⟩, ty, pos, af, none⟩) (hd : dstOk N dst = true)
    (hc : ev E c = some (.func fn ⟨fi⟩ ⟨ca⟩)) (hv : evs E as.toList = some vs)
    (H : XR P none N ops (i + 1) Q (E.put dst undef) ({ target := .fn fn ⟨ca⟩, args := ⟨fi ++ vs⟩ } :: D) h) : XR P none N ops i Q E D h := by
  unfold XR
  rw [range'_at hi]
  intro w a ho ha hda
  simp only [wpOpsIn, hi]
  have hw : Region.wanted ⟨dst, .defer ⟨.value c, as, at_⟩, ty, pos, af, none⟩ (yielded ops a.tmps) = true := rfl
  rw [if_pos hw]
  refine ⟨fun _ _ => trivial, ?_⟩
  have hres := resolve_value (P := P) (ρ := a.eval) (args := as) (at_ := at_) (t := ty) (w := w) (ha.ev hc)
  have hm : as.map a.eval = ⟨vs⟩ := evs_arr (fun x v hx => ha.ev hx) hv
  have hex : (Oper.semAt (fen none).round a.eval ⟨dst, .defer ⟨.value c, as, at_⟩, ty, pos, af, none⟩).run P w = .ok (.defer { target := .fn fn ⟨ca⟩, args := ⟨fi ++ vs⟩ }) w := by
    simp [Oper.semAt, fen, execOp, hres, hm]
  rw [hex]
  simp only [Oper.uponIn]
  have ha2 : Agree N E { a with defers := { target := .fn fn ⟨ca⟩, args := ⟨fi ++ vs⟩ } :: a.defers } := ⟨ha.size, ha.val⟩
  refine H w _ ho (ha2.put (dstOk_lt hd)) ?_
  cases dst <;> simp [Act.put, hda]
theorem xv_neNil0 {K : Value → Hp → Prop} {T : List PanicEntry → Hp → Prop} {dst : Option Nat} {ty : TypeId} {pos : String} {af : Array Edge} {gd : Option (Nat × Bool)} {xt yt : TypeId} {x : Operand} (ht : ∃ ms, P.underlying xt = some (.interface ms)) (hx : ev E x = some .nilIface) (H : K (.bool false) h) : XV P r ⟨dst, .binOp .neq xt x (.const .nilIface) yt, ty, pos, af, gd⟩ K T E h :=
  xv_of_run (by simp [plainOp]) fun w ρ ho he => ⟨_, h, w, by
    obtain ⟨ms, ht⟩ := ht
    have hg : ∀ w, (eqGuard .neq xt x (.const .nilIface) .nilIface .nilIface).run P w = .ok () w := fun w => by unfold eqGuard; simp
    rw [run_bin (he _ _ hx) (he (.const .nilIface) _ rfl) hg]
    have hq0 : ∀ n, (Op.equalIn (n + 1) xt .nilIface .nilIface).run P w = .ok true w := fun n => by
      simp only [Op.equalIn, Sem.run_bind, run_underlying ht, Result.andThen_ok, Sem.run_pure]
    have hq := hq0 9999
    have hb : (binOp .neq xt .nilIface .nilIface).run P w = .ok (.bool false) w := by
      show (do let b ← Op.equalIn (9999 + 1) xt .nilIface .nilIface; pure (Value.bool (!b)) : Sem Value).run P w = _
      simp only [Sem.run_bind, hq, Result.andThen_ok, Sem.run_pure, Bool.not_true]
    rw [hb]; rfl, H, .refl ho⟩
section
variable {K : Value → Hp → Prop} {T : List PanicEntry → Hp → Prop} {dst : Option Nat} {ty : TypeId} {pos : String} {af : Array Edge} {gd : Option (Nat × Bool)} {xt yt : TypeId} {x y : Operand} {k : IntKind} {a b : Int}
theorem xv_neqT (hx : ev E x = some (.int k a)) (hy : ev E y = some (.int k b)) (hn : a ≠ b) (H : K (.bool true) h) : XV P r ⟨dst, .binOp .neq xt x y yt, ty, pos, af, gd⟩ K T E h := xv_cmp hx hy (by simp [cmpB, hn]) H
theorem xv_neqF (hx : ev E x = some (.int k a)) (hy : ev E y = some (.int k b)) (hn : a = b) (H : K (.bool false) h) : XV P r ⟨dst, .binOp .neq xt x y yt, ty, pos, af, gd⟩ K T E h := xv_cmp hx hy (by simp [cmpB, hn]) H
theorem xv_eqlT (hx : ev E x = some (.int k a)) (hy : ev E y = some (.int k b)) (hn : a = b) (H : K (.bool true) h) : XV P r ⟨dst, .binOp .eql xt x y yt, ty, pos, af, gd⟩ K T E h := xv_cmp hx hy (by simp [cmpB, hn]) H
theorem xv_eqlF (hx : ev E x = some (.int k a)) (hy : ev E y = some (.int k b)) (hn : a ≠ b) (H : K (.bool false) h) : XV P r ⟨dst, .binOp .eql xt x y yt, ty, pos, af, gd⟩ K T E h := xv_cmp hx hy (by simp [cmpB, hn]) H
end
end Go.H

/-
  Ranges over functions, as they are walked: a ghost, garbage let go; the end of a body with marks.
-/
namespace Go.H
open Go
variable {P : Program} {r : Option Nat} {N : Nat} {Q : Post} {E : Env} {D : List Deferred} {h h' : Hp}
/-- What holds of a part of the blocks holds of all. -/
def Mon (Q : Post) : Prop := ∀ E D h h', List.Sublist h h' → Q .normal E D h → Q .normal E D h'
theorem EnvLe.rfl' (E : Env) : EnvLe E E := fun _ _ hh => hh
theorem mon_th {y : Code} {Q' : Post} : Mon (Th (XC P r N y Q) Q') := fun _ _ _ _ hs hq => XC.weaken (EnvLe.rfl' _) hs hq
theorem mon_bk {id : Nat} (H : Mon Q) : Mon (Bk id Q) := fun E D h h' hs hq => H E D h h' hs hq
def RndA (K : Env → List Deferred → Hp → Prop) : Post
  | .normal, E, D, h => K E D h
  | _, _, _, _ => False
def RndQ {γ : Type} (Inv : Nat → γ → Prop) (HI : Nat → γ → Hp) (k : Nat) (Ix : Code → Nat → Hp → Prop) : Post
  | .normal, _, D, h => D = [] ∧ ∃ g, Inv (k + 1) g ∧ List.Sublist (HI (k + 1) g) h
  | .ret, _, D, h => D = [] ∧ Ix .ret (k + 1) h
  | .exit id, _, D, h => D = [] ∧ Ix (.exit id) (k + 1) h
  | _, _, _, _ => False
theorem rndA_n {K : Env → List Deferred → Hp → Prop} (H : K E D h) : RndA K .normal E D h := H
theorem rndQ_n {γ : Type} {Inv : Nat → γ → Prop} {HI : Nat → γ → Hp} {k : Nat} {Ix : Code → Nat → Hp → Prop} (g : γ) (h1 : Inv (k + 1) g) (h2 : List.Sublist (HI (k + 1) g) h) : RndQ Inv HI k Ix .normal E [] h := ⟨rfl, g, h1, h2⟩
theorem rndQ_r {γ : Type} {Inv : Nat → γ → Prop} {HI : Nat → γ → Hp} {k : Nat} {Ix : Code → Nat → Hp → Prop} (h1 : Ix .ret (k + 1) h) : RndQ Inv HI k Ix .ret E [] h := ⟨rfl, h1⟩
theorem rndQ_x {γ : Type} {Inv : Nat → γ → Prop} {HI : Nat → γ → Hp} {k id : Nat} {Ix : Code → Nat → Hp → Prop} (h1 : Ix (.exit id) (k + 1) h) : RndQ Inv HI k Ix (.exit id) E [] h := ⟨rfl, h1⟩
theorem puts_le {ps : List Nat} {vs : List Value} {E E' : Env} (hle : EnvLe E E') : EnvLe (puts E ps vs) (puts E' ps vs) := by
  induction ps generalizing vs E E' with
  | nil => simpa [puts] using hle
  | cons p ps ih =>
    cases vs with
    | nil => simpa [puts] using hle
    | cons v vs =>
      simp only [puts]
      refine ih (fun t u hu => ?_)
      simp only [Env.put] at hu ⊢
      cases hb : Nat.beq t p with
      | true => rw [hb] at hu; exact hu
      | false => rw [hb] at hu; exact hle t u hu
theorem xc_range2 {α γ : Type} {g : Operand} {ps : Array Tmp} {assign body : Code} {gf : FuncId} {fi lb : List Value} (enc : α → List Value) (all : List α) (core : Hp)
    (hg : ev E g = some (.func (.func gf) ⟨fi⟩ ⟨lb⟩)) (hb : HasBody P gf) (hit : Iter P gf fi lb enc all (fun h' => core ⊆ h')) (hps : ∀ x, (enc x).length = ps.size) (hpN : ∀ p ∈ ps.toList, p < N)
    (EI : Env) (Inv : Nat → γ → Prop) (HI : Nat → γ → Hp) (Ix : Code → Nat → Hp → Prop) (g0 : γ) (hm : Mon Q) (hle : EnvLe EI E) (h0 : Inv 0 g0) (hs0 : List.Sublist (HI 0 g0) h) (hcore : ∀ k g, core ⊆ HI k g)
    (round : ∀ l k x g, all[k]? = some x → Inv k g → XC P (some l) N assign (RndA (XC P (some l) N body (RndQ Inv HI k Ix))) (puts EI ps.toList (enc x)) [] (HI k g))
    (stop : ∀ k c j h', j ≤ all.length → Ix c j h' → k ∉ keys h' → XC P none N c Q E (markOf k :: D) ((k, .deferred (some [])) :: h'))
    (done : ∀ k g, Inv all.length g → k ∉ keys (HI all.length g) → Q .normal E (markOf k :: D) ((k, .deferred (some [])) :: HI all.length g)) : XC P none N (.rangeFunc g ps assign body) Q E D h := by
  refine xc_range enc all (fun h' => core ⊆ h') hg hb hit hps hpN (fun k h' => ∃ g, Inv k g ∧ List.Sublist (HI k g) h') Ix ?_ ?_ ⟨g0, h0, hs0⟩ ?_ ?_ stop
  · rintro k h' ⟨g, _, hs⟩ x y z hz
    exact List.mem_cons_of_mem _ (List.mem_cons_of_mem _ (hs.subset (hcore k g hz)))
  · intro h1 h2 hp hr z hz; exact (hp.mem_iff).1 (hr hz)
  · rintro l k x hx h' ⟨g, hi, hs⟩
    refine XC.mono (XC.weaken (puts_le hle) hs (round l k x g hx hi)) ?_
    intro e E1 D1 h1 q
    cases e with
    | normal =>
      refine ⟨rfl, XC.mono q ?_⟩
      intro e2 E2 D2 h2 q2
      cases e2 with
      | normal => exact q2
      | ret => exact q2
      | exit id => exact q2
      | _ => exact q2.elim
    | _ => exact q.elim
  · rintro k h' ⟨g, hi, hs⟩ hk
    have hk2 : k ∉ keys (HI all.length g) := fun hh => hk ((hs.map Prod.fst).subset hh)
    exact hm _ _ _ _ (hs.cons_cons _) (done k g hi hk2)
/-- The end of a body after one range over a function. -/
theorem body_retM {fn : Func} {R : Ending → Hp → Prop} {rl : List ResultVar} {vs : List Value} {k : Nat} (hrl : fn.results.toList = rl) (hr : ResOk P E h rl vs) (hs : List.Sublist h' h) (hk : (k, .deferred (some [])) ∈ h) (hn : k ∉ keys h') (H : R (.returned (tupV vs)) h') : BodyQ P fn R .ret E [markOf k] h :=
  ⟨⟨⟨k, rfl, hk, by simp⟩, trivial⟩, vs, h', by rw [hrl]; exact hr, hs, fun j hj => by simp [marked, markOf] at hj; subst hj; exact hn, H⟩
theorem body_endM {fn : Func} {R : Ending → Hp → Prop} {rl : List ResultVar} {vs : List Value} {k : Nat} (hrl : fn.results.toList = rl) (hr : ResOk P E h rl vs) (hs : List.Sublist h' h) (hk : (k, .deferred (some [])) ∈ h) (hn : k ∉ keys h') (H : R (.returned (tupV vs)) h') : BodyQ P fn R .normal E [markOf k] h :=
  body_retM (E := E) hrl hr hs hk hn H
/-- What is not among the keys of all is not among those of a part. -/
theorem nkeys {k : Nat} (hs : h ⊆ h') (hn : k ∉ keys h') : k ∉ keys h := fun hh => hn ((List.map_subset Prod.fst hs) hh)
/-- The call of 'yield' within an iterator. -/
theorem yieldTo {y : Value} {args : List Value} {g h0 : Hp} {J1 J2 : Hp → Prop} {R : Ending → Hp → Prop} (H : AFn P y args h0 (fun e h2 => (e = .returned (.bool true) ∧ J1 h2) ∨ (e = .returned (.bool false) ∧ J2 h2)))
    (H1 : ∀ h2, J1 h2 → R (.returned (.bool true)) (g ++ h2)) (H2 : ∀ h2, J2 h2 → R (.returned (.bool false)) (g ++ h2)) : AFn P y args (g ++ h0) R := by
  refine AFn.framed g (H.mono ?_)
  rintro e h2 (⟨rfl, hj⟩ | ⟨rfl, hj⟩)
  · exact H1 _ hj
  · exact H2 _ hj
theorem flat_at {α : Type} {enc : α → List Value} {sz : Nat} (henc : ∀ x, (enc x).length = sz) {x : α} (sp : List Value) : ∀ (xs : List α) (k : Nat), xs[k]? = some x → ((xs.flatMap enc ++ sp).drop (0 + k * sz)).take sz = enc x
  | [], k, hk => by simp at hk
  | q :: rs, 0, hk => by
    simp at hk; subst hk
    simp only [List.flatMap_cons, List.append_assoc, Nat.zero_mul, Nat.add_zero, List.drop_zero]
    rw [List.take_append_of_le_length (by rw [henc]; exact Nat.le_refl _), List.take_of_length_le (by rw [henc]; exact Nat.le_refl _)]
  | q :: rs, k + 1, hk => by
    have ih := flat_at henc sp rs k (by simpa using hk)
    rw [Nat.zero_add] at ih
    have e : 0 + (k + 1) * sz = (enc q).length + k * sz := by rw [henc, Nat.add_mul]; omega
    simp only [List.flatMap_cons, List.append_assoc]
    rw [e, ← List.drop_drop, List.drop_left]
    exact ih
theorem flat_len {α : Type} {enc : α → List Value} {sz : Nat} (henc : ∀ x, (enc x).length = sz) : ∀ (xs : List α), (xs.flatMap enc).length = xs.length * sz
  | [] => by simp
  | x :: xs => by rw [List.flatMap_cons, List.length_append, henc, flat_len henc xs, List.length_cons, Nat.add_mul]; omega
theorem Vec.slv {α : Type} {V : Vec} {sz : Nat} {enc : α → List Value} (henc : ∀ x, (enc x).length = sz) {xs : List α} {t : TypeId} (hV : V.ok sz xs.length (xs.flatMap enc)) (hsub : V.hp t (xs.flatMap enc) ⊆ h) :
    ∃ a c, V.val xs.length = .slice a xs.length c ∧ SlV h sz enc a xs := by
  cases V with
  | nil =>
    obtain ⟨_, h0⟩ := hV
    have : xs = [] := List.length_eq_zero_iff.1 h0
    subst this
    exact ⟨none, 0, rfl, .inl rfl⟩
  | «at» b cap sp =>
    exact ⟨some ⟨b, 0, none⟩, cap, rfl, .inr ⟨b, 0, _, t, (0, 0), rfl, hsub List.mem_cons_self, fun i x hx => flat_at henc sp xs i hx⟩⟩
end Go.H

/-
  '==' of structs and arrays of numbers; ranges over maps.
-/
namespace Go.H
open Go
variable {P : Program} {r : Option Nat} {N : Nat} {Q : Post} {E : Env} {D : List Deferred} {h h' : Hp}
variable {K : Value → Hp → Prop} {T : List PanicEntry → Hp → Prop} {dst : Option Nat} {ty : TypeId} {pos : String} {af : Array Edge} {gd : Option (Nat × Bool)}
def eqc : List Value → List Value → Bool
  | [], [] => true
  | .int _ a :: xs, .int _ b :: ys => a == b && eqc xs ys
  | .bool a :: xs, .bool b :: ys => a == b && eqc xs ys
  | _, _ => false
def Num (v : Value) : Prop := ∃ n, v = .int .i64 n
def pk : Bool → List Value → Value
  | true, xs => .agg ⟨xs⟩
  | false, x :: _ => x
  | false, [] => undef
/-- A type's values are compared number by number. -/
def Flat (P : Program) (n : Nat) (t : TypeId) (sz : Nat) (agg : Bool) : Prop :=
  ∀ d, n ≤ d → ∀ xs ys : List Value, xs.length = sz → ys.length = sz → (∀ x ∈ xs, Num x) → (∀ y ∈ ys, Num y) → ∀ w, (Op.equalIn d t (pk agg xs) (pk agg ys)).run P w = .ok (eqc xs ys) w
theorem flat_int {t : TypeId} (ht : P.underlying t = some (.int .i64)) : Flat P 1 t 1 false := by
  intro d hd xs ys hx hy nx ny w
  obtain ⟨d, rfl⟩ : ∃ e, d = e + 1 := ⟨d - 1, by omega⟩
  match xs, ys, hx, hy with
  | [x], [y], _, _ =>
    obtain ⟨a, rfl⟩ := nx x List.mem_cons_self
    obtain ⟨b, rfl⟩ := ny y List.mem_cons_self
    simp only [pk]
    rw [run_equalIn_int w d t .i64 .i64 a b ht]
    simp [eqc]
theorem eqc_append : ∀ {xs ys us vs : List Value}, xs.length = ys.length → (∀ x ∈ xs, Num x) → (∀ y ∈ ys, Num y) → eqc (xs ++ us) (ys ++ vs) = (eqc xs ys && eqc us vs)
  | [], [], us, vs, _, _, _ => by simp [eqc]
  | x :: xs, y :: ys, us, vs, hl, hx, hy => by
    obtain ⟨a, rfl⟩ := hx x List.mem_cons_self
    obtain ⟨b, rfl⟩ := hy y List.mem_cons_self
    have := eqc_append (us := us) (vs := vs) (by simpa using hl) (fun x h => hx x (List.mem_cons_of_mem _ h)) (fun y h => hy y (List.mem_cons_of_mem _ h))
    simp only [List.cons_append, eqc, this, Bool.and_assoc]
/-- Fields, one behind the other. -/
inductive FlatF (P : Program) (n : Nat) : List Field → Nat → Nat → Prop
  | nil {o : Nat} : FlatF P n [] o o
  | cons {f : Field} {fs : List Field} {o s e : Nat} {d : TD} (hn : f.name ≠ "_") (ho : f.offset = o) (hd : TyOk P f.type d) (hs : d.size = s) (hf : Flat P n f.type s (aggB d.und)) (h0 : 0 < s) (h1 : (aggB d.und || Nat.beq s 1) = true) (hr : FlatF P n fs (o + s) e) : FlatF P n (f :: fs) o e
theorem FlatF.le {n : Nat} {fs : List Field} {o e : Nat} (H : FlatF P n fs o e) : o ≤ e := by
  induction H with
  | nil => exact Nat.le_refl _
  | cons _ _ _ _ _ _ _ ih => omega
theorem part_run {t : TypeId} {d : TD} (ht : TyOk P t d) {xs : List Value} {o : Nat} (h0 : 0 < d.size) (hl : o + d.size ≤ xs.length) (h1 : aggB d.und = false → d.size = 1) (w : World) : (part t ⟨xs⟩ o).run P w = .ok (pk (aggB d.und) ((xs.drop o).take d.size)) w := by
  cases ha : aggB d.und with
  | true => simp [part, ht.run_agg, ha, ht.run_size, pk]
  | false =>
    have h1 := h1 ha
    have hlt : o < xs.length := by omega
    rw [h1]
    have e : (xs.drop o).take 1 = [xs[o]] := by rw [List.drop_eq_getElem_cons hlt]; rfl
    rw [e]
    simp [part, ht.run_agg, ha, pk, hlt]
theorem seg_num {xs : List Value} (hx : ∀ x ∈ xs, Num x) (o n : Nat) : ∀ x ∈ (xs.drop o).take n, Num x := fun x hm => hx x (List.mem_of_mem_drop (List.mem_of_mem_take hm))
theorem seg_split (xs : List Value) (o s : Nat) : xs.drop o = (xs.drop o).take s ++ xs.drop (o + s) := by
  rw [← List.drop_drop, List.take_append_drop]
theorem flatF_run {n : Nat} : ∀ {fs : List Field} {o e : Nat}, FlatF P n fs o e → ∀ d, n ≤ d → ∀ xs ys : List Value, xs.length = e → ys.length = e → (∀ x ∈ xs, Num x) → (∀ y ∈ ys, Num y) → ∀ w, (Op.eqFields d ⟨xs⟩ ⟨ys⟩ fs).run P w = .ok (eqc (xs.drop o) (ys.drop o)) w := by
  intro fs o e H
  induction H with
  | nil =>
    intro d hd xs ys hx hy nx ny w
    rw [List.drop_eq_nil_of_le (by omega), List.drop_eq_nil_of_le (by omega)]
    simp [Op.eqFields, eqc]
  | @cons f fs o s e td hn ho hd hs hf h0 h1 hr ih =>
    intro d hdn xs ys hx hy nx ny w
    have hle := hr.le
    subst hs
    have hs1 : aggB td.und = false → td.size = 1 := fun ha => by simpa [ha] using h1
    have lx : ((xs.drop o).take td.size).length = td.size := by simp; omega
    have ly : ((ys.drop o).take td.size).length = td.size := by simp; omega
    have pa := part_run hd (xs := xs) (o := o) h0 (by omega) hs1 w
    have pb := part_run hd (xs := ys) (o := o) h0 (by omega) hs1 w
    have pe := hf d hdn _ _ lx ly (seg_num nx o _) (seg_num ny o _) w
    have hrest := ih d hdn xs ys hx hy nx ny w
    rw [seg_split xs o td.size, seg_split ys o td.size, eqc_append (by rw [lx, ly]) (seg_num nx o _) (seg_num ny o _)]
    simp only [Op.eqFields, if_pos hn, ho, Sem.run_bind, pa, pb, pe, Result.andThen_ok]
    cases eqc ((xs.drop o).take td.size) ((ys.drop o).take td.size)
    · simp
    · simpa using hrest
theorem flat_struct {n : Nat} {t : TypeId} {fs : Array Field} {sz : Nat} (hu : P.underlying t = some (.struct fs)) (hp : P.stoodInHeld t = false) (hf : FlatF P n fs.toList 0 sz) : Flat P (n + 1) t sz true := by
  intro d hd xs ys hx hy nx ny w
  obtain ⟨d, rfl⟩ : ∃ e, d = e + 1 := ⟨d - 1, by omega⟩
  have hfo : P.fieldsOf t = fs := by simp [Program.fieldsOf, hu]
  show (Op.equalIn (d + 1) t (.agg ⟨xs⟩) (.agg ⟨ys⟩)).run P w = _
  rw [run_equalIn_struct w d t ⟨xs⟩ ⟨ys⟩ (by rw [hfo]; exact hu) hp, hfo]
  have := flatF_run hf d (by omega) xs ys hx hy nx ny w
  simpa using this
theorem flat_array {n len : Nat} {t e : TypeId} {td : TD} (hu : P.underlying t = some (.array len e)) (hd : TyOk P e td) (hf : Flat P n e td.size (aggB td.und)) (h0 : 0 < td.size) (h1 : (aggB td.und || Nat.beq td.size 1) = true) : Flat P (n + 1) t (len * td.size) true := by
  intro d hdn xs ys hx hy nx ny w
  obtain ⟨d, rfl⟩ : ∃ e, d = e + 1 := ⟨d - 1, by omega⟩
  have hs1 : aggB td.und = false → td.size = 1 := fun ha => by simpa [ha] using h1
  show (Op.equalIn (d + 1) t (.agg ⟨xs⟩) (.agg ⟨ys⟩)).run P w = _
  have hloop : ∀ k i, i + k = len → ((forIn (List.range' i k) ((none, ()) : (Option Bool × Unit)) fun i _ => (do
      if (!(← Op.equalIn d e (← part e ⟨xs⟩ (i * td.size)) (← part e ⟨ys⟩ (i * td.size)))) = true then pure (ForInStep.done (some false, ())) else pure (ForInStep.yield (none, ())) : Sem (ForInStep ((Option Bool × Unit))))) : Sem ((Option Bool × Unit))).run P w =
      .ok (if eqc (xs.drop (i * td.size)) (ys.drop (i * td.size)) then none else some false, ()) w := by
    intro k
    induction k with
    | zero =>
      intro i hi
      rw [List.drop_eq_nil_of_le (by rw [hx]; exact Nat.mul_le_mul_right _ (by omega)), List.drop_eq_nil_of_le (by rw [hy]; exact Nat.mul_le_mul_right _ (by omega))]
      simp [eqc]
    | succ k ih =>
      intro i hi
      have hle : (i + 1) * td.size ≤ len * td.size := Nat.mul_le_mul_right _ (by omega)
      rw [Nat.add_mul] at hle
      have lx : ((xs.drop (i * td.size)).take td.size).length = td.size := by simp; omega
      have ly : ((ys.drop (i * td.size)).take td.size).length = td.size := by simp; omega
      have pa := part_run hd (xs := xs) (o := i * td.size) h0 (by omega) hs1 w
      have pb := part_run hd (xs := ys) (o := i * td.size) h0 (by omega) hs1 w
      have pe := hf d (by omega) _ _ lx ly (seg_num nx _ _) (seg_num ny _ _) w
      have hrest := ih (i + 1) (by omega)
      rw [Nat.add_mul, Nat.one_mul] at hrest
      rw [seg_split xs (i * td.size) td.size, seg_split ys (i * td.size) td.size, eqc_append (by rw [lx, ly]) (seg_num nx _ _) (seg_num ny _ _)]
      rw [List.range'_succ, List.forIn_cons]
      simp only [Sem.run_bind, pa, pb, pe, Result.andThen_ok]
      cases eqc ((xs.drop (i * td.size)).take td.size) ((ys.drop (i * td.size)).take td.size)
      · simp
      · simpa using hrest
  have := hloop len 0 (by omega)
  simp only [Nat.zero_mul, List.drop_zero] at this
  simp only [Op.equalIn, Sem.run_bind, run_underlying hu, Result.andThen_ok, hd.run_size, Std.Legacy.Range.forIn_eq_forIn_range', Std.Legacy.Range.size, Nat.sub_zero, Nat.add_sub_cancel, Nat.div_one]
  rw [this]
  cases eqc xs ys <;> simp
theorem Flat.le {n m sz : Nat} {t : TypeId} {agg : Bool} (H : Flat P n t sz agg) (hm : Nat.ble n m = true) : Flat P m t sz agg := fun d hd => H d (Nat.le_trans (Nat.le_of_ble_eq_true hm) hd)
theorem numNil : ∀ x ∈ ([] : List Value), Num x := fun _ hx => by cases hx
theorem numCons {n : Int} {xs : List Value} (H : ∀ x ∈ xs, Num x) : ∀ x ∈ (Value.int .i64 n :: xs), Num x := fun x hx => by
  rcases List.mem_cons.1 hx with rfl | hx
  · exact ⟨_, rfl⟩
  · exact H x hx
theorem numApp {xs ys : List Value} (H1 : ∀ x ∈ xs, Num x) (H2 : ∀ y ∈ ys, Num y) : ∀ x ∈ xs ++ ys, Num x := fun x hx => (List.mem_append.1 hx).elim (H1 x) (H2 x)
theorem guard_ok {op : BinOp} {t : TypeId} {x y : Operand} {xs ys : List Value} (hg : P.eqGuardType P.depth t = false) (w : World) : (eqGuard op t x y (.agg ⟨xs⟩) (.agg ⟨ys⟩)).run P w = .ok () w := by
  unfold eqGuard
  cases op <;> simp [hg]
theorem xv_eqA {n sz : Nat} {xt yt : TypeId} {x y : Operand} {xs ys : List Value} {b : Bool} (hf : Flat P n xt sz true) (hn : Nat.ble n 10000 = true) (hg : P.eqGuardType P.depth xt = false) (hx : ev E x = some (.agg ⟨xs⟩)) (hy : ev E y = some (.agg ⟨ys⟩)) (lx : xs.length = sz) (ly : ys.length = sz) (nx : ∀ x ∈ xs, Num x) (ny : ∀ y ∈ ys, Num y) (hb : eqc xs ys = b)
    (H : K (.bool b) h) : XV P r ⟨dst, .binOp .eql xt x y yt, ty, pos, af, gd⟩ K T E h :=
  xv_of_run (by simp [plainOp]) fun w ρ ho he => ⟨_, h, w, by
    have hq : (binOp .eql xt (.agg ⟨xs⟩) (.agg ⟨ys⟩)).run P w = .ok (.bool b) w := by
      rw [run_eql_struct, show (Op.equalIn 10000 xt (.agg ⟨xs⟩) (.agg ⟨ys⟩)).run P w = _ from hf 10000 (Nat.le_of_ble_eq_true hn) xs ys lx ly nx ny w, hb]; rfl
    rw [run_bin (he _ _ hx) (he _ _ hy) (guard_ok hg), hq]; rfl, H, .refl ho⟩
theorem xv_neA {n sz : Nat} {xt yt : TypeId} {x y : Operand} {xs ys : List Value} {b : Bool} (hf : Flat P n xt sz true) (hn : Nat.ble n 10000 = true) (hg : P.eqGuardType P.depth xt = false) (hx : ev E x = some (.agg ⟨xs⟩)) (hy : ev E y = some (.agg ⟨ys⟩)) (lx : xs.length = sz) (ly : ys.length = sz) (nx : ∀ x ∈ xs, Num x) (ny : ∀ y ∈ ys, Num y) (hb : (!eqc xs ys) = b)
    (H : K (.bool b) h) : XV P r ⟨dst, .binOp .neq xt x y yt, ty, pos, af, gd⟩ K T E h :=
  xv_of_run (by simp [plainOp]) fun w ρ ho he => ⟨_, h, w, by
    have hq : (binOp .neq xt (.agg ⟨xs⟩) (.agg ⟨ys⟩)).run P w = .ok (.bool b) w := by
      rw [run_neq_struct, show (Op.equalIn 10000 xt (.agg ⟨xs⟩) (.agg ⟨ys⟩)).run P w = _ from hf 10000 (Nat.le_of_ble_eq_true hn) xs ys lx ly nx ny w, ← hb]; rfl
    rw [run_bin (he _ _ hx) (he _ _ hy) (guard_ok hg), hq]; rfl, H, .refl ho⟩
/-! ### Ranges over maps -/
theorem fol_block {w : World} {b : Nat} {o o' : Obj} {Hf : Obj → Hp} (ho : Own h w) (hm : ∀ o', Upd h b o o' (Hf o')) : Fol h w (Hf o') (ChangeMaps.setBlock w b o') := by
  have hg := ho.has _ _ (hm o').mem
  have hlt := (Array.getElem?_eq_some_iff.1 hg).1
  have := Fol.set (o' := o') (w' := { w with heap := w.heap.setIfInBounds b o' }) ho (hm o').mem (by simp [hlt]) (fun k hk => by simp [Array.getElem?_setIfInBounds]; intro e; exact absurd e.symm hk) (by simp) rfl rfl rfl
  rwa [(hm o').set ho.nd] at this
theorem xv_mapRange {t kt et : TypeId} {x : Operand} {m c : Nat} {es : List MapEntry} (ht : P.underlying t = some (.map kt et)) (hx : ev E x = some (.map (some m))) (hm : (m, .map ⟨es⟩ c) ∈ h)
    (H : ∀ b, b ∉ keys h → K (.pointer (some ⟨b, 0, none⟩)) ((b, .mapIter (some m) c #[] c) :: h)) : XV P r ⟨dst, .range t x, ty, pos, af, gd⟩ K T E h :=
  xv_of_run (by simp [plainOp]) fun w ρ ho he => ⟨_, _, w.alloc (.mapIter (some m) c #[] c), by
    have := run_range_map (P := P) w t kt et m ⟨es⟩ c ht (ho.has _ _ hm)
    simp [execOp, he _ _ hx, this], H w.heap.size fun hc => Nat.lt_irrefl _ (ho.lt hc), .alloc ho _⟩
theorem xv_mapNext {x : Operand} {b m since c0 c : Nat} {seen : Array Nat} {es : List MapEntry} {Hf : Obj → Hp} (hx : ev E x = some (.pointer (some ⟨b, 0, none⟩))) (hb : ∀ o', Upd h b (.mapIter (some m) since seen c0) o' (Hf o')) (hm : (m, .map ⟨es⟩ c) ∈ h)
    (hold : ∀ z ∈ es, z.born < since) (hsc : since ≤ c0) (H1 : (leftOf ⟨es⟩ seen).size = 0 → K (.tuple ⟨[.bool false]⟩) h)
    (H2 : ∀ e, e ∈ (leftOf ⟨es⟩ seen).toList → K (.tuple ⟨[.bool true, e.key, e.val]⟩) (Hf (.mapIter (some m) since (seen.push e.born) c))) : XV P r ⟨dst, .next x false, ty, pos, af, gd⟩ K T E h :=
  xv_of_run (by simp [plainOp]) fun w ρ ho he => by
    rcases run_next_at (P := P) w ty b m since c0 seen ⟨es⟩ c (ho.has _ _ (hb (.map #[] 0)).mem) (ho.has _ _ hm) hold hsc with ⟨h0, hr⟩ | ⟨e, hme, w1, hw1, hr⟩
    · exact ⟨_, h, w, by simp [execOp, he _ _ hx, hr], H1 h0, .refl ho⟩
    · refine ⟨.tuple ⟨[.bool true, e.key, e.val]⟩, _, ChangeMaps.setBlock w1 b (.mapIter (some m) since (seen.push e.born) c), by simp [execOp, he _ _ hx, hr], H2 e hme, ?_⟩
      rcases hw1 with rfl | rfl
      · exact fol_block ho hb
      · have := fol_block (o' := .mapIter (some m) since (seen.push e.born) c) (ho.drew (w.drawn + 1)) hb
        exact this.drew
theorem xv_mapEntry {x : Operand} {b m since c : Nat} {seen : Array Nat} {es : List MapEntry} {e : MapEntry} (hx : ev E x = some (.pointer (some ⟨b, 0, none⟩))) (hb : (b, .mapIter (some m) since (seen.push e.born) c) ∈ h) (hm : (m, .map ⟨es⟩ c) ∈ h)
    (hme : e ∈ es) (hn : (es.map (·.born)).Nodup) (H : K (.tuple ⟨[e.key, e.val]⟩) h) : XV P r ⟨dst, .entry x, ty, pos, af, gd⟩ K T E h :=
  xv_of_run (by simp [plainOp]) fun w ρ ho he => ⟨_, h, w, by
    have := run_entry_at (P := P) w b m since seen ⟨es⟩ c e (ho.has _ _ hb) (ho.has _ _ hm) hme hn
    simp [execOp, he _ _ hx, this], H, .refl ho⟩
theorem xv_mapEntry2 {x : Operand} {b m since c : Nat} {seen : Array Nat} {es : List MapEntry} {e : MapEntry} {kv vv : Value} (hx : ev E x = some (.pointer (some ⟨b, 0, none⟩))) (hb : (b, .mapIter (some m) since (seen.push e.born) c) ∈ h) (hm : (m, .map ⟨es⟩ c) ∈ h)
    (hme : e ∈ es) (hn : (es.map (·.born)).Nodup) (hk : e.key = kv) (hv : e.val = vv) (H : K (.tuple ⟨[kv, vv]⟩) h) : XV P r ⟨dst, .entry x, ty, pos, af, gd⟩ K T E h := by
  subst hk hv
  exact xv_mapEntry hx hb hm hme hn H
/-- Entries as a map lays them: stamps below the clock, each once; keys numbers, each once. -/
structure Lay (es : List MapEntry) (c : Nat) : Prop where
  ai : AllInt es
  lt : ∀ e ∈ es, e.born < c
  nd : (es.map (·.born)).Nodup
  kd : es.Pairwise (fun x y => x.key ≠ y.key)
theorem mfind_none {k : Int} : ∀ {es : List MapEntry} {i : Nat}, AllInt es → mfind k es i = none → ∀ e ∈ es, e.key ≠ .int .i64 k
  | [], _, _, _, e, hm => by cases hm
  | x :: es, i, ha, hn, e, hm => by
    obtain ⟨j, hj⟩ := ha x List.mem_cons_self
    simp only [mfind, hj] at hn
    split at hn
    · cases hn
    · rename_i hne
      rcases List.mem_cons.1 hm with rfl | hm
      · rw [hj]; intro hq; injection hq with _ hq; exact hne hq.symm
      · exact mfind_none (fun e he => ha e (List.mem_cons_of_mem _ he)) hn e hm
theorem Lay.empty (c : Nat) : Lay [] c := ⟨fun _ he => (by cases he), fun _ he => (by cases he), List.nodup_nil, List.Pairwise.nil⟩
/-- An entry that is there is what the map says of its key. -/
theorem Lay.get {es : List MapEntry} {c : Nat} (H : Lay es c) {e : MapEntry} (he : e ∈ es) : ∃ k, e.key = .int .i64 k ∧ mget es k = some e.val := by
  obtain ⟨k, hk⟩ := H.ai e he
  refine ⟨k, hk, ?_⟩
  have hkd := H.kd
  have hai := H.ai
  clear H
  unfold mget
  suffices hs : ∀ i, (mfind k es i).map (·.2) = some e.val from hs 0
  induction es with
  | nil => cases he
  | cons x es ih =>
    intro i
    obtain ⟨j, hj⟩ := hai x List.mem_cons_self
    obtain ⟨h1, h2⟩ := List.pairwise_cons.1 hkd
    simp only [mfind, hj]
    rcases List.mem_cons.1 he with rfl | he
    · rw [hj] at hk; injection hk with _ hk; rw [if_pos hk.symm]; rfl
    · have hne : ¬ k = j := fun hq => h1 e he (by rw [hj, hk, hq])
      rw [if_neg hne]
      exact ih he h2 (fun e he => hai e (List.mem_cons_of_mem _ he)) (i + 1)
theorem mget_some {es : List MapEntry} {k : Int} {v : Value} (ha : AllInt es) (hg : mget es k = some v) : ∃ e ∈ es, e.key = .int .i64 k ∧ e.val = v := by
  unfold mget at hg
  cases hf : mfind k es 0 with
  | none => rw [hf] at hg; cases hg
  | some p =>
    obtain ⟨n, u⟩ := p
    rw [hf] at hg
    simp at hg
    subst hg
    obtain ⟨_, e, he, hk, hv⟩ := mfind_shift k es 0 n u hf
    exact ⟨e, List.mem_of_getElem? he, hk, hv⟩
theorem xv_mapSetL {t kt et : TypeId} {x y z : Operand} {m c : Nat} {es : List MapEntry} {k : Int} {v : Value} {Hf : Obj → Hp} (ht : P.underlying t = some (.map kt et)) (hk : P.underlying kt = some (.int .i64))
    (hx : ev E x = some (.map (some m))) (hy : ev E y = some (.int .i64 k)) (hz : ev E z = some v) (hm : ∀ o', Upd h m (.map ⟨es⟩ c) o' (Hf o')) (hL : Lay es c)
    (H : ∀ es' c', MSet es k v es' → Lay es' c' → K undef (Hf (.map ⟨es'⟩ c'))) : XV P r ⟨dst, .mapUpdate t x y z, ty, pos, af, gd⟩ K T E h :=
  xv_of_skip (by simp [plainOp]) fun w ρ ho he => by
    have ha := hL.ai
    have hg := ho.has _ _ (hm (.map ⟨es⟩ c)).mem
    have hgo : (getObj m).run P w = .ok (.map ⟨es⟩ c) w := by simp [getObj, Sem.run, hg]
    have hset : ∀ o, (setObj m o).run P w = .ok () (ChangeMaps.setBlock w m o) := fun o => by simp [setObj, Sem.run, hg, ChangeMaps.setBlock]
    have hf := run_findKeyI (P := P) (k := k) (w := w) hk ha
    cases hfi : mfind k es 0 with
    | none =>
      rw [hfi] at hf
      have hnk := mfind_none ha hfi
      refine ⟨Hf (.map ⟨es ++ [{ key := .int .i64 k, val := v, born := c }]⟩ (c + 1)), _, ?_, H _ _ ⟨?_, fun j => ?_⟩ ⟨?_, ?_, ?_, ?_⟩, fol_block ho hm⟩
      · simp [execOp, he _ _ hx, he _ _ hy, he _ _ hz, Instr.mapUpdate, run_underlying ht, hgo, run_checkKeyI (P := P) (n := 9999) hk, hf, hset]
      · intro e he'
        rcases List.mem_append.1 he' with h1 | h1
        · exact ha e h1
        · simp at h1; exact ⟨k, by rw [h1]⟩
      · exact mfind_push k v c es 0 ha hfi j
      · intro e he'
        rcases List.mem_append.1 he' with h1 | h1
        · exact ha e h1
        · simp at h1; exact ⟨k, by rw [h1]⟩
      · intro e he'
        rcases List.mem_append.1 he' with h1 | h1
        · have := hL.lt e h1; omega
        · simp at h1; rw [h1]; exact Nat.lt_succ_self _
      · rw [List.map_append, List.nodup_append]
        refine ⟨hL.nd, by simp, fun a ha b hb => ?_⟩
        obtain ⟨e, he, rfl⟩ := List.mem_map.1 ha
        simp at hb; subst hb
        have := hL.lt e he; omega
      · rw [List.pairwise_append]
        refine ⟨hL.kd, by simp, fun a ha b hb => ?_⟩
        simp at hb; subst hb
        exact hnk a ha
    | some p =>
      obtain ⟨n, u⟩ := p
      rw [hfi] at hf
      obtain ⟨_, e0, he0, hk0, hv0⟩ := mfind_shift k es 0 n u hfi
      simp only [Nat.sub_zero] at he0
      have hmem : ∀ e ∈ es.modify n (fun e => { e with key := .int .i64 k, val := v }), ∃ e' ∈ es, e.key = e'.key ∧ e.born = e'.born := by
        intro e he'
        obtain ⟨i, hi⟩ := List.mem_iff_getElem?.1 he'
        rw [List.getElem?_modify] at hi
        cases hq : es[i]? with
        | none => simp [hq] at hi
        | some e1 =>
          simp only [hq] at hi
          by_cases hni : n = i
          · subst hni; rw [he0] at hq; cases hq; simp at hi; exact ⟨e0, List.mem_of_getElem? he0, by rw [← hi, hk0], by rw [← hi]⟩
          · simp [hni] at hi; exact ⟨e1, List.mem_of_getElem? hq, by rw [hi], by rw [hi]⟩
      have hmapb : (es.modify n (fun e => { e with key := .int .i64 k, val := v })).map (·.born) = es.map (·.born) := by
        apply List.ext_getElem?
        intro i
        rw [List.getElem?_map, List.getElem?_map, List.getElem?_modify]
        cases es[i]? with
        | none => simp
        | some e1 => by_cases hni : n = i <;> simp [hni]
      have hmapk : (es.modify n (fun e => { e with key := .int .i64 k, val := v })).map (·.key) = es.map (·.key) := by
        apply List.ext_getElem?
        intro i
        rw [List.getElem?_map, List.getElem?_map, List.getElem?_modify]
        cases hq : es[i]? with
        | none => simp
        | some e1 =>
          by_cases hni : n = i
          · subst hni; rw [he0] at hq; cases hq; simp [hk0]
          · simp [hni]
      have hai : AllInt (es.modify n (fun e => { e with key := .int .i64 k, val := v })) := by
        intro e he'
        obtain ⟨e', h1, h2, _⟩ := hmem e he'
        obtain ⟨j, hj⟩ := ha e' h1
        exact ⟨j, by rw [h2, hj]⟩
      refine ⟨Hf (.map ⟨es.modify n fun e => { e with key := .int .i64 k, val := v }⟩ c), _, ?_, H _ _ ⟨hai, fun j => ?_⟩ ⟨hai, ?_, ?_, ?_⟩, fol_block ho hm⟩
      · simp [execOp, he _ _ hx, he _ _ hy, he _ _ hz, Instr.mapUpdate, run_underlying ht, hgo, run_checkKeyI (P := P) (n := 9999) hk, hf, hset, he0, hk0, Instr.keyThatStays, Instr.sameBits]
      · have := mfind_modify k v es 0 n u ha hfi j
        unfold mget
        simpa using this
      · intro e he'
        obtain ⟨e', h1, _, h3⟩ := hmem e he'
        rw [h3]; exact hL.lt e' h1
      · rw [hmapb]; exact hL.nd
      · have hp := hL.kd
        have e1 : ∀ l : List MapEntry, l.Pairwise (fun x y => x.key ≠ y.key) ↔ (l.map (·.key)).Pairwise (fun a b => a ≠ b) := fun l => by rw [List.pairwise_map]
        rw [e1] at hp ⊢
        rw [hmapk]; exact hp
/-- The guard's own operation was not carried out. -/
theorem xr_nu {ops : Array Oper} {i : Nat} {op : Op} {j : Nat} {t : Bool} (hi : ops[i]? = some ⟨dst, op, ty, pos, af, some (j, t)⟩) (hg : gv ops E j = some undef) (hd : dstOk N dst = true)
    (H : XR P r N ops (i + 1) Q (E.put dst undef) D h) : XR P r N ops i Q E D h := by
  unfold XR
  rw [range'_at hi]
  intro w a ho ha hda
  simp only [wpOpsIn, hi]
  have hy : yielded ops a.tmps j = none := by
    unfold gv at hg
    unfold yielded
    cases hd : (ops[j]?).bind (·.dst) with
    | none => rfl
    | some d =>
      rw [hd] at hg
      have := ha.val d _ hg
      simp [this, undef]
  have hw : ¬ Region.wanted ⟨dst, op, ty, pos, af, some (j, t)⟩ (yielded ops a.tmps) = true := by
    simp [Region.wanted, hy]
  rw [if_neg hw]
  refine ⟨fun _ _ => trivial, ?_⟩
  have hda' : (a.put dst undef).defers = D := by cases dst <;> exact hda
  exact H w _ ho (ha.put (dstOk_lt hd)) hda'
end Go.H

