/-
  Deferred calls: a closure that recovers; the end of a function that has one.
-/
import Derived.Test.YtjmailhoidenaaaH14
import Derived.Recover
import Derived.Tactics2
import Derived.TacticsIn
set_option linter.all false
namespace Go.H
open Go
variable {P : Program} {r : Option Nat} {N : Nat} {Q : Post} {E : Env} {D : List Deferred} {h : Hp}
def DCalls (P : Program) (f : FuncId) (args : Array Value) (u : FrameMode) (h : Hp) (R : Ending → FrameMode → Hp → Prop) : Prop :=
  ∀ w, Own h w → CallsDIn (fen none) 0 P f args u w fun e u' w' => ∃ h', R e u' h' ∧ Fol h w h' w'
/-- A deferred call's contract from its body that recovers. -/
theorem callsDIn_wpS {f : FuncId} {fn : Func} {c : Code} {args : Array Value} {u : FrameMode} {w : World} {R : Ending → FrameMode → World → Prop}
    (hf : P.funcs[f]? = some fn) (hb : fn.body = some c)
    (H : ∀ (c₀ : Frame) (cs : List Frame), c₀.mode = u → c.wpS P (bodyPostS P fn c₀ cs R) { tmps := args ++ Array.replicate (fn.ntmps - args.size) undef, defers := [] } (c₀ :: cs) w) :
    CallsDIn (fen none) 0 P f args u w R := by
  refine ⟨trivial, fun c₀ cs hu _ => ?_⟩
  obtain ⟨b, hbq⟩ : ∃ b : Frame, b = { (default : Frame) with fn := f, kind := .deferred } := ⟨_, rfl⟩
  have hbk : b.kind = .deferred := by rw [hbq]
  have hbr : b.roundOf = none := by rw [hbq]; rfl
  have hbf : b.fn = f := by rw [hbq]
  have henter : Frame.enter P f args .deferred = b.at { tmps := args ++ Array.replicate (fn.ntmps - args.size) undef, defers := [] } [.code c] := by
    simp [Frame.enter, Frame.at, hf, hb, hbq]
  obtain ⟨e, a', cs', w', hq, harr⟩ := H c₀ cs hu b [] hbk hbr
  rw [← henter] at harr
  cases e with
  | normal =>
    obtain ⟨hd, u', rfl, v, hr, hR⟩ := hq
    exact ⟨.returned v, u', w', { b.at a' [] with mode := .returning }, hR, (comesIn_wide (e := .returned v)).2 (Steps.trans harr (.one step_end)), hbk, hbf, rfl, hd, fn, by simp only [Frame.at, hbf]; exact hf, hr⟩
  | ret =>
    obtain ⟨hd, u', rfl, v, hr, hR⟩ := hq
    obtain ⟨todo, hs⟩ := harr
    exact ⟨.returned v, u', w', { b.at a' todo with mode := .returning }, hR, (comesIn_wide (e := .returned v)).2 hs, hbk, hbf, rfl, hd, fn, by simp only [Frame.at, hbf]; exact hf, hr⟩
  | panic chain =>
    obtain ⟨hd, u', rfl, hR⟩ := hq
    obtain ⟨todo, hs⟩ := harr
    exact ⟨.panicked chain, u', w', { b.at a' todo with mode := .panicking chain }, hR, (comesIn_wide (e := .panicked chain)).2 hs, hbk, hbf, rfl, hd, fn, by simp only [Frame.at, hbf]; exact hf⟩
  | exit id => exact hq.elim
  | goto l => exact hq.elim
  | outgrown =>
    obtain ⟨u', hR⟩ := hq
    exact ⟨.outgrown, u', w', b, hR, harr.resolve_left (by rw [hbk]; simp), hbk, hbf, trivial⟩
/-- What 'recover' finds where a frame is on its way out, and what is left. -/
def recV : FrameMode → Value × FrameMode
  | .panicking ({ v, recovered := false, goexit := false } :: older) => (v, .panicking ({ v, recovered := true } :: older))
  | u => (.nilIface, u)
def RecPost (R : Ending → FrameMode → Hp → Prop) (u : FrameMode) : Post
  | .normal, _, D, h | .ret, _, D, h => D = [] ∧ ∃ h', List.Sublist h' h ∧ R (.returned (.tuple #[])) u h'
  | .panic ch, _, D, h => D = [] ∧ ∃ h', List.Sublist h' h ∧ R (.panicked ch) u h'
  | _, _, _, _ => False
theorem recoverD_recV (c : Frame) (cs : List Frame) : (match recoverD (c :: cs) with | some (v, cs') => (v, cs') | none => (Value.nilIface, c :: cs)) = ((recV c.mode).1, { c with mode := (recV c.mode).2 } :: cs) := by
  obtain ⟨m⟩ : ∃ m, m = c.mode := ⟨_, rfl⟩
  unfold recoverD recV
  cases hm : c.mode with
  | panicking ch =>
    cases ch with
    | nil => simp [hm]; cases c; simp_all
    | cons e older =>
      obtain ⟨v, rc, gx⟩ := e
      cases rc <;> cases gx <;> simp [hm] <;> cases c <;> simp_all
  | _ => simp [hm]; cases c; simp_all
theorem dcalls_rec {f : FuncId} {fn : Func} {id t1 t2 : Nat} {ty1 ty2 : TypeId} {p1 p2 : String} {a1 a2 : Array Edge} {rest : Code} {vs : List Value} {u : FrameMode} {R : Ending → FrameMode → Hp → Prop}
    (hf : P.funcs[f]? = some fn) (hb : fn.body = some (.seq (.region id #[⟨some t1, .call ⟨.builtin .recover, #[], #[]⟩, ty1, p1, a1, none⟩, ⟨some t2, .assign (.tmp t1), ty2, p2, a2, none⟩] false) rest)) (hres : fn.results = #[])
    (hN : N = vs.length + (fn.ntmps - vs.length)) (h1 : Nat.blt t1 N = true) (h2 : Nat.blt t2 N = true)
    (H : XC P none N rest (RecPost R (recV u).2) (((ofL vs).put (some t1) (recV u).1).put (some t2) (recV u).1) [] h) : DCalls P f ⟨vs⟩ u h R := by
  intro w ho
  refine callsDIn_wpS hf hb fun c₀ cs hu => wpS_seq (wpS_region ?_)
  have hA := agree_ofL vs (fn.ntmps - vs.length)
  rw [← hN] at hA
  have hlt1 : t1 < N := by simpa [Nat.blt_eq] using h1
  have hlt2 : t2 < N := by simpa [Nat.blt_eq] using h2
  obtain ⟨a0, ha0⟩ : ∃ a0 : Act, a0 = { tmps := (⟨vs⟩ : Array Value) ++ Array.replicate (fn.ntmps - (⟨vs⟩ : Array Value).size) undef, defers := [] } := ⟨_, rfl⟩
  have hA' : Agree N (ofL vs) a0 := by rw [ha0]; simpa using hA
  rw [← ha0]
  have hd0 : a0.defers = [] := by rw [ha0]
  have hA1 := hA'.put (d := some t1) (v := (recV u).1) (fun k hk => by cases hk; exact hlt1)
  have hA2 := hA1.put (d := some t2) (v := (recV u).1) (fun k hk => by cases hk; exact hlt2)
  have hx : (a0.put (some t1) (recV u).1).eval (.tmp t1) = (recV u).1 := hA1.ev (by simp [ev, Env.put])
  have hrest := H w _ ho hA2 (by simp [Act.put, hd0])
  have hgo : rest.wpS P (bodyPostS P fn c₀ cs (fun e u' w' => ∃ h', R e u' h' ∧ Fol h w h' w')) ((a0.put (some t1) (recV u).1).put (some t2) (recV u).1) ({ c₀ with mode := (recV u).2 } :: cs) w := by
    refine wpS_of_wp (wpIn_wide.1 (wpIn_mono hrest ?_))
    rintro e a' w' ⟨E', h', q, ha', hfol⟩
    have hr0 : (results fn a'.tmps).run P w' = .ok (.tuple #[]) w' := results_run (vs := []) (by rw [hres]; simp)
    cases e with
    | normal => obtain ⟨hd, h2, hs, hR⟩ := q; exact ⟨hd, _, rfl, _, hr0, h2, hR, hfol.sub hs⟩
    | ret => obtain ⟨hd, h2, hs, hR⟩ := q; exact ⟨hd, _, rfl, _, hr0, h2, hR, hfol.sub hs⟩
    | panic ch => obtain ⟨hd, h2, hs, hR⟩ := q; exact ⟨hd, _, rfl, h2, hR, hfol.sub hs⟩
    | exit id => exact q.elim
    | goto l => exact q.elim
    | outgrown => exact q.elim
  have hrd := recoverD_recV c₀ cs
  rw [hu] at hrd
  have hl : List.range (#[(⟨some t1, .call ⟨.builtin .recover, #[], #[]⟩, ty1, p1, a1, none⟩ : Oper), ⟨some t2, .assign (.tmp t1), ty2, p2, a2, none⟩] : Array Oper).size = [0, 1] := rfl
  rw [hl]
  have hex : (execOp a0.eval ⟨some t1, .call ⟨.builtin .recover, #[], #[]⟩, ty1, p1, a1, none⟩).run P w = .ok .recover w := by
    obtain ⟨cs, hcs⟩ := run_builtin (P := P) (dst := some t1) (ty := ty1) (pos := p1) (af := a1) (gd := none) a0.eval .recover #[] #[] w
    rw [hcs]; simp [builtin]
  have hx2 : (execOp (a0.put (some t1) (recV u).1).eval ⟨some t2, .assign (.tmp t1), ty2, p2, a2, none⟩).run P w = .ok (.value (recV u).1) w := by
    simp [execOp, hx]
  have hstep : ∀ cs', wpOpsS P #[⟨some t1, .call ⟨.builtin .recover, #[], #[]⟩, ty1, p1, a1, none⟩, ⟨some t2, .assign (.tmp t1), ty2, p2, a2, none⟩] (Exit.thenS (rest.wpS P (bodyPostS P fn c₀ cs (fun e u' w' => ∃ h', R e u' h' ∧ Fol h w h' w'))) (bodyPostS P fn c₀ cs (fun e u' w' => ∃ h', R e u' h' ∧ Fol h w h' w'))) [1] (a0.put (some t1) (recV u).1) cs' w =
      rest.wpS P (bodyPostS P fn c₀ cs (fun e u' w' => ∃ h', R e u' h' ∧ Fol h w h' w')) ((a0.put (some t1) (recV u).1).put (some t2) (recV u).1) cs' w := by
    intro cs'
    simp [wpOpsS, Region.wanted, hx2, Oper.upon, Exit.thenS]
  unfold wpOpsS
  simp only [List.getElem?_toArray, List.getElem?_cons_zero, Region.wanted, if_true, hex]
  cases hq : recoverD (c₀ :: cs) with
  | none =>
    rw [hq] at hrd
    simp only [Prod.mk.injEq] at hrd
    rw [hrd.1, hstep, hrd.2]
    exact hgo
  | some p =>
    obtain ⟨v, cs'⟩ := p
    rw [hq] at hrd
    simp only [Prod.mk.injEq] at hrd
    simp only
    rw [hrd.1, hstep, hrd.2]
    exact hgo
/-! ### The end of a function that has deferred calls -/
def LeavesH (P : Program) (fn : Func) (R : Ending → Hp → Prop) (E : Env) : List Deferred → FrameMode → Hp → Prop
  | [], .returning, h => ∃ vs h', ResOk P E h fn.results.toList vs ∧ List.Sublist h' h ∧ R (.returned (tupV vs)) h'
  | [], .panicking ch, h => R (.panicked ch) h
  | [], .run, _ => False
  | d :: ds, u, h => u ≠ .run ∧ ∃ g cap args, d = { target := .fn (.func g) ⟨cap⟩, args := ⟨args⟩ } ∧ HasBody P g ∧ DCalls P g ⟨args ++ cap⟩ u h fun
      | .returned _, u', h' => LeavesH P fn R E ds (settle u') h'
      | .panicked ch, u', h' => LeavesH P fn R E ds (raised u' ch) h'
      | .outgrown, _, _ => False
theorem leavesH_M {fn : Func} {R : Ending → Hp → Prop} {a : Act} {h0 : Hp} {w0 : World} (ha : Agree N E a) : ∀ (ds : List Deferred) (u : FrameMode) (h : Hp) (w : World), LeavesH P fn R E ds u h → Fol h0 w0 h w →
    LeavesInM (fen none) 0 P fn a.tmps (fun e w' => ∃ h', R e h' ∧ Fol h0 w0 h' w') ds u w
  | [], u, h, w, H, hf => by
    cases u with
    | run => exact H.elim
    | returning =>
      obtain ⟨vs, h', hres, hs, hR⟩ := H
      exact ⟨tupV vs, results_run (hres.run ha rfl (fun b l t fz hb => hf.own.has _ _ hb)), h', hR, hf.sub hs⟩
    | panicking ch => exact ⟨h, H, hf⟩
  | d :: ds, u, h, w, H, hf => by
    obtain ⟨hu, g, cap, args, rfl, hb, hD⟩ := H
    refine ⟨hu, .inr ⟨fun hh => by simp [fen, Fence.wide] at hh, .func g, ⟨cap⟩, g, ⟨args ++ cap⟩, rfl, ?_, fun _ _ => trivial, ?_⟩⟩
    · simpa [invoke] using hb ⟨args ++ cap⟩ w
    · refine (hD w hf.own).mono ?_
      rintro e u' w' ⟨h', hR, hf'⟩
      cases e with
      | returned v => exact leavesH_M ha ds _ h' w' hR (hf.trans hf')
      | panicked ch => exact leavesH_M ha ds _ h' w' hR (hf.trans hf')
      | outgrown => exact hR.elim
def BodyD (P : Program) (fn : Func) (R : Ending → Hp → Prop) : Post
  | .normal, E, D, h | .ret, E, D, h => LeavesH P fn R E D .returning h
  | .panic ch, E, D, h => LeavesH P fn R E D (.panicking ch) h
  | _, _, _, _ => False
theorem calls_of_xcD {f : FuncId} {fn : Func} {c : Code} {vs : List Value} {R : Ending → Hp → Prop} (hf : P.funcs[f]? = some fn) (hb : fn.body = some c) (hN : N = vs.length + (fn.ntmps - vs.length))
    (H : XC P none N c (BodyD P fn R) (ofL vs) [] h) : ACalls P f ⟨vs⟩ h R := by
  intro w ho
  have hA := agree_ofL vs (fn.ntmps - vs.length)
  rw [← hN] at hA
  refine (callsIn_fen (r := none) (n := 0)).1 (callsIn_of_wp_marks hf hb trivial (wpIn_mono (H w _ ho hA rfl) ?_) rfl)
  rintro e a' w' ⟨E', h', q, ha', hfol⟩
  cases e with
  | normal => exact leavesH_M ha' _ _ h' w' q hfol
  | ret => exact leavesH_M ha' _ _ h' w' q hfol
  | panic ch => exact leavesH_M ha' _ _ h' w' q hfol
  | exit id => exact q.elim
  | goto l => exact q.elim
  | outgrown => exact q.elim
/-- 'defer f(..)'. -/
theorem xr_defer {ops : Array Oper} {i : Nat} {c : Operand} {as : Array Operand} {at_ : Array TypeId} {fn : Fn} {fi ca vs : List Value} {dst : Option Nat} {ty : TypeId} {pos : String} {af : Array Edge} (hi : ops[i]? = some ⟨dst, .defer ⟨.value c, as, at_⟩, ty, pos, af, none⟩) (hd : dstOk N dst = true)
    (hc : ev E c = some (.func fn ⟨fi⟩ ⟨ca⟩)) (hv : evs E as.toList = some vs)
    (H : XR P none N ops (i + 1) Q (E.put dst undef) ({ target := .fn fn ⟨ca⟩, args := ⟨fi ++ vs⟩ } :: D) h) : XR P none N ops i Q E D h := by
  unfold XR
  rw [range'_at hi]
  intro w a ho ha hda
  simp only [wpOpsIn, hi]
  have hw : Region.wanted ⟨dst, .defer ⟨.value c, as, at_⟩, ty, pos, af, none⟩ (yielded ops a.tmps) = true := rfl
  rw [if_pos hw]
  refine ⟨fun _ _ => trivial, ?_⟩
  have hres := resolve_value (P := P) (ρ := a.eval) (args := as) (at_ := at_) (t := ty) (w := w) (ha.ev hc)
  have hm : as.map a.eval = ⟨vs⟩ := evs_arr (fun x v hx => ha.ev hx) hv
  have hex : (Oper.semAt (fen none).round a.eval ⟨dst, .defer ⟨.value c, as, at_⟩, ty, pos, af, none⟩).run P w = .ok (.defer { target := .fn fn ⟨ca⟩, args := ⟨fi ++ vs⟩ }) w := by
    simp [Oper.semAt, fen, execOp, hres, hm]
  rw [hex]
  simp only [Oper.uponIn]
  have ha2 : Agree N E { a with defers := { target := .fn fn ⟨ca⟩, args := ⟨fi ++ vs⟩ } :: a.defers } := ⟨ha.size, ha.val⟩
  refine H w _ ho (ha2.put (dstOk_lt hd)) ?_
  cases dst <;> simp [Act.put, hda]
theorem xv_neNil0 {K : Value → Hp → Prop} {T : List PanicEntry → Hp → Prop} {dst : Option Nat} {ty : TypeId} {pos : String} {af : Array Edge} {gd : Option (Nat × Bool)} {xt yt : TypeId} {x : Operand} (ht : ∃ ms, P.underlying xt = some (.interface ms)) (hx : ev E x = some .nilIface) (H : K (.bool false) h) : XV P r ⟨dst, .binOp .neq xt x (.const .nilIface) yt, ty, pos, af, gd⟩ K T E h :=
  xv_of_run (by simp [plainOp]) fun w ρ ho he => ⟨_, h, w, by
    obtain ⟨ms, ht⟩ := ht
    have hg : ∀ w, (eqGuard .neq xt x (.const .nilIface) .nilIface .nilIface).run P w = .ok () w := fun w => by unfold eqGuard; simp
    rw [run_bin (he _ _ hx) (he (.const .nilIface) _ rfl) hg]
    have hq0 : ∀ n, (Op.equalIn (n + 1) xt .nilIface .nilIface).run P w = .ok true w := fun n => by
      simp only [Op.equalIn, Sem.run_bind, run_underlying ht, Result.andThen_ok, Sem.run_pure]
    have hq := hq0 9999
    have hb : (binOp .neq xt .nilIface .nilIface).run P w = .ok (.bool false) w := by
      show (do let b ← Op.equalIn (9999 + 1) xt .nilIface .nilIface; pure (Value.bool (!b)) : Sem Value).run P w = _
      simp only [Sem.run_bind, hq, Result.andThen_ok, Sem.run_pure, Bool.not_true]
    rw [hb]; rfl, H, .refl ho⟩
section
variable {K : Value → Hp → Prop} {T : List PanicEntry → Hp → Prop} {dst : Option Nat} {ty : TypeId} {pos : String} {af : Array Edge} {gd : Option (Nat × Bool)} {xt yt : TypeId} {x y : Operand} {k : IntKind} {a b : Int}
theorem xv_neqT (hx : ev E x = some (.int k a)) (hy : ev E y = some (.int k b)) (hn : a ≠ b) (H : K (.bool true) h) : XV P r ⟨dst, .binOp .neq xt x y yt, ty, pos, af, gd⟩ K T E h := xv_cmp hx hy (by simp [cmpB, hn]) H
theorem xv_neqF (hx : ev E x = some (.int k a)) (hy : ev E y = some (.int k b)) (hn : a = b) (H : K (.bool false) h) : XV P r ⟨dst, .binOp .neq xt x y yt, ty, pos, af, gd⟩ K T E h := xv_cmp hx hy (by simp [cmpB, hn]) H
theorem xv_eqlT (hx : ev E x = some (.int k a)) (hy : ev E y = some (.int k b)) (hn : a = b) (H : K (.bool true) h) : XV P r ⟨dst, .binOp .eql xt x y yt, ty, pos, af, gd⟩ K T E h := xv_cmp hx hy (by simp [cmpB, hn]) H
theorem xv_eqlF (hx : ev E x = some (.int k a)) (hy : ev E y = some (.int k b)) (hn : a ≠ b) (H : K (.bool false) h) : XV P r ⟨dst, .binOp .eql xt x y yt, ty, pos, af, gd⟩ K T E h := xv_cmp hx hy (by simp [cmpB, hn]) H
end
end Go.H
