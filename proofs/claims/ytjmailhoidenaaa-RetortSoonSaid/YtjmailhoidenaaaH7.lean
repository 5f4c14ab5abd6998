/-
  Function values; ranges over functions.
-/
import Derived.Test.YtjmailhoidenaaaH6
set_option linter.all false
namespace Go.H
open Go
variable {P : Program} {r : Option Nat} {N : Nat} {Q : Post} {E : Env} {D : List Deferred} {h : Hp}
variable {K : Value → Hp → Prop} {T : List PanicEntry → Hp → Prop} {dst : Option Nat} {ty : TypeId} {pos : String} {af : Array Edge} {gd : Option (Nat × Bool)}
theorem XC.frame {c : Code} (g : Hp) (H : XC P r N c Q E D h) : XC P r N c (fun e E' D' h2 => ∃ h', h2 = h' ++ g ∧ Q e E' D' h') E D (h ++ g) := by
  intro w a ho ha hd
  refine wpIn_mono (H w a ho.left ha hd) ?_
  rintro e a' w' ⟨E', h', q, ha', hf⟩
  exact ⟨E', h' ++ g, ⟨h', rfl, q⟩, ha', Fol.frame ho hf⟩
/-- An operation that calls fv with such arguments. -/
def CallOp (o : Oper) (E : Env) (fv : Value) (args : List Value) : Prop :=
  ∃ c as at_, o.op = .call ⟨.value c, as, at_⟩ ∧ ev E c = some fv ∧ evs E as.toList = some args
/-- What a call of a function value does, whoever calls. -/
def AFn (P : Program) (fv : Value) (args : List Value) (h : Hp) (R : Ending → Hp → Prop) : Prop :=
  ∀ (r : Option Nat) (o : Oper) (E : Env) (K : Value → Hp → Prop) (T : List PanicEntry → Hp → Prop), CallOp o E fv args → (∀ e h', R e h' → Up K T e h') → XV P r o K T E h
theorem xv_fn {c : Operand} {as : Array Operand} {at_ : Array TypeId} {fv : Value} {args : List Value} (hc : ev E c = some fv) (ha : evs E as.toList = some args) (H : AFn P fv args h (Up K T)) : XV P r ⟨dst, .call ⟨.value c, as, at_⟩, ty, pos, af, gd⟩ K T E h :=
  H r _ E K T ⟨c, as, at_, rfl, hc, ha⟩ (fun _ _ q => q)
theorem AFn.mono {fv : Value} {args : List Value} {R R' : Ending → Hp → Prop} (H : AFn P fv args h R) (hr : ∀ e h', R e h' → R' e h') : AFn P fv args h R' :=
  fun r o E K T hc hk => H r o E K T hc fun e h' q => hk e h' (hr e h' q)
theorem afn_func {g : FuncId} {fi lb args : List Value} {R : Ending → Hp → Prop} (hb : HasBody P g) (H : ACalls P g ⟨fi ++ args ++ lb⟩ h R) : AFn P (.func (.func g) ⟨fi⟩ ⟨lb⟩) args h R := by
  rintro r ⟨dst, op, ty, pos, af, gd⟩ E K T ⟨c, as, at_, rfl, hc, ha⟩ hk
  exact xv_call hc ha hb rfl (H.mono hk)
theorem AFn.perm {fv : Value} {args : List Value} {R : Ending → Hp → Prop} {h' : Hp} (hp : List.Perm h h') (H : AFn P fv args h R) : AFn P fv args h' R :=
  fun r o E K T hc hk => XV.perm hp (H r o E K T hc hk)
theorem up_frame {g : Hp} {K : Value → Hp → Prop} {T : List PanicEntry → Hp → Prop} {R : Ending → Hp → Prop} (hk : ∀ e h2, (∃ h', h2 = h' ++ g ∧ R e h') → Up K T e h2) :
    ∀ e h', R e h' → Up (fun v h' => K v (h' ++ g)) (fun c h' => T c (h' ++ g)) e h' := by
  intro e h' q
  have := hk e (h' ++ g) ⟨h', rfl, q⟩
  cases e <;> exact this
theorem AFn.frame {fv : Value} {args : List Value} {R : Ending → Hp → Prop} (g : Hp) (H : AFn P fv args h R) : AFn P fv args (h ++ g) (fun e h2 => ∃ h', h2 = h' ++ g ∧ R e h') := by
  intro r o E K T hc hk
  refine (XV.frame g (H r o E (fun v h' => K v (h' ++ g)) (fun c h' => T c (h' ++ g)) hc (up_frame hk))).mono ?_ ?_
  · rintro v h2 ⟨h', rfl, k⟩; exact k
  · rintro v h2 ⟨h', rfl, k⟩; exact k
/-- The frame in front. -/
theorem AFn.frameL {fv : Value} {args : List Value} {R : Ending → Hp → Prop} (g : Hp) (H : AFn P fv args h R) : AFn P fv args (g ++ h) (fun e h2 => ∃ h', h2 = g ++ h' ∧ R e h') := by
  intro r o E K T hc hk
  have hp : ∀ h', List.Perm (h' ++ g) (g ++ h') := fun h' => List.perm_append_comm
  refine XV.perm (hp h) ((XV.frame g (H r o E (fun v h' => K v (g ++ h')) (fun c h' => T c (g ++ h')) hc ?_)).conv ?_ ?_)
  · intro e h' q
    have := hk e (g ++ h') ⟨h', rfl, q⟩
    cases e <;> exact this
  · rintro v h2 _ ⟨h', rfl, k⟩; exact ⟨g ++ h', (hp h').symm, k⟩
  · rintro v h2 ⟨h', rfl, k⟩; exact ⟨g ++ h', g ++ h', (hp h').symm, List.Sublist.refl _, k⟩
theorem ACalls.frameL {f : FuncId} {args : Array Value} {R : Ending → Hp → Prop} (g : Hp) (H : ACalls P f args h R) : ACalls P f args (g ++ h) (fun e h2 => ∃ h', h2 = g ++ h' ∧ R e h') := by
  intro w ho
  have hp : ∀ h', List.Perm (h' ++ g) (g ++ h') := fun h' => List.perm_append_comm
  have ho' : Own (h ++ g) w := ho.perm (hp h)
  refine (H w ho'.left).mono ?_
  rintro e w' ⟨h', q, hf⟩
  exact ⟨g ++ h', ⟨h', rfl, q⟩, ((Fol.frame ho' hf).perm (hp h').symm).permL (hp h).symm⟩
theorem ACalls.perm {f : FuncId} {args : Array Value} {R : Ending → Hp → Prop} {h' : Hp} (hp : List.Perm h h') (H : ACalls P f args h R) : ACalls P f args h' R := by
  intro w ho
  refine (H w (ho.perm hp)).mono ?_
  rintro e w' ⟨h2, q, hf⟩
  exact ⟨h2, q, hf.permL hp.symm⟩
/-- **An iterator's contract**: whoever is handed the elements 'all', one after the other, through y: y's word for each; the iterator ends when all have come, or y has said 'no more'. -/
def Iter {α : Type} (P : Program) (g : FuncId) (fi lb : List Value) (enc : α → List Value) (all : List α) (Rd : Hp → Prop) : Prop :=
  ∀ (y : Value) (J Jx : Nat → Hp → Prop) (h : Hp), (∀ k h', J k h' → Rd h') →
    (∀ k x, all[k]? = some x → ∀ h', J k h' → AFn P y (enc x) h' (fun e h2 => (e = .returned (.bool true) ∧ J (k + 1) h2) ∨ (e = .returned (.bool false) ∧ Jx (k + 1) h2))) →
    J 0 h → ACalls P g ⟨fi ++ [y] ++ lb⟩ h (fun e h' => (∃ v, e = .returned v) ∧ (J all.length h' ∨ ∃ k, k ≤ all.length ∧ Jx k h'))
def puts (E : Env) : List Nat → List Value → Env
  | p :: ps, v :: vs => puts (E.put (some p) v) ps vs
  | _, _ => E
theorem agree_puts : ∀ (ps : List Nat) (vs : List Value) (E : Env) (tm : Array Value), Agree N E { tmps := tm, defers := [] } → (∀ p ∈ ps, p < N) →
    Agree N (puts E ps vs) { tmps := (ps.zip vs).foldl (fun t (p, v) => t.setIfInBounds p v) tm, defers := [] }
  | [], _, _, _, ha, _ => by simpa [puts] using ha
  | _ :: _, [], _, _, ha, _ => by simpa [puts] using ha
  | p :: ps, v :: vs, E, tm, ha, hp => by
    have := agree_puts ps vs (E.put (some p) v) (tm.setIfInBounds p v) (ha.put (d := some p) (fun k hk => by cases hk; exact hp p List.mem_cons_self)) (fun q hq => hp q (List.mem_cons_of_mem _ hq))
    simpa [puts] using this
theorem fol_put {l : Nat} {o o' : Obj} {g : Hp} {w : World} (ho : Own ((l, o) :: g) w) : Fol ((l, o) :: g) w ((l, o') :: g) (w.putObj l o') := by
  have hm : (l, o) ∈ (l, o) :: g := List.mem_cons_self
  have hb := ho.has _ _ hm
  have hlt := (Array.getElem?_eq_some_iff.1 hb).1
  have := Fol.set (o' := o') (w' := w.putObj l o') ho hm (World.putObj_heap_same hlt) (fun k hk => World.putObj_heap_other hk) (by simp) rfl rfl rfl
  simpa [setH] using this
def markOf (k : Nat) : Deferred := { target := .collected k, args := #[] }
/-- **'for .. := range seq { body }'**, outside of any such loop. -/
theorem xc_range {α : Type} {g : Operand} {ps : Array Tmp} {assign body : Code} {gf : FuncId} {fi lb : List Value} (enc : α → List Value) (all : List α) (Rd : Hp → Prop)
    (hg : ev E g = some (.func (.func gf) ⟨fi⟩ ⟨lb⟩)) (hb : HasBody P gf) (hit : Iter P gf fi lb enc all Rd) (hps : ∀ x, (enc x).length = ps.size) (hpN : ∀ p ∈ ps.toList, p < N)
    (I : Nat → Hp → Prop) (Ix : Code → Nat → Hp → Prop) (hRd : ∀ k h', I k h' → ∀ x y, Rd (x :: y :: h')) (hRdp : ∀ h1 h2, List.Perm h1 h2 → Rd h1 → Rd h2) (h0 : I 0 h)
    (round : ∀ l k x, all[k]? = some x → ∀ h', I k h' →
      XC P (some l) N assign (fun e E1 D1 h1 => e = .normal ∧ XC P (some l) N body (fun e2 _ D2 h2 => D2 = [] ∧ (match e2 with
        | .normal => I (k + 1) h2
        | .ret => Ix .ret (k + 1) h2
        | .exit id => Ix (.exit id) (k + 1) h2
        | .goto t => Ix (.goto t) (k + 1) h2
        | _ => False)) E1 D1 h1) (puts E ps.toList (enc x)) [] h')
    (done : ∀ k h', I all.length h' → k ∉ keys h' → Q .normal E (markOf k :: D) ((k, .deferred (some [])) :: h'))
    (stop : ∀ k c j h', j ≤ all.length → Ix c j h' → k ∉ keys h' → XC P none N c Q E (markOf k :: D) ((k, .deferred (some [])) :: h')) : XC P none N (.rangeFunc g ps assign body) Q E D h := by
  intro w a ho ha hd
  refine wpIn_rangeFunc ?_
  intro fn _
  obtain ⟨rec, hrec⟩ : ∃ rec : LoopState → Option Code → Loop, rec = fun st pe => { state := st, pending := pe, fn, tmps := a.tmps, params := ps, assign, body, defers := w.heap.size } := ⟨_, rfl⟩
  have f1 := Fol.alloc ho (.deferred (some []))
  have f2 := Fol.alloc f1.own (.loop (rec .ready none))
  rw [World.size_alloc] at f2
  have f12 := f1.trans f2
  obtain ⟨w1, hw1⟩ : ∃ w1, (w.alloc (.deferred (some []))).alloc (.loop (rec .ready none)) = w1 := ⟨_, rfl⟩
  rw [hw1] at f12
  have hgv := ha.ev hg
  refine ⟨w.heap.size + 1, [markOf w.heap.size], w1, { target := .fn (.func gf) ⟨lb⟩, args := ⟨fi⟩ ++ #[.func (.yield (w.heap.size + 1)) #[] #[]] }, w1, gf,
    ⟨fi ++ [.func (.yield (w.heap.size + 1)) #[] #[]] ++ lb⟩, w1, ?_, ?_, fun _ _ => trivial, ?_, fun hh => by simp [fen, Fence.wide] at hh, callsIn_fen.2 ?_⟩
  · rw [← hw1, hrec]; exact run_enterLoop_outer _ _ _ _ _
  · simp [resolve, Deferred.ofValue, hgv]; rfl
  · simpa [invoke] using hb _ w1
  obtain ⟨Dk, hDk⟩ : ∃ k, k = w.heap.size := ⟨_, rfl⟩
  obtain ⟨l, hl⟩ : ∃ l, l = w.heap.size + 1 := ⟨_, rfl⟩
  rw [← hl, ← hDk] at f12
  rw [← hl]
  let base : LoopState → Option Code → Hp → Hp := fun st pe h' => (l, .loop (rec st pe)) :: (Dk, .deferred (some [])) :: h'
  have hcall := hit (.func (.yield l) #[] #[]) (fun k h' => ∃ h2, List.Perm h' (base .ready none h2) ∧ I k h2) (fun k h' => ∃ c h2, List.Perm h' (base .done (some c) h2) ∧ Ix c k h2) (base .ready none h)
    (fun k h' ⟨h2, hp, hi⟩ => hRdp _ _ hp.symm (hRd k h2 hi _ _)) ?_ ⟨h, List.Perm.refl _, h0⟩
  · refine (hcall w1 f12.own).mono ?_
    rintro e w2 ⟨h2, ⟨⟨v, rfl⟩, q⟩, hf2⟩
    have hf3 := f12.trans hf2
    rcases q with ⟨h3, hp, hi⟩ | ⟨j, hj, c, h3, hp, hi⟩
    · have ho3 := hf3.own.perm hp.symm
      have hl3 := ho3.has l _ List.mem_cons_self
      have hend := run_endLoop (P := P) hl3 (by rw [hrec]; simp)
      have hf4 := (hf3.perm hp.symm).trans (fol_put (o' := .loop { rec .ready none with state := .exhausted }) ho3)
      refine ⟨none, _, hend.trans (congrArg (fun p => Result.ok p _) (show (rec .ready none).pending = none by rw [hrec])), E, (Dk, .deferred (some [])) :: h3, ?_, ⟨ha.size, ha.val⟩, hf4.sub (List.sublist_cons_self _ _)⟩
      have hnd := ho3.nd
      simp only [base, keys, List.map_cons, List.nodup_cons] at hnd
      have := done Dk h3 hi (fun hm => hnd.2.1 hm)
      show Q .normal E ([markOf w.heap.size] ++ a.defers) _
      rw [hd, ← hDk]
      exact this
    · have ho3 := hf3.own.perm hp.symm
      have hl3 := ho3.has l _ List.mem_cons_self
      have hend := run_endLoop (P := P) hl3 (by rw [hrec]; simp)
      have hf4 := (hf3.perm hp.symm).trans (fol_put (o' := .loop { rec .done (some c) with state := .exhausted }) ho3)
      have hf5 := hf4.sub (List.sublist_cons_self _ _)
      have hnd := ho3.nd
      simp only [base, keys, List.map_cons, List.nodup_cons] at hnd
      refine ⟨some c, _, hend.trans (congrArg (fun p => Result.ok p _) (show (rec .done (some c)).pending = some c by rw [hrec])), ?_⟩
      have hst := stop Dk c j h3 hj hi (fun hm => hnd.2.1 hm) _ { a with defers := [markOf w.heap.size] ++ a.defers } hf5.own ⟨ha.size, ha.val⟩ (by show [markOf w.heap.size] ++ a.defers = _; rw [hd, ← hDk]; rfl)
      refine wpIn_mono hst ?_
      rintro e a' w' ⟨E', h', q, x, f⟩
      exact ⟨E', h', q, x, hf5.trans f⟩
  · -- one round
    rintro k x hx h' ⟨h2, hp, hi⟩
    refine AFn.perm hp.symm ?_
    rintro r2 ⟨dst, op, ty, pos, af, gd⟩ E2 K T ⟨c, as, at_, rfl, hc, hargs⟩ hk w' a' ho' ha' next QQ hn hq
    obtain ⟨ρ, he, hρ⟩ := ops_rho (by simp [plainOp]) ha'
    have hm := evs_arr he hargs
    have hl1 := ho'.has l _ List.mem_cons_self
    have hy := run_yield (P := P) (args := ⟨enc x⟩) hl1 (by rw [hrec]; simpa using hps x)
    have hres := resolve_value (P := P) (args := as) (at_ := at_) (t := ty) (w := w') (he _ _ hc)
    refine ⟨fun _ _ => trivial, ?_⟩
    rw [Oper.semAt_eq _ _ _ (by simp), ← hρ]
    have hex : (execOp ρ ⟨dst, .call ⟨.value c, as, at_⟩, ty, pos, af, gd⟩).run P w' = .ok (.round l fn ((ps.zip (⟨enc x⟩ : Array Value)).foldl (fun tmps (t, a) => tmps.setIfInBounds t a) a.tmps) assign body) w' := by
      have : (execOp ρ ⟨dst, .call ⟨.value c, as, at_⟩, ty, pos, af, gd⟩).run P w' = (Instr.yield l ⟨enc x⟩).run P w' := by
        simp [execOp, hres, invoke, hm]
      rw [this, hy, hrec]
    rw [hex]
    refine ⟨fun hh => by simp [fen, Fence.wide] at hh, ?_⟩
    have hrnd := round l k x hx h2 hi
    -- the frame: the record, the block of the deferred calls
    have hpf : ∀ z y (g : Hp), List.Perm (g ++ [z, y]) (z :: y :: g) := fun z y g => List.perm_append_comm (l₁ := g) (l₂ := [z, y])
    have hown : Own (h2 ++ [(l, .loop (rec .ready none)), (Dk, .deferred (some []))]) w' := ho'.perm (hpf _ _ _)
    have hag : Agree N (puts E ps.toList (enc x)) { tmps := (ps.zip (⟨enc x⟩ : Array Value)).foldl (fun tmps (t, a) => tmps.setIfInBounds t a) a.tmps, defers := [] } := by
      have := agree_puts ps.toList (enc x) E a.tmps ⟨ha.size, ha.val⟩ hpN
      have e : (ps.zip (⟨enc x⟩ : Array Value)).foldl (fun tmps (t, a) => tmps.setIfInBounds t a) a.tmps = (ps.toList.zip (enc x)).foldl (fun t (p, v) => t.setIfInBounds p v) a.tmps := by
        rw [← Array.foldl_toList]; simp
      rw [e]; exact this
    refine roundIn_of_wpIn (F := fen r2) trivial ?_
    refine wpIn_mono (XC.frame [(l, .loop (rec .ready none)), (Dk, .deferred (some []))] hrnd w' _ hown hag rfl) ?_
    rintro e a1 w1' ⟨E1, h1, ⟨h1', rfl, rfl, hbody⟩, ha1, hf1⟩
    have ho1 : Own ((l, .loop (rec .ready none)) :: (Dk, .deferred (some [])) :: h1') w1' := hf1.own.perm (hpf _ _ _).symm
    have hl2 := ho1.has l _ List.mem_cons_self
    refine ⟨_, run_beginRound (P := P) hl2 (by rw [hrec]), ?_⟩
    have hf2 := fol_put (o' := .loop { rec .ready none with state := .busy }) ho1
    have ho2 : Own (h1' ++ [(l, .loop { rec .ready none with state := .busy }), (Dk, .deferred (some []))]) (w1'.putObj l (.loop { rec .ready none with state := .busy })) := hf2.own.perm (hpf _ _ _)
    refine wpIn_mono (XC.frame [(l, .loop { rec .ready none with state := .busy }), (Dk, .deferred (some []))] hbody _ a1 ho2 ha1 rfl) ?_
    rintro e a3 w3 ⟨E3, h3, ⟨h3', rfl, hd3, hpost⟩, ha3, hf3⟩
    have ho3 : Own ((l, .loop { rec .ready none with state := .busy }) :: (Dk, .deferred (some [])) :: h3') w3 := hf3.own.perm (hpf _ _ _).symm
    have hl3 := ho3.has l _ List.mem_cons_self
    have hall : Fol ((l, .loop (rec .ready none)) :: (Dk, .deferred (some [])) :: h2) w' ((l, .loop { rec .ready none with state := .busy }) :: (Dk, .deferred (some [])) :: h3') w3 :=
      (((hf1.permL (hpf _ _ _).symm).perm (hpf _ _ _).symm).trans hf2).trans ((hf3.permL (hpf _ _ _).symm).perm (hpf _ _ _).symm)
    have fin : ∀ (jump : Option Code), Fol ((l, .loop (rec .ready none)) :: (Dk, .deferred (some [])) :: h2) w' ((l, .loop (rec (if jump.isNone then .ready else .done) jump)) :: (Dk, .deferred (some [])) :: h3') (w3.putObj l (.loop (rec (if jump.isNone then .ready else .done) jump))) ∧
        (Instr.endRound l jump).run P w3 = .ok (.bool jump.isNone) (w3.putObj l (.loop (rec (if jump.isNone then .ready else .done) jump))) := by
      intro jump
      refine ⟨hall.trans (fol_put ho3), ?_⟩
      have := run_endRound (P := P) jump hl3
      rw [hrec] at this ⊢
      exact this
    cases e with
    | normal =>
      obtain ⟨h4, h5⟩ := fin none
      refine ⟨_, _, h5, ?_⟩
      have := hk _ _ (.inl ⟨rfl, h3', List.Perm.refl _, hpost⟩)
      exact hn _ _ _ this h4
    | ret =>
      obtain ⟨h4, h5⟩ := fin (some .ret)
      refine ⟨_, _, h5, ?_⟩
      have := hk _ _ (.inr ⟨rfl, .ret, h3', List.Perm.refl _, hpost⟩)
      exact hn _ _ _ this h4
    | exit id =>
      obtain ⟨h4, h5⟩ := fin (some (.exit id))
      refine ⟨_, _, h5, ?_⟩
      have := hk _ _ (.inr ⟨rfl, .exit id, h3', List.Perm.refl _, hpost⟩)
      exact hn _ _ _ this h4
    | goto t =>
      obtain ⟨h4, h5⟩ := fin (some (.goto t))
      refine ⟨_, _, h5, ?_⟩
      have := hk _ _ (.inr ⟨rfl, .goto t, h3', List.Perm.refl _, hpost⟩)
      exact hn _ _ _ this h4
    | panic ch => exact hpost.elim
    | outgrown => exact hpost.elim
end Go.H
