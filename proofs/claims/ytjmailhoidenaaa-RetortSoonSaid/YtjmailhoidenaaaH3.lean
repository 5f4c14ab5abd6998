/-
  Calls, entry and return of a function, ranges over functions.
-/
import Derived.Test.YtjmailhoidenaaaH2
set_option linter.all false
namespace Go.H
open Go
variable {P : Program} {r : Option Nat} {N : Nat} {Q : Post} {E : Env} {D : List Deferred} {h : Hp}
variable {K : Value → Hp → Prop} {T : List PanicEntry → Hp → Prop} {dst : Option Nat} {ty : TypeId} {pos : String} {af : Array Edge} {gd : Option (Nat × Bool)}
/-- The function number f has a body. -/
def HasBody (P : Program) (f : FuncId) : Prop := ∀ args w, (callFunc f args).run P w = .ok (.enter f args) w
theorem resolve_value {ρ : Operand → Value} {c : Operand} {fn : Fn} {fi ca : Array Value} {args : Array Operand} {at_ : Array TypeId} {t : TypeId} {w : World} (hc : ρ c = .func fn fi ca) :
    (resolve ρ ⟨.value c, args, at_⟩ t).run P w = .ok { target := .fn fn ca, args := fi ++ args.map ρ } w := by
  simp [resolve, Deferred.ofValue, hc]
/-- A call of a function value that is a function with a body. -/
theorem xv_call {c : Operand} {g : FuncId} {fi ca vs : List Value} {args : Array Operand} {at_ : Array TypeId} {as : Array Value} (hc : ev E c = some (.func (.func g) ⟨fi⟩ ⟨ca⟩)) (ha : evs E args.toList = some vs) (hb : HasBody P g)
    (has : (⟨fi ++ vs ++ ca⟩ : Array Value) = as) (H : ACalls P g as h (Up K T)) : XV P r ⟨dst, .call ⟨.value c, args, at_⟩, ty, pos, af, gd⟩ K T E h := by
  refine xv_enter (by simp [plainOp]) (fun w ρ he => ?_) H
  have hr := resolve_value (P := P) (args := args) (at_ := at_) (t := ty) (w := w) (he _ _ hc)
  have hm := evs_arr he ha
  subst has
  simpa [execOp, hr, invoke, hm] using hb _ w
theorem xv_calls {g : FuncId} {vs : List Value} {args : Array Operand} {at_ : Array TypeId} (ha : evs E args.toList = some vs) (hb : HasBody P g)
    (H : ACalls P g ⟨vs⟩ h (Up K T)) : XV P r ⟨dst, .call ⟨.value (.func g), args, at_⟩, ty, pos, af, gd⟩ K T E h :=
  xv_call (fi := []) (ca := []) rfl ha hb (by simp) H
/-! ### A function's body -/
def ofL (l : List Value) : Env := fun t => l[t]?
theorem agree_ofL (vs : List Value) (k : Nat) : Agree (vs.length + k) (ofL vs) { tmps := ⟨vs⟩ ++ Array.replicate k undef, defers := [] } := by
  refine ⟨by simp, fun t v hv => ?_⟩
  have hlt : t < vs.length := (List.getElem?_eq_some_iff.1 hv).1
  simp only [ofL] at hv
  rw [Array.getElem?_append_left (by simpa using hlt)]
  simpa using hv
/-- The results, as they are read at the end. -/
def ResOk (P : Program) (E : Env) (h : Hp) : List ResultVar → List Value → Prop
  | [], vs => vs = []
  | .tmp t :: rs, vs => ∃ v vs', vs = v :: vs' ∧ E t = some v ∧ ResOk P E h rs vs'
  | .cell a t :: rs, vs => ∃ v vs', vs = v :: vs' ∧ (∃ b o l t' fz d, E a = some (.pointer (some ⟨b, o, none⟩)) ∧ (b, .cells ⟨l⟩ t' fz) ∈ h ∧ TyOk P t d ∧
      ((aggB d.und = false ∧ l[o]? = some v) ∨ (aggB d.und = true ∧ ∃ l', (l.drop o).take d.size = l' ∧ l'.length = d.size ∧ v = .agg ⟨l'⟩))) ∧ ResOk P E h rs vs'
def tupV : List Value → Value
  | [v] => v
  | vs => .tuple ⟨vs⟩
theorem run_loadVarH {w : World} {b o : Nat} {l : List Value} {t t' : TypeId} {fz : Nat × Nat} {d : TD} {v : Value} (hb : w.heap[b]? = some (.cells ⟨l⟩ t' fz)) (ht : TyOk P t d)
    (hv : (aggB d.und = false ∧ l[o]? = some v) ∨ (aggB d.und = true ∧ ∃ l', (l.drop o).take d.size = l' ∧ l'.length = d.size ∧ v = .agg ⟨l'⟩)) : (loadVar t ⟨b, o, none⟩).run P w = .ok v w := by
  have hcell : ∀ o, w.cell? ⟨b, o, none⟩ = l[o]? := fun o => by simp [World.cell?, hb]
  rcases hv with ⟨ha, hv⟩ | ⟨ha, l', hl, hn, rfl⟩
  · simp [loadVar, ht.run_agg, ha, hcell, hv]
  · have hc : ∀ j v, l'[j]? = some v → w.cell? ((⟨b, o, none⟩ : Addr).add j) = some v := by
      intro j v hv
      have e : (⟨b, o, none⟩ : Addr).add j = ⟨b, o + j, none⟩ := by unfold Addr.add; split <;> simp_all
      have hj : j < d.size := by rw [← hn]; exact (List.getElem?_eq_some_iff.1 hv).1
      rw [e, hcell]
      rw [← hl, List.getElem?_take_of_lt hj, List.getElem?_drop] at hv
      exact hv
    have := run_loadCells_list (P := P) w ⟨b, o, none⟩ l' hc
    rw [hn] at this
    simp [loadVar, ht.run_agg, ha, ht.run_size, this]
def resRun (tmps : Array Value) : ResultVar → Sem Value
  | .tmp t => pure (tmps.getD t undef)
  | .cell a t => do loadVar t (← asAddr (tmps.getD a undef))
theorem ResOk.run {w : World} {tmps : Array Value} {a : Act} (ha : Agree N E a) (htm : a.tmps = tmps) (hw : ∀ b l t fz, (b, .cells l t fz) ∈ h → w.heap[b]? = some (.cells l t fz)) : ∀ (rs : List ResultVar) (vs : List Value), ResOk P E h rs vs →
    (rs.mapM (resRun tmps)).run P w = .ok vs w
  | [], vs, hh => by cases hh; simp
  | .tmp t :: rs, vs, hh => by
    obtain ⟨v, vs', rfl, hv, hrest⟩ := hh
    have h1 := ha.val t v hv
    rw [htm] at h1
    have ih := ResOk.run ha htm hw rs vs' hrest
    simp only [List.mapM_cons, Sem.run_bind, resRun, Sem.run_pure, Result.andThen_ok, ih]
    simp [h1]
  | .cell b t :: rs, vs, hh => by
    obtain ⟨v, vs', rfl, ⟨blk, o, l, t', fz, d, hp, hm, ht, hv⟩, hrest⟩ := hh
    have h1 := ha.val b _ hp
    rw [htm] at h1
    have ih := ResOk.run ha htm hw rs vs' hrest
    have hl := run_loadVarH (P := P) (hw _ _ _ _ hm) ht hv
    simp only [List.mapM_cons, Sem.run_bind, resRun, Sem.run_pure, Result.andThen_ok]
    simp [h1, asAddr, hl, ih]
/-- The marks of the ranges over functions that the body went through. -/
def Marks (h : Hp) : List Deferred → Prop
  | [] => True
  | d :: ds => (∃ k, d.target = .collected k ∧ (k, .deferred (some [])) ∈ h ∧ ∀ d' ∈ ds, d'.target ≠ .collected k) ∧ Marks h ds
def marked : List Deferred → List Nat
  | [] => []
  | d :: ds => (match d.target with | .collected k => [k] | _ => []) ++ marked ds
def BodyQ (P : Program) (fn : Func) (R : Ending → Hp → Prop) : Post
  | .normal, E, D, h | .ret, E, D, h => Marks h D ∧ ∃ vs h', ResOk P E h fn.results.toList vs ∧ List.Sublist h' h ∧ (∀ k ∈ marked D, k ∉ keys h') ∧ R (.returned (tupV vs)) h'
  | .panic ch, _, D, h => D = [] ∧ R (.panicked ch) h
  | _, _, _, _ => False
theorem results_run {fn : Func} {tmps : Array Value} {w : World} {vs : List Value}
    (hh : (fn.results.toList.mapM (resRun tmps)).run P w = .ok vs w) : (results fn tmps).run P w = .ok (tupV vs) w := by
  have e : results fn tmps = (do
      let vs ← fn.results.mapM (resRun tmps)
      pure (if h : vs.size = 1 then vs[0] else .tuple vs)) := rfl
  rw [e, Array.mapM_eq_mapM_toList]
  simp only [Sem.run_bind, Sem.run_map, hh, Result.andThen_ok, Sem.run_pure]
  match vs with
  | [] => rfl
  | [v] => rfl
  | v :: u :: vs => rfl
theorem leavesM {fn : Func} {R : Ending → World → Prop} {a : Act} {vs : List Value} {h0 h' : Hp} {w0 : World} {R' : Ending → Hp → Prop} (ha : Agree N E a) (hres : ResOk P E h fn.results.toList vs)
    (hR : R' (.returned (tupV vs)) h') (hRR : ∀ e h1 w1, R' e h1 → Fol h0 w0 h1 w1 → R e w1) (hsub : List.Sublist h' h) : ∀ (ds : List Deferred) (w : World),
    Marks h ds → (∀ k ∈ marked ds, k ∉ keys h') → (keys h).Nodup → (∀ b l t fz, (b, .cells l t fz) ∈ h → w.heap[b]? = some (.cells l t fz)) → (∀ k, .collected k ∈ ds.map (·.target) → w.heap[k]? = some (.deferred (some []))) → 
    Fol h0 w0 h' w → (∀ k, .collected k ∈ ds.map (·.target) → w0.heap.size ≤ k ∨ k ∈ keys h0) → LeavesInM (fen none) 0 P fn a.tmps R ds .returning w
  | [], w, _, _, _, hw, _, hf, _ => by
    refine ⟨tupV vs, results_run (hres.run ha rfl hw), hRR _ h' w hR hf⟩
  | d :: ds, w, hm, hk, hnd, hw, hd, hf, hnew => by
    obtain ⟨⟨k, hkt, hkm, hne⟩, hm'⟩ := hm
    have hdk := hd k (by simp [hkt])
    have hkk : k ∉ keys h' := hk k (by simp [marked, hkt])
    refine ⟨by simp, .inl ⟨k, _, hkt, run_takeDeferred hdk, ?_⟩⟩
    have hsize : (w.putObj k (.deferred none)).heap.size = w.heap.size := by simp
    refine leavesM ha hres hR hRR hsub ds _ hm' (fun x hx => hk x (by simp only [marked]; exact List.mem_append_right _ hx)) hnd ?_ ?_ ?_ ?_
    · intro b l t fz hb
      have : b ≠ k := by
        rintro rfl
        have h1 := hw _ _ _ _ hb
        rw [hdk] at h1; cases h1
      rw [World.putObj_heap_other this]; exact hw _ _ _ _ hb
    · intro k' hk'
      have : k' ≠ k := by
        rintro rfl
        obtain ⟨d', hd', e⟩ := List.mem_map.1 hk'
        exact hne d' hd' e
      rw [World.putObj_heap_other this]
      exact hd k' (by simp only [List.map_cons]; exact List.mem_cons_of_mem _ hk')
    · refine ⟨⟨hf.own.nd, fun b o hb => ?_⟩, hf.os, hf.tape, hf.output, by rw [hsize]; exact hf.size, fun b hb hn => ⟨(hf.rest b hb hn).1, ?_⟩⟩
      · have : b ≠ k := by rintro rfl; exact hkk (List.mem_map.2 ⟨_, hb, rfl⟩)
        rw [World.putObj_heap_other this]; exact hf.own.has b o hb
      · have : b ≠ k := by
          rintro rfl
          rcases hnew b (by simp [hkt]) with h1 | h1
          · omega
          · exact hn h1
        rw [World.putObj_heap_other this]; exact (hf.rest b hb hn).2
    · exact fun k' hk' => hnew k' (by simp only [List.map_cons]; exact List.mem_cons_of_mem _ hk')
theorem marks_mem : ∀ {ds : List Deferred}, Marks h ds → ∀ k, .collected k ∈ ds.map (·.target) → (k, .deferred (some [])) ∈ h
  | [], _, k, hk => by cases hk
  | d :: ds, hm, k, hk => by
    rcases List.mem_cons.1 hk with e | hk
    · obtain ⟨k', h1, h2, _⟩ := hm.1
      simp only [h1, Target.collected.injEq] at e; subst e; exact h2
    · exact marks_mem hm.2 k hk
theorem calls_of_xc {f : FuncId} {fn : Func} {c : Code} {vs : List Value} {R : Ending → Hp → Prop} (hf : P.funcs[f]? = some fn) (hb : fn.body = some c) (hN : N = vs.length + (fn.ntmps - vs.length))
    (H : XC P none N c (BodyQ P fn R) (ofL vs) [] h) : ACalls P f ⟨vs⟩ h R := by
  intro w ho
  have hA := agree_ofL vs (fn.ntmps - vs.length)
  rw [← hN] at hA
  refine (callsIn_fen (r := none) (n := 0)).1 (callsIn_of_wp_marks hf hb trivial (wpIn_mono (H w _ ho hA rfl) ?_) rfl)
  rintro e a' w' ⟨E', h', q, ha', hfol⟩
  have key : (Marks h' a'.defers ∧ ∃ vs h2, ResOk P E' h' fn.results.toList vs ∧ List.Sublist h2 h' ∧ (∀ k ∈ marked a'.defers, k ∉ keys h2) ∧ R (.returned (tupV vs)) h2) → 
      LeavesInM (fen none) 0 P fn a'.tmps (fun e w' => ∃ h', R e h' ∧ Fol h w h' w') a'.defers .returning w' := by
    rintro ⟨hm, vs, h2, hres, hsub, hmk, hR⟩
    refine leavesM (R' := R) (h0 := h) (w0 := w) ha' hres hR (fun e h1 w1 a b => ⟨h1, a, b⟩) hsub a'.defers w' hm hmk hfol.own.nd (fun b l t fz hb => hfol.own.has _ _ hb) (fun k hk => hfol.own.has _ _ (marks_mem hm k hk)) (hfol.sub hsub) ?_
    intro k hk
    have hkm := marks_mem hm k hk
    by_cases hlt : k < w.heap.size
    · refine .inr (Classical.byContradiction fun hn => (hfol.rest k hlt hn).1 (List.mem_map.2 ⟨_, hkm, rfl⟩))
    · exact .inl (by omega)
  cases e with
  | normal => exact key q
  | ret => exact key q
  | panic ch =>
    obtain ⟨hd, hR⟩ := q
    show LeavesInM _ _ _ _ _ _ a'.defers _ _
    rw [hd]
    exact ⟨h', hR, hfol⟩
  | exit id => exact q.elim
  | goto l => exact q.elim
  | outgrown => exact q.elim
end Go.H
