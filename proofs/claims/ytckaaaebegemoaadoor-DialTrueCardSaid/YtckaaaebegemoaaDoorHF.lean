/-
  Iterators that hand out what they made themselves; parts of slices and of arrays; a slice beside nil; a full slice that grows.
-/
import Derived.Test.YtckaaaebegemoaaDoorHE
import Derived.Laws.MakeOwn
set_option linter.all false
namespace Go.H
open Go
variable {P : Program} {r : Option Nat} {N : Nat} {Q : Post} {E : Env} {D : List Deferred} {h h' : Hp}
/-- **An iterator's contract, where it hands out blocks of its own too.** -/
def IterP {α : Type} (P : Program) (g : FuncId) (fi lb : List Value) (Enc : α → List Value → Hp → Prop) (all : List α) (Rd : Hp → Prop) : Prop :=
  ∀ (y : Value) (J Jx : Nat → Hp → Prop) (h : Hp), y.cells = ⟨[y]⟩ → (∀ k h', J k h' → Rd h') →
    (∀ k x, all[k]? = some x → ∀ vs p, Enc x vs p → ∀ h', J k h' → AFn P y vs (p ++ h') (fun e h2 => (e = .returned (.bool true) ∧ J (k + 1) h2) ∨ (e = .returned (.bool false) ∧ Jx (k + 1) h2))) →
    J 0 h → ACalls P g ⟨fi ++ [y] ++ lb⟩ h (fun e h' => (∃ v, e = .returned v) ∧ (J all.length h' ∨ ∃ k, k ≤ all.length ∧ Jx k h'))
theorem xc_rangeP {α : Type} {g : Operand} {ps : Array Tmp} {assign body : Code} {gf : FuncId} {fi lb : List Value} (Enc : α → List Value → Hp → Prop) (all : List α) (Rd : Hp → Prop)
    (hg : ev E g = some (.func (.func gf) ⟨fi⟩ ⟨lb⟩)) (hb : HasBody P gf) (hit : IterP P gf fi lb Enc all Rd) (hps : ∀ x vs p, Enc x vs p → vs.length = ps.size) (hpN : ∀ p ∈ ps.toList, p < N)
    (I : Nat → Hp → Prop) (Ix : Code → Nat → Hp → Prop) (hRd : ∀ k h', I k h' → ∀ x y, Rd (x :: y :: h')) (hRdp : ∀ h1 h2, List.Perm h1 h2 → Rd h1 → Rd h2) (h0 : I 0 h)
    (round : ∀ l k x, all[k]? = some x → ∀ vs p, Enc x vs p → ∀ h', I k h' →
      XC P (some l) N assign (fun e E1 D1 h1 => e = .normal ∧ XC P (some l) N body (fun e2 _ D2 h2 => D2 = [] ∧ (match e2 with
        | .normal => I (k + 1) h2
        | .ret => Ix .ret (k + 1) h2
        | .exit id => Ix (.exit id) (k + 1) h2
        | .goto t => Ix (.goto t) (k + 1) h2
        | _ => False)) E1 D1 h1) (puts E ps.toList vs) [] (p ++ h'))
    (done : ∀ k h', I all.length h' → k ∉ keys h' → Q .normal E (markOf k :: D) ((k, .deferred (some [])) :: h'))
    (stop : ∀ k c j h', j ≤ all.length → Ix c j h' → k ∉ keys h' → XC P none N c Q E (markOf k :: D) ((k, .deferred (some [])) :: h')) : XC P none N (.rangeFunc g ps assign body) Q E D h := by
  intro w a ho ha hd
  refine wpIn_rangeFunc ?_
  intro fn _
  obtain ⟨rec, hrec⟩ : ∃ rec : LoopState → Option Code → Loop, rec = fun st pe => { state := st, pending := pe, fn, tmps := a.tmps, params := ps, assign, body, defers := w.heap.size } := ⟨_, rfl⟩
  have f1 := Fol.alloc ho (.deferred (some []))
  have f2 := Fol.alloc f1.own (.loop (rec .ready none))
  rw [World.size_alloc] at f2
  have f12 := f1.trans f2
  obtain ⟨w1, hw1⟩ : ∃ w1, (w.alloc (.deferred (some []))).alloc (.loop (rec .ready none)) = w1 := ⟨_, rfl⟩
  rw [hw1] at f12
  have hgv := ha.ev hg
  refine ⟨w.heap.size + 1, [markOf w.heap.size], w1, { target := .fn (.func gf) ⟨lb⟩, args := ⟨fi⟩ ++ #[.func (.yield (w.heap.size + 1)) #[] #[]] }, w1, gf,
    ⟨fi ++ [.func (.yield (w.heap.size + 1)) #[] #[]] ++ lb⟩, w1, ?_, ?_, fun _ _ => trivial, ?_, fun hh => by simp [fen, Fence.wide] at hh, callsIn_fen.2 ?_⟩
  · rw [← hw1, hrec]; exact run_enterLoop_outer _ _ _ _ _
  · simp [resolve, Deferred.ofValue, hgv]; rfl
  · simpa [invoke] using hb _ w1
  obtain ⟨Dk, hDk⟩ : ∃ k, k = w.heap.size := ⟨_, rfl⟩
  obtain ⟨l, hl⟩ : ∃ l, l = w.heap.size + 1 := ⟨_, rfl⟩
  rw [← hl, ← hDk] at f12
  rw [← hl]
  let base : LoopState → Option Code → Hp → Hp := fun st pe h' => (l, .loop (rec st pe)) :: (Dk, .deferred (some [])) :: h'
  have hcall := hit (.func (.yield l) #[] #[]) (fun k h' => ∃ h2, List.Perm h' (base .ready none h2) ∧ I k h2) (fun k h' => ∃ c h2, List.Perm h' (base .done (some c) h2) ∧ Ix c k h2) (base .ready none h) rfl
    (fun k h' ⟨h2, hp, hi⟩ => hRdp _ _ hp.symm (hRd k h2 hi _ _)) ?_ ⟨h, List.Perm.refl _, h0⟩
  · refine (hcall w1 f12.own).mono ?_
    rintro e w2 ⟨h2, ⟨⟨v, rfl⟩, q⟩, hf2⟩
    have hf3 := f12.trans hf2
    rcases q with ⟨h3, hp, hi⟩ | ⟨j, hj, c, h3, hp, hi⟩
    · have ho3 := hf3.own.perm hp.symm
      have hl3 := ho3.has l _ List.mem_cons_self
      have hend := run_endLoop (P := P) hl3 (by rw [hrec]; simp)
      have hf4 := (hf3.perm hp.symm).trans (fol_put (o' := .loop { rec .ready none with state := .exhausted }) ho3)
      refine ⟨none, _, hend.trans (congrArg (fun p => Result.ok p _) (show (rec .ready none).pending = none by rw [hrec])), E, (Dk, .deferred (some [])) :: h3, ?_, ⟨ha.size, ha.val⟩, hf4.sub (List.sublist_cons_self _ _)⟩
      have hnd := ho3.nd
      simp only [base, keys, List.map_cons, List.nodup_cons] at hnd
      have := done Dk h3 hi (fun hm => hnd.2.1 hm)
      show Q .normal E ([markOf w.heap.size] ++ a.defers) _
      rw [hd, ← hDk]
      exact this
    · have ho3 := hf3.own.perm hp.symm
      have hl3 := ho3.has l _ List.mem_cons_self
      have hend := run_endLoop (P := P) hl3 (by rw [hrec]; simp)
      have hf4 := (hf3.perm hp.symm).trans (fol_put (o' := .loop { rec .done (some c) with state := .exhausted }) ho3)
      have hf5 := hf4.sub (List.sublist_cons_self _ _)
      have hnd := ho3.nd
      simp only [base, keys, List.map_cons, List.nodup_cons] at hnd
      refine ⟨some c, _, hend.trans (congrArg (fun p => Result.ok p _) (show (rec .done (some c)).pending = some c by rw [hrec])), ?_⟩
      have hst := stop Dk c j h3 hj hi (fun hm => hnd.2.1 hm) _ { a with defers := [markOf w.heap.size] ++ a.defers } hf5.own ⟨ha.size, ha.val⟩ (by show [markOf w.heap.size] ++ a.defers = _; rw [hd, ← hDk]; rfl)
      refine wpIn_mono hst ?_
      rintro e a' w' ⟨E', h', q, x, f⟩
      exact ⟨E', h', q, x, hf5.trans f⟩
  · -- one round
    rintro k x hx vs p henc h' ⟨h2, hp0, hi⟩
    have hp : List.Perm (p ++ h') (base .ready none (p ++ h2)) := (hp0.append_left p).trans (List.perm_middle.trans (List.perm_middle.cons _))
    refine AFn.perm hp.symm ?_
    rintro r2 ⟨dst, op, ty, pos, af, gd⟩ E2 K T ⟨c, as, at_, rfl, hc, hargs⟩ hk w' a' ho' ha' next QQ hn hq
    obtain ⟨ρ, he, hρ⟩ := ops_rho (by simp [plainOp]) ha'
    have hm := evs_arr he hargs
    have hl1 := ho'.has l _ List.mem_cons_self
    have hy := run_yield (P := P) (args := ⟨vs⟩) hl1 (by rw [hrec]; simpa using hps x vs p henc)
    have hres := resolve_value (P := P) (args := as) (at_ := at_) (t := ty) (w := w') (he _ _ hc)
    refine ⟨fun _ _ => trivial, ?_⟩
    rw [Oper.semAt_eq _ _ _ (by simp), ← hρ]
    have hex : (execOp ρ ⟨dst, .call ⟨.value c, as, at_⟩, ty, pos, af, gd⟩).run P w' = .ok (.round l fn ((ps.zip (⟨vs⟩ : Array Value)).foldl (fun tmps (t, a) => tmps.setIfInBounds t a) a.tmps) assign body) w' := by
      have : (execOp ρ ⟨dst, .call ⟨.value c, as, at_⟩, ty, pos, af, gd⟩).run P w' = (Instr.yield l ⟨vs⟩).run P w' := by
        simp [execOp, hres, invoke, hm]
      rw [this, hy, hrec]
    rw [hex]
    refine ⟨fun hh => by simp [fen, Fence.wide] at hh, ?_⟩
    have hrnd := round l k x hx vs p henc h2 hi
    -- the frame: the record, the block of the deferred calls
    have hpf : ∀ z y (g : Hp), List.Perm (g ++ [z, y]) (z :: y :: g) := fun z y g => List.perm_append_comm (l₁ := g) (l₂ := [z, y])
    have hown : Own ((p ++ h2) ++ [(l, .loop (rec .ready none)), (Dk, .deferred (some []))]) w' := ho'.perm (hpf _ _ _)
    have hag : Agree N (puts E ps.toList vs) { tmps := (ps.zip (⟨vs⟩ : Array Value)).foldl (fun tmps (t, a) => tmps.setIfInBounds t a) a.tmps, defers := [] } := by
      have := agree_puts ps.toList vs E a.tmps ⟨ha.size, ha.val⟩ hpN
      have e : (ps.zip (⟨vs⟩ : Array Value)).foldl (fun tmps (t, a) => tmps.setIfInBounds t a) a.tmps = (ps.toList.zip vs).foldl (fun t (p, v) => t.setIfInBounds p v) a.tmps := by
        rw [← Array.foldl_toList]; simp
      rw [e]; exact this
    refine roundIn_of_wpIn (F := fen r2) trivial ?_
    refine wpIn_mono (XC.frame [(l, .loop (rec .ready none)), (Dk, .deferred (some []))] hrnd w' _ hown hag rfl) ?_
    rintro e a1 w1' ⟨E1, h1, ⟨h1', rfl, rfl, hbody⟩, ha1, hf1⟩
    have ho1 : Own ((l, .loop (rec .ready none)) :: (Dk, .deferred (some [])) :: h1') w1' := hf1.own.perm (hpf _ _ _).symm
    have hl2 := ho1.has l _ List.mem_cons_self
    refine ⟨_, run_beginRound (P := P) hl2 (by rw [hrec]), ?_⟩
    have hf2 := fol_put (o' := .loop { rec .ready none with state := .busy }) ho1
    have ho2 : Own (h1' ++ [(l, .loop { rec .ready none with state := .busy }), (Dk, .deferred (some []))]) (w1'.putObj l (.loop { rec .ready none with state := .busy })) := hf2.own.perm (hpf _ _ _)
    refine wpIn_mono (XC.frame [(l, .loop { rec .ready none with state := .busy }), (Dk, .deferred (some []))] hbody _ a1 ho2 ha1 rfl) ?_
    rintro e a3 w3 ⟨E3, h3, ⟨h3', rfl, hd3, hpost⟩, ha3, hf3⟩
    have ho3 : Own ((l, .loop { rec .ready none with state := .busy }) :: (Dk, .deferred (some [])) :: h3') w3 := hf3.own.perm (hpf _ _ _).symm
    have hl3 := ho3.has l _ List.mem_cons_self
    have hall : Fol ((l, .loop (rec .ready none)) :: (Dk, .deferred (some [])) :: (p ++ h2)) w' ((l, .loop { rec .ready none with state := .busy }) :: (Dk, .deferred (some [])) :: h3') w3 :=
      (((hf1.permL (hpf _ _ _).symm).perm (hpf _ _ _).symm).trans hf2).trans ((hf3.permL (hpf _ _ _).symm).perm (hpf _ _ _).symm)
    have fin : ∀ (jump : Option Code), Fol ((l, .loop (rec .ready none)) :: (Dk, .deferred (some [])) :: (p ++ h2)) w' ((l, .loop (rec (if jump.isNone then .ready else .done) jump)) :: (Dk, .deferred (some [])) :: h3') (w3.putObj l (.loop (rec (if jump.isNone then .ready else .done) jump))) ∧
        (Instr.endRound l jump).run P w3 = .ok (.bool jump.isNone) (w3.putObj l (.loop (rec (if jump.isNone then .ready else .done) jump))) := by
      intro jump
      refine ⟨hall.trans (fol_put ho3), ?_⟩
      have := run_endRound (P := P) jump hl3
      rw [hrec] at this ⊢
      exact this
    cases e with
    | normal =>
      obtain ⟨h4, h5⟩ := fin none
      refine ⟨_, _, h5, ?_⟩
      have := hk _ _ (.inl ⟨rfl, h3', List.Perm.refl _, hpost⟩)
      exact hn _ _ _ this h4
    | ret =>
      obtain ⟨h4, h5⟩ := fin (some .ret)
      refine ⟨_, _, h5, ?_⟩
      have := hk _ _ (.inr ⟨rfl, .ret, h3', List.Perm.refl _, hpost⟩)
      exact hn _ _ _ this h4
    | exit id =>
      obtain ⟨h4, h5⟩ := fin (some (.exit id))
      refine ⟨_, _, h5, ?_⟩
      have := hk _ _ (.inr ⟨rfl, .exit id, h3', List.Perm.refl _, hpost⟩)
      exact hn _ _ _ this h4
    | goto t =>
      obtain ⟨h4, h5⟩ := fin (some (.goto t))
      refine ⟨_, _, h5, ?_⟩
      have := hk _ _ (.inr ⟨rfl, .goto t, h3', List.Perm.refl _, hpost⟩)
      exact hn _ _ _ this h4
    | panic ch => exact hpost.elim
    | outgrown => exact hpost.elim
theorem xc_range2P {α γ : Type} {g : Operand} {ps : Array Tmp} {assign body : Code} {gf : FuncId} {fi lb : List Value} (Enc : α → List Value → Hp → Prop) (all : List α) (core : Hp)
    (hg : ev E g = some (.func (.func gf) ⟨fi⟩ ⟨lb⟩)) (hb : HasBody P gf) (hit : IterP P gf fi lb Enc all (fun h' => core ⊆ h')) (hps : ∀ x vs p, Enc x vs p → vs.length = ps.size) (hpN : ∀ p ∈ ps.toList, p < N)
    (EI : Env) (Inv : Nat → γ → Prop) (HI : Nat → γ → Hp) (Ix : Code → Nat → Hp → Prop) (g0 : γ) (hm : Mon Q) (hle : EnvLe EI E) (h0 : Inv 0 g0) (hs0 : List.Sublist (HI 0 g0) h) (hcore : ∀ k g, core ⊆ HI k g)
    (round : ∀ l k x g vs p, all[k]? = some x → Enc x vs p → Inv k g → XC P (some l) N assign (RndA (XC P (some l) N body (RndQ Inv HI k Ix))) (puts EI ps.toList vs) [] (p ++ HI k g))
    (stop : ∀ k c j h', j ≤ all.length → Ix c j h' → k ∉ keys h' → XC P none N c Q E (markOf k :: D) ((k, .deferred (some [])) :: h'))
    (done : ∀ k g, Inv all.length g → k ∉ keys (HI all.length g) → Q .normal E (markOf k :: D) ((k, .deferred (some [])) :: HI all.length g)) : XC P none N (.rangeFunc g ps assign body) Q E D h := by
  refine xc_rangeP Enc all (fun h' => core ⊆ h') hg hb hit hps hpN (fun k h' => ∃ g, Inv k g ∧ List.Sublist (HI k g) h') Ix ?_ ?_ ⟨g0, h0, hs0⟩ ?_ ?_ stop
  · rintro k h' ⟨g, _, hs⟩ x y z hz
    exact List.mem_cons_of_mem _ (List.mem_cons_of_mem _ (hs.subset (hcore k g hz)))
  · intro h1 h2 hp hr z hz; exact (hp.mem_iff).1 (hr hz)
  · rintro l k x hx vs p henc h' ⟨g, hi, hs⟩
    refine XC.mono (XC.weaken (puts_le hle) (hs.append_left p) (round l k x g vs p hx henc hi)) ?_
    intro e E1 D1 h1 q
    cases e with
    | normal =>
      refine ⟨rfl, XC.mono q ?_⟩
      intro e2 E2 D2 h2 q2
      cases e2 with
      | normal => exact q2
      | ret => exact q2
      | exit id => exact q2
      | _ => exact q2.elim
    | _ => exact q.elim
  · rintro k h' ⟨g, hi, hs⟩ hk
    have hk2 : k ∉ keys (HI all.length g) := fun hh => hk ((hs.map Prod.fst).subset hh)
    exact hm _ _ _ _ (hs.cons_cons _) (done k g hi hk2)

section
variable {K : Value → Hp → Prop} {T : List PanicEntry → Hp → Prop} {dst : Option Nat} {ty : TypeId} {pos : String} {af : Array Edge} {gd : Option (Nat × Bool)}
theorem xv_sliceArr {x y : Operand} {t e : TypeId} {d : TD} {a : Addr} {n m : Nat} {k : IntKind} {i : Int} (ht : P.underlying t = some (.array n e)) (hd : TyOk P e d) (hx : ev E x = some (.pointer (some a))) (hy : ev E y = some (.int k i)) (h0 : 0 ≤ i) (h1 : i ≤ n) (hm : i.toNat = m)
    (H : K (.slice (some a) m n) h) : XV P r ⟨dst, .slice t x none (some y) none, ty, pos, af, gd⟩ K T E h := by
  subst hm
  exact xv_of_run (by simp [plainOp]) fun w ρ ho he => ⟨_, h, w, by
    simp only [execOp, he _ _ hx, Option.map_none, Option.map_some, he _ _ hy]
    simp [Instr.sliceAt, Instr.sureAddr, run_underlying ht, Instr.sliceBounds, run_sliceBoundH h0 h1, hd.run_size, addr_add0], H, .refl ho⟩
theorem xv_slice3 {x y z : Operand} {t e : TypeId} {d : TD} {a : Option Addr} {n c m : Nat} {k k' : IntKind} {i : Int} (ht : SlT P t e) (hd : TyOk P e d) (hx : ev E x = some (.slice a n c)) (hy : ev E y = some (.int k i)) (hz : ev E z = some (.int k' i)) (h0 : 0 ≤ i) (h1 : i ≤ c) (hm : i.toNat = m)
    (H : K (.slice a m m) h) : XV P r ⟨dst, .slice t x none (some y) (some z), ty, pos, af, gd⟩ K T E h := by
  subst hm
  exact xv_of_run (by simp [plainOp]) fun w ρ ho he => ⟨_, h, w, by
    have h2 : i ≤ i.toNat := by omega
    have hadd : (if i.toNat = 0 then a else a.map (fun z => z.add (0 * d.size))) = a := by
      split
      · rfl
      · cases a <;> simp [addr_add0]
    simp only [execOp, he _ _ hx, Option.map_none, Option.map_some, he _ _ hy, he _ _ hz]
    simp [Instr.sliceAt, run_underlying ht, Instr.slice, Instr.sliceBounds, run_sliceBoundH h0 h1, run_sliceBoundH h0 h2, hd.run_size, hadd]
    intro _
    cases a <;> simp [addr_add0], H, .refl ho⟩
theorem xv_eqNilS {x y : Operand} {xt yt e : TypeId} {a : Option Addr} {n c n' c' : Nat} {b : Bool} (ht : SlT P xt e) (hx : ev E x = some (.slice a n c)) (hy : ev E y = some (.slice none n' c')) (hb : a.isNone = b) (H : K (.bool b) h) : XV P r ⟨dst, .binOp .eql xt x y yt, ty, pos, af, gd⟩ K T E h :=
  xv_of_run (by simp [plainOp]) fun w ρ ho he => ⟨_, h, w, by
    have hg : ∀ w, (eqGuard .eql xt x y (.slice a n c) (.slice none n' c')).run P w = .ok () w := fun w => by unfold eqGuard; simp
    rw [run_bin (he _ _ hx) (he _ _ hy) hg]
    have hq0 : ∀ m, (Op.equalIn (m + 1) xt (.slice a n c) (.slice none n' c')).run P w = .ok a.isNone w := fun m => by
      cases a <;> simp only [Op.equalIn, Sem.run_bind, run_underlying ht, Result.andThen_ok, Sem.run_pure, Option.isNone]
    have hq := hq0 9999
    have hb2 : (binOp .eql xt (.slice a n c) (.slice none n' c')).run P w = .ok (.bool a.isNone) w := by
      show (do let b ← Op.equalIn (9999 + 1) xt _ _; pure (Value.bool b) : Sem Value).run P w = _
      simp only [Sem.run_bind, hq, Result.andThen_ok, Sem.run_pure]
    rw [hb2]; subst hb; rfl, H, .refl ho⟩
/-- 'append(x[:n:n], ..)': what is read stays as it is. -/
theorem xv_appendN {α : Type} {enc : α → List Value} {x y : Operand} {t e : TypeId} {d : TD} {a : Option Addr} {m bu ou cu sz : Nat} {l : List α} {lu news : List Value} {tu : TypeId} {fz : Nat × Nat} (ht : SlT P t e) (hd : TyOk P e d) (hzs : d.zero.cells.size = d.size) (hsz : d.size = sz)
    (hx : ev E x = some (.slice a l.length l.length)) (hy : ev E y = some (.slice (some ⟨bu, ou, none⟩) m cu)) (hl0 : SlV h sz enc a l) (henc : ∀ x, (enc x).length = sz) (hu : (bu, .cells ⟨lu⟩ tu fz) ∈ h) (hl : (lu.drop ou).take (m * d.size) = news) (hn : news.length = m * d.size)
    (h1 : news.all Value.oneCell' = true) (hm : 0 < m) (hb : 2 * (l.length + m) * d.bytes ≤ 281474976710656) (h63 : l.length + m ≤ 9223372036854775807)
    (H : ∀ b cap sp, (Vec.at b cap sp).ok sz (l.length + m) (l.flatMap enc ++ news) → K (.slice (some ⟨b, 0, none⟩) (l.length + m) cap) ((b, .cells ⟨(l.flatMap enc ++ news) ++ sp⟩ e (0, 0)) :: h)) : XV P r ⟨dst, .call ⟨.builtin .append, #[x, y], #[t, t]⟩, ty, pos, af, gd⟩ K T E h := by
  subst hsz
  refine xv_of_run (by simp [plainOp]) fun w ρ ho he => ?_
  obtain ⟨i, hi, his, hib, hiz⟩ := hd.info
  obtain ⟨cs, hcs⟩ := run_builtin (P := P) (dst := dst) (ty := ty) (pos := pos) (af := af) (gd := gd) ρ .append #[x, y] #[t, t] w
  have hub : w.heap[bu]? = some (.cells ⟨lu⟩ tu fz) := ho.has _ _ hu
  have hnews := cells_read hub hl hn
  have hbase : (execOp ρ ⟨dst, .call ⟨.builtin .append, #[x, y], #[t, t]⟩, ty, pos, af, gd⟩).run P w = ((Builtin.append_ #[t, t] ty #[.slice a l.length l.length, .slice (some ⟨bu, ou, none⟩) m cu]).run P w).andThen fun v w' => .ok (.value v) w' := by
    rw [hcs]; simp [builtin, he _ _ hx, he _ _ hy]
  rw [hbase]
  cases a with
  | none =>
    have hl1 : l = [] := by
      cases l with
      | nil => rfl
      | cons x xs => obtain ⟨b, o, li, t, fz, h0, _⟩ := hl0.at (i := 0) (by simp); cases h0
    subst hl1
    have hcap : m ≤ grownCap w m 0 e := by unfold grownCap; simp [Question.cut]
    have hr := run_append_nil (P := P) w t ty e i d.zero ht hi hiz ⟨bu, ou, none⟩ m cu news (by rw [his]; exact hn) hnews hm (by simp at h63; omega) (by rw [hib]; simp at hb; rw [Nat.mul_assoc] at hb; omega)
    simp only [List.length_nil, List.flatMap_nil, List.nil_append, Nat.zero_add] at H ⊢
    refine ⟨_, _, _, by rw [hr]; rfl, H w.heap.size (grownCap w m 0 e) (Builtin.zeroCells d.zero.cells (grownCap w m 0 e - m)).toList ?_, ?_⟩
    · refine ⟨by simpa using hn, by simpa using hcap, ?_⟩
      simp only [List.length_append, hn, Array.length_toList, size_zeroCells, hzs]
      rw [← Nat.add_mul]; congr 1; omega
    · have := (Fol.alloc (ho.drew (w.drawn + 1)) (.cells (news.toArray ++ Builtin.zeroCells d.zero.cells (grownCap w m 0 e - m)) e)).drew
      have e2 : (⟨news ++ (Builtin.zeroCells d.zero.cells (grownCap w m 0 e - m)).toList⟩ : Array Value) = news.toArray ++ Builtin.zeroCells d.zero.cells (grownCap w m 0 e - m) := by apply Array.ext'; simp
      simp only [e2]
      exact this
  | some a =>
    have hold : ∀ j v, (l.flatMap enc)[j]? = some v → w.cell? (a.add j) = some v := by
      rcases hl0 with rfl | ⟨b, o, li, t9, fz9, ha, hm9, hx9⟩
      · intro j v hv; simp at hv
      · cases ha
        exact cells_read (m := l.length) (ho.has _ _ hm9) (slv_flat2 henc hx9) (flat_lenM henc _)
    have hgt : l.length < l.length + m := by omega
    have hfit : Builtin.nextslicecap (l.length + m) l.length * i.bytes ≤ 281474976710656 := by
      rw [hib]
      exact Nat.le_trans (Nat.mul_le_mul_right _ (nextslicecap_le hgt)) hb
    have h63' : ((l.length + m : Nat) : Int) ≤ 9223372036854775807 := by omega
    have hx1 := flat_lenM henc l
    have hr := run_append_grow (P := P) w t ty e i d.zero ht hi hiz a l.length l.length (l.flatMap enc) (by rw [his]; exact hx1) hold ⟨bu, ou, none⟩ m cu news (by rw [his]; exact hn) hnews hgt h63' hfit
    have hcap : l.length + m ≤ grownCap w (l.length + m) l.length e := by unfold grownCap; simp [Question.cut]
    refine ⟨_, _, _, by rw [hr]; rfl, H w.heap.size (grownCap w (l.length + m) l.length e) (Builtin.zeroCells d.zero.cells (grownCap w (l.length + m) l.length e - (l.length + m))).toList ?_, ?_⟩
    · refine ⟨by simp [hx1, hn, Nat.add_mul], hcap, ?_⟩
      simp only [List.length_append, hx1, hn, Array.length_toList, size_zeroCells, hzs]
      rw [← Nat.add_mul, ← Nat.add_mul]; congr 1; omega
    · have := (Fol.alloc (ho.drew (w.drawn + 1)) (.cells ((l.flatMap enc).toArray ++ news.toArray ++ Builtin.zeroCells d.zero.cells (grownCap w (l.length + m) l.length e - (l.length + m))) e)).drew
      have e2 : (⟨l.flatMap enc ++ news ++ (Builtin.zeroCells d.zero.cells (grownCap w (l.length + m) l.length e - (l.length + m))).toList⟩ : Array Value) = (l.flatMap enc).toArray ++ news.toArray ++ Builtin.zeroCells d.zero.cells (grownCap w (l.length + m) l.length e - (l.length + m)) := by apply Array.ext'; simp
      simp only [e2]
      exact this
/-- 'make([]T, n)'. -/
theorem xv_make {x y : Operand} {t e : TypeId} {d : TD} {k k' : IntKind} {n : Nat} {l : List Value} (ht : SlT P t e) (hd : TyOk P e d) (hx : ev E x = some (.int k (n : Int))) (hy : ev E y = some (.int k' (n : Int))) (hn : n ≤ 16777216) (hb : d.bytes * n ≤ 16777216) (hs : n * d.size ≤ 16777216)
    (hz : (madeCells d.zero.cells (n * d.size)).toList = l)
    (H : ∀ b, b ∉ keys h → K (.slice (some ⟨b, 0, none⟩) n n) ((b, .cells ⟨l⟩ e (0, 0)) :: h)) : XV P r ⟨dst, .makeSlice t x y, ty, pos, af, gd⟩ K T E h :=
  xv_of_run (by simp [plainOp]) fun w ρ ho he => ⟨_, _, w.alloc (.cells ⟨l⟩ e), by
    obtain ⟨i, hi, his, hib, hiz⟩ := hd.info
    have hr := run_makeSlice (P := P) (w := w) t e i d.zero ht hi hiz k k' n n (by omega) (by omega) (by rw [his]; simpa using hs) (by rw [hib]; omega) (by omega)
    simp only [execOp, he _ _ hx, he _ _ hy]
    rw [show (⟨l⟩ : Array Value) = madeCells d.zero.cells (n * d.size) by rw [← hz]]
    rw [his] at hr
    simp at hr
    simp [hr], H _ fun hc => Nat.lt_irrefl _ (ho.lt hc), .alloc ho _⟩
theorem wrap_u64 {n : Int} (h1 : 0 ≤ n) (h2 : n ≤ 9223372036854775807) : IntKind.u64.wrap n = n := by
  rw [IntKind.wrap_u64]; omega
theorem wrap_u8 {n : Int} (h1 : 0 ≤ n) (h2 : n ≤ 255) : IntKind.u8.wrap n = n := by
  rw [IntKind.wrap_u8]; omega
theorem xv_indexS {x y : Operand} {t : TypeId} {s : ByteArray} {k : IntKind} {i : Int} {m : Nat} (ht : P.underlying t = some .string) (hx : ev E x = some (.string s)) (hy : ev E y = some (.int k i)) (h0 : 0 ≤ i) (h1 : i < m) (h2 : Nat.ble m s.size = true)
    (H : ∀ b : Nat, b < 256 → K (.int .u8 b) h) : XV P r ⟨dst, .index t x y, ty, pos, af, gd⟩ K T E h :=
  xv_of_run (by simp [plainOp]) fun w ρ ho he => by
    have hs := Nat.le_of_ble_eq_true h2
    have hlt : i.toNat < s.size := by omega
    refine ⟨_, h, w, ?_, H (s[i.toNat]'hlt).toNat (UInt8.toNat_lt _), .refl ho⟩
    simp [execOp, he _ _ hx, he _ _ hy, Instr.index, asIntOf, run_underlying ht, h0, hlt]
end
end Go.H
