/-
  Regions whose order Go leaves open: one canonical order is walked; every other order comes to the same.
-/
import Derived.Test.YtjmailhoidenaaaH4
set_option linter.all false
namespace Go.H
open Go
variable {P : Program} {r : Option Nat} {N : Nat} {Q : Post} {E : Env} {D : List Deferred} {h : Hp}
variable {K : Value → Hp → Prop} {T : List PanicEntry → Hp → Prop}
def Runs (ops : Array Oper) (o : Oper) (E : Env) : Prop := o.guard = none ∨ ∃ j t, o.guard = some (j, t) ∧ gv ops E j = some (.bool t)
def Skips (ops : Array Oper) (o : Oper) (E : Env) : Prop := ∃ j t u, o.guard = some (j, t) ∧ gv ops E j = some (.bool u) ∧ (u == t) = false
inductive Kd where
  | S | R | P | A | O
  deriving DecidableEq
abbrev Item := Nat × Kd
def QV (P : Program) (r : Option Nat) (o : Oper) (E : Env) (f : Hp) (v : Value) : Prop := XV P r o (fun v' h' => v' = v ∧ h' = f) (fun _ _ => False) E f
/-- The environments tell an operation the same operands. -/
def EqOn (o : Oper) (E E' : Env) : Prop := ∀ t, .tmp t ∈ o.op.operands → E t = E' t
def AL (P : Program) (o : Oper) (E : Env) (mk : Nat → Value) (obj : Obj) : Prop :=
  plainOp o.op ∧ ∀ w ρ, (∀ x v, ev E x = some v → ρ x = v) → (execOp ρ o).run P w = .ok (.value (mk w.heap.size)) (w.alloc obj)
/-- The environment, as far as an operation looks. -/
noncomputable def restr (o : Oper) (E : Env) : Env := fun t => by classical exact if .tmp t ∈ o.op.operands then E t else none
theorem restr_eqOn (o : Oper) (E : Env) : EqOn o (restr o E) E := fun t ht => by simp [restr, ht]
theorem restr_congr {o : Oper} {E E' : Env} (H : EqOn o E E') : restr o E = restr o E' := by
  funext t
  unfold restr
  split
  · rename_i ht; exact H t ht
  · rfl
structure Pr where
  val : Nat → Value
  obj : Obj
  env : Env
abbrev Prom := Nat → Option Pr
def Prom.add (G : Prom) (i : Nat) (p : Pr) : Prom := fun k => if k = i then some p else G k
/-- What stays true of some blocks, whatever is written. -/
def Holds (L : List (Nat × (Obj → Prop))) (h : Hp) : Prop := ∀ b p, (b, p) ∈ L → ∃ o, (b, o) ∈ h ∧ p o
theorem Holds.perm {L : List (Nat × (Obj → Prop))} {h h' : Hp} (hp : List.Perm h h') (H : Holds L h) : Holds L h' := fun b p hm => let ⟨o, h1, h2⟩ := H b p hm; ⟨o, hp.mem_iff.1 h1, h2⟩
theorem Holds.cons {L : List (Nat × (Obj → Prop))} {h : Hp} (x : Nat × Obj) (H : Holds L h) : Holds L (x :: h) := fun b p hm => let ⟨o, h1, h2⟩ := H b p hm; ⟨o, List.mem_cons_of_mem _ h1, h2⟩
theorem Holds.nil {h : Hp} : Holds [] h := fun _ _ hm => by cases hm
section
variable (P : Program) (r : Option Nat) (N : Nat) (ops : Array Oper) (D : List Deferred) (Q : Post) (f : Hp) (L : List (Nat × (Obj → Prop)))
def Jst (k : Kd) (i : Nat) (o : Oper) (E : Env) (G : Prom) (h : Hp) (K : Env → Prom → Hp → Prop) : Prop :=
  match k with
  | .S => (Skips ops o E ∧ K (E.put o.dst undef) G h) ∨ (Runs ops o E ∧ ∃ v, (∀ hh, Holds L hh → QV P r o E (hh ++ f) v) ∧ K (E.put o.dst v) G h)
  | .R => (Skips ops o E ∧ K (E.put o.dst undef) G h) ∨ (Runs ops o E ∧ ∃ v, QV P r o E (h ++ f) v ∧ K (E.put o.dst v) G h)
  | .P => o.guard = none ∧ ∃ mk obj, AL P o E mk obj ∧ K E (G.add i ⟨mk, obj, restr o E⟩) h
  | .A => o.guard = none ∧ ∃ p, G i = some p ∧ EqOn o p.env E ∧ ∀ b, b ∉ keys (h ++ f) → K (E.put o.dst (p.val b)) G ((b, p.obj) :: h)
  | .O => (Skips ops o E ∧ K (E.put o.dst undef) G h) ∨ (Runs ops o E ∧ XV P r o (fun v h'' => ∃ h', List.Perm (h' ++ f) h'' ∧ Holds L h' ∧ K (E.put o.dst v) G h') (fun ch h'' => Q (.panic ch) emp D h'') E (h ++ f))
def J : List Item → Env → Prom → Hp → Prop
  | [], E, _, h => ∃ hh, List.Perm (h ++ f) hh ∧ Q .normal E D hh
  | (i, k) :: l, E, G, h => ∃ o, ops[i]? = some o ∧ dstOk N o.dst = true ∧ Jst P r ops D Q f L k i o E G h (J l)
end
variable {ops : Array Oper} {f : Hp} {L : List (Nat × (Obj → Prop))}
theorem XV.perm {o : Oper} {h' : Hp} (hp : List.Perm h h') (H : XV P r o K T E h) : XV P r o K T E h' := by
  intro w a ho ha next Q hn hq
  exact H w a (ho.perm hp) ha next Q (fun v h2 w' k fl => hn v h2 w' k (fl.permL hp.symm)) (fun c h2 w' k fl => hq c h2 w' k (fl.permL hp.symm))
/-- The post may be said of a permutation, of less. -/
theorem XV.conv {o : Oper} {K' : Value → Hp → Prop} {T' : List PanicEntry → Hp → Prop} (H : XV P r o K T E h) (hk : ∀ v h', (keys h').Nodup → K v h' → ∃ h2, List.Perm h2 h' ∧ K' v h2) (ht : ∀ c h', T c h' → ∃ h2 h3, List.Perm h2 h' ∧ List.Sublist h3 h2 ∧ T' c h3) : XV P r o K' T' E h := by
  intro w a ho ha next Q hn hq
  refine H w a ho ha next Q (fun v h' w' k fl => ?_) (fun c h' w' k fl => ?_)
  · obtain ⟨h2, hp, k2⟩ := hk v h' fl.own.nd k
    exact hn v h2 w' k2 (fl.perm hp)
  · obtain ⟨h2, h3, hp, hs, k2⟩ := ht c h' k
    exact hq c h3 w' k2 ((fl.perm hp).sub hs)
theorem XV.frame {o : Oper} (g : Hp) (H : XV P r o K T E h) : XV P r o (fun v h2 => ∃ h', h2 = h' ++ g ∧ K v h') (fun c h2 => ∃ h', h2 = h' ++ g ∧ T c h') E (h ++ g) := by
  intro w a ho ha next Q hn hq
  exact H w a ho.left ha next Q (fun v h' w' k fl => hn v (h' ++ g) w' ⟨h', rfl, k⟩ (Fol.frame ho fl)) (fun c h' w' k fl => hq c (h' ++ g) w' ⟨h', rfl, k⟩ (Fol.frame ho fl))
theorem XV.congr {o : Oper} {E' : Env} (he : EqOn o E E') (H : XV P r o K T E h) : XV P r o K T E' h := by
  intro w a ho ha next Q hn hq
  refine H w a ho (fun x hx v hv => ha x hx v ?_) next Q hn hq
  cases x with
  | tmp t => show E' t = some v; rw [← he t hx]; exact hv
  | _ => exact hv
theorem QV.congr {o : Oper} {E' : Env} {g : Hp} {v : Value} (he : EqOn o E E') (H : QV P r o E g v) : QV P r o E' g v := XV.congr he H
theorem QV.perm {o : Oper} {g g' : Hp} {v : Value} (hp : List.Perm g g') (H : QV P r o E g v) : QV P r o E g' v :=
  (XV.perm hp H).conv (fun v' h' _ ⟨e, e'⟩ => ⟨g', by rw [e']; exact hp.symm, e, rfl⟩) (fun _ _ k => k.elim)
theorem QV.cons {o : Oper} {g : Hp} {v : Value} (x : Nat × Obj) (H : QV P r o E g v) : QV P r o E (x :: g) v := by
  have := XV.frame [x] H
  have hp : List.Perm (g ++ [x]) (x :: g) := List.perm_append_comm (l₁ := g) (l₂ := [x])
  exact (XV.perm hp this).conv (fun v' h' _ ⟨h2, e, e1, e2⟩ => ⟨x :: g, by rw [e, e2]; exact hp.symm, e1, rfl⟩) (fun _ _ ⟨_, _, k⟩ => k.elim)
theorem AL.congr {o : Oper} {E' : Env} {mk : Nat → Value} {obj : Obj} (he : EqOn o E E') (H : AL P o E mk obj) : AL P o E' mk obj := by
  refine ⟨H.1, fun w ρ hρ => ?_⟩
  rw [← H.2 w (fun x => (ev E x).getD (ρ x)) (fun x v hv => by simp [hv])]
  congr 1
  refine (execOp_congr o H.1.2 fun x hx => ?_).symm
  cases hv : ev E x with
  | none => simp
  | some v =>
    simp only [Option.getD_some]
    refine (hρ x v ?_).symm
    cases x with
    | tmp t => show E' t = some v; rw [← he t hx]; exact hv
    | _ => exact hv
theorem EqOn.symm {o : Oper} {E E' : Env} (H : EqOn o E E') : EqOn o E' E := fun t ht => (H t ht).symm
theorem EqOn.trans {o : Oper} {E E' E'' : Env} (H : EqOn o E E') (H' : EqOn o E' E'') : EqOn o E E'' := fun t ht => (H t ht).trans (H' t ht)
theorem put_other {d : Option Nat} {v : Value} {t : Nat} (hne : d ≠ some t) : (E.put d v) t = E t := by
  cases d with
  | none => rfl
  | some d =>
    show (bif Nat.beq t d then some v else E t) = E t
    cases hb : Nat.beq t d with
    | true => exact absurd (by rw [Nat.eq_of_beq_eq_true hb]) hne
    | false => rfl
theorem put_comm {d e : Option Nat} {v u : Value} (hne : ∀ k, d = some k → e ≠ some k) : (E.put d v).put e u = (E.put e u).put d v := by
  funext t
  by_cases h1 : d = some t
  · have h2 := hne t h1
    rw [put_other h2]; subst h1; simp [Env.put]
  · by_cases h2 : e = some t
    · rw [put_other h1]; subst h2; simp [Env.put]
    · rw [put_other h1, put_other h2, put_other h2, put_other h1]
/-- x does not meet what y looks at, nor y's slot; nor the other way round. -/
theorem eqOn_put {x y : Oper} (ha : x.apart ops y = true) (v : Value) : EqOn y E (E.put x.dst v) := by
  intro t ht
  refine (put_other fun e => (Oper.apart_spec ha).1 t e ?_).symm
  exact List.mem_append_left _ (List.mem_filterMap.2 ⟨.tmp t, by simpa using ht, rfl⟩)
theorem gv_put {y : Oper} {d : Option Nat} {v : Value} {j : Nat} {t : Bool} (hg : y.guard = some (j, t)) (hd : ∀ k, d = some k → k ∉ y.looksAt ops) : gv ops (E.put d v) j = gv ops E j := by
  unfold gv
  cases ht : (ops[j]?).bind (·.dst) with
  | none => rfl
  | some k =>
    simp only [Option.bind_some]
    exact put_other fun e => hd k e (List.mem_append_right _ (by simp [hg, ht]))
theorem runs_put {y : Oper} {d : Option Nat} {v : Value} (hd : ∀ k, d = some k → k ∉ y.looksAt ops) : Runs ops y (E.put d v) ↔ Runs ops y E := by
  unfold Runs
  constructor
  · rintro (h1 | ⟨j, t, h1, h2⟩)
    · exact .inl h1
    · exact .inr ⟨j, t, h1, by rwa [gv_put h1 hd] at h2⟩
  · rintro (h1 | ⟨j, t, h1, h2⟩)
    · exact .inl h1
    · exact .inr ⟨j, t, h1, by rwa [gv_put h1 hd]⟩
theorem skips_put {y : Oper} {d : Option Nat} {v : Value} (hd : ∀ k, d = some k → k ∉ y.looksAt ops) : Skips ops y (E.put d v) ↔ Skips ops y E := by
  unfold Skips
  constructor
  · rintro ⟨j, t, u, h1, h2, h3⟩; exact ⟨j, t, u, h1, by rwa [gv_put h1 hd] at h2, h3⟩
  · rintro ⟨j, t, u, h1, h2, h3⟩; exact ⟨j, t, u, h1, by rwa [gv_put h1 hd], h3⟩
theorem Jst.mono {k : Kd} {i : Nat} {o : Oper} {G : Prom} {K K' : Env → Prom → Hp → Prop} (hk : ∀ E G h, K E G h → K' E G h) (H : Jst P r ops D Q f L k i o E G h K) : Jst P r ops D Q f L k i o E G h K' := by
  cases k with
  | S => exact H.imp (fun ⟨a, b⟩ => ⟨a, hk _ _ _ b⟩) (fun ⟨a, v, b, c⟩ => ⟨a, v, b, hk _ _ _ c⟩)
  | R => exact H.imp (fun ⟨a, b⟩ => ⟨a, hk _ _ _ b⟩) (fun ⟨a, v, b, c⟩ => ⟨a, v, b, hk _ _ _ c⟩)
  | P => obtain ⟨a, mk, obj, b, c⟩ := H; exact ⟨a, mk, obj, b, hk _ _ _ c⟩
  | A => obtain ⟨a, p, b, c, d⟩ := H; exact ⟨a, p, b, c, fun x hx => hk _ _ _ (d x hx)⟩
  | O => exact H.imp (fun ⟨a, b⟩ => ⟨a, hk _ _ _ b⟩) (fun ⟨a, b⟩ => ⟨a, b.mono (fun v h2 ⟨h', p, iv, c⟩ => ⟨h', p, iv, hk _ _ _ c⟩) (fun _ _ c => c)⟩)
/-- The order of the list of blocks is nothing. -/
theorem Jst.perm {k : Kd} {i : Nat} {o : Oper} {G : Prom} {K : Env → Prom → Hp → Prop} {h' : Hp} (hp : List.Perm h h') (hk : ∀ E G h h', List.Perm h h' → K E G h → K E G h') (H : Jst P r ops D Q f L k i o E G h K) : Jst P r ops D Q f L k i o E G h' K := by
  have hpf : List.Perm (h ++ f) (h' ++ f) := hp.append_right f
  cases k with
  | S => exact H.imp (fun ⟨a, b⟩ => ⟨a, hk _ _ _ _ hp b⟩) (fun ⟨a, v, b, c⟩ => ⟨a, v, b, hk _ _ _ _ hp c⟩)
  | R => exact H.imp (fun ⟨a, b⟩ => ⟨a, hk _ _ _ _ hp b⟩) (fun ⟨a, v, b, c⟩ => ⟨a, v, b.perm hpf, hk _ _ _ _ hp c⟩)
  | P => obtain ⟨a, mk, obj, b, c⟩ := H; exact ⟨a, mk, obj, b, hk _ _ _ _ hp c⟩
  | A =>
    obtain ⟨a, p, b, c, d⟩ := H
    refine ⟨a, p, b, c, fun x hx => hk _ _ _ _ (hp.cons _) (d x fun hm => hx ?_)⟩
    exact ((hpf.map Prod.fst).mem_iff).1 hm
  | O => exact H.imp (fun ⟨a, b⟩ => ⟨a, hk _ _ _ _ hp b⟩) (fun ⟨a, b⟩ => ⟨a, XV.perm hpf b⟩)
theorem J.perm : ∀ (l : List Item) {E : Env} {G : Prom} {h h' : Hp}, List.Perm h h' → J P r N ops D Q f L l E G h → J P r N ops D Q f L l E G h'
  | [], _, _, _, _, hp, ⟨hh, p, q⟩ => ⟨hh, ((hp.append_right f).symm.trans p), q⟩
  | (i, k) :: l, E, G, h, h', hp, ⟨o, ho, hd, H⟩ => ⟨o, ho, hd, Jst.perm hp (fun _ _ _ _ p q => J.perm l p q) H⟩
def okSwap : Kd → Kd → Bool
  | .S, _ => true
  | .P, _ => true
  | .R, .O => false
  | .R, _ => true
  | .A, .A => true
  | .O, .A => true
  | _, _ => false
theorem apart_eqOn {x y : Oper} (ha : x.apart ops y = true) (E : Env) (u : Value) : EqOn x E (E.put y.dst u) := by
  intro t ht
  refine (put_other fun e => (Oper.apart_spec ha).2.2 t e ?_).symm
  exact List.mem_append_left _ (List.mem_filterMap.2 ⟨.tmp t, by simpa using ht, rfl⟩)
def ExtE (y : Oper) (E E' : Env) : Prop := E' = E ∨ ∃ u, E' = E.put y.dst u
theorem ExtE.eqOn {x y : Oper} {E E' : Env} (ha : x.apart ops y = true) (H : ExtE y E E') : EqOn x E E' := by
  rcases H with rfl | ⟨u, rfl⟩
  · exact fun _ _ => rfl
  · exact apart_eqOn ha E u
theorem ExtE.runs {x y : Oper} {E E' : Env} (ha : x.apart ops y = true) (H : ExtE y E E') (hr : Runs ops x E) : Runs ops x E' := by
  rcases H with rfl | ⟨u, rfl⟩
  · exact hr
  · exact (runs_put (Oper.apart_spec ha).2.2).2 hr
theorem ExtE.skips {x y : Oper} {E E' : Env} (ha : x.apart ops y = true) (H : ExtE y E E') (hr : Skips ops x E) : Skips ops x E' := by
  rcases H with rfl | ⟨u, rfl⟩
  · exact hr
  · exact (skips_put (Oper.apart_spec ha).2.2).2 hr
/-- y does not look at x's slot: its step may come first. -/
theorem Jst.pull {x y : Oper} {k : Kd} {i : Nat} {v : Value} {G : Prom} {K : Env → Prom → Hp → Prop} (ha : x.apart ops y = true) (H : Jst P r ops D Q f L k i y (E.put x.dst v) G h K) :
    Jst P r ops D Q f L k i y E G h (fun E' G' h' => ExtE y E E' ∧ (k ≠ .O → h' = h ∨ ∃ z, h' = z :: h) ∧ K (E'.put x.dst v) G' h') := by
  have hs := Oper.apart_spec ha
  have e1 : EqOn y (E.put x.dst v) E := (eqOn_put ha v).symm
  have hc : ∀ u, (E.put x.dst v).put y.dst u = (E.put y.dst u).put x.dst v := fun u => put_comm hs.2.1
  cases k with
  | S =>
    rcases H with ⟨a, b⟩ | ⟨a, u, b, c⟩
    · exact .inl ⟨(skips_put hs.1).1 a, .inr ⟨_, rfl⟩, fun _ => .inl rfl, by rw [← hc]; exact b⟩
    · exact .inr ⟨(runs_put hs.1).1 a, u, fun hh iv => (b hh iv).congr e1, .inr ⟨_, rfl⟩, fun _ => .inl rfl, by rw [← hc]; exact c⟩
  | R =>
    rcases H with ⟨a, b⟩ | ⟨a, u, b, c⟩
    · exact .inl ⟨(skips_put hs.1).1 a, .inr ⟨_, rfl⟩, fun _ => .inl rfl, by rw [← hc]; exact b⟩
    · exact .inr ⟨(runs_put hs.1).1 a, u, b.congr e1, .inr ⟨_, rfl⟩, fun _ => .inl rfl, by rw [← hc]; exact c⟩
  | P =>
    obtain ⟨a, mk, obj, b, c⟩ := H
    refine ⟨a, mk, obj, b.congr e1, .inl rfl, fun _ => .inl rfl, ?_⟩
    rw [← restr_congr e1]; exact c
  | A =>
    obtain ⟨a, p, b, c, d⟩ := H
    exact ⟨a, p, b, c.trans e1, fun z hz => ⟨.inr ⟨_, rfl⟩, fun _ => .inr ⟨_, rfl⟩, by rw [← hc]; exact d z hz⟩⟩
  | O =>
    rcases H with ⟨a, b⟩ | ⟨a, b⟩
    · exact .inl ⟨(skips_put hs.1).1 a, .inr ⟨_, rfl⟩, fun hh => absurd rfl hh, by rw [← hc]; exact b⟩
    · refine .inr ⟨(runs_put hs.1).1 a, (b.congr e1).mono ?_ (fun _ _ c => c)⟩
      rintro u h2 ⟨h', p, iv, c⟩
      exact ⟨h', p, iv, .inr ⟨_, rfl⟩, fun hh => absurd rfl hh, by rw [← hc]; exact c⟩
theorem add_comm' {G : Prom} {i j : Nat} {p q : Pr} (hne : i ≠ j) : (G.add i p).add j q = (G.add j q).add i p := by
  funext t
  simp only [Prom.add]
  split
  · rename_i e; subst e; rw [if_neg (fun e => hne e.symm)]
  · rfl
theorem Jst.pullG {x y : Oper} {k : Kd} {i j : Nat} {pr : Pr} {G : Prom} {K : Env → Prom → Hp → Prop} (hne : j ≠ i) (H : Jst P r ops D Q f L k i y E (G.add j pr) h K) :
    Jst P r ops D Q f L k i y E G h (fun E' G' h' => ExtE y E E' ∧ K E' (G'.add j pr) h') := by
  cases k with
  | S =>
    rcases H with ⟨a, b⟩ | ⟨a, u, b, c⟩
    · exact .inl ⟨a, .inr ⟨_, rfl⟩, b⟩
    · exact .inr ⟨a, u, b, .inr ⟨_, rfl⟩, c⟩
  | R =>
    rcases H with ⟨a, b⟩ | ⟨a, u, b, c⟩
    · exact .inl ⟨a, .inr ⟨_, rfl⟩, b⟩
    · exact .inr ⟨a, u, b, .inr ⟨_, rfl⟩, c⟩
  | P =>
    obtain ⟨a, mk, obj, b, c⟩ := H
    exact ⟨a, mk, obj, b, .inl rfl, by rw [add_comm' hne.symm]; exact c⟩
  | A =>
    obtain ⟨a, p, b, c, d⟩ := H
    refine ⟨a, p, ?_, c, fun z hz => ⟨.inr ⟨_, rfl⟩, d z hz⟩⟩
    simp only [Prom.add] at b
    rwa [if_neg (fun e => hne e.symm)] at b
  | O =>
    rcases H with ⟨a, b⟩ | ⟨a, b⟩
    · exact .inl ⟨a, .inr ⟨_, rfl⟩, b⟩
    · exact .inr ⟨a, b.mono (fun u h2 ⟨h', p, iv, c⟩ => ⟨h', p, iv, .inr ⟨_, rfl⟩, c⟩) (fun _ _ c => c)⟩
theorem Jst.swap {x y : Oper} {kx ky : Kd} {ix iy : Nat} {G : Prom} {K : Env → Prom → Hp → Prop} (ha : x.apart ops y = true) (hok : okSwap kx ky = true) (hne : ix ≠ iy)
    (hI : ky = .A → y.guard = none ∧ ∃ p, G iy = some p ∧ EqOn y p.env E) (hK : ∀ E G h h', List.Perm h h' → K E G h → K E G h')
    (H : Jst P r ops D Q f L kx ix x E G h (fun E' G' h' => Jst P r ops D Q f L ky iy y E' G' h' K)) : Jst P r ops D Q f L ky iy y E G h (fun E' G' h' => Jst P r ops D Q f L kx ix x E' G' h' K) := by
  have hs := Oper.apart_spec ha
  cases kx with
  | S =>
    rcases H with ⟨a, b⟩ | ⟨a, v, q, b⟩
    · exact (b.pull ha).mono fun E' G' h' ⟨e, _, c⟩ => .inl ⟨e.skips ha a, c⟩
    · exact (b.pull ha).mono fun E' G' h' ⟨e, _, c⟩ => .inr ⟨e.runs ha a, v, fun hh iv => (q hh iv).congr (e.eqOn ha), c⟩
  | R =>
    have hky : ky ≠ .O := by rintro rfl; simp [okSwap] at hok
    rcases H with ⟨a, b⟩ | ⟨a, v, q, b⟩
    · exact (b.pull ha).mono fun E' G' h' ⟨e, _, c⟩ => .inl ⟨e.skips ha a, c⟩
    · refine (b.pull ha).mono fun E' G' h' ⟨e, eh, c⟩ => .inr ⟨e.runs ha a, v, ?_, c⟩
      rcases eh hky with rfl | ⟨z, rfl⟩
      · exact q.congr (e.eqOn ha)
      · exact (q.congr (e.eqOn ha)).cons z
  | P =>
    obtain ⟨a, mk, obj, b, c⟩ := H
    refine (Jst.pullG (x := x) hne c).mono fun E' G' h' ⟨e, d⟩ => ⟨a, mk, obj, b.congr (e.eqOn ha), ?_⟩
    rw [← restr_congr (e.eqOn ha)]; exact d
  | A =>
    have hky : ky = .A := by cases ky <;> simp [okSwap] at hok; rfl
    subst hky
    obtain ⟨hg, q, hq, hqe⟩ := hI rfl
    obtain ⟨a, p, hp, hpe, H⟩ := H
    refine ⟨hg, q, hq, hqe, fun c hc => ⟨a, p, hp, hpe.trans (apart_eqOn ha E _), fun b hb => ?_⟩⟩
    have hb' : b ∉ keys (h ++ f) := fun hm => hb (List.mem_cons_of_mem _ hm)
    obtain ⟨_, q', hq', _, H⟩ := H b hb'
    rw [hq] at hq'; cases hq'
    have hcb : c ∉ keys ((b, p.obj) :: h ++ f) := by
      intro hm
      rcases List.mem_cons.1 hm with e | hm
      · exact hb (by rw [show b = c from e.symm]; exact List.mem_cons_self)
      · exact hc hm
    have := H c hcb
    rw [put_comm hs.2.1] at this
    exact hK _ _ _ _ (List.Perm.swap _ _ _) this
  | O =>
    have hky : ky = .A := by cases ky <;> simp [okSwap] at hok; rfl
    subst hky
    obtain ⟨hg, q, hq, hqe⟩ := hI rfl
    refine ⟨hg, q, hq, hqe, fun b hb => ?_⟩
    rcases H with ⟨a, H⟩ | ⟨a, H⟩
    · obtain ⟨_, q', hq', _, H⟩ := H
      rw [hq] at hq'; cases hq'
      exact .inl ⟨(skips_put hs.2.2).2 a, by rw [← put_comm hs.2.1]; exact H b hb⟩
    · refine .inr ⟨(runs_put hs.2.2).2 a, ?_⟩
      have h1 := XV.frame [(b, q.obj)] H
      have hp : List.Perm ((h ++ f) ++ [(b, q.obj)]) ((b, q.obj) :: h ++ f) := List.perm_append_comm (l₁ := h ++ f) (l₂ := [(b, q.obj)])
      refine XV.congr (apart_eqOn ha E _) ((XV.perm hp h1).conv ?_ ?_)
      · rintro v h2 hnd ⟨h'', rfl, h', hp', iv, hj⟩
        obtain ⟨_, q', hq', _, hj⟩ := hj
        rw [hq] at hq'; cases hq'
        have hbn : b ∉ keys (h' ++ f) := by
          intro hm
          rw [keys_append, List.nodup_append] at hnd
          exact hnd.2.2 b (((hp'.map Prod.fst).mem_iff).1 hm) b (by simp [keys]) rfl
        refine ⟨h'' ++ [(b, q.obj)], List.Perm.refl _, (b, q.obj) :: h', ?_, iv.cons _, ?_⟩
        · exact (hp'.cons _).trans (List.perm_append_comm (l₁ := [(b, q.obj)]) (l₂ := h''))
        · rw [← put_comm hs.2.1]; exact hj b hbn
      · rintro c h2 ⟨h'', rfl, hq'⟩
        exact ⟨h'' ++ [(b, q.obj)], h'', List.Perm.refl _, List.sublist_append_left _ _, hq'⟩
end Go.H
