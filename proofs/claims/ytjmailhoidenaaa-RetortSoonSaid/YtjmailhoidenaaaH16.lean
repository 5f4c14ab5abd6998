/-
  Ranges over functions, as they are walked: a ghost, garbage let go; the end of a body with marks.
-/
import Derived.Test.YtjmailhoidenaaaH15
set_option linter.all false
namespace Go.H
open Go
variable {P : Program} {r : Option Nat} {N : Nat} {Q : Post} {E : Env} {D : List Deferred} {h h' : Hp}
/-- What holds of a part of the blocks holds of all. -/
def Mon (Q : Post) : Prop := ∀ E D h h', List.Sublist h h' → Q .normal E D h → Q .normal E D h'
theorem EnvLe.rfl' (E : Env) : EnvLe E E := fun _ _ hh => hh
theorem mon_th {y : Code} {Q' : Post} : Mon (Th (XC P r N y Q) Q') := fun _ _ _ _ hs hq => XC.weaken (EnvLe.rfl' _) hs hq
theorem mon_bk {id : Nat} (H : Mon Q) : Mon (Bk id Q) := fun E D h h' hs hq => H E D h h' hs hq
def RndA (K : Env → List Deferred → Hp → Prop) : Post
  | .normal, E, D, h => K E D h
  | _, _, _, _ => False
def RndQ {γ : Type} (Inv : Nat → γ → Prop) (HI : Nat → γ → Hp) (k : Nat) (Ix : Code → Nat → Hp → Prop) : Post
  | .normal, _, D, h => D = [] ∧ ∃ g, Inv (k + 1) g ∧ List.Sublist (HI (k + 1) g) h
  | .ret, _, D, h => D = [] ∧ Ix .ret (k + 1) h
  | .exit id, _, D, h => D = [] ∧ Ix (.exit id) (k + 1) h
  | _, _, _, _ => False
theorem rndA_n {K : Env → List Deferred → Hp → Prop} (H : K E D h) : RndA K .normal E D h := H
theorem rndQ_n {γ : Type} {Inv : Nat → γ → Prop} {HI : Nat → γ → Hp} {k : Nat} {Ix : Code → Nat → Hp → Prop} (g : γ) (h1 : Inv (k + 1) g) (h2 : List.Sublist (HI (k + 1) g) h) : RndQ Inv HI k Ix .normal E [] h := ⟨rfl, g, h1, h2⟩
theorem rndQ_r {γ : Type} {Inv : Nat → γ → Prop} {HI : Nat → γ → Hp} {k : Nat} {Ix : Code → Nat → Hp → Prop} (h1 : Ix .ret (k + 1) h) : RndQ Inv HI k Ix .ret E [] h := ⟨rfl, h1⟩
theorem rndQ_x {γ : Type} {Inv : Nat → γ → Prop} {HI : Nat → γ → Hp} {k id : Nat} {Ix : Code → Nat → Hp → Prop} (h1 : Ix (.exit id) (k + 1) h) : RndQ Inv HI k Ix (.exit id) E [] h := ⟨rfl, h1⟩
theorem puts_le {ps : List Nat} {vs : List Value} {E E' : Env} (hle : EnvLe E E') : EnvLe (puts E ps vs) (puts E' ps vs) := by
  induction ps generalizing vs E E' with
  | nil => simpa [puts] using hle
  | cons p ps ih =>
    cases vs with
    | nil => simpa [puts] using hle
    | cons v vs =>
      simp only [puts]
      refine ih (fun t u hu => ?_)
      simp only [Env.put] at hu ⊢
      cases hb : Nat.beq t p with
      | true => rw [hb] at hu; exact hu
      | false => rw [hb] at hu; exact hle t u hu
theorem xc_range2 {α γ : Type} {g : Operand} {ps : Array Tmp} {assign body : Code} {gf : FuncId} {fi lb : List Value} (enc : α → List Value) (all : List α) (core : Hp)
    (hg : ev E g = some (.func (.func gf) ⟨fi⟩ ⟨lb⟩)) (hb : HasBody P gf) (hit : Iter P gf fi lb enc all (fun h' => core ⊆ h')) (hps : ∀ x, (enc x).length = ps.size) (hpN : ∀ p ∈ ps.toList, p < N)
    (EI : Env) (Inv : Nat → γ → Prop) (HI : Nat → γ → Hp) (Ix : Code → Nat → Hp → Prop) (g0 : γ) (hm : Mon Q) (hle : EnvLe EI E) (h0 : Inv 0 g0) (hs0 : List.Sublist (HI 0 g0) h) (hcore : ∀ k g, core ⊆ HI k g)
    (round : ∀ l k x g, all[k]? = some x → Inv k g → XC P (some l) N assign (RndA (XC P (some l) N body (RndQ Inv HI k Ix))) (puts EI ps.toList (enc x)) [] (HI k g))
    (stop : ∀ k c j h', j ≤ all.length → Ix c j h' → k ∉ keys h' → XC P none N c Q E (markOf k :: D) ((k, .deferred (some [])) :: h'))
    (done : ∀ k g, Inv all.length g → k ∉ keys (HI all.length g) → Q .normal E (markOf k :: D) ((k, .deferred (some [])) :: HI all.length g)) : XC P none N (.rangeFunc g ps assign body) Q E D h := by
  refine xc_range enc all (fun h' => core ⊆ h') hg hb hit hps hpN (fun k h' => ∃ g, Inv k g ∧ List.Sublist (HI k g) h') Ix ?_ ?_ ⟨g0, h0, hs0⟩ ?_ ?_ stop
  · rintro k h' ⟨g, _, hs⟩ x y z hz
    exact List.mem_cons_of_mem _ (List.mem_cons_of_mem _ (hs.subset (hcore k g hz)))
  · intro h1 h2 hp hr z hz; exact (hp.mem_iff).1 (hr hz)
  · rintro l k x hx h' ⟨g, hi, hs⟩
    refine XC.mono (XC.weaken (puts_le hle) hs (round l k x g hx hi)) ?_
    intro e E1 D1 h1 q
    cases e with
    | normal =>
      refine ⟨rfl, XC.mono q ?_⟩
      intro e2 E2 D2 h2 q2
      cases e2 with
      | normal => exact q2
      | ret => exact q2
      | exit id => exact q2
      | _ => exact q2.elim
    | _ => exact q.elim
  · rintro k h' ⟨g, hi, hs⟩ hk
    have hk2 : k ∉ keys (HI all.length g) := fun hh => hk ((hs.map Prod.fst).subset hh)
    exact hm _ _ _ _ (hs.cons_cons _) (done k g hi hk2)
/-- The end of a body after one range over a function. -/
theorem body_retM {fn : Func} {R : Ending → Hp → Prop} {rl : List ResultVar} {vs : List Value} {k : Nat} (hrl : fn.results.toList = rl) (hr : ResOk P E h rl vs) (hs : List.Sublist h' h) (hk : (k, .deferred (some [])) ∈ h) (hn : k ∉ keys h') (H : R (.returned (tupV vs)) h') : BodyQ P fn R .ret E [markOf k] h :=
  ⟨⟨⟨k, rfl, hk, by simp⟩, trivial⟩, vs, h', by rw [hrl]; exact hr, hs, fun j hj => by simp [marked, markOf] at hj; subst hj; exact hn, H⟩
theorem body_endM {fn : Func} {R : Ending → Hp → Prop} {rl : List ResultVar} {vs : List Value} {k : Nat} (hrl : fn.results.toList = rl) (hr : ResOk P E h rl vs) (hs : List.Sublist h' h) (hk : (k, .deferred (some [])) ∈ h) (hn : k ∉ keys h') (H : R (.returned (tupV vs)) h') : BodyQ P fn R .normal E [markOf k] h :=
  body_retM (E := E) hrl hr hs hk hn H
/-- What is not among the keys of all is not among those of a part. -/
theorem nkeys {k : Nat} (hs : h ⊆ h') (hn : k ∉ keys h') : k ∉ keys h := fun hh => hn ((List.map_subset Prod.fst hs) hh)
/-- The call of 'yield' within an iterator. -/
theorem yieldTo {y : Value} {args : List Value} {g h0 : Hp} {J1 J2 : Hp → Prop} {R : Ending → Hp → Prop} (H : AFn P y args h0 (fun e h2 => (e = .returned (.bool true) ∧ J1 h2) ∨ (e = .returned (.bool false) ∧ J2 h2)))
    (H1 : ∀ h2, J1 h2 → R (.returned (.bool true)) (g ++ h2)) (H2 : ∀ h2, J2 h2 → R (.returned (.bool false)) (g ++ h2)) : AFn P y args (g ++ h0) R := by
  refine AFn.framed g (H.mono ?_)
  rintro e h2 (⟨rfl, hj⟩ | ⟨rfl, hj⟩)
  · exact H1 _ hj
  · exact H2 _ hj
theorem flat_at {α : Type} {enc : α → List Value} {sz : Nat} (henc : ∀ x, (enc x).length = sz) {x : α} (sp : List Value) : ∀ (xs : List α) (k : Nat), xs[k]? = some x → ((xs.flatMap enc ++ sp).drop (0 + k * sz)).take sz = enc x
  | [], k, hk => by simp at hk
  | q :: rs, 0, hk => by
    simp at hk; subst hk
    simp only [List.flatMap_cons, List.append_assoc, Nat.zero_mul, Nat.add_zero, List.drop_zero]
    rw [List.take_append_of_le_length (by rw [henc]; exact Nat.le_refl _), List.take_of_length_le (by rw [henc]; exact Nat.le_refl _)]
  | q :: rs, k + 1, hk => by
    have ih := flat_at henc sp rs k (by simpa using hk)
    rw [Nat.zero_add] at ih
    have e : 0 + (k + 1) * sz = (enc q).length + k * sz := by rw [henc, Nat.add_mul]; omega
    simp only [List.flatMap_cons, List.append_assoc]
    rw [e, ← List.drop_drop, List.drop_left]
    exact ih
theorem flat_len {α : Type} {enc : α → List Value} {sz : Nat} (henc : ∀ x, (enc x).length = sz) : ∀ (xs : List α), (xs.flatMap enc).length = xs.length * sz
  | [] => by simp
  | x :: xs => by rw [List.flatMap_cons, List.length_append, henc, flat_len henc xs, List.length_cons, Nat.add_mul]; omega
theorem Vec.slv {α : Type} {V : Vec} {sz : Nat} {enc : α → List Value} (henc : ∀ x, (enc x).length = sz) {xs : List α} {t : TypeId} (hV : V.ok sz xs.length (xs.flatMap enc)) (hsub : V.hp t (xs.flatMap enc) ⊆ h) :
    ∃ a c, V.val xs.length = .slice a xs.length c ∧ SlV h sz enc a xs := by
  cases V with
  | nil =>
    obtain ⟨_, h0⟩ := hV
    have : xs = [] := List.length_eq_zero_iff.1 h0
    subst this
    exact ⟨none, 0, rfl, .inl rfl⟩
  | «at» b cap sp =>
    exact ⟨some ⟨b, 0, none⟩, cap, rfl, .inr ⟨b, 0, _, t, (0, 0), rfl, hsub List.mem_cons_self, fun i x hx => flat_at henc sp xs i hx⟩⟩
end Go.H
