/-
  What the calls of a program do is said over a view of the heap: a list of the blocks that the code owns; all else is framed out. This text: the judgements and the rules on code.
-/
import Derived.RangeFuncLeaves
import Derived.RangeFuncRecord
import Derived.OrdersIn
import Derived.WalkKit
import Derived.KernelRfl
set_option linter.all false
namespace Go.H
open Go
abbrev Env := Nat → Option Value
def Env.put (E : Env) (d : Option Nat) (v : Value) : Env :=
  match d with
  | none => E
  | some d => fun t => bif Nat.beq t d then some v else E t
def emp : Env := fun _ => none
abbrev Hp := List (Nat × Obj)
def keys (h : Hp) : List Nat := h.map (·.1)
structure Own (h : Hp) (w : World) : Prop where
  nd : (keys h).Nodup
  has : ∀ b o, (b, o) ∈ h → w.heap[b]? = some o
structure Agree (N : Nat) (E : Env) (a : Act) : Prop where
  size : a.tmps.size = N
  val : ∀ t v, E t = some v → a.tmps[t]? = some v
structure Fol (h : Hp) (w : World) (h' : Hp) (w' : World) : Prop where
  own : Own h' w'
  os : w'.os = w.os
  tape : w'.tape = w.tape
  output : w'.output = w.output
  size : w.heap.size ≤ w'.heap.size
  rest : ∀ b, b < w.heap.size → b ∉ keys h → b ∉ keys h' ∧ w'.heap[b]? = w.heap[b]?
theorem Own.lt {h : Hp} {w : World} (H : Own h w) {b : Nat} (hb : b ∈ keys h) : b < w.heap.size := by
  obtain ⟨⟨b', o⟩, hm, rfl⟩ := List.mem_map.1 hb
  exact (Array.getElem?_eq_some_iff.1 (H.has _ _ hm)).1
theorem Fol.refl {h : Hp} {w : World} (H : Own h w) : Fol h w h w := ⟨H, rfl, rfl, rfl, Nat.le_refl _, fun _ _ hn => ⟨hn, rfl⟩⟩
theorem Fol.trans {h h1 h2 : Hp} {w w1 w2 : World} (A : Fol h w h1 w1) (B : Fol h1 w1 h2 w2) : Fol h w h2 w2 :=
  ⟨B.own, B.os.trans A.os, B.tape.trans A.tape, B.output.trans A.output, Nat.le_trans A.size B.size, fun b hb hn => by
    obtain ⟨h1n, e1⟩ := A.rest b hb hn
    obtain ⟨h2n, e2⟩ := B.rest b (Nat.lt_of_lt_of_le hb A.size) h1n
    exact ⟨h2n, e2.trans e1⟩⟩
/-- Blocks are let go. -/
theorem Own.sub {h h' : Hp} {w : World} (H : Own h w) (hs : List.Sublist h' h) : Own h' w :=
  ⟨(hs.map _).nodup H.nd, fun b o hm => H.has b o (hs.subset hm)⟩
theorem Own.perm {h h' : Hp} {w : World} (H : Own h w) (hs : List.Perm h' h) : Own h' w :=
  ⟨((hs.map _).nodup_iff).2 H.nd, fun b o hm => H.has b o (hs.mem_iff.1 hm)⟩
theorem Fol.sub {h h1 h2 : Hp} {w w1 : World} (A : Fol h w h1 w1) (hs : List.Sublist h2 h1) : Fol h w h2 w1 :=
  ⟨A.own.sub hs, A.os, A.tape, A.output, A.size, fun b hb hn => ⟨fun hm => (A.rest b hb hn).1 ((hs.map _).subset hm), (A.rest b hb hn).2⟩⟩
theorem Fol.perm {h h1 h2 : Hp} {w w1 : World} (A : Fol h w h1 w1) (hs : List.Perm h2 h1) : Fol h w h2 w1 :=
  ⟨A.own.perm hs, A.os, A.tape, A.output, A.size, fun b hb hn => ⟨fun hm => (A.rest b hb hn).1 ((hs.map _).mem_iff.1 hm), (A.rest b hb hn).2⟩⟩
theorem Fol.permL {h h0 h1 : Hp} {w w1 : World} (A : Fol h w h1 w1) (hs : List.Perm h0 h) : Fol h0 w h1 w1 :=
  ⟨A.own, A.os, A.tape, A.output, A.size, fun b hb hn => A.rest b hb (fun hm => hn ((hs.map _).mem_iff.2 hm))⟩
theorem keys_append (f h : Hp) : keys (f ++ h) = keys f ++ keys h := List.map_append
/-- The frame: what is owned besides lies as it lay. -/
theorem Fol.frame {f h h' : Hp} {w w' : World} (H : Own (h ++ f) w) (A : Fol h w h' w') : Fol (h ++ f) w (h' ++ f) w' := by
  have hk : ∀ b o, (b, o) ∈ f → b < w.heap.size ∧ b ∉ keys h := fun b o hm => by
    have hb : b ∈ keys f := List.mem_map.2 ⟨_, hm, rfl⟩
    refine ⟨H.lt (by rw [keys_append]; exact List.mem_append_right _ hb), fun hc => ?_⟩
    have hn := H.nd
    rw [keys_append, List.nodup_append] at hn
    exact hn.2.2 _ hc _ hb rfl
  refine ⟨⟨?_, fun b o hm => ?_⟩, A.os, A.tape, A.output, A.size, fun b hb hn => ?_⟩
  · have hn := H.nd
    rw [keys_append, List.nodup_append] at hn ⊢
    refine ⟨A.own.nd, hn.2.1, fun x hx y hy e => ?_⟩
    subst e
    obtain ⟨⟨b', o⟩, hm, rfl⟩ := List.mem_map.1 hy
    obtain ⟨h1, h2⟩ := hk _ _ hm
    exact (A.rest _ h1 h2).1 hx
  · rcases List.mem_append.1 hm with hm | hm
    · exact A.own.has b o hm
    · obtain ⟨h1, h2⟩ := hk _ _ hm
      rw [(A.rest _ h1 h2).2]
      exact H.has b o (List.mem_append_right _ hm)
  · rw [keys_append, List.mem_append] at hn ⊢
    have hn' : b ∉ keys h := fun hc => hn (.inl hc)
    exact ⟨fun hc => hc.elim (A.rest b hb hn').1 (fun hc => hn (.inr hc)), (A.rest b hb hn').2⟩
theorem Own.left {f h : Hp} {w : World} (H : Own (h ++ f) w) : Own h w := H.sub (List.sublist_append_left _ _)
theorem Own.right {f h : Hp} {w : World} (H : Own (h ++ f) w) : Own f w := H.sub (List.sublist_append_right _ _)
theorem Own.drew {h : Hp} {w : World} (H : Own h w) (n : Nat) : Own h { w with drawn := n } := ⟨H.nd, H.has⟩
theorem Fol.drew {h h' : Hp} {w w' : World} {n : Nat} (A : Fol h { w with drawn := n } h' w') : Fol h w h' w' := ⟨A.own, A.os, A.tape, A.output, A.size, A.rest⟩
/-- A new block. -/
theorem Fol.alloc {h : Hp} {w : World} (H : Own h w) (o : Obj) : Fol h w ((w.heap.size, o) :: h) (w.alloc o) := by
  have hk : w.heap.size ∉ keys h := fun hc => Nat.lt_irrefl _ (H.lt hc)
  refine ⟨⟨?_, fun b o' hm => ?_⟩, rfl, rfl, rfl, by simp, fun b hb hn => ⟨?_, Go.RowKit.Below.heap_alloc _ _ _ hb⟩⟩
  · show (w.heap.size :: keys h).Nodup
    exact List.nodup_cons.2 ⟨hk, H.nd⟩
  · rcases List.mem_cons.1 hm with e | hm
    · cases e; show (w.heap.push o)[w.heap.size]? = some o; simp
    · rw [Go.RowKit.Below.heap_alloc _ _ _ (H.lt (List.mem_map.2 ⟨_, hm, rfl⟩))]; exact H.has _ _ hm
  · show b ∉ w.heap.size :: keys h
    intro hc
    rcases List.mem_cons.1 hc with e | hc
    · omega
    · exact hn hc
/-- One owned block is another now. -/
def setH : Hp → Nat → Obj → Hp
  | [], _, _ => []
  | (b, o) :: h, c, o' => if b = c then (b, o') :: h else (b, o) :: setH h c o'
theorem keys_setH (h : Hp) (b : Nat) (o : Obj) : keys (setH h b o) = keys h := by
  induction h with
  | nil => rfl
  | cons x h ih =>
    obtain ⟨c, o'⟩ := x
    simp only [setH]
    split
    · rfl
    · show c :: keys _ = c :: keys h
      rw [ih]
theorem mem_setH {h : Hp} {b : Nat} {o : Obj} (hn : (keys h).Nodup) {c : Nat} {o' : Obj} (hm : (c, o') ∈ setH h b o) : (c = b ∧ o' = o) ∨ (c ≠ b ∧ (c, o') ∈ h) := by
  induction h with
  | nil => cases hm
  | cons x h ih =>
    obtain ⟨d, od⟩ := x
    have hn' : d ∉ keys h ∧ (keys h).Nodup := List.nodup_cons.1 hn
    simp only [setH] at hm
    split at hm
    · rename_i e
      rcases List.mem_cons.1 hm with e' | hm
      · cases e'; exact .inl ⟨e, rfl⟩
      · refine .inr ⟨fun e' => ?_, List.mem_cons_of_mem _ hm⟩
        subst e'; subst e
        exact hn'.1 (List.mem_map.2 ⟨_, hm, rfl⟩)
    · rename_i e
      rcases List.mem_cons.1 hm with e' | hm
      · cases e'; exact .inr ⟨e, List.mem_cons_self⟩
      · rcases ih hn'.2 hm with h1 | ⟨h1, h2⟩
        · exact .inl h1
        · exact .inr ⟨h1, List.mem_cons_of_mem _ h2⟩
theorem Fol.set {h : Hp} {w w' : World} {b : Nat} {o o' : Obj} (H : Own h w) (hm : (b, o) ∈ h) (hb : w'.heap[b]? = some o')
    (hr : ∀ k, k ≠ b → w'.heap[k]? = w.heap[k]?) (hs : w'.heap.size = w.heap.size) (h1 : w'.os = w.os) (h2 : w'.tape = w.tape) (h3 : w'.output = w.output) : Fol h w (setH h b o') w' := by
  refine ⟨⟨by rw [keys_setH]; exact H.nd, fun c oc hc => ?_⟩, h1, h2, h3, by omega, fun c hc hn => ⟨by rw [keys_setH]; exact hn, hr c fun e => hn (by subst e; exact List.mem_map.2 ⟨_, hm, rfl⟩)⟩⟩
  rcases mem_setH H.nd hc with ⟨rfl, rfl⟩ | ⟨hne, hc⟩
  · exact hb
  · rw [hr c hne]; exact H.has _ _ hc
/-! ### The judgements -/
def fen (r : Option Nat) : Fence := { Fence.wide with round := r }
def ACalls (P : Program) (f : FuncId) (args : Array Value) (h : Hp) (R : Ending → Hp → Prop) : Prop :=
  ∀ w, Own h w → Calls P f args w fun e w' => ∃ h', R e h' ∧ Fol h w h' w'
abbrev Post := Exit → Env → List Deferred → Hp → Prop
def XC (P : Program) (r : Option Nat) (N : Nat) (c : Code) (Q : Post) (E : Env) (D : List Deferred) (h : Hp) : Prop :=
  ∀ w a, Own h w → Agree N E a → a.defers = D → c.wpIn (fen r) 0 P (fun e a' w' => ∃ E' h', Q e E' a'.defers h' ∧ Agree N E' a' ∧ Fol h w h' w') a w
def XRL (P : Program) (r : Option Nat) (N : Nat) (ops : Array Oper) (l : List Nat) (Q : Post) (E : Env) (D : List Deferred) (h : Hp) : Prop :=
  ∀ w a, Own h w → Agree N E a → a.defers = D → wpOpsIn (fen r) 0 P ops (fun e a' w' => ∃ E' h', Q e E' a'.defers h' ∧ Agree N E' a' ∧ Fol h w h' w') l a w
def XR (P : Program) (r : Option Nat) (N : Nat) (ops : Array Oper) (i : Nat) (Q : Post) (E : Env) (D : List Deferred) (h : Hp) : Prop :=
  XRL P r N ops (List.range' i (ops.size - i)) Q E D h
def ev (E : Env) : Operand → Option Value
  | .tmp t => E t
  | .const v => some v
  | .global g => some (.pointer (some ⟨g, 0, none⟩))
  | .func f => some (.func (.func f) #[] #[])
/-- The activation's operands are those that the environment tells. -/
def OpsAt (E : Env) (o : Oper) (a : Act) : Prop := ∀ x ∈ o.op.operands, ∀ v, ev E x = some v → a.eval x = v
def XV (P : Program) (r : Option Nat) (o : Oper) (K : Value → Hp → Prop) (T : List PanicEntry → Hp → Prop) (E : Env) (h : Hp) : Prop :=
  ∀ (w : World) (a : Act), Own h w → OpsAt E o a → ∀ (next : Act → World → Prop) (Q : Exit → Act → World → Prop),
    (∀ v h' w', K v h' → Fol h w h' w' → next (a.put o.dst v) w') → (∀ ch h' w', T ch h' → Fol h w h' w' → Q (.panic ch) a w') →
    o.wpIn (fen r) 0 P a w next Q
variable {P : Program} {r : Option Nat} {N : Nat} {Q : Post} {E : Env} {D : List Deferred} {h : Hp}
theorem wpOpsIn_mono {F : Fence} {n : Nat} {ops : Array Oper} {Q Q' : Exit → Act → World → Prop} (hq : ∀ e a w, Q e a w → Q' e a w) : ∀ (l : List Nat) (a : Act) (w : World), wpOpsIn F n P ops Q l a w → wpOpsIn F n P ops Q' l a w := by
  intro l
  induction l with
  | nil => exact fun a w hh => hq _ _ _ hh
  | cons i l ih =>
    intro a w hh
    simp only [wpOpsIn] at hh ⊢
    split
    · rename_i ho; simp only [ho] at hh; exact ih _ _ hh
    · rename_i o ho
      simp only [ho] at hh
      split
      · rename_i hw
        simp only [hw, if_true] at hh
        refine ⟨hh.1, ?_⟩
        have hh := hh.2
        generalize (o.semAt F.round a.eval).run P w = res at *
        cases res with
        | ok n' w' =>
          cases n' <;> simp only [Oper.uponIn] at hh ⊢
          case value v => exact ih _ _ hh
          case skip => exact ih _ _ hh
          case defer d => exact ih _ _ hh
          case enter f args => exact ⟨hh.1, hh.2.mono fun e w'' he => by cases e <;> first | exact ih _ _ he | exact hq _ _ _ he | (obtain ⟨a0, w0, h0⟩ := he; exact ⟨a0, w0, hq _ _ _ h0⟩)⟩
          case row row args => exact ⟨hh.1, hh.2.mono fun v w'' he => ih _ _ he⟩
          case round l' f tmps assign body => exact ⟨hh.1, hh.2.mono fun e w'' he => by cases e <;> first | exact ih _ _ he | exact hq _ _ _ he | (obtain ⟨a0, w0, h0⟩ := he; exact ⟨a0, w0, hq _ _ _ h0⟩)⟩
        | halt x w' => cases x <;> simp only [Oper.uponIn] at hh ⊢; exact hq _ _ _ hh
      · rename_i hw
        simp only [hw] at hh
        exact ⟨hh.1, ih _ _ hh.2⟩
/-! ### The rules on code -/
theorem XC.mono {c : Code} {Q' : Post} (H : XC P r N c Q E D h) (hq : ∀ e E D h, Q e E D h → Q' e E D h) : XC P r N c Q' E D h :=
  fun w a ho ha hd => wpIn_mono (H w a ho ha hd) fun _ _ _ ⟨E', h', q, x⟩ => ⟨E', h', hq _ _ _ _ q, x⟩
theorem XRL.mono {ops : Array Oper} {l : List Nat} {Q' : Post} (H : XRL P r N ops l Q E D h) (hq : ∀ e E D h, Q e E D h → Q' e E D h) : XRL P r N ops l Q' E D h :=
  fun w a ho ha hd => wpOpsIn_mono (fun _ _ _ ⟨E', h', q, x⟩ => ⟨E', h', hq _ _ _ _ q, x⟩) _ _ _ (H w a ho ha hd)
theorem xc_skip (H : Q .normal E D h) : XC P r N .skip Q E D h :=
  fun w a ho ha hd => wpIn_skip ⟨E, h, by rw [hd]; exact H, ha, .refl ho⟩
theorem xc_exit {id : Nat} (H : Q (.exit id) E D h) : XC P r N (.exit id) Q E D h :=
  fun w a ho ha hd => wpIn_exit ⟨E, h, by rw [hd]; exact H, ha, .refl ho⟩
theorem xc_ret (H : Q .ret E D h) : XC P r N .ret Q E D h :=
  fun w a ho ha hd => wpIn_ret ⟨E, h, by rw [hd]; exact H, ha, .refl ho⟩
def Th (K : Env → List Deferred → Hp → Prop) (Q : Post) : Post
  | .normal, E, D, h => K E D h
  | e, E, D, h => Q e E D h
theorem xc_seq {x y : Code} (H : XC P r N x (Th (XC P r N y Q) Q) E D h) : XC P r N (.seq x y) Q E D h := by
  intro w a ho ha hd
  refine wpIn_seq (wpIn_mono (H w a ho ha hd) ?_)
  rintro e a' w' ⟨E', h', q, ha', hf⟩
  cases e with
  | normal => exact wpIn_mono (q w' a' hf.own ha' rfl) fun _ _ _ ⟨E2, h2, q2, ha2, hf2⟩ => ⟨E2, h2, q2, ha2, hf.trans hf2⟩
  | _ => exact ⟨E', h', q, ha', hf⟩
theorem Agree.ev {a : Act} (ha : Agree N E a) {x : Operand} {v : Value} (hx : ev E x = some v) : a.eval x = v := by
  cases x with
  | tmp t => have := ha.val t v hx; simp [Act.eval, this]
  | const u => cases hx; rfl
  | global g => cases hx; rfl
  | func f => cases hx; rfl
theorem Agree.put {a : Act} (ha : Agree N E a) {d : Option Nat} {v : Value} (hd : ∀ k, d = some k → k < N) : Agree N (E.put d v) (a.put d v) := by
  cases d with
  | none => exact ha
  | some d =>
    have hlt : d < a.tmps.size := by rw [ha.size]; exact hd d rfl
    refine ⟨by simp [Act.put, ha.size], fun t u hu => ?_⟩
    simp only [Env.put] at hu
    simp only [Act.put, Array.getElem?_setIfInBounds]
    cases hb : Nat.beq t d with
    | true =>
      rw [hb] at hu
      have := Nat.eq_of_beq_eq_true hb
      subst this
      simp only [cond_true, Option.some.injEq] at hu
      subst hu
      rw [if_pos rfl, if_pos hlt]
    | false =>
      rw [hb] at hu
      have : ¬ d = t := fun e => by subst e; simp at hb
      rw [if_neg this]
      exact ha.val t u hu
theorem xc_cond {c : Operand} {x y : Code} {t : Bool} (hc : ev E c = some (.bool t)) (H : XC P r N (if t then x else y) Q E D h) : XC P r N (.cond c x y) Q E D h :=
  fun w a ho ha hd => wpIn_cond (ha.ev hc) (H w a ho ha hd)
theorem xc_true {c : Operand} {x y : Code} (hc : ev E c = some (.bool true)) (H : XC P r N x Q E D h) : XC P r N (.cond c x y) Q E D h := xc_cond hc H
theorem xc_false {c : Operand} {x y : Code} (hc : ev E c = some (.bool false)) (H : XC P r N y Q E D h) : XC P r N (.cond c x y) Q E D h := xc_cond hc H
theorem xc_bool {c : Operand} {x y : Code} {t : Bool} (hc : ev E c = some (.bool t)) (H1 : t = true → XC P r N x Q E D h) (H2 : t = false → XC P r N y Q E D h) : XC P r N (.cond c x y) Q E D h := by
  cases t with
  | true => exact xc_true hc (H1 rfl)
  | false => exact xc_false hc (H2 rfl)
def Bk (id : Nat) (Q : Post) : Post
  | .exit id', E, D, h => if id' = id then Q .normal E D h else Q (.exit id') E D h
  | e, E, D, h => Q e E D h
theorem xc_block {id : Nat} {c : Code} (H : XC P r N c (Bk id Q) E D h) : XC P r N (.block id c) Q E D h := by
  intro w a ho ha hd
  refine wpIn_block (wpIn_mono (H w a ho ha hd) ?_)
  rintro e a' w' ⟨E', h', q, ha', hf⟩
  cases e with
  | exit id' =>
    simp only [Exit.inBlock, Bk] at *
    split at q
    · rename_i e; rw [if_pos e]; exact ⟨E', h', q, ha', hf⟩
    · rename_i e; rw [if_neg e]; exact ⟨E', h', q, ha', hf⟩
  | _ => exact ⟨E', h', q, ha', hf⟩
theorem bk_same {id : Nat} (H : Q .normal E D h) : Bk id Q (.exit id) E D h := by simp only [Bk]; rw [if_pos trivial]; exact H
theorem bk_other {id id' : Nat} (hne : Nat.beq id' id = false) (H : Q (.exit id') E D h) : Bk id Q (.exit id') E D h := by
  simp only [Bk]
  rw [if_neg (fun e => by subst e; simp at hne)]
  exact H
/-- A greater environment serves. -/
def EnvLe (E E' : Env) : Prop := ∀ t v, E t = some v → E' t = some v
theorem EnvLe.refl (E : Env) : EnvLe E E := fun _ _ hh => hh
theorem le_emp (E : Env) : EnvLe emp E := fun _ _ hh => by cases hh
theorem le_put {E E' : Env} {d : Nat} {v : Value} (H : EnvLe E E') (hd : E' d = some v) : EnvLe (E.put (some d) v) E' := by
  intro t u hu
  simp only [Env.put] at hu
  cases hb : Nat.beq t d with
  | true =>
    rw [hb] at hu
    have := Nat.eq_of_beq_eq_true hb
    subst this
    simp only [cond_true, Option.some.injEq] at hu
    subst hu
    exact hd
  | false => rw [hb] at hu; exact H t u hu
theorem Agree.le {E' : Env} {a : Act} (ha : Agree N E' a) (hl : EnvLe E E') : Agree N E a := ⟨ha.size, fun t v hv => ha.val t v (hl t v hv)⟩
/-- Less is known, less is owned: behind the step. -/
theorem XC.weaken {c : Code} {E' : Env} {h' : Hp} (hl : EnvLe E E') (hs : List.Sublist h h') (H : XC P r N c Q E D h) : XC P r N c Q E' D h' := by
  intro w a ho ha hd
  have ho' := ho.sub hs
  refine wpIn_mono (H w a ho' (ha.le hl) hd) ?_
  rintro e a' w' ⟨E2, h2, q, ha2, hf⟩
  refine ⟨E2, h2, q, ha2, hf.own, hf.os, hf.tape, hf.output, hf.size, fun b hb hn => hf.rest b hb fun hm => hn ((hs.map _).subset hm)⟩
theorem XC.perm {c : Code} {h' : Hp} (hp : List.Perm h h') (H : XC P r N c Q E D h) : XC P r N c Q E D h' := by
  intro w a ho ha hd
  refine wpIn_mono (H w a (ho.perm hp) ha hd) ?_
  rintro e a' w' ⟨E2, h2, q, ha2, hf⟩
  exact ⟨E2, h2, q, ha2, hf.permL hp.symm⟩
theorem wpIn_loop_ghost {F : Fence} {n : Nat} {σ : Type} {c : Code} {Q : Exit → Act → World → Prop} (I : σ → Act → World → Prop) (μ : σ → Nat)
    (round : ∀ x a w, I x a w → c.wpIn F n P (Exit.then (fun a' w' => ∃ x', I x' a' w' ∧ μ x' < μ x) Q) a w) (x₀ : σ) (a : Act) (w : World) (h₀ : I x₀ a w) : (Code.loop c).wpIn F n P Q a w := by
  intro b k cs hro hb hr
  have key : ∀ j x a w, μ x = j → I x a w →
      ∃ e a' w', Q e a' w' ∧ ArrivesIn (Machine.fenced P F) P (lone (b.atR a (.code c :: .inLoop c :: k)) cs w) b k cs e a' w' := by
    intro j
    induction j using Nat.strongRecOn with
    | _ j ih =>
      intro x a w hn hI
      obtain ⟨e, a₁, w₁, hq, harr⟩ := round x a w hI b (.inLoop c :: k) cs hro hb hr
      cases e with
      | normal =>
        obtain ⟨x', hI₁, hlt⟩ := hq
        obtain ⟨e₂, a₂, w₂, hq₂, harr₂⟩ := ih (μ x') (hn ▸ hlt) x' a₁ w₁ rfl hI₁
        exact ⟨e₂, a₂, w₂, hq₂, .of_steps (StepsIn.trans harr (.one (fenced_calm hb hr rfl) stepR_inLoop)) harr₂⟩
      | _ => exact ⟨_, a₁, w₁, hq, .pass (x := .inLoop c) rfl (fun _ _ => .inl (by simp)) harr⟩
  obtain ⟨e, a', w', hq, harr⟩ := key _ x₀ a w rfl h₀
  exact ⟨e, a', w', hq, .of_steps (.one (fenced_calm hb hr rfl) stepR_loop) harr⟩
/-- A loop: what holds at each round's head, by a ghost x; a measure. -/
theorem xc_loop {σ : Type} {c : Code} (I : σ → Prop) (EI : σ → Env) (HI : σ → Hp) (μ : σ → Nat) (x₀ : σ) (h₀ : I x₀) (hl : EnvLe (EI x₀) E) (hs : List.Sublist (HI x₀) h)
    (round : ∀ x, I x → XC P r N c (Th (fun E' D' h' => ∃ x', I x' ∧ μ x' < μ x ∧ EnvLe (EI x') E' ∧ D' = D ∧ List.Sublist (HI x') h') Q) (EI x) D (HI x)) :
    XC P r N (.loop c) Q E D h := by
  refine XC.weaken hl hs ?_
  intro w a ho ha hd
  refine wpIn_loop_ghost (fun x a' w' => I x ∧ Agree N (EI x) a' ∧ a'.defers = D ∧ Fol (HI x₀) w (HI x) w') μ ?_ x₀ a w ⟨h₀, ha, hd, .refl ho⟩
  rintro x a' w' ⟨hi, ha', hd', hf⟩
  refine wpIn_mono (round x hi w' a' hf.own ha' hd') ?_
  rintro e a2 w2 ⟨E2, h2, q, ha2, hf2⟩
  cases e with
  | normal =>
    obtain ⟨x', hi', hlt, hle, hd2, hsub⟩ := q
    exact ⟨x', ⟨hi', ha2.le hle, hd2, hf.trans (hf2.sub hsub)⟩, hlt⟩
  | _ => exact ⟨E2, h2, q, ha2, hf.trans hf2⟩
/-! ### Regions -/
theorem xc_region {id : Nat} {ops : Array Oper} (H : XR P r N ops 0 Q E D h) : XC P r N (.region id ops false) Q E D h := by
  intro w a ho ha hd
  refine wpIn_region ?_
  have := H w a ho ha hd
  rwa [Nat.sub_zero, ← List.range_eq_range'] at this
theorem xr_end {ops : Array Oper} {i : Nat} (hi : Nat.ble ops.size i = true) (H : Q .normal E D h) : XR P r N ops i Q E D h := by
  intro w a ho ha hd
  have : ops.size - i = 0 := by have := Nat.le_of_ble_eq_true hi; omega
  rw [this]
  exact ⟨E, h, by rw [hd]; exact H, ha, .refl ho⟩
theorem range'_at {ops : Array Oper} {i : Nat} {o : Oper} (ho : ops[i]? = some o) : List.range' i (ops.size - i) = i :: List.range' (i + 1) (ops.size - (i + 1)) := by
  have := (Array.getElem?_eq_some_iff.1 ho).1
  obtain ⟨k, hk⟩ : ∃ k, ops.size - i = k + 1 := ⟨ops.size - i - 1, by omega⟩
  rw [hk, List.range'_succ, show ops.size - (i + 1) = k by omega]
def dstOk (N : Nat) : Option Nat → Bool
  | none => true
  | some d => Nat.blt d N
theorem dstOk_lt {d : Option Nat} (hd : dstOk N d = true) : ∀ k, d = some k → k < N := by
  rintro k rfl
  simp only [dstOk, Nat.blt] at hd
  exact Nat.le_of_ble_eq_true hd
theorem xrl_op {ops : Array Oper} {i : Nat} {l : List Nat} {o : Oper} (hi : ops[i]? = some o) (hw : ∀ a, Agree N E a → Region.wanted o (yielded ops a.tmps) = true) (hd : dstOk N o.dst = true)
    (H : XV P r o (fun v h' => XRL P r N ops l Q (E.put o.dst v) D h') (fun ch h' => Q (.panic ch) E D h') E h) : XRL P r N ops (i :: l) Q E D h := by
  intro w a ho ha hda
  simp only [wpOpsIn, hi]
  rw [if_pos (hw a ha)]
  refine H w a ho (fun x _ v hv => ha.ev hv) _ _ ?_ ?_
  · intro v h' w' hk hf
    have hda' : (a.put o.dst v).defers = D := by cases o.dst <;> exact hda
    exact wpOpsIn_mono (fun _ _ _ ⟨E2, h2, q, x, f2⟩ => ⟨E2, h2, q, x, hf.trans f2⟩) _ _ _ (hk w' _ hf.own (ha.put (dstOk_lt hd)) hda')
  · intro ch h' w' hk hf
    exact ⟨E, h', by rw [hda]; exact hk, ha, hf⟩
theorem xr_op {ops : Array Oper} {i : Nat} {dst : Option Nat} {op : Op} {ty : TypeId} {pos : String} {af : Array Edge} (hi : ops[i]? = some ⟨dst, op, ty, pos, af, none⟩) (hd : dstOk N dst = true)
    (H : XV P r ⟨dst, op, ty, pos, af, none⟩ (fun v h' => XR P r N ops (i + 1) Q (E.put dst v) D h') (fun ch h' => Q (.panic ch) E D h') E h) : XR P r N ops i Q E D h := by
  unfold XR
  rw [range'_at hi]
  exact xrl_op hi (fun _ _ => rfl) hd H
/-- The value that a guard asks. -/
def gv (ops : Array Oper) (E : Env) (j : Nat) : Option Value := ((ops[j]?).bind (·.dst)).bind E
theorem gv_yielded {ops : Array Oper} {a : Act} {j : Nat} {t : Bool} (ha : Agree N E a) (hg : gv ops E j = some (.bool t)) : yielded ops a.tmps j = some t := by
  unfold gv at hg
  unfold yielded
  cases hd : (ops[j]?).bind (·.dst) with
  | none => rw [hd] at hg; cases hg
  | some d =>
    rw [hd] at hg
    have := ha.val d _ hg
    simp [this]
theorem xr_gd {ops : Array Oper} {i : Nat} {dst : Option Nat} {op : Op} {ty : TypeId} {pos : String} {af : Array Edge} {j : Nat} {t : Bool} (hi : ops[i]? = some ⟨dst, op, ty, pos, af, some (j, t)⟩) (hg : gv ops E j = some (.bool t)) (hd : dstOk N dst = true)
    (H : XV P r ⟨dst, op, ty, pos, af, some (j, t)⟩ (fun v h' => XR P r N ops (i + 1) Q (E.put dst v) D h') (fun ch h' => Q (.panic ch) E D h') E h) : XR P r N ops i Q E D h := by
  unfold XR
  rw [range'_at hi]
  exact xrl_op hi (fun a ha => by simp [Region.wanted, gv_yielded ha hg]) hd H
theorem xrl_no {ops : Array Oper} {i : Nat} {l : List Nat} {o : Oper} {j : Nat} {t u : Bool} (hi : ops[i]? = some o) (hgd : o.guard = some (j, t)) (hg : gv ops E j = some (.bool u)) (hne : (u == t) = false) (hd : dstOk N o.dst = true)
    (H : XRL P r N ops l Q (E.put o.dst undef) D h) : XRL P r N ops (i :: l) Q E D h := by
  intro w a ho ha hda
  simp only [wpOpsIn, hi]
  have hw : ¬ Region.wanted o (yielded ops a.tmps) = true := by
    simp only [Region.wanted, hgd, gv_yielded ha hg]
    cases u <;> cases t <;> simp_all
  rw [if_neg hw]
  refine ⟨fun _ _ => trivial, ?_⟩
  have hda' : (a.put o.dst undef).defers = D := by cases o.dst <;> exact hda
  exact H w _ ho (ha.put (dstOk_lt hd)) hda'
theorem xr_no {ops : Array Oper} {i : Nat} {dst : Option Nat} {op : Op} {ty : TypeId} {pos : String} {af : Array Edge} {j : Nat} {t u : Bool} (hi : ops[i]? = some ⟨dst, op, ty, pos, af, some (j, t)⟩) (hg : gv ops E j = some (.bool u)) (hne : (u == t) = false) (hd : dstOk N dst = true)
    (H : XR P r N ops (i + 1) Q (E.put dst undef) D h) : XR P r N ops i Q E D h := by
  unfold XR
  rw [range'_at hi]
  exact xrl_no hi rfl hg hne hd H
/-! ### Operations: what an operation that runs at once owes -/
def plainOp (o : Op) : Prop := (∀ c, o ≠ .defer c) ∧ ∀ cs b, o ≠ .select cs b
/-- The operands' values, where the environment tells them. -/
theorem ops_rho {o : Oper} {a : Act} (hp : plainOp o.op) (ha : OpsAt E o a) : ∃ ρ : Operand → Value, (∀ x v, ev E x = some v → ρ x = v) ∧ execOp ρ o = execOp a.eval o := by
  refine ⟨fun x => (ev E x).getD (a.eval x), fun x v hv => by simp [hv], execOp_congr o hp.2 fun x hx => ?_⟩
  cases hv : ev E x with
  | none => simp
  | some v => simp only [Option.getD_some]; exact (ha x hx v hv).symm
theorem xv_of_run {o : Oper} {K : Value → Hp → Prop} {T : List PanicEntry → Hp → Prop} (hnd : plainOp o.op)
    (H : ∀ w ρ, Own h w → (∀ x v, ev E x = some v → ρ x = v) → ∃ v h' w', (execOp ρ o).run P w = .ok (.value v) w' ∧ K v h' ∧ Fol h w h' w') : XV P r o K T E h := by
  intro w a ho ha next Q hn _
  obtain ⟨ρ, he, hρ⟩ := ops_rho hnd ha
  obtain ⟨v, h', w', hr, hk, hf⟩ := H w ρ ho he
  refine ⟨fun _ _ => trivial, ?_⟩
  rw [Oper.semAt_eq _ _ _ hnd.1, ← hρ, hr]
  exact hn v h' w' hk hf
theorem xv_of_skip {o : Oper} {K : Value → Hp → Prop} {T : List PanicEntry → Hp → Prop} (hnd : plainOp o.op)
    (H : ∀ w ρ, Own h w → (∀ x v, ev E x = some v → ρ x = v) → ∃ h' w', (execOp ρ o).run P w = .ok .skip w' ∧ K undef h' ∧ Fol h w h' w') : XV P r o K T E h := by
  intro w a ho ha next Q hn _
  obtain ⟨ρ, he, hρ⟩ := ops_rho hnd ha
  obtain ⟨h', w', hr, hk, hf⟩ := H w ρ ho he
  refine ⟨fun _ _ => trivial, ?_⟩
  rw [Oper.semAt_eq _ _ _ hnd.1, ← hρ, hr]
  exact hn undef h' w' hk hf
theorem xv_of_panic {o : Oper} {K : Value → Hp → Prop} {T : List PanicEntry → Hp → Prop} (hnd : plainOp o.op)
    (H : ∀ w ρ, Own h w → (∀ x v, ev E x = some v → ρ x = v) → ∃ v h' w', (execOp ρ o).run P w = .halt (.panic v) w' ∧ T [{ v, recovered := false }] h' ∧ Fol h w h' w') : XV P r o K T E h := by
  intro w a ho ha next Q _ hq
  obtain ⟨ρ, he, hρ⟩ := ops_rho hnd ha
  obtain ⟨v, h', w', hr, hk, hf⟩ := H w ρ ho he
  refine ⟨fun _ _ => trivial, ?_⟩
  rw [Oper.semAt_eq _ _ _ hnd.1, ← hρ, hr]
  exact hq _ h' w' hk hf
/-- A call: the callee's contract. -/
theorem ACalls.mono {f : FuncId} {args : Array Value} {R R' : Ending → Hp → Prop} (H : ACalls P f args h R) (hr : ∀ e h', R e h' → R' e h') : ACalls P f args h R' :=
  fun w ho => (H w ho).mono fun _ _ ⟨h', q, x⟩ => ⟨h', hr _ _ q, x⟩
def Up (K : Value → Hp → Prop) (T : List PanicEntry → Hp → Prop) : Ending → Hp → Prop
  | .returned v, h => K v h
  | .panicked ch, h => T ch h
  | .outgrown, _ => False
theorem callsIn_fen {f : FuncId} {args : Array Value} {w : World} {R : Ending → World → Prop} {n : Nat} : CallsIn (fen r) n P f args w R ↔ Calls P f args w R := by
  have := callsIn_wide (n := n) (P := P) (f := f) (args := args) (w := w) (R := R)
  exact this
theorem xv_enter {o : Oper} {K : Value → Hp → Prop} {T : List PanicEntry → Hp → Prop} {f : FuncId} {args : Array Value} (hnd : plainOp o.op)
    (hr : ∀ w ρ, (∀ x v, ev E x = some v → ρ x = v) → (execOp ρ o).run P w = .ok (.enter f args) w) (H : ACalls P f args h (Up K T)) : XV P r o K T E h := by
  intro w a ho ha next Q hn hq
  obtain ⟨ρ, he, hρ⟩ := ops_rho hnd ha
  refine ⟨fun _ _ => trivial, ?_⟩
  rw [Oper.semAt_eq _ _ _ hnd.1, ← hρ, hr w ρ he]
  refine ⟨fun hh => by simp [fen, Fence.wide] at hh, callsIn_fen.2 ((H w ho).mono ?_)⟩
  rintro e w' ⟨h', q, hf⟩
  cases e with
  | returned v => exact hn v h' w' q hf
  | panicked ch => exact hq ch h' w' q hf
  | outgrown => exact q.elim
theorem XV.mono {o : Oper} {K K' : Value → Hp → Prop} {T T' : List PanicEntry → Hp → Prop} (H : XV P r o K T E h) (hk : ∀ v h', K v h' → K' v h') (ht : ∀ c h', T c h' → T' c h') : XV P r o K' T' E h :=
  fun w a ho ha next Q hn hq => H w a ho ha next Q (fun v h' w' k f => hn v h' w' (hk _ _ k) f) (fun c h' w' k f => hq c h' w' (ht _ _ k) f)
end Go.H
