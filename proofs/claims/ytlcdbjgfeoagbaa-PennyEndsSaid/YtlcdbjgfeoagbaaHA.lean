/-
  The logic of owned blocks over the kit, part HA.
-/
import Derived.RangeFuncLeaves
import Derived.RangeFuncRecord
import Derived.OrdersIn
import Derived.WalkKit
import Derived.KernelRfl
import Derived.Laws.AppendOwn
import Derived.Laws.MakeOwn
set_option linter.all false
/-
  What the calls of a program do is said over a view of the heap: a list of the blocks that the code owns; all else is framed out. This text: the judgements and the rules on code.
-/
namespace Go.H
open Go
abbrev Env := Nat → Option Value
def Env.put (E : Env) (d : Option Nat) (v : Value) : Env :=
  match d with
  | none => E
  | some d => fun t => bif Nat.beq t d then some v else E t
def emp : Env := fun _ => none
abbrev Hp := List (Nat × Obj)
def keys (h : Hp) : List Nat := h.map (·.1)
structure Own (h : Hp) (w : World) : Prop where
  nd : (keys h).Nodup
  has : ∀ b o, (b, o) ∈ h → w.heap[b]? = some o
structure Agree (N : Nat) (E : Env) (a : Act) : Prop where
  size : a.tmps.size = N
  val : ∀ t v, E t = some v → a.tmps[t]? = some v
structure Fol (h : Hp) (w : World) (h' : Hp) (w' : World) : Prop where
  own : Own h' w'
  os : w'.os = w.os
  tape : w'.tape = w.tape
  output : w'.output = w.output
  size : w.heap.size ≤ w'.heap.size
  rest : ∀ b, b < w.heap.size → b ∉ keys h → b ∉ keys h' ∧ w'.heap[b]? = w.heap[b]?
theorem Own.lt {h : Hp} {w : World} (H : Own h w) {b : Nat} (hb : b ∈ keys h) : b < w.heap.size := by
  obtain ⟨⟨b', o⟩, hm, rfl⟩ := List.mem_map.1 hb
  exact (Array.getElem?_eq_some_iff.1 (H.has _ _ hm)).1
theorem Fol.refl {h : Hp} {w : World} (H : Own h w) : Fol h w h w := ⟨H, rfl, rfl, rfl, Nat.le_refl _, fun _ _ hn => ⟨hn, rfl⟩⟩
theorem Fol.trans {h h1 h2 : Hp} {w w1 w2 : World} (A : Fol h w h1 w1) (B : Fol h1 w1 h2 w2) : Fol h w h2 w2 :=
  ⟨B.own, B.os.trans A.os, B.tape.trans A.tape, B.output.trans A.output, Nat.le_trans A.size B.size, fun b hb hn => by
    obtain ⟨h1n, e1⟩ := A.rest b hb hn
    obtain ⟨h2n, e2⟩ := B.rest b (Nat.lt_of_lt_of_le hb A.size) h1n
    exact ⟨h2n, e2.trans e1⟩⟩
theorem Own.sub {h h' : Hp} {w : World} (H : Own h w) (hs : List.Sublist h' h) : Own h' w :=
  ⟨(hs.map _).nodup H.nd, fun b o hm => H.has b o (hs.subset hm)⟩
theorem Own.perm {h h' : Hp} {w : World} (H : Own h w) (hs : List.Perm h' h) : Own h' w :=
  ⟨((hs.map _).nodup_iff).2 H.nd, fun b o hm => H.has b o (hs.mem_iff.1 hm)⟩
theorem Fol.sub {h h1 h2 : Hp} {w w1 : World} (A : Fol h w h1 w1) (hs : List.Sublist h2 h1) : Fol h w h2 w1 :=
  ⟨A.own.sub hs, A.os, A.tape, A.output, A.size, fun b hb hn => ⟨fun hm => (A.rest b hb hn).1 ((hs.map _).subset hm), (A.rest b hb hn).2⟩⟩
theorem Fol.perm {h h1 h2 : Hp} {w w1 : World} (A : Fol h w h1 w1) (hs : List.Perm h2 h1) : Fol h w h2 w1 :=
  ⟨A.own.perm hs, A.os, A.tape, A.output, A.size, fun b hb hn => ⟨fun hm => (A.rest b hb hn).1 ((hs.map _).mem_iff.1 hm), (A.rest b hb hn).2⟩⟩
theorem Fol.permL {h h0 h1 : Hp} {w w1 : World} (A : Fol h w h1 w1) (hs : List.Perm h0 h) : Fol h0 w h1 w1 :=
  ⟨A.own, A.os, A.tape, A.output, A.size, fun b hb hn => A.rest b hb (fun hm => hn ((hs.map _).mem_iff.2 hm))⟩
theorem keys_append (f h : Hp) : keys (f ++ h) = keys f ++ keys h := List.map_append
theorem Fol.frame {f h h' : Hp} {w w' : World} (H : Own (h ++ f) w) (A : Fol h w h' w') : Fol (h ++ f) w (h' ++ f) w' := by
  have hk : ∀ b o, (b, o) ∈ f → b < w.heap.size ∧ b ∉ keys h := fun b o hm => by
    have hb : b ∈ keys f := List.mem_map.2 ⟨_, hm, rfl⟩
    refine ⟨H.lt (by rw [keys_append]; exact List.mem_append_right _ hb), fun hc => ?_⟩
    have hn := H.nd
    rw [keys_append, List.nodup_append] at hn
    exact hn.2.2 _ hc _ hb rfl
  refine ⟨⟨?_, fun b o hm => ?_⟩, A.os, A.tape, A.output, A.size, fun b hb hn => ?_⟩
  · have hn := H.nd
    rw [keys_append, List.nodup_append] at hn ⊢
    refine ⟨A.own.nd, hn.2.1, fun x hx y hy e => ?_⟩
    subst e
    obtain ⟨⟨b', o⟩, hm, rfl⟩ := List.mem_map.1 hy
    obtain ⟨h1, h2⟩ := hk _ _ hm
    exact (A.rest _ h1 h2).1 hx
  · rcases List.mem_append.1 hm with hm | hm
    · exact A.own.has b o hm
    · obtain ⟨h1, h2⟩ := hk _ _ hm
      rw [(A.rest _ h1 h2).2]
      exact H.has b o (List.mem_append_right _ hm)
  · rw [keys_append, List.mem_append] at hn ⊢
    have hn' : b ∉ keys h := fun hc => hn (.inl hc)
    exact ⟨fun hc => hc.elim (A.rest b hb hn').1 (fun hc => hn (.inr hc)), (A.rest b hb hn').2⟩
theorem Own.left {f h : Hp} {w : World} (H : Own (h ++ f) w) : Own h w := H.sub (List.sublist_append_left _ _)
theorem Own.drew {h : Hp} {w : World} (H : Own h w) (n : Nat) : Own h { w with drawn := n } := ⟨H.nd, H.has⟩
theorem Fol.drew {h h' : Hp} {w w' : World} {n : Nat} (A : Fol h { w with drawn := n } h' w') : Fol h w h' w' := ⟨A.own, A.os, A.tape, A.output, A.size, A.rest⟩
theorem Fol.alloc {h : Hp} {w : World} (H : Own h w) (o : Obj) : Fol h w ((w.heap.size, o) :: h) (w.alloc o) := by
  have hk : w.heap.size ∉ keys h := fun hc => Nat.lt_irrefl _ (H.lt hc)
  refine ⟨⟨?_, fun b o' hm => ?_⟩, rfl, rfl, rfl, by simp, fun b hb hn => ⟨?_, Go.RowKit.Below.heap_alloc _ _ _ hb⟩⟩
  · show (w.heap.size :: keys h).Nodup
    exact List.nodup_cons.2 ⟨hk, H.nd⟩
  · rcases List.mem_cons.1 hm with e | hm
    · cases e; show (w.heap.push o)[w.heap.size]? = some o; simp
    · rw [Go.RowKit.Below.heap_alloc _ _ _ (H.lt (List.mem_map.2 ⟨_, hm, rfl⟩))]; exact H.has _ _ hm
  · show b ∉ w.heap.size :: keys h
    intro hc
    rcases List.mem_cons.1 hc with e | hc
    · omega
    · exact hn hc
def setH : Hp → Nat → Obj → Hp
  | [], _, _ => []
  | (b, o) :: h, c, o' => if b = c then (b, o') :: h else (b, o) :: setH h c o'
theorem keys_setH (h : Hp) (b : Nat) (o : Obj) : keys (setH h b o) = keys h := by
  induction h with
  | nil => rfl
  | cons x h ih =>
    obtain ⟨c, o'⟩ := x
    simp only [setH]
    split
    · rfl
    · show c :: keys _ = c :: keys h
      rw [ih]
theorem mem_setH {h : Hp} {b : Nat} {o : Obj} (hn : (keys h).Nodup) {c : Nat} {o' : Obj} (hm : (c, o') ∈ setH h b o) : (c = b ∧ o' = o) ∨ (c ≠ b ∧ (c, o') ∈ h) := by
  induction h with
  | nil => cases hm
  | cons x h ih =>
    obtain ⟨d, od⟩ := x
    have hn' : d ∉ keys h ∧ (keys h).Nodup := List.nodup_cons.1 hn
    simp only [setH] at hm
    split at hm
    · rename_i e
      rcases List.mem_cons.1 hm with e' | hm
      · cases e'; exact .inl ⟨e, rfl⟩
      · refine .inr ⟨fun e' => ?_, List.mem_cons_of_mem _ hm⟩
        subst e'; subst e
        exact hn'.1 (List.mem_map.2 ⟨_, hm, rfl⟩)
    · rename_i e
      rcases List.mem_cons.1 hm with e' | hm
      · cases e'; exact .inr ⟨e, List.mem_cons_self⟩
      · rcases ih hn'.2 hm with h1 | ⟨h1, h2⟩
        · exact .inl h1
        · exact .inr ⟨h1, List.mem_cons_of_mem _ h2⟩
theorem Fol.set {h : Hp} {w w' : World} {b : Nat} {o o' : Obj} (H : Own h w) (hm : (b, o) ∈ h) (hb : w'.heap[b]? = some o')
    (hr : ∀ k, k ≠ b → w'.heap[k]? = w.heap[k]?) (hs : w'.heap.size = w.heap.size) (h1 : w'.os = w.os) (h2 : w'.tape = w.tape) (h3 : w'.output = w.output) : Fol h w (setH h b o') w' := by
  refine ⟨⟨by rw [keys_setH]; exact H.nd, fun c oc hc => ?_⟩, h1, h2, h3, by omega, fun c hc hn => ⟨by rw [keys_setH]; exact hn, hr c fun e => hn (by subst e; exact List.mem_map.2 ⟨_, hm, rfl⟩)⟩⟩
  rcases mem_setH H.nd hc with ⟨rfl, rfl⟩ | ⟨hne, hc⟩
  · exact hb
  · rw [hr c hne]; exact H.has _ _ hc
def fen (r : Option Nat) : Fence := { Fence.wide with round := r }
def ACalls (P : Program) (f : FuncId) (args : Array Value) (h : Hp) (R : Ending → Hp → Prop) : Prop :=
  ∀ w, Own h w → Calls P f args w fun e w' => ∃ h', R e h' ∧ Fol h w h' w'
abbrev Post := Exit → Env → List Deferred → Hp → Prop
def XC (P : Program) (r : Option Nat) (N : Nat) (c : Code) (Q : Post) (E : Env) (D : List Deferred) (h : Hp) : Prop :=
  ∀ w a, Own h w → Agree N E a → a.defers = D → c.wpIn (fen r) 0 P (fun e a' w' => ∃ E' h', Q e E' a'.defers h' ∧ Agree N E' a' ∧ Fol h w h' w') a w
def XRL (P : Program) (r : Option Nat) (N : Nat) (ops : Array Oper) (l : List Nat) (Q : Post) (E : Env) (D : List Deferred) (h : Hp) : Prop :=
  ∀ w a, Own h w → Agree N E a → a.defers = D → wpOpsIn (fen r) 0 P ops (fun e a' w' => ∃ E' h', Q e E' a'.defers h' ∧ Agree N E' a' ∧ Fol h w h' w') l a w
def XR (P : Program) (r : Option Nat) (N : Nat) (ops : Array Oper) (i : Nat) (Q : Post) (E : Env) (D : List Deferred) (h : Hp) : Prop :=
  XRL P r N ops (List.range' i (ops.size - i)) Q E D h
def ev (E : Env) : Operand → Option Value
  | .tmp t => E t
  | .const v => some v
  | .global g => some (.pointer (some ⟨g, 0, none⟩))
  | .func f => some (.func (.func f) #[] #[])
def OpsAt (E : Env) (o : Oper) (a : Act) : Prop := ∀ x ∈ o.op.operands, ∀ v, ev E x = some v → a.eval x = v
def XV (P : Program) (r : Option Nat) (o : Oper) (K : Value → Hp → Prop) (T : List PanicEntry → Hp → Prop) (E : Env) (h : Hp) : Prop :=
  ∀ (w : World) (a : Act), Own h w → OpsAt E o a → ∀ (next : Act → World → Prop) (Q : Exit → Act → World → Prop),
    (∀ v h' w', K v h' → Fol h w h' w' → next (a.put o.dst v) w') → (∀ ch h' w', T ch h' → Fol h w h' w' → Q (.panic ch) a w') →
    o.wpIn (fen r) 0 P a w next Q
variable {P : Program} {r : Option Nat} {N : Nat} {Q : Post} {E : Env} {D : List Deferred} {h : Hp}
theorem wpOpsIn_mono {F : Fence} {n : Nat} {ops : Array Oper} {Q Q' : Exit → Act → World → Prop} (hq : ∀ e a w, Q e a w → Q' e a w) : ∀ (l : List Nat) (a : Act) (w : World), wpOpsIn F n P ops Q l a w → wpOpsIn F n P ops Q' l a w := by
  intro l
  induction l with
  | nil => exact fun a w hh => hq _ _ _ hh
  | cons i l ih =>
    intro a w hh
    simp only [wpOpsIn] at hh ⊢
    split
    · rename_i ho; simp only [ho] at hh; exact ih _ _ hh
    · rename_i o ho
      simp only [ho] at hh
      split
      · rename_i hw
        simp only [hw, if_true] at hh
        refine ⟨hh.1, ?_⟩
        have hh := hh.2
        generalize (o.semAt F.round a.eval).run P w = res at *
        cases res with
        | ok n' w' =>
          cases n' <;> simp only [Oper.uponIn] at hh ⊢
          case value v => exact ih _ _ hh
          case skip => exact ih _ _ hh
          case defer d => exact ih _ _ hh
          case enter f args => exact ⟨hh.1, hh.2.mono fun e w'' he => by cases e <;> first | exact ih _ _ he | exact hq _ _ _ he | (obtain ⟨a0, w0, h0⟩ := he; exact ⟨a0, w0, hq _ _ _ h0⟩)⟩
          case row row args => exact ⟨hh.1, hh.2.mono fun v w'' he => ih _ _ he⟩
          case round l' f tmps assign body => exact ⟨hh.1, hh.2.mono fun e w'' he => by cases e <;> first | exact ih _ _ he | exact hq _ _ _ he | (obtain ⟨a0, w0, h0⟩ := he; exact ⟨a0, w0, hq _ _ _ h0⟩)⟩
        | halt x w' => cases x <;> simp only [Oper.uponIn] at hh ⊢; exact hq _ _ _ hh
      · rename_i hw
        simp only [hw] at hh
        exact ⟨hh.1, ih _ _ hh.2⟩
theorem XC.mono {c : Code} {Q' : Post} (H : XC P r N c Q E D h) (hq : ∀ e E D h, Q e E D h → Q' e E D h) : XC P r N c Q' E D h :=
  fun w a ho ha hd => wpIn_mono (H w a ho ha hd) fun _ _ _ ⟨E', h', q, x⟩ => ⟨E', h', hq _ _ _ _ q, x⟩
theorem XRL.mono {ops : Array Oper} {l : List Nat} {Q' : Post} (H : XRL P r N ops l Q E D h) (hq : ∀ e E D h, Q e E D h → Q' e E D h) : XRL P r N ops l Q' E D h :=
  fun w a ho ha hd => wpOpsIn_mono (fun _ _ _ ⟨E', h', q, x⟩ => ⟨E', h', hq _ _ _ _ q, x⟩) _ _ _ (H w a ho ha hd)
theorem xc_skip (H : Q .normal E D h) : XC P r N .skip Q E D h :=
  fun w a ho ha hd => wpIn_skip ⟨E, h, by rw [hd]; exact H, ha, .refl ho⟩
theorem xc_exit {id : Nat} (H : Q (.exit id) E D h) : XC P r N (.exit id) Q E D h :=
  fun w a ho ha hd => wpIn_exit ⟨E, h, by rw [hd]; exact H, ha, .refl ho⟩
theorem xc_ret (H : Q .ret E D h) : XC P r N .ret Q E D h :=
  fun w a ho ha hd => wpIn_ret ⟨E, h, by rw [hd]; exact H, ha, .refl ho⟩
def Th (K : Env → List Deferred → Hp → Prop) (Q : Post) : Post
  | .normal, E, D, h => K E D h
  | e, E, D, h => Q e E D h
theorem xc_seq {x y : Code} (H : XC P r N x (Th (XC P r N y Q) Q) E D h) : XC P r N (.seq x y) Q E D h := by
  intro w a ho ha hd
  refine wpIn_seq (wpIn_mono (H w a ho ha hd) ?_)
  rintro e a' w' ⟨E', h', q, ha', hf⟩
  cases e with
  | normal => exact wpIn_mono (q w' a' hf.own ha' rfl) fun _ _ _ ⟨E2, h2, q2, ha2, hf2⟩ => ⟨E2, h2, q2, ha2, hf.trans hf2⟩
  | _ => exact ⟨E', h', q, ha', hf⟩
theorem Agree.ev {a : Act} (ha : Agree N E a) {x : Operand} {v : Value} (hx : ev E x = some v) : a.eval x = v := by
  cases x with
  | tmp t => have := ha.val t v hx; simp [Act.eval, this]
  | const u => cases hx; rfl
  | global g => cases hx; rfl
  | func f => cases hx; rfl
theorem Agree.put {a : Act} (ha : Agree N E a) {d : Option Nat} {v : Value} (hd : ∀ k, d = some k → k < N) : Agree N (E.put d v) (a.put d v) := by
  cases d with
  | none => exact ha
  | some d =>
    have hlt : d < a.tmps.size := by rw [ha.size]; exact hd d rfl
    refine ⟨by simp [Act.put, ha.size], fun t u hu => ?_⟩
    simp only [Env.put] at hu
    simp only [Act.put, Array.getElem?_setIfInBounds]
    cases hb : Nat.beq t d with
    | true =>
      rw [hb] at hu
      have := Nat.eq_of_beq_eq_true hb
      subst this
      simp only [cond_true, Option.some.injEq] at hu
      subst hu
      rw [if_pos rfl, if_pos hlt]
    | false =>
      rw [hb] at hu
      have : ¬ d = t := fun e => by subst e; simp at hb
      rw [if_neg this]
      exact ha.val t u hu
theorem xc_cond {c : Operand} {x y : Code} {t : Bool} (hc : ev E c = some (.bool t)) (H : XC P r N (if t then x else y) Q E D h) : XC P r N (.cond c x y) Q E D h :=
  fun w a ho ha hd => wpIn_cond (ha.ev hc) (H w a ho ha hd)
theorem xc_true {c : Operand} {x y : Code} (hc : ev E c = some (.bool true)) (H : XC P r N x Q E D h) : XC P r N (.cond c x y) Q E D h := xc_cond hc H
theorem xc_false {c : Operand} {x y : Code} (hc : ev E c = some (.bool false)) (H : XC P r N y Q E D h) : XC P r N (.cond c x y) Q E D h := xc_cond hc H
theorem xc_bool {c : Operand} {x y : Code} {t : Bool} (hc : ev E c = some (.bool t)) (H1 : t = true → XC P r N x Q E D h) (H2 : t = false → XC P r N y Q E D h) : XC P r N (.cond c x y) Q E D h := by
  cases t with
  | true => exact xc_true hc (H1 rfl)
  | false => exact xc_false hc (H2 rfl)
def Bk (id : Nat) (Q : Post) : Post
  | .exit id', E, D, h => if id' = id then Q .normal E D h else Q (.exit id') E D h
  | e, E, D, h => Q e E D h
theorem xc_block {id : Nat} {c : Code} (H : XC P r N c (Bk id Q) E D h) : XC P r N (.block id c) Q E D h := by
  intro w a ho ha hd
  refine wpIn_block (wpIn_mono (H w a ho ha hd) ?_)
  rintro e a' w' ⟨E', h', q, ha', hf⟩
  cases e with
  | exit id' =>
    simp only [Exit.inBlock, Bk] at *
    split at q
    · rename_i e; rw [if_pos e]; exact ⟨E', h', q, ha', hf⟩
    · rename_i e; rw [if_neg e]; exact ⟨E', h', q, ha', hf⟩
  | _ => exact ⟨E', h', q, ha', hf⟩
theorem bk_same {id : Nat} (H : Q .normal E D h) : Bk id Q (.exit id) E D h := by simp only [Bk]; rw [if_pos trivial]; exact H
def EnvLe (E E' : Env) : Prop := ∀ t v, E t = some v → E' t = some v
theorem EnvLe.refl (E : Env) : EnvLe E E := fun _ _ hh => hh
theorem le_emp (E : Env) : EnvLe emp E := fun _ _ hh => by cases hh
theorem le_put {E E' : Env} {d : Nat} {v : Value} (H : EnvLe E E') (hd : E' d = some v) : EnvLe (E.put (some d) v) E' := by
  intro t u hu
  simp only [Env.put] at hu
  cases hb : Nat.beq t d with
  | true =>
    rw [hb] at hu
    have := Nat.eq_of_beq_eq_true hb
    subst this
    simp only [cond_true, Option.some.injEq] at hu
    subst hu
    exact hd
  | false => rw [hb] at hu; exact H t u hu
theorem Agree.le {E' : Env} {a : Act} (ha : Agree N E' a) (hl : EnvLe E E') : Agree N E a := ⟨ha.size, fun t v hv => ha.val t v (hl t v hv)⟩
theorem XC.weaken {c : Code} {E' : Env} {h' : Hp} (hl : EnvLe E E') (hs : List.Sublist h h') (H : XC P r N c Q E D h) : XC P r N c Q E' D h' := by
  intro w a ho ha hd
  have ho' := ho.sub hs
  refine wpIn_mono (H w a ho' (ha.le hl) hd) ?_
  rintro e a' w' ⟨E2, h2, q, ha2, hf⟩
  refine ⟨E2, h2, q, ha2, hf.own, hf.os, hf.tape, hf.output, hf.size, fun b hb hn => hf.rest b hb fun hm => hn ((hs.map _).subset hm)⟩
theorem XC.perm {c : Code} {h' : Hp} (hp : List.Perm h h') (H : XC P r N c Q E D h) : XC P r N c Q E D h' := by
  intro w a ho ha hd
  refine wpIn_mono (H w a (ho.perm hp) ha hd) ?_
  rintro e a' w' ⟨E2, h2, q, ha2, hf⟩
  exact ⟨E2, h2, q, ha2, hf.permL hp.symm⟩
theorem wpIn_loop_ghost {F : Fence} {n : Nat} {σ : Type} {c : Code} {Q : Exit → Act → World → Prop} (I : σ → Act → World → Prop) (μ : σ → Nat)
    (round : ∀ x a w, I x a w → c.wpIn F n P (Exit.then (fun a' w' => ∃ x', I x' a' w' ∧ μ x' < μ x) Q) a w) (x₀ : σ) (a : Act) (w : World) (h₀ : I x₀ a w) : (Code.loop c).wpIn F n P Q a w := by
  intro b k cs hro hb hr
  have key : ∀ j x a w, μ x = j → I x a w →
      ∃ e a' w', Q e a' w' ∧ ArrivesIn (Machine.fenced P F) P (lone (b.atR a (.code c :: .inLoop c :: k)) cs w) b k cs e a' w' := by
    intro j
    induction j using Nat.strongRecOn with
    | _ j ih =>
      intro x a w hn hI
      obtain ⟨e, a₁, w₁, hq, harr⟩ := round x a w hI b (.inLoop c :: k) cs hro hb hr
      cases e with
      | normal =>
        obtain ⟨x', hI₁, hlt⟩ := hq
        obtain ⟨e₂, a₂, w₂, hq₂, harr₂⟩ := ih (μ x') (hn ▸ hlt) x' a₁ w₁ rfl hI₁
        exact ⟨e₂, a₂, w₂, hq₂, .of_steps (StepsIn.trans harr (.one (fenced_calm hb hr rfl) stepR_inLoop)) harr₂⟩
      | _ => exact ⟨_, a₁, w₁, hq, .pass (x := .inLoop c) rfl (fun _ _ => .inl (by simp)) harr⟩
  obtain ⟨e, a', w', hq, harr⟩ := key _ x₀ a w rfl h₀
  exact ⟨e, a', w', hq, .of_steps (.one (fenced_calm hb hr rfl) stepR_loop) harr⟩
theorem xc_loop {σ : Type} {c : Code} (I : σ → Prop) (EI : σ → Env) (HI : σ → Hp) (μ : σ → Nat) (x₀ : σ) (h₀ : I x₀) (hl : EnvLe (EI x₀) E) (hs : List.Sublist (HI x₀) h)
    (round : ∀ x, I x → XC P r N c (Th (fun E' D' h' => ∃ x', I x' ∧ μ x' < μ x ∧ EnvLe (EI x') E' ∧ D' = D ∧ List.Sublist (HI x') h') Q) (EI x) D (HI x)) :
    XC P r N (.loop c) Q E D h := by
  refine XC.weaken hl hs ?_
  intro w a ho ha hd
  refine wpIn_loop_ghost (fun x a' w' => I x ∧ Agree N (EI x) a' ∧ a'.defers = D ∧ Fol (HI x₀) w (HI x) w') μ ?_ x₀ a w ⟨h₀, ha, hd, .refl ho⟩
  rintro x a' w' ⟨hi, ha', hd', hf⟩
  refine wpIn_mono (round x hi w' a' hf.own ha' hd') ?_
  rintro e a2 w2 ⟨E2, h2, q, ha2, hf2⟩
  cases e with
  | normal =>
    obtain ⟨x', hi', hlt, hle, hd2, hsub⟩ := q
    exact ⟨x', ⟨hi', ha2.le hle, hd2, hf.trans (hf2.sub hsub)⟩, hlt⟩
  | _ => exact ⟨E2, h2, q, ha2, hf.trans hf2⟩
theorem xc_region {id : Nat} {ops : Array Oper} (H : XR P r N ops 0 Q E D h) : XC P r N (.region id ops false) Q E D h := by
  intro w a ho ha hd
  refine wpIn_region ?_
  have := H w a ho ha hd
  rwa [Nat.sub_zero, ← List.range_eq_range'] at this
theorem xr_end {ops : Array Oper} {i : Nat} (hi : Nat.ble ops.size i = true) (H : Q .normal E D h) : XR P r N ops i Q E D h := by
  intro w a ho ha hd
  have : ops.size - i = 0 := by have := Nat.le_of_ble_eq_true hi; omega
  rw [this]
  exact ⟨E, h, by rw [hd]; exact H, ha, .refl ho⟩
theorem range'_at {ops : Array Oper} {i : Nat} {o : Oper} (ho : ops[i]? = some o) : List.range' i (ops.size - i) = i :: List.range' (i + 1) (ops.size - (i + 1)) := by
  have := (Array.getElem?_eq_some_iff.1 ho).1
  obtain ⟨k, hk⟩ : ∃ k, ops.size - i = k + 1 := ⟨ops.size - i - 1, by omega⟩
  rw [hk, List.range'_succ, show ops.size - (i + 1) = k by omega]
def dstOk (N : Nat) : Option Nat → Bool
  | none => true
  | some d => Nat.blt d N
theorem dstOk_lt {d : Option Nat} (hd : dstOk N d = true) : ∀ k, d = some k → k < N := by
  rintro k rfl
  simp only [dstOk, Nat.blt] at hd
  exact Nat.le_of_ble_eq_true hd
theorem xrl_op {ops : Array Oper} {i : Nat} {l : List Nat} {o : Oper} (hi : ops[i]? = some o) (hw : ∀ a, Agree N E a → Region.wanted o (yielded ops a.tmps) = true) (hd : dstOk N o.dst = true)
    (H : XV P r o (fun v h' => XRL P r N ops l Q (E.put o.dst v) D h') (fun ch h' => Q (.panic ch) E D h') E h) : XRL P r N ops (i :: l) Q E D h := by
  intro w a ho ha hda
  simp only [wpOpsIn, hi]
  rw [if_pos (hw a ha)]
  refine H w a ho (fun x _ v hv => ha.ev hv) _ _ ?_ ?_
  · intro v h' w' hk hf
    have hda' : (a.put o.dst v).defers = D := by cases o.dst <;> exact hda
    exact wpOpsIn_mono (fun _ _ _ ⟨E2, h2, q, x, f2⟩ => ⟨E2, h2, q, x, hf.trans f2⟩) _ _ _ (hk w' _ hf.own (ha.put (dstOk_lt hd)) hda')
  · intro ch h' w' hk hf
    exact ⟨E, h', by rw [hda]; exact hk, ha, hf⟩
theorem xr_op {ops : Array Oper} {i : Nat} {dst : Option Nat} {op : Op} {ty : TypeId} {pos : String} {af : Array Edge} (hi : ops[i]? = some ⟨dst, op, ty, pos, af, none⟩) (hd : dstOk N dst = true)
    (H : XV P r ⟨dst, op, ty, pos, af, none⟩ (fun v h' => XR P r N ops (i + 1) Q (E.put dst v) D h') (fun ch h' => Q (.panic ch) E D h') E h) : XR P r N ops i Q E D h := by
  unfold XR
  rw [range'_at hi]
  exact xrl_op hi (fun _ _ => rfl) hd H
def gv (ops : Array Oper) (E : Env) (j : Nat) : Option Value := ((ops[j]?).bind (·.dst)).bind E
theorem gv_yielded {ops : Array Oper} {a : Act} {j : Nat} {t : Bool} (ha : Agree N E a) (hg : gv ops E j = some (.bool t)) : yielded ops a.tmps j = some t := by
  unfold gv at hg
  unfold yielded
  cases hd : (ops[j]?).bind (·.dst) with
  | none => rw [hd] at hg; cases hg
  | some d =>
    rw [hd] at hg
    have := ha.val d _ hg
    simp [this]
theorem xr_gd {ops : Array Oper} {i : Nat} {dst : Option Nat} {op : Op} {ty : TypeId} {pos : String} {af : Array Edge} {j : Nat} {t : Bool} (hi : ops[i]? = some ⟨dst, op, ty, pos, af, some (j, t)⟩) (hg : gv ops E j = some (.bool t)) (hd : dstOk N dst = true)
    (H : XV P r ⟨dst, op, ty, pos, af, some (j, t)⟩ (fun v h' => XR P r N ops (i + 1) Q (E.put dst v) D h') (fun ch h' => Q (.panic ch) E D h') E h) : XR P r N ops i Q E D h := by
  unfold XR
  rw [range'_at hi]
  exact xrl_op hi (fun a ha => by simp [Region.wanted, gv_yielded ha hg]) hd H
theorem xrl_no {ops : Array Oper} {i : Nat} {l : List Nat} {o : Oper} {j : Nat} {t u : Bool} (hi : ops[i]? = some o) (hgd : o.guard = some (j, t)) (hg : gv ops E j = some (.bool u)) (hne : (u == t) = false) (hd : dstOk N o.dst = true)
    (H : XRL P r N ops l Q (E.put o.dst undef) D h) : XRL P r N ops (i :: l) Q E D h := by
  intro w a ho ha hda
  simp only [wpOpsIn, hi]
  have hw : ¬ Region.wanted o (yielded ops a.tmps) = true := by
    simp only [Region.wanted, hgd, gv_yielded ha hg]
    cases u <;> cases t <;> simp_all
  rw [if_neg hw]
  refine ⟨fun _ _ => trivial, ?_⟩
  have hda' : (a.put o.dst undef).defers = D := by cases o.dst <;> exact hda
  exact H w _ ho (ha.put (dstOk_lt hd)) hda'
theorem xr_no {ops : Array Oper} {i : Nat} {dst : Option Nat} {op : Op} {ty : TypeId} {pos : String} {af : Array Edge} {j : Nat} {t u : Bool} (hi : ops[i]? = some ⟨dst, op, ty, pos, af, some (j, t)⟩) (hg : gv ops E j = some (.bool u)) (hne : (u == t) = false) (hd : dstOk N dst = true)
    (H : XR P r N ops (i + 1) Q (E.put dst undef) D h) : XR P r N ops i Q E D h := by
  unfold XR
  rw [range'_at hi]
  exact xrl_no hi rfl hg hne hd H
def plainOp (o : Op) : Prop := (∀ c, o ≠ .defer c) ∧ ∀ cs b, o ≠ .select cs b
theorem ops_rho {o : Oper} {a : Act} (hp : plainOp o.op) (ha : OpsAt E o a) : ∃ ρ : Operand → Value, (∀ x v, ev E x = some v → ρ x = v) ∧ execOp ρ o = execOp a.eval o := by
  refine ⟨fun x => (ev E x).getD (a.eval x), fun x v hv => by simp [hv], execOp_congr o hp.2 fun x hx => ?_⟩
  cases hv : ev E x with
  | none => simp
  | some v => simp only [Option.getD_some]; exact (ha x hx v hv).symm
theorem xv_of_run {o : Oper} {K : Value → Hp → Prop} {T : List PanicEntry → Hp → Prop} (hnd : plainOp o.op)
    (H : ∀ w ρ, Own h w → (∀ x v, ev E x = some v → ρ x = v) → ∃ v h' w', (execOp ρ o).run P w = .ok (.value v) w' ∧ K v h' ∧ Fol h w h' w') : XV P r o K T E h := by
  intro w a ho ha next Q hn _
  obtain ⟨ρ, he, hρ⟩ := ops_rho hnd ha
  obtain ⟨v, h', w', hr, hk, hf⟩ := H w ρ ho he
  refine ⟨fun _ _ => trivial, ?_⟩
  rw [Oper.semAt_eq _ _ _ hnd.1, ← hρ, hr]
  exact hn v h' w' hk hf
theorem xv_of_skip {o : Oper} {K : Value → Hp → Prop} {T : List PanicEntry → Hp → Prop} (hnd : plainOp o.op)
    (H : ∀ w ρ, Own h w → (∀ x v, ev E x = some v → ρ x = v) → ∃ h' w', (execOp ρ o).run P w = .ok .skip w' ∧ K undef h' ∧ Fol h w h' w') : XV P r o K T E h := by
  intro w a ho ha next Q hn _
  obtain ⟨ρ, he, hρ⟩ := ops_rho hnd ha
  obtain ⟨h', w', hr, hk, hf⟩ := H w ρ ho he
  refine ⟨fun _ _ => trivial, ?_⟩
  rw [Oper.semAt_eq _ _ _ hnd.1, ← hρ, hr]
  exact hn undef h' w' hk hf
theorem ACalls.mono {f : FuncId} {args : Array Value} {R R' : Ending → Hp → Prop} (H : ACalls P f args h R) (hr : ∀ e h', R e h' → R' e h') : ACalls P f args h R' :=
  fun w ho => (H w ho).mono fun _ _ ⟨h', q, x⟩ => ⟨h', hr _ _ q, x⟩
def Up (K : Value → Hp → Prop) (T : List PanicEntry → Hp → Prop) : Ending → Hp → Prop
  | .returned v, h => K v h
  | .panicked ch, h => T ch h
  | .outgrown, _ => False
theorem callsIn_fen {f : FuncId} {args : Array Value} {w : World} {R : Ending → World → Prop} {n : Nat} : CallsIn (fen r) n P f args w R ↔ Calls P f args w R := by
  have := callsIn_wide (n := n) (P := P) (f := f) (args := args) (w := w) (R := R)
  exact this
theorem xv_enter {o : Oper} {K : Value → Hp → Prop} {T : List PanicEntry → Hp → Prop} {f : FuncId} {args : Array Value} (hnd : plainOp o.op)
    (hr : ∀ w ρ, (∀ x v, ev E x = some v → ρ x = v) → (execOp ρ o).run P w = .ok (.enter f args) w) (H : ACalls P f args h (Up K T)) : XV P r o K T E h := by
  intro w a ho ha next Q hn hq
  obtain ⟨ρ, he, hρ⟩ := ops_rho hnd ha
  refine ⟨fun _ _ => trivial, ?_⟩
  rw [Oper.semAt_eq _ _ _ hnd.1, ← hρ, hr w ρ he]
  refine ⟨fun hh => by simp [fen, Fence.wide] at hh, callsIn_fen.2 ((H w ho).mono ?_)⟩
  rintro e w' ⟨h', q, hf⟩
  cases e with
  | returned v => exact hn v h' w' q hf
  | panicked ch => exact hq ch h' w' q hf
  | outgrown => exact q.elim
theorem XV.mono {o : Oper} {K K' : Value → Hp → Prop} {T T' : List PanicEntry → Hp → Prop} (H : XV P r o K T E h) (hk : ∀ v h', K v h' → K' v h') (ht : ∀ c h', T c h' → T' c h') : XV P r o K' T' E h :=
  fun w a ho ha next Q hn hq => H w a ho ha next Q (fun v h' w' k f => hn v h' w' (hk _ _ k) f) (fun c h' w' k f => hq c h' w' (ht _ _ k) f)
end Go.H

/-
  The rules on operations: one a kind of operation.
-/
namespace Go.H
open Go
variable {P : Program} {r : Option Nat} {N : Nat} {Q : Post} {E : Env} {D : List Deferred} {h : Hp}
variable {K : Value → Hp → Prop} {T : List PanicEntry → Hp → Prop} {dst : Option Nat} {ty : TypeId} {pos : String} {af : Array Edge} {gd : Option (Nat × Bool)}
structure TD where
  size : Nat
  bytes : Nat
  und : TypeDesc
  zero : Value
def TyOk (P : Program) (t : TypeId) (d : TD) : Prop := P.underlying t = some d.und ∧ (P.info? t).map (fun i => (i.size, i.bytes, i.zero)) = some (d.size, d.bytes, some d.zero)
theorem TyOk.info {t : TypeId} {d : TD} (H : TyOk P t d) : ∃ i, P.info? t = some i ∧ i.size = d.size ∧ i.bytes = d.bytes ∧ i.zero = some d.zero := by
  have := H.2
  cases hi : P.info? t with
  | none => simp [hi] at this
  | some i => simp [hi] at this; exact ⟨i, rfl, this⟩
theorem TyOk.run_size {t : TypeId} {d : TD} (H : TyOk P t d) (w : World) : (sizeOf t).run P w = .ok d.size w := by
  obtain ⟨i, hi, hs, _⟩ := H.info
  simp [sizeOf, typeInfo, hi, hs]
theorem TyOk.run_zero {t : TypeId} {d : TD} (H : TyOk P t d) (w : World) : (zeroValue t).run P w = .ok d.zero w := by
  obtain ⟨i, hi, _, _, hz⟩ := H.info
  simp [zeroValue, typeInfo, hi, hz]
theorem TyOk.run_und {t : TypeId} {d : TD} (H : TyOk P t d) (w : World) : (underlying t).run P w = .ok d.und w := run_underlying H.1 w
def aggB : TypeDesc → Bool
  | .struct _ | .array _ _ => true
  | _ => false
theorem TyOk.run_agg {t : TypeId} {d : TD} (H : TyOk P t d) (w : World) : (isAgg t).run P w = .ok (aggB d.und) w := by
  unfold isAgg
  simp only [Sem.run_bind, H.run_und, Result.andThen_ok]
  cases d.und <;> rfl
theorem wrap_i64 {n : Int} (h1 : -9223372036854775808 ≤ n) (h2 : n ≤ 9223372036854775807) : IntKind.i64.wrap n = n := by
  rw [IntKind.wrap_i64]; omega
theorem xv_move {x : Operand} {v : Value} (hx : ev E x = some v) (H : K v h) : XV P r ⟨dst, .move x, ty, pos, af, gd⟩ K T E h :=
  xv_of_run (by simp [plainOp]) fun w ρ ho he => ⟨v, h, w, by simp [execOp, he _ _ hx], H, .refl ho⟩
theorem xv_assign {x : Operand} {v : Value} (hx : ev E x = some v) (H : K v h) : XV P r ⟨dst, .assign x, ty, pos, af, gd⟩ K T E h :=
  xv_of_run (by simp [plainOp]) fun w ρ ho he => ⟨v, h, w, by simp [execOp, he _ _ hx], H, .refl ho⟩
theorem xv_pick {c x y : Operand} {t : Bool} {v : Value} (hc : ev E c = some (.bool t)) (hx : (if t then ev E x else ev E y) = some v) (H : K v h) : XV P r ⟨dst, .pick c x y, ty, pos, af, gd⟩ K T E h :=
  xv_of_run (by simp [plainOp]) fun w ρ ho he => ⟨v, h, w, by
    cases t with
    | true => simp [execOp, he _ _ hc, he _ _ hx, asBool]
    | false => simp [execOp, he _ _ hc, he _ _ hx, asBool], H, .refl ho⟩
theorem xv_nilp {x : Operand} {a : Addr} (hx : ev E x = some (.pointer (some a))) (H : K (.pointer (some a)) h) : XV P r ⟨dst, .nilCheck x, ty, pos, af, gd⟩ K T E h :=
  xv_of_run (by simp [plainOp]) fun w ρ ho he => ⟨_, h, w, by simp [execOp, he _ _ hx], H, .refl ho⟩
theorem run_bin {op : BinOp} {xt yt : TypeId} {x y : Operand} {ρ : Operand → Value} {u v : Value} {w : World} (hu : ρ x = u) (hv : ρ y = v) (hg : ∀ w, (eqGuard op xt x y u v).run P w = .ok () w) :
    (execOp ρ ⟨dst, .binOp op xt x y yt, ty, pos, af, gd⟩).run P w = ((binOp op xt u v).run P w).andThen fun z w' => .ok (.value z) w' := by
  simp [execOp, hu, hv, hg]
theorem eqGuard_int (op : BinOp) (t : TypeId) (x y : Operand) (k : IntKind) (a b : Int) (w : World) : (eqGuard op t x y (.int k a) (.int k b)).run P w = .ok () w := by
  unfold eqGuard; cases op <;> simp
theorem xv_add {xt yt : TypeId} {x y : Operand} {k : IntKind} {a b : Int} {c : Int} (hx : ev E x = some (.int k a)) (hy : ev E y = some (.int k b)) (hc : k.wrap (a + b) = c) (H : K (.int k c) h) : XV P r ⟨dst, .binOp .add xt x y yt, ty, pos, af, gd⟩ K T E h :=
  xv_of_run (by simp [plainOp]) fun w ρ ho he => ⟨_, h, w, by rw [run_bin (he _ _ hx) (he _ _ hy) (eqGuard_int _ _ _ _ _ _ _)]; simp [binOp, Op.intArith, hc], H, .refl ho⟩
theorem xv_sub {xt yt : TypeId} {x y : Operand} {k : IntKind} {a b : Int} {c : Int} (hx : ev E x = some (.int k a)) (hy : ev E y = some (.int k b)) (hc : k.wrap (a - b) = c) (H : K (.int k c) h) : XV P r ⟨dst, .binOp .sub xt x y yt, ty, pos, af, gd⟩ K T E h :=
  xv_of_run (by simp [plainOp]) fun w ρ ho he => ⟨_, h, w, by rw [run_bin (he _ _ hx) (he _ _ hy) (eqGuard_int _ _ _ _ _ _ _)]; simp [binOp, Op.intArith, hc], H, .refl ho⟩
theorem xv_mul {xt yt : TypeId} {x y : Operand} {k : IntKind} {a b : Int} {c : Int} (hx : ev E x = some (.int k a)) (hy : ev E y = some (.int k b)) (hc : k.wrap (a * b) = c) (H : K (.int k c) h) : XV P r ⟨dst, .binOp .mul xt x y yt, ty, pos, af, gd⟩ K T E h :=
  xv_of_run (by simp [plainOp]) fun w ρ ho he => ⟨_, h, w, by rw [run_bin (he _ _ hx) (he _ _ hy) (eqGuard_int _ _ _ _ _ _ _)]; simp [binOp, Op.intArith, hc], H, .refl ho⟩
theorem xv_quo {xt yt : TypeId} {x y : Operand} {k : IntKind} {a b : Int} {c : Int} (hx : ev E x = some (.int k a)) (hy : ev E y = some (.int k b)) (hb : b ≠ 0) (hc : k.wrap (a.tdiv b) = c) (H : K (.int k c) h) : XV P r ⟨dst, .binOp .quo xt x y yt, ty, pos, af, gd⟩ K T E h :=
  xv_of_run (by simp [plainOp]) fun w ρ ho he => ⟨_, h, w, by rw [run_bin (he _ _ hx) (he _ _ hy) (eqGuard_int _ _ _ _ _ _ _)]; simp [binOp, Op.intDiv, hb, hc], H, .refl ho⟩
def cmpB (op : BinOp) (a b : Int) : Option Bool :=
  match op with
  | .eql => some (a == b)
  | .neq => some (a != b)
  | .lss => some (decide (a < b))
  | .leq => some (decide (a ≤ b))
  | .gtr => some (decide (b < a))
  | .geq => some (decide (b ≤ a))
  | _ => none
theorem xv_cmp {op : BinOp} {xt yt : TypeId} {x y : Operand} {k : IntKind} {a b : Int} {c : Bool} (hx : ev E x = some (.int k a)) (hy : ev E y = some (.int k b)) (hc : cmpB op a b = some c) (H : K (.bool c) h) : XV P r ⟨dst, .binOp op xt x y yt, ty, pos, af, gd⟩ K T E h :=
  xv_of_run (by simp [plainOp]) fun w ρ ho he => ⟨_, h, w, by
    rw [run_bin (he _ _ hx) (he _ _ hy) (eqGuard_int _ _ _ _ _ _ _)]
    cases op <;> simp [cmpB] at hc <;> subst hc <;> simp [binOp, Op.intCmp], H, .refl ho⟩
def cmpP (op : BinOp) (a b : Int) : Prop :=
  match op with
  | .eql => a = b
  | .neq => a ≠ b
  | .lss => a < b
  | .leq => a ≤ b
  | .gtr => b < a
  | .geq => b ≤ a
  | _ => False
theorem xv_cmp2 {op : BinOp} {xt yt : TypeId} {x y : Operand} {k : IntKind} {a b : Int} {c : Bool} (hx : ev E x = some (.int k a)) (hy : ev E y = some (.int k b)) (hc : cmpB op a b = some c)
    (H1 : cmpP op a b → K (.bool true) h) (H2 : ¬ cmpP op a b → K (.bool false) h) : XV P r ⟨dst, .binOp op xt x y yt, ty, pos, af, gd⟩ K T E h := by
  have hq : c = true ↔ cmpP op a b := by cases op <;> simp [cmpB] at hc <;> subst hc <;> simp [cmpP]
  refine xv_cmp hx hy hc ?_
  cases c with
  | true => exact H1 (hq.1 rfl)
  | false => exact H2 fun hh => by simpa using hq.2 hh
theorem xv_not {xt : TypeId} {x : Operand} {t : Bool} (hx : ev E x = some (.bool t)) (H : K (.bool (!t)) h) : XV P r ⟨dst, .unOp .not xt x, ty, pos, af, gd⟩ K T E h :=
  xv_of_run (by simp [plainOp]) fun w ρ ho he => ⟨_, h, w, by simp [execOp, he _ _ hx, Op.unary], H, .refl ho⟩
def evs (E : Env) : List Operand → Option (List Value)
  | [] => some []
  | x :: xs => match ev E x, evs E xs with
    | some v, some vs => some (v :: vs)
    | _, _ => none
theorem evs_map {ρ : Operand → Value} (he : ∀ x v, ev E x = some v → ρ x = v) : ∀ (l : List Operand) (vs : List Value), evs E l = some vs → l.map ρ = vs
  | [], _, hh => by cases hh; rfl
  | x :: xs, _, hh => by
    simp only [evs] at hh
    cases h1 : ev E x with
    | none => simp [h1] at hh
    | some v =>
      cases h2 : evs E xs with
      | none => simp [h1, h2] at hh
      | some vs => simp [h1, h2] at hh; subst hh; simp [he _ _ h1, evs_map he xs vs h2]
theorem evs_arr {ρ : Operand → Value} (he : ∀ x v, ev E x = some v → ρ x = v) {l : Array Operand} {vs : List Value} (hh : evs E l.toList = some vs) : l.map ρ = vs.toArray := by
  have := evs_map he _ _ hh
  apply Array.ext'
  simp [this]
theorem xv_func {fn : Fn} {fi ca : Array Operand} {vs us : List Value} (h1 : evs E fi.toList = some vs) (h2 : evs E ca.toList = some us) (H : K (.func fn ⟨vs⟩ ⟨us⟩) h) : XV P r ⟨dst, .makeFunc fn fi ca, ty, pos, af, gd⟩ K T E h :=
  xv_of_run (by simp [plainOp]) fun w ρ ho he => ⟨_, h, w, by simp [execOp, Instr.makeFunc, evs_arr he h1, evs_arr he h2], H, .refl ho⟩
theorem xv_extract {x : Operand} {i : Nat} {l : List Value} {v : Value} (hx : ev E x = some (.tuple ⟨l⟩)) (hl : l[i]? = some v) (H : K v h) : XV P r ⟨dst, .extract x i, ty, pos, af, gd⟩ K T E h :=
  xv_of_run (by simp [plainOp]) fun w ρ ho he => ⟨v, h, w, by simp [execOp, he _ _ hx, Instr.extract, hl], H, .refl ho⟩
def FldOk (P : Program) (t : TypeId) (i off size : Nat) (agg : Bool) : Prop :=
  ∃ fields f, P.underlying t = some (.struct fields) ∧ fields[i]? = some f ∧ f.offset = off ∧ (∃ d, TyOk P f.type d ∧ d.size = size ∧ aggB d.und = agg)
theorem xv_faddr {t : TypeId} {x : Operand} {i off size b o : Nat} {agg : Bool} (hf : FldOk P t i off (size + 1) agg) (hx : ev E x = some (.pointer (some ⟨b, o, none⟩))) (H : K (.pointer (some ⟨b, o + off, none⟩)) h) : XV P r ⟨dst, .fieldAddr t x i, ty, pos, af, gd⟩ K T E h :=
  xv_of_run (by simp [plainOp]) fun w ρ ho he => ⟨_, h, w, by
    obtain ⟨fields, f, hu, hfi, rfl, d, hd, hs, _⟩ := hf
    have : (⟨b, o, none⟩ : Addr).add f.offset = ⟨b, o + f.offset, none⟩ := by unfold Addr.add; split <;> simp_all
    simp [execOp, he _ _ hx, Instr.fieldAt, run_underlying hu, hfi, Instr.sureAddr, fieldPlace, hd.run_size, hs, this], H, .refl ho⟩
theorem xv_field1 {t : TypeId} {x : Operand} {i off size : Nat} {l : List Value} {v : Value} (hf : FldOk P t i off size false) (hx : ev E x = some (.agg ⟨l⟩)) (hl : l[off]? = some v) (H : K v h) : XV P r ⟨dst, .field t x i, ty, pos, af, gd⟩ K T E h :=
  xv_of_run (by simp [plainOp]) fun w ρ ho he => ⟨v, h, w, by
    obtain ⟨fields, f, hu, hfi, rfl, d, hd, hs, hag⟩ := hf
    simp [execOp, he _ _ hx, Instr.field, run_underlying hu, hfi, asAgg, part, hd.run_agg, hag, hl], H, .refl ho⟩
theorem xv_box {t : TypeId} {x : Operand} {v : Value} (hx : ev E x = some v) (H : ∀ b, b ∉ keys h → K (.pointer (some ⟨b, 0, none⟩)) ((b, .cells v.cells t) :: h)) : XV P r ⟨dst, .box t x, ty, pos, af, gd⟩ K T E h :=
  xv_of_run (by simp [plainOp]) fun w ρ ho he => ⟨_, _, w.alloc (.cells v.cells t), by simp [execOp, he _ _ hx, Instr.box, newVar, newRow], H w.heap.size fun hc => Nat.lt_irrefl _ (ho.lt hc), .alloc ho _⟩
theorem xv_alloc {t : TypeId} {d : TD} (ht : TyOk P t d) (H : ∀ b, b ∉ keys h → K (.pointer (some ⟨b, 0, none⟩)) ((b, .cells d.zero.cells t) :: h)) : XV P r ⟨dst, .alloc t, ty, pos, af, gd⟩ K T E h :=
  xv_of_run (by simp [plainOp]) fun w ρ ho he => ⟨_, _, w.alloc (.cells d.zero.cells t), by simp [execOp, Instr.alloc, ht.run_zero, newVar, newRow], H w.heap.size fun hc => Nat.lt_irrefl _ (ho.lt hc), .alloc ho _⟩
theorem xv_makeMap {t : TypeId} (H : ∀ b, b ∉ keys h → K (.map (some b)) ((b, .map #[] 0) :: h)) : XV P r ⟨dst, .makeMap t none, ty, pos, af, gd⟩ K T E h :=
  xv_of_run (by simp [plainOp]) fun w ρ ho he => ⟨_, _, w.alloc (.map #[] 0), by simp [execOp, Instr.makeMap], H w.heap.size fun hc => Nat.lt_irrefl _ (ho.lt hc), .alloc ho _⟩
theorem cell_of {w : World} {b o : Nat} {l : List Value} {t : TypeId} {fz : Nat × Nat} (ho : Own h w) (hm : (b, .cells ⟨l⟩ t fz) ∈ h) : w.cell? ⟨b, o, none⟩ = l[o]? := by
  simp [World.cell?, ho.has _ _ hm]
theorem xv_load1 {t : TypeId} {x : Operand} {b o : Nat} {l : List Value} {t' : TypeId} {fz : Nat × Nat} {v : Value} {d : TD} (ht : TyOk P t d) (ha : aggB d.und = false) (hx : ev E x = some (.pointer (some ⟨b, o, none⟩)))
    (hm : (b, .cells ⟨l⟩ t' fz) ∈ h) (hl : l[o]? = some v) (H : K v h) : XV P r ⟨dst, .load t x, ty, pos, af, gd⟩ K T E h :=
  xv_of_run (by simp [plainOp]) fun w ρ ho he => ⟨v, h, w, by simp [execOp, he _ _ hx, Instr.loadAt, loadVar, Instr.sureAddr, ht.run_agg, ha, cell_of ho hm, hl], H, .refl ho⟩
theorem xv_loadA {t : TypeId} {x : Operand} {b o : Nat} {l : List Value} {t' : TypeId} {fz : Nat × Nat} {l' : List Value} {d : TD} (ht : TyOk P t d) (ha : aggB d.und = true) (hx : ev E x = some (.pointer (some ⟨b, o, none⟩)))
    (hm : (b, .cells ⟨l⟩ t' fz) ∈ h) (hl : (l.drop o).take d.size = l') (hn : l'.length = d.size) (H : K (.agg ⟨l'⟩) h) : XV P r ⟨dst, .load t x, ty, pos, af, gd⟩ K T E h :=
  xv_of_run (by simp [plainOp]) fun w ρ ho he => ⟨_, h, w, by
    have hc : ∀ j v, l'[j]? = some v → w.cell? ((⟨b, o, none⟩ : Addr).add j) = some v := by
      intro j v hv
      have e : (⟨b, o, none⟩ : Addr).add j = ⟨b, o + j, none⟩ := by unfold Addr.add; split <;> simp_all
      have hj : j < d.size := by rw [← hn]; exact (List.getElem?_eq_some_iff.1 hv).1
      rw [e, cell_of ho hm]
      rw [← hl, List.getElem?_take_of_lt hj, List.getElem?_drop] at hv
      exact hv
    have := run_loadCells_list (P := P) w ⟨b, o, none⟩ l' hc
    rw [hn] at this
    simp [execOp, he _ _ hx, Instr.loadAt, loadVar, Instr.sureAddr, ht.run_agg, ha, ht.run_size, this], H, .refl ho⟩
def splice (l : List Value) (o : Nat) (vs : List Value) : List Value := l.take o ++ vs ++ l.drop (o + vs.length)
theorem fol_row {w : World} {b : Nat} {l : List Value} {t : TypeId} {fz : Nat × Nat} (ho : Own h w) (hm : (b, .cells ⟨l⟩ t fz) ∈ h) (l' : List Value) : Fol h w (setH h b (.cells ⟨l'⟩ t fz)) (w.setRow b ⟨l'⟩) := by
  have hb := ho.has _ _ hm
  have hlt := (Array.getElem?_eq_some_iff.1 hb).1
  refine Fol.set ho hm ?_ (fun k hk => ?_) (by simp [World.setRow]) rfl rfl rfl
  · simp only [World.setRow, Array.getElem?_modify, if_true]
    rw [hb]; rfl
  · simp only [World.setRow, Array.getElem?_modify]
    rw [if_neg (fun e => hk e.symm)]
theorem xv_store {t : TypeId} {x y : Operand} {b o : Nat} {l : List Value} {t' : TypeId} {v : Value} {d : TD} (ht : TyOk P t d) (hx : ev E x = some (.pointer (some ⟨b, o, none⟩))) (hy : ev E y = some v)
    (hm : (b, .cells ⟨l⟩ t' (0, 0)) ∈ h) (hn : v.cells.size = d.size) (hr : o + d.size ≤ l.length) (h1 : v.cells.toList.all Value.oneCell' = true)
    (H : K undef (setH h b (.cells ⟨splice l o v.cells.toList⟩ t' (0, 0)))) : XV P r ⟨dst, .store t x y, ty, pos, af, gd⟩ K T E h :=
  xv_of_skip (by simp [plainOp]) fun w ρ ho he => ⟨_, _, by
    have hg := ho.has _ _ hm
    have hs := run_storeCells_at (P := P) b o t' v.cells.toList 0 ⟨l⟩ w hg (by simp; omega) (List.all_eq_true.1 h1)
    simp only [Nat.add_zero] at hs
    have h2 : (storeVar t ⟨b, o, none⟩ v).run P w = .ok () (w.setRow b ⟨splice l o v.cells.toList⟩) := by
      simp only [storeVar, Sem.run_bind, ht.run_size, Result.andThen_ok, hn, ne_eq, not_true_eq_false, if_false, Sem.run_ite]
      rw [show (storeCells ⟨b, o, none⟩ v.cells.toList).run P w = _ from hs]
      rfl
    simp only [execOp, he _ _ hx, he _ _ hy, Instr.storeAt, Instr.sureAddr, Sem.run_bind, Sem.run_pure, Result.andThen_ok, h2], H, fol_row ho hm _⟩
theorem splice_one {l : List Value} {o : Nat} {v : Value} (ho : o < l.length) : splice l o [v] = l.set o v := by
  unfold splice
  rw [List.set_eq_take_append_cons_drop, if_pos ho]
  simp
theorem xv_store1 {t : TypeId} {x y : Operand} {b o : Nat} {l : List Value} {t' : TypeId} {v : Value} {d : TD} (ht : TyOk P t d) (hd : d.size = 1) (hx : ev E x = some (.pointer (some ⟨b, o, none⟩))) (hy : ev E y = some v)
    (hm : (b, .cells ⟨l⟩ t' (0, 0)) ∈ h) (h1 : v.oneCell' = true) (hr : o < l.length)
    (H : K undef (setH h b (.cells ⟨l.set o v⟩ t' (0, 0)))) : XV P r ⟨dst, .store t x y, ty, pos, af, gd⟩ K T E h := by
  have hc : v.cells = #[v] := by cases v <;> simp [Value.oneCell'] at h1 <;> rfl
  refine xv_store ht hx hy hm (by rw [hc, hd]; rfl) (by omega) (by simp [hc, h1]) ?_
  rw [hc]
  show K undef (setH h b (.cells ⟨splice l o [v]⟩ t' (0, 0)))
  rw [splice_one hr]
  exact H
end Go.H

/-
  Calls, entry and return of a function, ranges over functions.
-/
namespace Go.H
open Go
variable {P : Program} {r : Option Nat} {N : Nat} {Q : Post} {E : Env} {D : List Deferred} {h : Hp}
variable {K : Value → Hp → Prop} {T : List PanicEntry → Hp → Prop} {dst : Option Nat} {ty : TypeId} {pos : String} {af : Array Edge} {gd : Option (Nat × Bool)}
def HasBody (P : Program) (f : FuncId) : Prop := ∀ args w, (callFunc f args).run P w = .ok (.enter f args) w
theorem resolve_value {ρ : Operand → Value} {c : Operand} {fn : Fn} {fi ca : Array Value} {args : Array Operand} {at_ : Array TypeId} {t : TypeId} {w : World} (hc : ρ c = .func fn fi ca) :
    (resolve ρ ⟨.value c, args, at_⟩ t).run P w = .ok { target := .fn fn ca, args := fi ++ args.map ρ } w := by
  simp [resolve, Deferred.ofValue, hc]
theorem xv_call {c : Operand} {g : FuncId} {fi ca vs : List Value} {args : Array Operand} {at_ : Array TypeId} {az : Array Value} (hc : ev E c = some (.func (.func g) ⟨fi⟩ ⟨ca⟩)) (ha : evs E args.toList = some vs) (hb : HasBody P g)
    (has : (⟨fi ++ vs ++ ca⟩ : Array Value) = az) (H : ACalls P g az h (Up K T)) : XV P r ⟨dst, .call ⟨.value c, args, at_⟩, ty, pos, af, gd⟩ K T E h := by
  refine xv_enter (by simp [plainOp]) (fun w ρ he => ?_) H
  have hr := resolve_value (P := P) (args := args) (at_ := at_) (t := ty) (w := w) (he _ _ hc)
  have hm := evs_arr he ha
  subst has
  simpa [execOp, hr, invoke, hm] using hb _ w
theorem xv_calls {g : FuncId} {vs : List Value} {args : Array Operand} {at_ : Array TypeId} (ha : evs E args.toList = some vs) (hb : HasBody P g)
    (H : ACalls P g ⟨vs⟩ h (Up K T)) : XV P r ⟨dst, .call ⟨.value (.func g), args, at_⟩, ty, pos, af, gd⟩ K T E h :=
  xv_call (fi := []) (ca := []) rfl ha hb (by simp) H
def ofL (l : List Value) : Env := fun t => l[t]?
theorem agree_ofL (vs : List Value) (k : Nat) : Agree (vs.length + k) (ofL vs) { tmps := ⟨vs⟩ ++ Array.replicate k undef, defers := [] } := by
  refine ⟨by simp, fun t v hv => ?_⟩
  have hlt : t < vs.length := (List.getElem?_eq_some_iff.1 hv).1
  simp only [ofL] at hv
  rw [Array.getElem?_append_left (by simpa using hlt)]
  simpa using hv
def ResOk (P : Program) (E : Env) (h : Hp) : List ResultVar → List Value → Prop
  | [], vs => vs = []
  | .tmp t :: rs, vs => ∃ v vs', vs = v :: vs' ∧ E t = some v ∧ ResOk P E h rs vs'
  | .cell a t :: rs, vs => ∃ v vs', vs = v :: vs' ∧ (∃ b o l t' fz d, E a = some (.pointer (some ⟨b, o, none⟩)) ∧ (b, .cells ⟨l⟩ t' fz) ∈ h ∧ TyOk P t d ∧
      ((aggB d.und = false ∧ l[o]? = some v) ∨ (aggB d.und = true ∧ ∃ l', (l.drop o).take d.size = l' ∧ l'.length = d.size ∧ v = .agg ⟨l'⟩))) ∧ ResOk P E h rs vs'
def tupV : List Value → Value
  | [v] => v
  | vs => .tuple ⟨vs⟩
theorem run_loadVarH {w : World} {b o : Nat} {l : List Value} {t t' : TypeId} {fz : Nat × Nat} {d : TD} {v : Value} (hb : w.heap[b]? = some (.cells ⟨l⟩ t' fz)) (ht : TyOk P t d)
    (hv : (aggB d.und = false ∧ l[o]? = some v) ∨ (aggB d.und = true ∧ ∃ l', (l.drop o).take d.size = l' ∧ l'.length = d.size ∧ v = .agg ⟨l'⟩)) : (loadVar t ⟨b, o, none⟩).run P w = .ok v w := by
  have hcell : ∀ o, w.cell? ⟨b, o, none⟩ = l[o]? := fun o => by simp [World.cell?, hb]
  rcases hv with ⟨ha, hv⟩ | ⟨ha, l', hl, hn, rfl⟩
  · simp [loadVar, ht.run_agg, ha, hcell, hv]
  · have hc : ∀ j v, l'[j]? = some v → w.cell? ((⟨b, o, none⟩ : Addr).add j) = some v := by
      intro j v hv
      have e : (⟨b, o, none⟩ : Addr).add j = ⟨b, o + j, none⟩ := by unfold Addr.add; split <;> simp_all
      have hj : j < d.size := by rw [← hn]; exact (List.getElem?_eq_some_iff.1 hv).1
      rw [e, hcell]
      rw [← hl, List.getElem?_take_of_lt hj, List.getElem?_drop] at hv
      exact hv
    have := run_loadCells_list (P := P) w ⟨b, o, none⟩ l' hc
    rw [hn] at this
    simp [loadVar, ht.run_agg, ha, ht.run_size, this]
def resRun (tmps : Array Value) : ResultVar → Sem Value
  | .tmp t => pure (tmps.getD t undef)
  | .cell a t => do loadVar t (← asAddr (tmps.getD a undef))
theorem ResOk.run {w : World} {tmps : Array Value} {a : Act} (ha : Agree N E a) (htm : a.tmps = tmps) (hw : ∀ b l t fz, (b, .cells l t fz) ∈ h → w.heap[b]? = some (.cells l t fz)) : ∀ (rs : List ResultVar) (vs : List Value), ResOk P E h rs vs →
    (rs.mapM (resRun tmps)).run P w = .ok vs w
  | [], vs, hh => by cases hh; simp
  | .tmp t :: rs, vs, hh => by
    obtain ⟨v, vs', rfl, hv, hrest⟩ := hh
    have h1 := ha.val t v hv
    rw [htm] at h1
    have ih := ResOk.run ha htm hw rs vs' hrest
    simp only [List.mapM_cons, Sem.run_bind, resRun, Sem.run_pure, Result.andThen_ok, ih]
    simp [h1]
  | .cell b t :: rs, vs, hh => by
    obtain ⟨v, vs', rfl, ⟨blk, o, l, t', fz, d, hp, hm, ht, hv⟩, hrest⟩ := hh
    have h1 := ha.val b _ hp
    rw [htm] at h1
    have ih := ResOk.run ha htm hw rs vs' hrest
    have hl := run_loadVarH (P := P) (hw _ _ _ _ hm) ht hv
    simp only [List.mapM_cons, Sem.run_bind, resRun, Sem.run_pure, Result.andThen_ok]
    simp [h1, asAddr, hl, ih]
def Marks (h : Hp) : List Deferred → Prop
  | [] => True
  | d :: ds => (∃ k, d.target = .collected k ∧ (k, .deferred (some [])) ∈ h ∧ ∀ d' ∈ ds, d'.target ≠ .collected k) ∧ Marks h ds
def marked : List Deferred → List Nat
  | [] => []
  | d :: ds => (match d.target with | .collected k => [k] | _ => []) ++ marked ds
def BodyQ (P : Program) (fn : Func) (R : Ending → Hp → Prop) : Post
  | .normal, E, D, h | .ret, E, D, h => Marks h D ∧ ∃ vs h', ResOk P E h fn.results.toList vs ∧ List.Sublist h' h ∧ (∀ k ∈ marked D, k ∉ keys h') ∧ R (.returned (tupV vs)) h'
  | .panic ch, _, D, h => D = [] ∧ R (.panicked ch) h
  | _, _, _, _ => False
theorem results_run {fn : Func} {tmps : Array Value} {w : World} {vs : List Value}
    (hh : (fn.results.toList.mapM (resRun tmps)).run P w = .ok vs w) : (results fn tmps).run P w = .ok (tupV vs) w := by
  have e : results fn tmps = (do
      let vs ← fn.results.mapM (resRun tmps)
      pure (if h : vs.size = 1 then vs[0] else .tuple vs)) := rfl
  rw [e, Array.mapM_eq_mapM_toList]
  simp only [Sem.run_bind, Sem.run_map, hh, Result.andThen_ok, Sem.run_pure]
  match vs with
  | [] => rfl
  | [v] => rfl
  | v :: u :: vs => rfl
theorem leavesM {fn : Func} {R : Ending → World → Prop} {a : Act} {vs : List Value} {h0 h' : Hp} {w0 : World} {R' : Ending → Hp → Prop} (ha : Agree N E a) (hres : ResOk P E h fn.results.toList vs)
    (hR : R' (.returned (tupV vs)) h') (hRR : ∀ e h1 w1, R' e h1 → Fol h0 w0 h1 w1 → R e w1) (hsub : List.Sublist h' h) : ∀ (ds : List Deferred) (w : World),
    Marks h ds → (∀ k ∈ marked ds, k ∉ keys h') → (keys h).Nodup → (∀ b l t fz, (b, .cells l t fz) ∈ h → w.heap[b]? = some (.cells l t fz)) → (∀ k, .collected k ∈ ds.map (·.target) → w.heap[k]? = some (.deferred (some []))) → 
    Fol h0 w0 h' w → (∀ k, .collected k ∈ ds.map (·.target) → w0.heap.size ≤ k ∨ k ∈ keys h0) → LeavesInM (fen none) 0 P fn a.tmps R ds .returning w
  | [], w, _, _, _, hw, _, hf, _ => by
    refine ⟨tupV vs, results_run (hres.run ha rfl hw), hRR _ h' w hR hf⟩
  | d :: ds, w, hm, hk, hnd, hw, hd, hf, hnew => by
    obtain ⟨⟨k, hkt, hkm, hne⟩, hm'⟩ := hm
    have hdk := hd k (by simp [hkt])
    have hkk : k ∉ keys h' := hk k (by simp [marked, hkt])
    refine ⟨by simp, .inl ⟨k, _, hkt, run_takeDeferred hdk, ?_⟩⟩
    have hsize : (w.putObj k (.deferred none)).heap.size = w.heap.size := by simp
    refine leavesM ha hres hR hRR hsub ds _ hm' (fun x hx => hk x (by simp only [marked]; exact List.mem_append_right _ hx)) hnd ?_ ?_ ?_ ?_
    · intro b l t fz hb
      have : b ≠ k := by
        rintro rfl
        have h1 := hw _ _ _ _ hb
        rw [hdk] at h1; cases h1
      rw [World.putObj_heap_other this]; exact hw _ _ _ _ hb
    · intro k' hk'
      have : k' ≠ k := by
        rintro rfl
        obtain ⟨d', hd', e⟩ := List.mem_map.1 hk'
        exact hne d' hd' e
      rw [World.putObj_heap_other this]
      exact hd k' (by simp only [List.map_cons]; exact List.mem_cons_of_mem _ hk')
    · refine ⟨⟨hf.own.nd, fun b o hb => ?_⟩, hf.os, hf.tape, hf.output, by rw [hsize]; exact hf.size, fun b hb hn => ⟨(hf.rest b hb hn).1, ?_⟩⟩
      · have : b ≠ k := by rintro rfl; exact hkk (List.mem_map.2 ⟨_, hb, rfl⟩)
        rw [World.putObj_heap_other this]; exact hf.own.has b o hb
      · have : b ≠ k := by
          rintro rfl
          rcases hnew b (by simp [hkt]) with h1 | h1
          · omega
          · exact hn h1
        rw [World.putObj_heap_other this]; exact (hf.rest b hb hn).2
    · exact fun k' hk' => hnew k' (by simp only [List.map_cons]; exact List.mem_cons_of_mem _ hk')
theorem marks_mem : ∀ {ds : List Deferred}, Marks h ds → ∀ k, .collected k ∈ ds.map (·.target) → (k, .deferred (some [])) ∈ h
  | [], _, k, hk => by cases hk
  | d :: ds, hm, k, hk => by
    rcases List.mem_cons.1 hk with e | hk
    · obtain ⟨k', h1, h2, _⟩ := hm.1
      simp only [h1, Target.collected.injEq] at e; subst e; exact h2
    · exact marks_mem hm.2 k hk
theorem calls_of_xc {f : FuncId} {fn : Func} {c : Code} {vs : List Value} {R : Ending → Hp → Prop} (hf : P.funcs[f]? = some fn) (hb : fn.body = some c) (hN : N = vs.length + (fn.ntmps - vs.length))
    (H : XC P none N c (BodyQ P fn R) (ofL vs) [] h) : ACalls P f ⟨vs⟩ h R := by
  intro w ho
  have hA := agree_ofL vs (fn.ntmps - vs.length)
  rw [← hN] at hA
  refine (callsIn_fen (r := none) (n := 0)).1 (callsIn_of_wp_marks hf hb trivial (wpIn_mono (H w _ ho hA rfl) ?_) rfl)
  rintro e a' w' ⟨E', h', q, ha', hfol⟩
  have key : (Marks h' a'.defers ∧ ∃ vs h2, ResOk P E' h' fn.results.toList vs ∧ List.Sublist h2 h' ∧ (∀ k ∈ marked a'.defers, k ∉ keys h2) ∧ R (.returned (tupV vs)) h2) → 
      LeavesInM (fen none) 0 P fn a'.tmps (fun e w' => ∃ h', R e h' ∧ Fol h w h' w') a'.defers .returning w' := by
    rintro ⟨hm, vs, h2, hres, hsub, hmk, hR⟩
    refine leavesM (R' := R) (h0 := h) (w0 := w) ha' hres hR (fun e h1 w1 a b => ⟨h1, a, b⟩) hsub a'.defers w' hm hmk hfol.own.nd (fun b l t fz hb => hfol.own.has _ _ hb) (fun k hk => hfol.own.has _ _ (marks_mem hm k hk)) (hfol.sub hsub) ?_
    intro k hk
    have hkm := marks_mem hm k hk
    by_cases hlt : k < w.heap.size
    · refine .inr (Classical.byContradiction fun hn => (hfol.rest k hlt hn).1 (List.mem_map.2 ⟨_, hkm, rfl⟩))
    · exact .inl (by omega)
  cases e with
  | normal => exact key q
  | ret => exact key q
  | panic ch =>
    obtain ⟨hd, hR⟩ := q
    show LeavesInM _ _ _ _ _ _ a'.defers _ _
    rw [hd]
    exact ⟨h', hR, hfol⟩
  | exit id => exact q.elim
  | goto l => exact q.elim
  | outgrown => exact q.elim
end Go.H

/-
  Rules on operations, more: stores by the block's place in the list, builtins, slices, maps, strings.
-/
namespace Go.H
open Go
variable {P : Program} {r : Option Nat} {N : Nat} {Q : Post} {E : Env} {D : List Deferred} {h h' : Hp}
variable {K : Value → Hp → Prop} {T : List PanicEntry → Hp → Prop} {dst : Option Nat} {ty : TypeId} {pos : String} {af : Array Edge} {gd : Option (Nat × Bool)}
inductive Upd : Hp → Nat → Obj → Obj → Hp → Prop
  | here {b : Nat} {o o' : Obj} {h : Hp} : Upd ((b, o) :: h) b o o' ((b, o') :: h)
  | there {x : Nat × Obj} {b : Nat} {o o' : Obj} {h h' : Hp} : Upd h b o o' h' → Upd (x :: h) b o o' (x :: h')
theorem Upd.mem {b : Nat} {o o' : Obj} (H : Upd h b o o' h') : (b, o) ∈ h := by
  induction H with
  | here => exact List.mem_cons_self
  | there _ ih => exact List.mem_cons_of_mem _ ih
theorem Upd.set {b : Nat} {o o' : Obj} (H : Upd h b o o' h') : (keys h).Nodup → setH h b o' = h' := by
  induction H with
  | here => intro _; simp [setH]
  | @there x b o o' h h' H ih =>
    intro hn
    obtain ⟨c, oc⟩ := x
    have hn' : c ∉ keys h ∧ (keys h).Nodup := List.nodup_cons.1 hn
    have hne : ¬ c = b := fun e => hn'.1 (by subst e; exact List.mem_map.2 ⟨_, H.mem, rfl⟩)
    simp only [setH, if_neg hne, ih hn'.2]
theorem Upd.append {b : Nat} {o o' : Obj} {f : Hp} (H : Upd h b o o' h') : Upd (h ++ f) b o o' (h' ++ f) := by
  induction H with
  | here => exact .here
  | there _ ih => exact .there ih
theorem Upd.left {b : Nat} {o o' : Obj} (f : Hp) (H : Upd h b o o' h') : Upd (f ++ h) b o o' (f ++ h') := by
  induction f with
  | nil => exact H
  | cons x f ih => exact .there ih
theorem xv_st {t : TypeId} {x y : Operand} {b o : Nat} {l l' vs : List Value} {t' : TypeId} {v : Value} {d : TD} (ht : TyOk P t d) (hx : ev E x = some (.pointer (some ⟨b, o, none⟩))) (hy : ev E y = some v) (hv : v.cells.toList = vs)
    (hn : vs.length = d.size) (h1 : vs.all Value.oneCell' = true) (hl : splice l o vs = l') (hr : Nat.ble (o + d.size) l.length = true)
    (hm : Upd h b (.cells ⟨l⟩ t' (0, 0)) (.cells ⟨l'⟩ t' (0, 0)) h') (H : K undef h') : XV P r ⟨dst, .store t x y, ty, pos, af, gd⟩ K T E h := by
  intro w a ho ha next Q hn1 hq1
  have hs := hm.set ho.nd
  subst hl hv
  exact xv_store (K := fun v h2 => K v h2) (T := T) ht hx hy hm.mem (by simpa using hn) (Nat.le_of_ble_eq_true hr) h1 (by rw [hs]; exact H) w a ho ha next Q hn1 hq1
theorem xv_st1 {t : TypeId} {x y : Operand} {b o : Nat} {l l' : List Value} {t' : TypeId} {v : Value} {d : TD} (ht : TyOk P t d) (hd : d.size = 1) (hx : ev E x = some (.pointer (some ⟨b, o, none⟩))) (hy : ev E y = some v)
    (h1 : v.oneCell' = true) (hr : o < l.length) (hl : l.set o v = l')
    (hm : Upd h b (.cells ⟨l⟩ t' (0, 0)) (.cells ⟨l'⟩ t' (0, 0)) h') (H : K undef h') : XV P r ⟨dst, .store t x y, ty, pos, af, gd⟩ K T E h := by
  intro w a ho ha next Q hn1 hq1
  have hs := hm.set ho.nd
  subst hl
  exact xv_store1 (K := fun v h2 => K v h2) (T := T) ht hd hx hy hm.mem h1 hr (by rw [hs]; exact H) w a ho ha next Q hn1 hq1
theorem run_builtin (ρ : Operand → Value) (b : Builtin) (args : Array Operand) (at_ : Array TypeId) (w : World) :
    ∃ cs, (execOp ρ ⟨dst, .call ⟨.builtin b, args, at_⟩, ty, pos, af, gd⟩).run P w = (builtin b at_ ty cs (args.map ρ)).run P w :=
  ⟨_, by simp only [execOp, resolve, Sem.run_bind, Sem.run_pure, Result.andThen_ok, invoke]; rfl⟩
def SlT (P : Program) (t e : TypeId) : Prop := P.underlying t = some (.slice e)
theorem xv_len {x : Operand} {t e : TypeId} {a : Option Addr} {n c : Nat} (ht : SlT P t e) (hx : ev E x = some (.slice a n c)) (H : K (.int .i64 n) h) : XV P r ⟨dst, .call ⟨.builtin .len, #[x], #[t]⟩, ty, pos, af, gd⟩ K T E h :=
  xv_of_run (by simp [plainOp]) fun w ρ ho he => ⟨_, h, w, by obtain ⟨cs, hcs⟩ := run_builtin (P := P) (dst := dst) (ty := ty) (pos := pos) (af := af) (gd := gd) ρ _ _ _ w; rw [hcs]; simp [builtin, Builtin.len_, he _ _ hx, run_underlying ht, goInt], H, .refl ho⟩
theorem xv_min {x y : Operand} {k : IntKind} {a b c : Int} {at_ : Array TypeId} (hx : ev E x = some (.int k a)) (hy : ev E y = some (.int k b)) (hc : min a b = c) (H : K (.int k c) h) : XV P r ⟨dst, .call ⟨.builtin .min, #[x, y], at_⟩, ty, pos, af, gd⟩ K T E h :=
  xv_of_run (by simp [plainOp]) fun w ρ ho he => ⟨_, h, w, by
    obtain ⟨cs, hcs⟩ := run_builtin (P := P) (dst := dst) (ty := ty) (pos := pos) (af := af) (gd := gd) ρ _ _ _ w; rw [hcs]
    have : (if b < a then b else a) = c := by rw [← hc]; simp only [Int.min_def]; split <;> split <;> omega
    simp [builtin, Builtin.min_, he _ _ hx, he _ _ hy, Builtin.min2, this], H, .refl ho⟩
theorem xv_max {x y : Operand} {k : IntKind} {a b c : Int} {at_ : Array TypeId} (hx : ev E x = some (.int k a)) (hy : ev E y = some (.int k b)) (hc : max a b = c) (H : K (.int k c) h) : XV P r ⟨dst, .call ⟨.builtin .max, #[x, y], at_⟩, ty, pos, af, gd⟩ K T E h :=
  xv_of_run (by simp [plainOp]) fun w ρ ho he => ⟨_, h, w, by
    obtain ⟨cs, hcs⟩ := run_builtin (P := P) (dst := dst) (ty := ty) (pos := pos) (af := af) (gd := gd) ρ _ _ _ w; rw [hcs]
    have : (if b > a then b else a) = c := by rw [← hc]; simp only [Int.max_def]; split <;> split <;> omega
    simp [builtin, Builtin.max_, he _ _ hx, he _ _ hy, Builtin.max2, this], H, .refl ho⟩
theorem addr_add (b o n : Nat) : (⟨b, o, none⟩ : Addr).add n = ⟨b, o + n, none⟩ := by unfold Addr.add; split <;> simp_all
theorem xv_iaddr {x y : Operand} {t e : TypeId} {d : TD} {b o n c : Nat} {k : IntKind} {i : Int} (ht : SlT P t e) (hd : TyOk P e d) (hx : ev E x = some (.slice (some ⟨b, o, none⟩) n c)) (hy : ev E y = some (.int k i)) (h0 : 0 ≤ i) (h1 : i < n)
    (H : K (.pointer (some ⟨b, o + i.toNat * d.size, none⟩)) h) : XV P r ⟨dst, .indexAddr t x y, ty, pos, af, gd⟩ K T E h :=
  xv_of_run (by simp [plainOp]) fun w ρ ho he => ⟨_, h, w, by simp [execOp, he _ _ hx, he _ _ hy, Instr.indexAt, asIntOf, run_underlying ht, h0, h1, hd.run_size, addr_add], H, .refl ho⟩
theorem xv_iaddrA {x y : Operand} {t e : TypeId} {d : TD} {b o n : Nat} {k : IntKind} {i : Int} (ht : P.underlying t = some (.array n e)) (hd : TyOk P e d) (hx : ev E x = some (.pointer (some ⟨b, o, none⟩))) (hy : ev E y = some (.int k i)) (h0 : 0 ≤ i) (h1 : i < n)
    (H : K (.pointer (some ⟨b, o + i.toNat * d.size, none⟩)) h) : XV P r ⟨dst, .indexAddr t x y, ty, pos, af, gd⟩ K T E h :=
  xv_of_run (by simp [plainOp]) fun w ρ ho he => ⟨_, h, w, by simp [execOp, he _ _ hx, he _ _ hy, Instr.indexAt, asIntOf, run_underlying ht, h0, h1, hd.run_size, addr_add, Instr.sureAddr], H, .refl ho⟩
theorem run_sliceBoundH {i : Int} {k : IntKind} {y : Nat} {code : BoundsCode} {w : World} (h0 : 0 ≤ i) (h1 : i ≤ y) : (Instr.sliceBound (.int k i) y code).run P w = .ok i.toNat w := by
  simp [Instr.sliceBound, asIntOf, h0, h1]
end Go.H

/-
  Regions whose order Go leaves open: one canonical order is walked; every other order comes to the same.
-/
namespace Go.H
open Go
variable {P : Program} {r : Option Nat} {N : Nat} {Q : Post} {E : Env} {D : List Deferred} {h : Hp}
variable {K : Value → Hp → Prop} {T : List PanicEntry → Hp → Prop}
def Runs (ops : Array Oper) (o : Oper) (E : Env) : Prop := o.guard = none ∨ ∃ j t, o.guard = some (j, t) ∧ gv ops E j = some (.bool t)
def isb : Value → Bool → Bool
  | .bool u, t => u == t
  | _, _ => false
def Skips (ops : Array Oper) (o : Oper) (E : Env) : Prop := ∃ j t v, o.guard = some (j, t) ∧ gv ops E j = some v ∧ isb v t = false
inductive Kd where
  | S | R | P | A | O
  deriving DecidableEq
abbrev Item := Nat × Kd
def QV (P : Program) (r : Option Nat) (o : Oper) (E : Env) (f : Hp) (v : Value) : Prop := XV P r o (fun v' h' => v' = v ∧ h' = f) (fun _ _ => False) E f
def EqOn (o : Oper) (E E' : Env) : Prop := ∀ t, .tmp t ∈ o.op.operands → E t = E' t
def AL (P : Program) (o : Oper) (E : Env) (mk : Nat → Value) (obj : Obj) : Prop :=
  plainOp o.op ∧ ∀ w ρ, (∀ x v, ev E x = some v → ρ x = v) → (execOp ρ o).run P w = .ok (.value (mk w.heap.size)) (w.alloc obj)
noncomputable def restr (o : Oper) (E : Env) : Env := fun t => by classical exact if .tmp t ∈ o.op.operands then E t else none
theorem restr_eqOn (o : Oper) (E : Env) : EqOn o (restr o E) E := fun t ht => by simp [restr, ht]
theorem restr_congr {o : Oper} {E E' : Env} (H : EqOn o E E') : restr o E = restr o E' := by
  funext t
  unfold restr
  split
  · rename_i ht; exact H t ht
  · rfl
structure Pr where
  val : Nat → Value
  obj : Obj
  env : Env
abbrev Prom := Nat → Option Pr
def Prom.add (G : Prom) (i : Nat) (p : Pr) : Prom := fun k => if k = i then some p else G k
def Holds (L : List (Nat × (Obj → Prop))) (h : Hp) : Prop := ∀ b p, (b, p) ∈ L → ∃ o, (b, o) ∈ h ∧ p o
theorem Holds.perm {L : List (Nat × (Obj → Prop))} {h h' : Hp} (hp : List.Perm h h') (H : Holds L h) : Holds L h' := fun b p hm => let ⟨o, h1, h2⟩ := H b p hm; ⟨o, hp.mem_iff.1 h1, h2⟩
theorem Holds.cons {L : List (Nat × (Obj → Prop))} {h : Hp} (x : Nat × Obj) (H : Holds L h) : Holds L (x :: h) := fun b p hm => let ⟨o, h1, h2⟩ := H b p hm; ⟨o, List.mem_cons_of_mem _ h1, h2⟩
theorem Holds.nil {h : Hp} : Holds [] h := fun _ _ hm => by cases hm
section
variable (P : Program) (r : Option Nat) (N : Nat) (ops : Array Oper) (D : List Deferred) (Q : Post) (f : Hp) (L : List (Nat × (Obj → Prop)))
def Jst (k : Kd) (i : Nat) (o : Oper) (E : Env) (G : Prom) (h : Hp) (K : Env → Prom → Hp → Prop) : Prop :=
  match k with
  | .S => (Skips ops o E ∧ K (E.put o.dst undef) G h) ∨ (Runs ops o E ∧ ∃ v, (∀ hh, Holds L hh → QV P r o E (hh ++ f) v) ∧ K (E.put o.dst v) G h)
  | .R => (Skips ops o E ∧ K (E.put o.dst undef) G h) ∨ (Runs ops o E ∧ ∃ v, QV P r o E (h ++ f) v ∧ K (E.put o.dst v) G h)
  | .P => o.guard = none ∧ ∃ mk obj, AL P o E mk obj ∧ K E (G.add i ⟨mk, obj, restr o E⟩) h
  | .A => o.guard = none ∧ ∃ p, G i = some p ∧ EqOn o p.env E ∧ ∀ b, b ∉ keys (h ++ f) → K (E.put o.dst (p.val b)) G ((b, p.obj) :: h)
  | .O => (Skips ops o E ∧ K (E.put o.dst undef) G h) ∨ (Runs ops o E ∧ XV P r o (fun v h'' => ∃ h', List.Perm (h' ++ f) h'' ∧ Holds L h' ∧ K (E.put o.dst v) G h') (fun ch h'' => Q (.panic ch) emp D h'') E (h ++ f))
def J : List Item → Env → Prom → Hp → Prop
  | [], E, _, h => ∃ hh, List.Perm (h ++ f) hh ∧ Q .normal E D hh
  | (i, k) :: l, E, G, h => ∃ o, ops[i]? = some o ∧ dstOk N o.dst = true ∧ Jst P r ops D Q f L k i o E G h (J l)
end
variable {ops : Array Oper} {f : Hp} {L : List (Nat × (Obj → Prop))}
theorem XV.perm {o : Oper} {h' : Hp} (hp : List.Perm h h') (H : XV P r o K T E h) : XV P r o K T E h' := by
  intro w a ho ha next Q hn hq
  exact H w a (ho.perm hp) ha next Q (fun v h2 w' k fl => hn v h2 w' k (fl.permL hp.symm)) (fun c h2 w' k fl => hq c h2 w' k (fl.permL hp.symm))
theorem XV.conv {o : Oper} {K' : Value → Hp → Prop} {T' : List PanicEntry → Hp → Prop} (H : XV P r o K T E h) (hk : ∀ v h', (keys h').Nodup → K v h' → ∃ h2, List.Perm h2 h' ∧ K' v h2) (ht : ∀ c h', T c h' → ∃ h2 h3, List.Perm h2 h' ∧ List.Sublist h3 h2 ∧ T' c h3) : XV P r o K' T' E h := by
  intro w a ho ha next Q hn hq
  refine H w a ho ha next Q (fun v h' w' k fl => ?_) (fun c h' w' k fl => ?_)
  · obtain ⟨h2, hp, k2⟩ := hk v h' fl.own.nd k
    exact hn v h2 w' k2 (fl.perm hp)
  · obtain ⟨h2, h3, hp, hs, k2⟩ := ht c h' k
    exact hq c h3 w' k2 ((fl.perm hp).sub hs)
theorem XV.frame {o : Oper} (g : Hp) (H : XV P r o K T E h) : XV P r o (fun v h2 => ∃ h', h2 = h' ++ g ∧ K v h') (fun c h2 => ∃ h', h2 = h' ++ g ∧ T c h') E (h ++ g) := by
  intro w a ho ha next Q hn hq
  exact H w a ho.left ha next Q (fun v h' w' k fl => hn v (h' ++ g) w' ⟨h', rfl, k⟩ (Fol.frame ho fl)) (fun c h' w' k fl => hq c (h' ++ g) w' ⟨h', rfl, k⟩ (Fol.frame ho fl))
theorem XV.congr {o : Oper} {E' : Env} (he : EqOn o E E') (H : XV P r o K T E h) : XV P r o K T E' h := by
  intro w a ho ha next Q hn hq
  refine H w a ho (fun x hx v hv => ha x hx v ?_) next Q hn hq
  cases x with
  | tmp t => show E' t = some v; rw [← he t hx]; exact hv
  | _ => exact hv
theorem QV.congr {o : Oper} {E' : Env} {g : Hp} {v : Value} (he : EqOn o E E') (H : QV P r o E g v) : QV P r o E' g v := XV.congr he H
theorem QV.perm {o : Oper} {g g' : Hp} {v : Value} (hp : List.Perm g g') (H : QV P r o E g v) : QV P r o E g' v :=
  (XV.perm hp H).conv (fun v' h' _ ⟨e, e'⟩ => ⟨g', by rw [e']; exact hp.symm, e, rfl⟩) (fun _ _ k => k.elim)
theorem QV.cons {o : Oper} {g : Hp} {v : Value} (x : Nat × Obj) (H : QV P r o E g v) : QV P r o E (x :: g) v := by
  have := XV.frame [x] H
  have hp : List.Perm (g ++ [x]) (x :: g) := List.perm_append_comm (l₁ := g) (l₂ := [x])
  exact (XV.perm hp this).conv (fun v' h' _ ⟨h2, e, e1, e2⟩ => ⟨x :: g, by rw [e, e2]; exact hp.symm, e1, rfl⟩) (fun _ _ ⟨_, _, k⟩ => k.elim)
theorem AL.congr {o : Oper} {E' : Env} {mk : Nat → Value} {obj : Obj} (he : EqOn o E E') (H : AL P o E mk obj) : AL P o E' mk obj := by
  refine ⟨H.1, fun w ρ hρ => ?_⟩
  rw [← H.2 w (fun x => (ev E x).getD (ρ x)) (fun x v hv => by simp [hv])]
  congr 1
  refine (execOp_congr o H.1.2 fun x hx => ?_).symm
  cases hv : ev E x with
  | none => simp
  | some v =>
    simp only [Option.getD_some]
    refine (hρ x v ?_).symm
    cases x with
    | tmp t => show E' t = some v; rw [← he t hx]; exact hv
    | _ => exact hv
theorem EqOn.symm {o : Oper} {E E' : Env} (H : EqOn o E E') : EqOn o E' E := fun t ht => (H t ht).symm
theorem EqOn.trans {o : Oper} {E E' E'' : Env} (H : EqOn o E E') (H' : EqOn o E' E'') : EqOn o E E'' := fun t ht => (H t ht).trans (H' t ht)
theorem put_other {d : Option Nat} {v : Value} {t : Nat} (hne : d ≠ some t) : (E.put d v) t = E t := by
  cases d with
  | none => rfl
  | some d =>
    show (bif Nat.beq t d then some v else E t) = E t
    cases hb : Nat.beq t d with
    | true => exact absurd (by rw [Nat.eq_of_beq_eq_true hb]) hne
    | false => rfl
theorem put_comm {d e : Option Nat} {v u : Value} (hne : ∀ k, d = some k → e ≠ some k) : (E.put d v).put e u = (E.put e u).put d v := by
  funext t
  by_cases h1 : d = some t
  · have h2 := hne t h1
    rw [put_other h2]; subst h1; simp [Env.put]
  · by_cases h2 : e = some t
    · rw [put_other h1]; subst h2; simp [Env.put]
    · rw [put_other h1, put_other h2, put_other h2, put_other h1]
theorem eqOn_put {x y : Oper} (ha : x.apart ops y = true) (v : Value) : EqOn y E (E.put x.dst v) := by
  intro t ht
  refine (put_other fun e => (Oper.apart_spec ha).1 t e ?_).symm
  exact List.mem_append_left _ (List.mem_filterMap.2 ⟨.tmp t, by simpa using ht, rfl⟩)
theorem gv_put {y : Oper} {d : Option Nat} {v : Value} {j : Nat} {t : Bool} (hg : y.guard = some (j, t)) (hd : ∀ k, d = some k → k ∉ y.looksAt ops) : gv ops (E.put d v) j = gv ops E j := by
  unfold gv
  cases ht : (ops[j]?).bind (·.dst) with
  | none => rfl
  | some k =>
    simp only [Option.bind_some]
    exact put_other fun e => hd k e (List.mem_append_right _ (by simp [hg, ht]))
theorem runs_put {y : Oper} {d : Option Nat} {v : Value} (hd : ∀ k, d = some k → k ∉ y.looksAt ops) : Runs ops y (E.put d v) ↔ Runs ops y E := by
  unfold Runs
  constructor
  · rintro (h1 | ⟨j, t, h1, h2⟩)
    · exact .inl h1
    · exact .inr ⟨j, t, h1, by rwa [gv_put h1 hd] at h2⟩
  · rintro (h1 | ⟨j, t, h1, h2⟩)
    · exact .inl h1
    · exact .inr ⟨j, t, h1, by rwa [gv_put h1 hd]⟩
theorem skips_put {y : Oper} {d : Option Nat} {v : Value} (hd : ∀ k, d = some k → k ∉ y.looksAt ops) : Skips ops y (E.put d v) ↔ Skips ops y E := by
  unfold Skips
  constructor
  · rintro ⟨j, t, u, h1, h2, h3⟩; exact ⟨j, t, u, h1, by rwa [gv_put h1 hd] at h2, h3⟩
  · rintro ⟨j, t, u, h1, h2, h3⟩; exact ⟨j, t, u, h1, by rwa [gv_put h1 hd], h3⟩
theorem Jst.mono {k : Kd} {i : Nat} {o : Oper} {G : Prom} {K K' : Env → Prom → Hp → Prop} (hk : ∀ E G h, K E G h → K' E G h) (H : Jst P r ops D Q f L k i o E G h K) : Jst P r ops D Q f L k i o E G h K' := by
  cases k with
  | S => exact H.imp (fun ⟨a, b⟩ => ⟨a, hk _ _ _ b⟩) (fun ⟨a, v, b, c⟩ => ⟨a, v, b, hk _ _ _ c⟩)
  | R => exact H.imp (fun ⟨a, b⟩ => ⟨a, hk _ _ _ b⟩) (fun ⟨a, v, b, c⟩ => ⟨a, v, b, hk _ _ _ c⟩)
  | P => obtain ⟨a, mk, obj, b, c⟩ := H; exact ⟨a, mk, obj, b, hk _ _ _ c⟩
  | A => obtain ⟨a, p, b, c, d⟩ := H; exact ⟨a, p, b, c, fun x hx => hk _ _ _ (d x hx)⟩
  | O => exact H.imp (fun ⟨a, b⟩ => ⟨a, hk _ _ _ b⟩) (fun ⟨a, b⟩ => ⟨a, b.mono (fun v h2 ⟨h', p, iv, c⟩ => ⟨h', p, iv, hk _ _ _ c⟩) (fun _ _ c => c)⟩)
theorem Jst.perm {k : Kd} {i : Nat} {o : Oper} {G : Prom} {K : Env → Prom → Hp → Prop} {h' : Hp} (hp : List.Perm h h') (hk : ∀ E G h h', List.Perm h h' → K E G h → K E G h') (H : Jst P r ops D Q f L k i o E G h K) : Jst P r ops D Q f L k i o E G h' K := by
  have hpf : List.Perm (h ++ f) (h' ++ f) := hp.append_right f
  cases k with
  | S => exact H.imp (fun ⟨a, b⟩ => ⟨a, hk _ _ _ _ hp b⟩) (fun ⟨a, v, b, c⟩ => ⟨a, v, b, hk _ _ _ _ hp c⟩)
  | R => exact H.imp (fun ⟨a, b⟩ => ⟨a, hk _ _ _ _ hp b⟩) (fun ⟨a, v, b, c⟩ => ⟨a, v, b.perm hpf, hk _ _ _ _ hp c⟩)
  | P => obtain ⟨a, mk, obj, b, c⟩ := H; exact ⟨a, mk, obj, b, hk _ _ _ _ hp c⟩
  | A =>
    obtain ⟨a, p, b, c, d⟩ := H
    refine ⟨a, p, b, c, fun x hx => hk _ _ _ _ (hp.cons _) (d x fun hm => hx ?_)⟩
    exact ((hpf.map Prod.fst).mem_iff).1 hm
  | O => exact H.imp (fun ⟨a, b⟩ => ⟨a, hk _ _ _ _ hp b⟩) (fun ⟨a, b⟩ => ⟨a, XV.perm hpf b⟩)
theorem J.perm : ∀ (l : List Item) {E : Env} {G : Prom} {h h' : Hp}, List.Perm h h' → J P r N ops D Q f L l E G h → J P r N ops D Q f L l E G h'
  | [], _, _, _, _, hp, ⟨hh, p, q⟩ => ⟨hh, ((hp.append_right f).symm.trans p), q⟩
  | (i, k) :: l, E, G, h, h', hp, ⟨o, ho, hd, H⟩ => ⟨o, ho, hd, Jst.perm hp (fun _ _ _ _ p q => J.perm l p q) H⟩
def okSwap : Kd → Kd → Bool
  | .S, _ => true
  | .P, _ => true
  | .R, .O => false
  | .R, _ => true
  | .A, .A => true
  | .O, .A => true
  | _, _ => false
theorem apart_eqOn {x y : Oper} (ha : x.apart ops y = true) (E : Env) (u : Value) : EqOn x E (E.put y.dst u) := by
  intro t ht
  refine (put_other fun e => (Oper.apart_spec ha).2.2 t e ?_).symm
  exact List.mem_append_left _ (List.mem_filterMap.2 ⟨.tmp t, by simpa using ht, rfl⟩)
def ExtE (y : Oper) (E E' : Env) : Prop := E' = E ∨ ∃ u, E' = E.put y.dst u
theorem ExtE.eqOn {x y : Oper} {E E' : Env} (ha : x.apart ops y = true) (H : ExtE y E E') : EqOn x E E' := by
  rcases H with rfl | ⟨u, rfl⟩
  · exact fun _ _ => rfl
  · exact apart_eqOn ha E u
theorem ExtE.runs {x y : Oper} {E E' : Env} (ha : x.apart ops y = true) (H : ExtE y E E') (hr : Runs ops x E) : Runs ops x E' := by
  rcases H with rfl | ⟨u, rfl⟩
  · exact hr
  · exact (runs_put (Oper.apart_spec ha).2.2).2 hr
theorem ExtE.skips {x y : Oper} {E E' : Env} (ha : x.apart ops y = true) (H : ExtE y E E') (hr : Skips ops x E) : Skips ops x E' := by
  rcases H with rfl | ⟨u, rfl⟩
  · exact hr
  · exact (skips_put (Oper.apart_spec ha).2.2).2 hr
theorem Jst.pull {x y : Oper} {k : Kd} {i : Nat} {v : Value} {G : Prom} {K : Env → Prom → Hp → Prop} (ha : x.apart ops y = true) (H : Jst P r ops D Q f L k i y (E.put x.dst v) G h K) :
    Jst P r ops D Q f L k i y E G h (fun E' G' h' => ExtE y E E' ∧ (k ≠ .O → h' = h ∨ ∃ z, h' = z :: h) ∧ K (E'.put x.dst v) G' h') := by
  have hs := Oper.apart_spec ha
  have e1 : EqOn y (E.put x.dst v) E := (eqOn_put ha v).symm
  have hc : ∀ u, (E.put x.dst v).put y.dst u = (E.put y.dst u).put x.dst v := fun u => put_comm hs.2.1
  cases k with
  | S =>
    rcases H with ⟨a, b⟩ | ⟨a, u, b, c⟩
    · exact .inl ⟨(skips_put hs.1).1 a, .inr ⟨_, rfl⟩, fun _ => .inl rfl, by rw [← hc]; exact b⟩
    · exact .inr ⟨(runs_put hs.1).1 a, u, fun hh iv => (b hh iv).congr e1, .inr ⟨_, rfl⟩, fun _ => .inl rfl, by rw [← hc]; exact c⟩
  | R =>
    rcases H with ⟨a, b⟩ | ⟨a, u, b, c⟩
    · exact .inl ⟨(skips_put hs.1).1 a, .inr ⟨_, rfl⟩, fun _ => .inl rfl, by rw [← hc]; exact b⟩
    · exact .inr ⟨(runs_put hs.1).1 a, u, b.congr e1, .inr ⟨_, rfl⟩, fun _ => .inl rfl, by rw [← hc]; exact c⟩
  | P =>
    obtain ⟨a, mk, obj, b, c⟩ := H
    refine ⟨a, mk, obj, b.congr e1, .inl rfl, fun _ => .inl rfl, ?_⟩
    rw [← restr_congr e1]; exact c
  | A =>
    obtain ⟨a, p, b, c, d⟩ := H
    exact ⟨a, p, b, c.trans e1, fun z hz => ⟨.inr ⟨_, rfl⟩, fun _ => .inr ⟨_, rfl⟩, by rw [← hc]; exact d z hz⟩⟩
  | O =>
    rcases H with ⟨a, b⟩ | ⟨a, b⟩
    · exact .inl ⟨(skips_put hs.1).1 a, .inr ⟨_, rfl⟩, fun hh => absurd rfl hh, by rw [← hc]; exact b⟩
    · refine .inr ⟨(runs_put hs.1).1 a, (b.congr e1).mono ?_ (fun _ _ c => c)⟩
      rintro u h2 ⟨h', p, iv, c⟩
      exact ⟨h', p, iv, .inr ⟨_, rfl⟩, fun hh => absurd rfl hh, by rw [← hc]; exact c⟩
theorem add_comm' {G : Prom} {i j : Nat} {p q : Pr} (hne : i ≠ j) : (G.add i p).add j q = (G.add j q).add i p := by
  funext t
  simp only [Prom.add]
  split
  · rename_i e; subst e; rw [if_neg (fun e => hne e.symm)]
  · rfl
theorem Jst.pullG {x y : Oper} {k : Kd} {i j : Nat} {pr : Pr} {G : Prom} {K : Env → Prom → Hp → Prop} (hne : j ≠ i) (H : Jst P r ops D Q f L k i y E (G.add j pr) h K) :
    Jst P r ops D Q f L k i y E G h (fun E' G' h' => ExtE y E E' ∧ K E' (G'.add j pr) h') := by
  cases k with
  | S =>
    rcases H with ⟨a, b⟩ | ⟨a, u, b, c⟩
    · exact .inl ⟨a, .inr ⟨_, rfl⟩, b⟩
    · exact .inr ⟨a, u, b, .inr ⟨_, rfl⟩, c⟩
  | R =>
    rcases H with ⟨a, b⟩ | ⟨a, u, b, c⟩
    · exact .inl ⟨a, .inr ⟨_, rfl⟩, b⟩
    · exact .inr ⟨a, u, b, .inr ⟨_, rfl⟩, c⟩
  | P =>
    obtain ⟨a, mk, obj, b, c⟩ := H
    exact ⟨a, mk, obj, b, .inl rfl, by rw [add_comm' hne.symm]; exact c⟩
  | A =>
    obtain ⟨a, p, b, c, d⟩ := H
    refine ⟨a, p, ?_, c, fun z hz => ⟨.inr ⟨_, rfl⟩, d z hz⟩⟩
    simp only [Prom.add] at b
    rwa [if_neg (fun e => hne e.symm)] at b
  | O =>
    rcases H with ⟨a, b⟩ | ⟨a, b⟩
    · exact .inl ⟨a, .inr ⟨_, rfl⟩, b⟩
    · exact .inr ⟨a, b.mono (fun u h2 ⟨h', p, iv, c⟩ => ⟨h', p, iv, .inr ⟨_, rfl⟩, c⟩) (fun _ _ c => c)⟩
theorem Jst.swap {x y : Oper} {kx ky : Kd} {ix iy : Nat} {G : Prom} {K : Env → Prom → Hp → Prop} (ha : x.apart ops y = true) (hok : okSwap kx ky = true) (hne : ix ≠ iy)
    (hI : ky = .A → y.guard = none ∧ ∃ p, G iy = some p ∧ EqOn y p.env E) (hK : ∀ E G h h', List.Perm h h' → K E G h → K E G h')
    (H : Jst P r ops D Q f L kx ix x E G h (fun E' G' h' => Jst P r ops D Q f L ky iy y E' G' h' K)) : Jst P r ops D Q f L ky iy y E G h (fun E' G' h' => Jst P r ops D Q f L kx ix x E' G' h' K) := by
  have hs := Oper.apart_spec ha
  cases kx with
  | S =>
    rcases H with ⟨a, b⟩ | ⟨a, v, q, b⟩
    · exact (b.pull ha).mono fun E' G' h' ⟨e, _, c⟩ => .inl ⟨e.skips ha a, c⟩
    · exact (b.pull ha).mono fun E' G' h' ⟨e, _, c⟩ => .inr ⟨e.runs ha a, v, fun hh iv => (q hh iv).congr (e.eqOn ha), c⟩
  | R =>
    have hky : ky ≠ .O := by rintro rfl; simp [okSwap] at hok
    rcases H with ⟨a, b⟩ | ⟨a, v, q, b⟩
    · exact (b.pull ha).mono fun E' G' h' ⟨e, _, c⟩ => .inl ⟨e.skips ha a, c⟩
    · refine (b.pull ha).mono fun E' G' h' ⟨e, eh, c⟩ => .inr ⟨e.runs ha a, v, ?_, c⟩
      rcases eh hky with rfl | ⟨z, rfl⟩
      · exact q.congr (e.eqOn ha)
      · exact (q.congr (e.eqOn ha)).cons z
  | P =>
    obtain ⟨a, mk, obj, b, c⟩ := H
    refine (Jst.pullG (x := x) hne c).mono fun E' G' h' ⟨e, d⟩ => ⟨a, mk, obj, b.congr (e.eqOn ha), ?_⟩
    rw [← restr_congr (e.eqOn ha)]; exact d
  | A =>
    have hky : ky = .A := by cases ky <;> simp [okSwap] at hok; rfl
    subst hky
    obtain ⟨hg, q, hq, hqe⟩ := hI rfl
    obtain ⟨a, p, hp, hpe, H⟩ := H
    refine ⟨hg, q, hq, hqe, fun c hc => ⟨a, p, hp, hpe.trans (apart_eqOn ha E _), fun b hb => ?_⟩⟩
    have hb' : b ∉ keys (h ++ f) := fun hm => hb (List.mem_cons_of_mem _ hm)
    obtain ⟨_, q', hq', _, H⟩ := H b hb'
    rw [hq] at hq'; cases hq'
    have hcb : c ∉ keys ((b, p.obj) :: h ++ f) := by
      intro hm
      rcases List.mem_cons.1 hm with e | hm
      · exact hb (by rw [show b = c from e.symm]; exact List.mem_cons_self)
      · exact hc hm
    have := H c hcb
    rw [put_comm hs.2.1] at this
    exact hK _ _ _ _ (List.Perm.swap _ _ _) this
  | O =>
    have hky : ky = .A := by cases ky <;> simp [okSwap] at hok; rfl
    subst hky
    obtain ⟨hg, q, hq, hqe⟩ := hI rfl
    refine ⟨hg, q, hq, hqe, fun b hb => ?_⟩
    rcases H with ⟨a, H⟩ | ⟨a, H⟩
    · obtain ⟨_, q', hq', _, H⟩ := H
      rw [hq] at hq'; cases hq'
      exact .inl ⟨(skips_put hs.2.2).2 a, by rw [← put_comm hs.2.1]; exact H b hb⟩
    · refine .inr ⟨(runs_put hs.2.2).2 a, ?_⟩
      have h1 := XV.frame [(b, q.obj)] H
      have hp : List.Perm ((h ++ f) ++ [(b, q.obj)]) ((b, q.obj) :: h ++ f) := List.perm_append_comm (l₁ := h ++ f) (l₂ := [(b, q.obj)])
      refine XV.congr (apart_eqOn ha E _) ((XV.perm hp h1).conv ?_ ?_)
      · rintro v h2 hnd ⟨h'', rfl, h', hp', iv, hj⟩
        obtain ⟨_, q', hq', _, hj⟩ := hj
        rw [hq] at hq'; cases hq'
        have hbn : b ∉ keys (h' ++ f) := by
          intro hm
          rw [keys_append, List.nodup_append] at hnd
          exact hnd.2.2 b (((hp'.map Prod.fst).mem_iff).1 hm) b (by simp [keys]) rfl
        refine ⟨h'' ++ [(b, q.obj)], List.Perm.refl _, (b, q.obj) :: h', ?_, iv.cons _, ?_⟩
        · exact (hp'.cons _).trans (List.perm_append_comm (l₁ := [(b, q.obj)]) (l₂ := h''))
        · rw [← put_comm hs.2.1]; exact hj b hbn
      · rintro c h2 ⟨h'', rfl, hq'⟩
        exact ⟨h'' ++ [(b, q.obj)], h'', List.Perm.refl _, List.sublist_append_left _ _, hq'⟩
end Go.H

