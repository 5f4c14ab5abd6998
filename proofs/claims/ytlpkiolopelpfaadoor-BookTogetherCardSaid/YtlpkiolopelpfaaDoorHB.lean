/-
  The logic of owned blocks over the kit, part HA.
-/
import Derived.RangeFuncLeaves
import Derived.RangeFuncRecord
import Derived.OrdersIn
import Derived.WalkKit
import Derived.KernelRfl
import Derived.Laws.AppendOwn
import Derived.Laws.MakeOwn
import Derived.MapKept
set_option linter.all false
/-
  What the calls of a program do is said over a view of the heap: a list of the blocks that the code owns; all else is framed out. This text: the judgements and the rules on code.
-/
namespace Go.H
open Go
abbrev Env := Nat → Option Value
def Env.put (E : Env) (d : Option Nat) (v : Value) : Env :=
  match d with
  | none => E
  | some d => fun t => bif Nat.beq t d then some v else E t
def emp : Env := fun _ => none
abbrev Hp := List (Nat × Obj)
def keys (h : Hp) : List Nat := h.map (·.1)
structure Own (h : Hp) (w : World) : Prop where
  nd : (keys h).Nodup
  has : ∀ b o, (b, o) ∈ h → w.heap[b]? = some o
structure Agree (N : Nat) (E : Env) (a : Act) : Prop where
  size : a.tmps.size = N
  val : ∀ t v, E t = some v → a.tmps[t]? = some v
structure Fol (h : Hp) (w : World) (h' : Hp) (w' : World) : Prop where
  own : Own h' w'
  os : w'.os = w.os
  tape : w'.tape = w.tape
  output : w'.output = w.output
  size : w.heap.size ≤ w'.heap.size
  rest : ∀ b, b < w.heap.size → b ∉ keys h → b ∉ keys h' ∧ w'.heap[b]? = w.heap[b]?
theorem Own.lt {h : Hp} {w : World} (H : Own h w) {b : Nat} (hb : b ∈ keys h) : b < w.heap.size := by
  obtain ⟨⟨b', o⟩, hm, rfl⟩ := List.mem_map.1 hb
  exact (Array.getElem?_eq_some_iff.1 (H.has _ _ hm)).1
theorem Fol.refl {h : Hp} {w : World} (H : Own h w) : Fol h w h w := ⟨H, rfl, rfl, rfl, Nat.le_refl _, fun _ _ hn => ⟨hn, rfl⟩⟩
theorem Fol.trans {h h1 h2 : Hp} {w w1 w2 : World} (A : Fol h w h1 w1) (B : Fol h1 w1 h2 w2) : Fol h w h2 w2 :=
  ⟨B.own, B.os.trans A.os, B.tape.trans A.tape, B.output.trans A.output, Nat.le_trans A.size B.size, fun b hb hn => by
    obtain ⟨h1n, e1⟩ := A.rest b hb hn
    obtain ⟨h2n, e2⟩ := B.rest b (Nat.lt_of_lt_of_le hb A.size) h1n
    exact ⟨h2n, e2.trans e1⟩⟩
theorem Own.sub {h h' : Hp} {w : World} (H : Own h w) (hs : List.Sublist h' h) : Own h' w :=
  ⟨(hs.map _).nodup H.nd, fun b o hm => H.has b o (hs.subset hm)⟩
theorem Own.perm {h h' : Hp} {w : World} (H : Own h w) (hs : List.Perm h' h) : Own h' w :=
  ⟨((hs.map _).nodup_iff).2 H.nd, fun b o hm => H.has b o (hs.mem_iff.1 hm)⟩
theorem Fol.sub {h h1 h2 : Hp} {w w1 : World} (A : Fol h w h1 w1) (hs : List.Sublist h2 h1) : Fol h w h2 w1 :=
  ⟨A.own.sub hs, A.os, A.tape, A.output, A.size, fun b hb hn => ⟨fun hm => (A.rest b hb hn).1 ((hs.map _).subset hm), (A.rest b hb hn).2⟩⟩
theorem Fol.perm {h h1 h2 : Hp} {w w1 : World} (A : Fol h w h1 w1) (hs : List.Perm h2 h1) : Fol h w h2 w1 :=
  ⟨A.own.perm hs, A.os, A.tape, A.output, A.size, fun b hb hn => ⟨fun hm => (A.rest b hb hn).1 ((hs.map _).mem_iff.1 hm), (A.rest b hb hn).2⟩⟩
theorem Fol.permL {h h0 h1 : Hp} {w w1 : World} (A : Fol h w h1 w1) (hs : List.Perm h0 h) : Fol h0 w h1 w1 :=
  ⟨A.own, A.os, A.tape, A.output, A.size, fun b hb hn => A.rest b hb (fun hm => hn ((hs.map _).mem_iff.2 hm))⟩
theorem keys_append (f h : Hp) : keys (f ++ h) = keys f ++ keys h := List.map_append
theorem Fol.frame {f h h' : Hp} {w w' : World} (H : Own (h ++ f) w) (A : Fol h w h' w') : Fol (h ++ f) w (h' ++ f) w' := by
  have hk : ∀ b o, (b, o) ∈ f → b < w.heap.size ∧ b ∉ keys h := fun b o hm => by
    have hb : b ∈ keys f := List.mem_map.2 ⟨_, hm, rfl⟩
    refine ⟨H.lt (by rw [keys_append]; exact List.mem_append_right _ hb), fun hc => ?_⟩
    have hn := H.nd
    rw [keys_append, List.nodup_append] at hn
    exact hn.2.2 _ hc _ hb rfl
  refine ⟨⟨?_, fun b o hm => ?_⟩, A.os, A.tape, A.output, A.size, fun b hb hn => ?_⟩
  · have hn := H.nd
    rw [keys_append, List.nodup_append] at hn ⊢
    refine ⟨A.own.nd, hn.2.1, fun x hx y hy e => ?_⟩
    subst e
    obtain ⟨⟨b', o⟩, hm, rfl⟩ := List.mem_map.1 hy
    obtain ⟨h1, h2⟩ := hk _ _ hm
    exact (A.rest _ h1 h2).1 hx
  · rcases List.mem_append.1 hm with hm | hm
    · exact A.own.has b o hm
    · obtain ⟨h1, h2⟩ := hk _ _ hm
      rw [(A.rest _ h1 h2).2]
      exact H.has b o (List.mem_append_right _ hm)
  · rw [keys_append, List.mem_append] at hn ⊢
    have hn' : b ∉ keys h := fun hc => hn (.inl hc)
    exact ⟨fun hc => hc.elim (A.rest b hb hn').1 (fun hc => hn (.inr hc)), (A.rest b hb hn').2⟩
theorem Own.left {f h : Hp} {w : World} (H : Own (h ++ f) w) : Own h w := H.sub (List.sublist_append_left _ _)
theorem Own.drew {h : Hp} {w : World} (H : Own h w) (n : Nat) : Own h { w with drawn := n } := ⟨H.nd, H.has⟩
theorem Fol.drew {h h' : Hp} {w w' : World} {n : Nat} (A : Fol h { w with drawn := n } h' w') : Fol h w h' w' := ⟨A.own, A.os, A.tape, A.output, A.size, A.rest⟩
theorem Fol.alloc {h : Hp} {w : World} (H : Own h w) (o : Obj) : Fol h w ((w.heap.size, o) :: h) (w.alloc o) := by
  have hk : w.heap.size ∉ keys h := fun hc => Nat.lt_irrefl _ (H.lt hc)
  refine ⟨⟨?_, fun b o' hm => ?_⟩, rfl, rfl, rfl, by simp, fun b hb hn => ⟨?_, Go.RowKit.Below.heap_alloc _ _ _ hb⟩⟩
  · show (w.heap.size :: keys h).Nodup
    exact List.nodup_cons.2 ⟨hk, H.nd⟩
  · rcases List.mem_cons.1 hm with e | hm
    · cases e; show (w.heap.push o)[w.heap.size]? = some o; simp
    · rw [Go.RowKit.Below.heap_alloc _ _ _ (H.lt (List.mem_map.2 ⟨_, hm, rfl⟩))]; exact H.has _ _ hm
  · show b ∉ w.heap.size :: keys h
    intro hc
    rcases List.mem_cons.1 hc with e | hc
    · omega
    · exact hn hc
def setH : Hp → Nat → Obj → Hp
  | [], _, _ => []
  | (b, o) :: h, c, o' => if b = c then (b, o') :: h else (b, o) :: setH h c o'
theorem keys_setH (h : Hp) (b : Nat) (o : Obj) : keys (setH h b o) = keys h := by
  induction h with
  | nil => rfl
  | cons x h ih =>
    obtain ⟨c, o'⟩ := x
    simp only [setH]
    split
    · rfl
    · show c :: keys _ = c :: keys h
      rw [ih]
theorem mem_setH {h : Hp} {b : Nat} {o : Obj} (hn : (keys h).Nodup) {c : Nat} {o' : Obj} (hm : (c, o') ∈ setH h b o) : (c = b ∧ o' = o) ∨ (c ≠ b ∧ (c, o') ∈ h) := by
  induction h with
  | nil => cases hm
  | cons x h ih =>
    obtain ⟨d, od⟩ := x
    have hn' : d ∉ keys h ∧ (keys h).Nodup := List.nodup_cons.1 hn
    simp only [setH] at hm
    split at hm
    · rename_i e
      rcases List.mem_cons.1 hm with e' | hm
      · cases e'; exact .inl ⟨e, rfl⟩
      · refine .inr ⟨fun e' => ?_, List.mem_cons_of_mem _ hm⟩
        subst e'; subst e
        exact hn'.1 (List.mem_map.2 ⟨_, hm, rfl⟩)
    · rename_i e
      rcases List.mem_cons.1 hm with e' | hm
      · cases e'; exact .inr ⟨e, List.mem_cons_self⟩
      · rcases ih hn'.2 hm with h1 | ⟨h1, h2⟩
        · exact .inl h1
        · exact .inr ⟨h1, List.mem_cons_of_mem _ h2⟩
theorem Fol.set {h : Hp} {w w' : World} {b : Nat} {o o' : Obj} (H : Own h w) (hm : (b, o) ∈ h) (hb : w'.heap[b]? = some o')
    (hr : ∀ k, k ≠ b → w'.heap[k]? = w.heap[k]?) (hs : w'.heap.size = w.heap.size) (h1 : w'.os = w.os) (h2 : w'.tape = w.tape) (h3 : w'.output = w.output) : Fol h w (setH h b o') w' := by
  refine ⟨⟨by rw [keys_setH]; exact H.nd, fun c oc hc => ?_⟩, h1, h2, h3, by omega, fun c hc hn => ⟨by rw [keys_setH]; exact hn, hr c fun e => hn (by subst e; exact List.mem_map.2 ⟨_, hm, rfl⟩)⟩⟩
  rcases mem_setH H.nd hc with ⟨rfl, rfl⟩ | ⟨hne, hc⟩
  · exact hb
  · rw [hr c hne]; exact H.has _ _ hc
def fen (r : Option Nat) : Fence := { Fence.wide with round := r }
def ACalls (P : Program) (f : FuncId) (args : Array Value) (h : Hp) (R : Ending → Hp → Prop) : Prop :=
  ∀ w, Own h w → Calls P f args w fun e w' => ∃ h', R e h' ∧ Fol h w h' w'
abbrev Post := Exit → Env → List Deferred → Hp → Prop
def XC (P : Program) (r : Option Nat) (N : Nat) (c : Code) (Q : Post) (E : Env) (D : List Deferred) (h : Hp) : Prop :=
  ∀ w a, Own h w → Agree N E a → a.defers = D → c.wpIn (fen r) 0 P (fun e a' w' => ∃ E' h', Q e E' a'.defers h' ∧ Agree N E' a' ∧ Fol h w h' w') a w
def XRL (P : Program) (r : Option Nat) (N : Nat) (ops : Array Oper) (l : List Nat) (Q : Post) (E : Env) (D : List Deferred) (h : Hp) : Prop :=
  ∀ w a, Own h w → Agree N E a → a.defers = D → wpOpsIn (fen r) 0 P ops (fun e a' w' => ∃ E' h', Q e E' a'.defers h' ∧ Agree N E' a' ∧ Fol h w h' w') l a w
def XR (P : Program) (r : Option Nat) (N : Nat) (ops : Array Oper) (i : Nat) (Q : Post) (E : Env) (D : List Deferred) (h : Hp) : Prop :=
  XRL P r N ops (List.range' i (ops.size - i)) Q E D h
def ev (E : Env) : Operand → Option Value
  | .tmp t => E t
  | .const v => some v
  | .global g => some (.pointer (some ⟨g, 0, none⟩))
  | .func f => some (.func (.func f) #[] #[])
def OpsAt (E : Env) (o : Oper) (a : Act) : Prop := ∀ x ∈ o.op.operands, ∀ v, ev E x = some v → a.eval x = v
def XV (P : Program) (r : Option Nat) (o : Oper) (K : Value → Hp → Prop) (T : List PanicEntry → Hp → Prop) (E : Env) (h : Hp) : Prop :=
  ∀ (w : World) (a : Act), Own h w → OpsAt E o a → ∀ (next : Act → World → Prop) (Q : Exit → Act → World → Prop),
    (∀ v h' w', K v h' → Fol h w h' w' → next (a.put o.dst v) w') → (∀ ch h' w', T ch h' → Fol h w h' w' → Q (.panic ch) a w') →
    o.wpIn (fen r) 0 P a w next Q
variable {P : Program} {r : Option Nat} {N : Nat} {Q : Post} {E : Env} {D : List Deferred} {h : Hp}
theorem wpOpsIn_mono {F : Fence} {n : Nat} {ops : Array Oper} {Q Q' : Exit → Act → World → Prop} (hq : ∀ e a w, Q e a w → Q' e a w) : ∀ (l : List Nat) (a : Act) (w : World), wpOpsIn F n P ops Q l a w → wpOpsIn F n P ops Q' l a w := by
  intro l
  induction l with
  | nil => exact fun a w hh => hq _ _ _ hh
  | cons i l ih =>
    intro a w hh
    simp only [wpOpsIn] at hh ⊢
    split
    · rename_i ho; simp only [ho] at hh; exact ih _ _ hh
    · rename_i o ho
      simp only [ho] at hh
      split
      · rename_i hw
        simp only [hw, if_true] at hh
        refine ⟨hh.1, ?_⟩
        have hh := hh.2
        generalize (o.semAt F.round a.eval).run P w = res at *
        cases res with
        | ok n' w' =>
          cases n' <;> simp only [Oper.uponIn] at hh ⊢
          case value v => exact ih _ _ hh
          case skip => exact ih _ _ hh
          case defer d => exact ih _ _ hh
          case enter f args => exact ⟨hh.1, hh.2.mono fun e w'' he => by cases e <;> first | exact ih _ _ he | exact hq _ _ _ he | (obtain ⟨a0, w0, h0⟩ := he; exact ⟨a0, w0, hq _ _ _ h0⟩)⟩
          case row row args => exact ⟨hh.1, hh.2.mono fun v w'' he => ih _ _ he⟩
          case round l' f tmps assign body => exact ⟨hh.1, hh.2.mono fun e w'' he => by cases e <;> first | exact ih _ _ he | exact hq _ _ _ he | (obtain ⟨a0, w0, h0⟩ := he; exact ⟨a0, w0, hq _ _ _ h0⟩)⟩
        | halt x w' => cases x <;> simp only [Oper.uponIn] at hh ⊢; exact hq _ _ _ hh
      · rename_i hw
        simp only [hw] at hh
        exact ⟨hh.1, ih _ _ hh.2⟩
theorem XC.mono {c : Code} {Q' : Post} (H : XC P r N c Q E D h) (hq : ∀ e E D h, Q e E D h → Q' e E D h) : XC P r N c Q' E D h :=
  fun w a ho ha hd => wpIn_mono (H w a ho ha hd) fun _ _ _ ⟨E', h', q, x⟩ => ⟨E', h', hq _ _ _ _ q, x⟩
theorem XRL.mono {ops : Array Oper} {l : List Nat} {Q' : Post} (H : XRL P r N ops l Q E D h) (hq : ∀ e E D h, Q e E D h → Q' e E D h) : XRL P r N ops l Q' E D h :=
  fun w a ho ha hd => wpOpsIn_mono (fun _ _ _ ⟨E', h', q, x⟩ => ⟨E', h', hq _ _ _ _ q, x⟩) _ _ _ (H w a ho ha hd)
theorem xc_skip (H : Q .normal E D h) : XC P r N .skip Q E D h :=
  fun w a ho ha hd => wpIn_skip ⟨E, h, by rw [hd]; exact H, ha, .refl ho⟩
theorem xc_exit {id : Nat} (H : Q (.exit id) E D h) : XC P r N (.exit id) Q E D h :=
  fun w a ho ha hd => wpIn_exit ⟨E, h, by rw [hd]; exact H, ha, .refl ho⟩
theorem xc_ret (H : Q .ret E D h) : XC P r N .ret Q E D h :=
  fun w a ho ha hd => wpIn_ret ⟨E, h, by rw [hd]; exact H, ha, .refl ho⟩
def Th (K : Env → List Deferred → Hp → Prop) (Q : Post) : Post
  | .normal, E, D, h => K E D h
  | e, E, D, h => Q e E D h
theorem xc_seq {x y : Code} (H : XC P r N x (Th (XC P r N y Q) Q) E D h) : XC P r N (.seq x y) Q E D h := by
  intro w a ho ha hd
  refine wpIn_seq (wpIn_mono (H w a ho ha hd) ?_)
  rintro e a' w' ⟨E', h', q, ha', hf⟩
  cases e with
  | normal => exact wpIn_mono (q w' a' hf.own ha' rfl) fun _ _ _ ⟨E2, h2, q2, ha2, hf2⟩ => ⟨E2, h2, q2, ha2, hf.trans hf2⟩
  | _ => exact ⟨E', h', q, ha', hf⟩
theorem Agree.ev {a : Act} (ha : Agree N E a) {x : Operand} {v : Value} (hx : ev E x = some v) : a.eval x = v := by
  cases x with
  | tmp t => have := ha.val t v hx; simp [Act.eval, this]
  | const u => cases hx; rfl
  | global g => cases hx; rfl
  | func f => cases hx; rfl
theorem Agree.put {a : Act} (ha : Agree N E a) {d : Option Nat} {v : Value} (hd : ∀ k, d = some k → k < N) : Agree N (E.put d v) (a.put d v) := by
  cases d with
  | none => exact ha
  | some d =>
    have hlt : d < a.tmps.size := by rw [ha.size]; exact hd d rfl
    refine ⟨by simp [Act.put, ha.size], fun t u hu => ?_⟩
    simp only [Env.put] at hu
    simp only [Act.put, Array.getElem?_setIfInBounds]
    cases hb : Nat.beq t d with
    | true =>
      rw [hb] at hu
      have := Nat.eq_of_beq_eq_true hb
      subst this
      simp only [cond_true, Option.some.injEq] at hu
      subst hu
      rw [if_pos rfl, if_pos hlt]
    | false =>
      rw [hb] at hu
      have : ¬ d = t := fun e => by subst e; simp at hb
      rw [if_neg this]
      exact ha.val t u hu
theorem xc_cond {c : Operand} {x y : Code} {t : Bool} (hc : ev E c = some (.bool t)) (H : XC P r N (if t then x else y) Q E D h) : XC P r N (.cond c x y) Q E D h :=
  fun w a ho ha hd => wpIn_cond (ha.ev hc) (H w a ho ha hd)
theorem xc_true {c : Operand} {x y : Code} (hc : ev E c = some (.bool true)) (H : XC P r N x Q E D h) : XC P r N (.cond c x y) Q E D h := xc_cond hc H
theorem xc_false {c : Operand} {x y : Code} (hc : ev E c = some (.bool false)) (H : XC P r N y Q E D h) : XC P r N (.cond c x y) Q E D h := xc_cond hc H
theorem xc_bool {c : Operand} {x y : Code} {t : Bool} (hc : ev E c = some (.bool t)) (H1 : t = true → XC P r N x Q E D h) (H2 : t = false → XC P r N y Q E D h) : XC P r N (.cond c x y) Q E D h := by
  cases t with
  | true => exact xc_true hc (H1 rfl)
  | false => exact xc_false hc (H2 rfl)
def Bk (id : Nat) (Q : Post) : Post
  | .exit id', E, D, h => if id' = id then Q .normal E D h else Q (.exit id') E D h
  | e, E, D, h => Q e E D h
theorem xc_block {id : Nat} {c : Code} (H : XC P r N c (Bk id Q) E D h) : XC P r N (.block id c) Q E D h := by
  intro w a ho ha hd
  refine wpIn_block (wpIn_mono (H w a ho ha hd) ?_)
  rintro e a' w' ⟨E', h', q, ha', hf⟩
  cases e with
  | exit id' =>
    simp only [Exit.inBlock, Bk] at *
    split at q
    · rename_i e; rw [if_pos e]; exact ⟨E', h', q, ha', hf⟩
    · rename_i e; rw [if_neg e]; exact ⟨E', h', q, ha', hf⟩
  | _ => exact ⟨E', h', q, ha', hf⟩
theorem bk_same {id : Nat} (H : Q .normal E D h) : Bk id Q (.exit id) E D h := by simp only [Bk]; rw [if_pos trivial]; exact H
def EnvLe (E E' : Env) : Prop := ∀ t v, E t = some v → E' t = some v
theorem EnvLe.refl (E : Env) : EnvLe E E := fun _ _ hh => hh
theorem le_emp (E : Env) : EnvLe emp E := fun _ _ hh => by cases hh
theorem le_put {E E' : Env} {d : Nat} {v : Value} (H : EnvLe E E') (hd : E' d = some v) : EnvLe (E.put (some d) v) E' := by
  intro t u hu
  simp only [Env.put] at hu
  cases hb : Nat.beq t d with
  | true =>
    rw [hb] at hu
    have := Nat.eq_of_beq_eq_true hb
    subst this
    simp only [cond_true, Option.some.injEq] at hu
    subst hu
    exact hd
  | false => rw [hb] at hu; exact H t u hu
theorem Agree.le {E' : Env} {a : Act} (ha : Agree N E' a) (hl : EnvLe E E') : Agree N E a := ⟨ha.size, fun t v hv => ha.val t v (hl t v hv)⟩
theorem XC.weaken {c : Code} {E' : Env} {h' : Hp} (hl : EnvLe E E') (hs : List.Sublist h h') (H : XC P r N c Q E D h) : XC P r N c Q E' D h' := by
  intro w a ho ha hd
  have ho' := ho.sub hs
  refine wpIn_mono (H w a ho' (ha.le hl) hd) ?_
  rintro e a' w' ⟨E2, h2, q, ha2, hf⟩
  refine ⟨E2, h2, q, ha2, hf.own, hf.os, hf.tape, hf.output, hf.size, fun b hb hn => hf.rest b hb fun hm => hn ((hs.map _).subset hm)⟩
theorem XC.perm {c : Code} {h' : Hp} (hp : List.Perm h h') (H : XC P r N c Q E D h) : XC P r N c Q E D h' := by
  intro w a ho ha hd
  refine wpIn_mono (H w a (ho.perm hp) ha hd) ?_
  rintro e a' w' ⟨E2, h2, q, ha2, hf⟩
  exact ⟨E2, h2, q, ha2, hf.permL hp.symm⟩
theorem wpIn_loop_ghost {F : Fence} {n : Nat} {σ : Type} {c : Code} {Q : Exit → Act → World → Prop} (I : σ → Act → World → Prop) (μ : σ → Nat)
    (round : ∀ x a w, I x a w → c.wpIn F n P (Exit.then (fun a' w' => ∃ x', I x' a' w' ∧ μ x' < μ x) Q) a w) (x₀ : σ) (a : Act) (w : World) (h₀ : I x₀ a w) : (Code.loop c).wpIn F n P Q a w := by
  intro b k cs hro hb hr
  have key : ∀ j x a w, μ x = j → I x a w →
      ∃ e a' w', Q e a' w' ∧ ArrivesIn (Machine.fenced P F) P (lone (b.atR a (.code c :: .inLoop c :: k)) cs w) b k cs e a' w' := by
    intro j
    induction j using Nat.strongRecOn with
    | _ j ih =>
      intro x a w hn hI
      obtain ⟨e, a₁, w₁, hq, harr⟩ := round x a w hI b (.inLoop c :: k) cs hro hb hr
      cases e with
      | normal =>
        obtain ⟨x', hI₁, hlt⟩ := hq
        obtain ⟨e₂, a₂, w₂, hq₂, harr₂⟩ := ih (μ x') (hn ▸ hlt) x' a₁ w₁ rfl hI₁
        exact ⟨e₂, a₂, w₂, hq₂, .of_steps (StepsIn.trans harr (.one (fenced_calm hb hr rfl) stepR_inLoop)) harr₂⟩
      | _ => exact ⟨_, a₁, w₁, hq, .pass (x := .inLoop c) rfl (fun _ _ => .inl (by simp)) harr⟩
  obtain ⟨e, a', w', hq, harr⟩ := key _ x₀ a w rfl h₀
  exact ⟨e, a', w', hq, .of_steps (.one (fenced_calm hb hr rfl) stepR_loop) harr⟩
theorem xc_loop {σ : Type} {c : Code} (I : σ → Prop) (EI : σ → Env) (HI : σ → Hp) (μ : σ → Nat) (x₀ : σ) (h₀ : I x₀) (hl : EnvLe (EI x₀) E) (hs : List.Sublist (HI x₀) h)
    (round : ∀ x, I x → XC P r N c (Th (fun E' D' h' => ∃ x', I x' ∧ μ x' < μ x ∧ EnvLe (EI x') E' ∧ D' = D ∧ List.Sublist (HI x') h') Q) (EI x) D (HI x)) :
    XC P r N (.loop c) Q E D h := by
  refine XC.weaken hl hs ?_
  intro w a ho ha hd
  refine wpIn_loop_ghost (fun x a' w' => I x ∧ Agree N (EI x) a' ∧ a'.defers = D ∧ Fol (HI x₀) w (HI x) w') μ ?_ x₀ a w ⟨h₀, ha, hd, .refl ho⟩
  rintro x a' w' ⟨hi, ha', hd', hf⟩
  refine wpIn_mono (round x hi w' a' hf.own ha' hd') ?_
  rintro e a2 w2 ⟨E2, h2, q, ha2, hf2⟩
  cases e with
  | normal =>
    obtain ⟨x', hi', hlt, hle, hd2, hsub⟩ := q
    exact ⟨x', ⟨hi', ha2.le hle, hd2, hf.trans (hf2.sub hsub)⟩, hlt⟩
  | _ => exact ⟨E2, h2, q, ha2, hf.trans hf2⟩
theorem xc_region {id : Nat} {ops : Array Oper} (H : XR P r N ops 0 Q E D h) : XC P r N (.region id ops false) Q E D h := by
  intro w a ho ha hd
  refine wpIn_region ?_
  have := H w a ho ha hd
  rwa [Nat.sub_zero, ← List.range_eq_range'] at this
theorem xr_end {ops : Array Oper} {i : Nat} (hi : Nat.ble ops.size i = true) (H : Q .normal E D h) : XR P r N ops i Q E D h := by
  intro w a ho ha hd
  have : ops.size - i = 0 := by have := Nat.le_of_ble_eq_true hi; omega
  rw [this]
  exact ⟨E, h, by rw [hd]; exact H, ha, .refl ho⟩
theorem range'_at {ops : Array Oper} {i : Nat} {o : Oper} (ho : ops[i]? = some o) : List.range' i (ops.size - i) = i :: List.range' (i + 1) (ops.size - (i + 1)) := by
  have := (Array.getElem?_eq_some_iff.1 ho).1
  obtain ⟨k, hk⟩ : ∃ k, ops.size - i = k + 1 := ⟨ops.size - i - 1, by omega⟩
  rw [hk, List.range'_succ, show ops.size - (i + 1) = k by omega]
def dstOk (N : Nat) : Option Nat → Bool
  | none => true
  | some d => Nat.blt d N
theorem dstOk_lt {d : Option Nat} (hd : dstOk N d = true) : ∀ k, d = some k → k < N := by
  rintro k rfl
  simp only [dstOk, Nat.blt] at hd
  exact Nat.le_of_ble_eq_true hd
theorem xrl_op {ops : Array Oper} {i : Nat} {l : List Nat} {o : Oper} (hi : ops[i]? = some o) (hw : ∀ a, Agree N E a → Region.wanted o (yielded ops a.tmps) = true) (hd : dstOk N o.dst = true)
    (H : XV P r o (fun v h' => XRL P r N ops l Q (E.put o.dst v) D h') (fun ch h' => Q (.panic ch) E D h') E h) : XRL P r N ops (i :: l) Q E D h := by
  intro w a ho ha hda
  simp only [wpOpsIn, hi]
  rw [if_pos (hw a ha)]
  refine H w a ho (fun x _ v hv => ha.ev hv) _ _ ?_ ?_
  · intro v h' w' hk hf
    have hda' : (a.put o.dst v).defers = D := by cases o.dst <;> exact hda
    exact wpOpsIn_mono (fun _ _ _ ⟨E2, h2, q, x, f2⟩ => ⟨E2, h2, q, x, hf.trans f2⟩) _ _ _ (hk w' _ hf.own (ha.put (dstOk_lt hd)) hda')
  · intro ch h' w' hk hf
    exact ⟨E, h', by rw [hda]; exact hk, ha, hf⟩
theorem xr_op {ops : Array Oper} {i : Nat} {dst : Option Nat} {op : Op} {ty : TypeId} {pos : String} {af : Array Edge} (hi : ops[i]? = some ⟨dst, op, ty, pos, af, none⟩) (hd : dstOk N dst = true)
    (H : XV P r ⟨dst, op, ty, pos, af, none⟩ (fun v h' => XR P r N ops (i + 1) Q (E.put dst v) D h') (fun ch h' => Q (.panic ch) E D h') E h) : XR P r N ops i Q E D h := by
  unfold XR
  rw [range'_at hi]
  exact xrl_op hi (fun _ _ => rfl) hd H
def gv (ops : Array Oper) (E : Env) (j : Nat) : Option Value := ((ops[j]?).bind (·.dst)).bind E
theorem gv_yielded {ops : Array Oper} {a : Act} {j : Nat} {t : Bool} (ha : Agree N E a) (hg : gv ops E j = some (.bool t)) : yielded ops a.tmps j = some t := by
  unfold gv at hg
  unfold yielded
  cases hd : (ops[j]?).bind (·.dst) with
  | none => rw [hd] at hg; cases hg
  | some d =>
    rw [hd] at hg
    have := ha.val d _ hg
    simp [this]
theorem xr_gd {ops : Array Oper} {i : Nat} {dst : Option Nat} {op : Op} {ty : TypeId} {pos : String} {af : Array Edge} {j : Nat} {t : Bool} (hi : ops[i]? = some ⟨dst, op, ty, pos, af, some (j, t)⟩) (hg : gv ops E j = some (.bool t)) (hd : dstOk N dst = true)
    (H : XV P r ⟨dst, op, ty, pos, af, some (j, t)⟩ (fun v h' => XR P r N ops (i + 1) Q (E.put dst v) D h') (fun ch h' => Q (.panic ch) E D h') E h) : XR P r N ops i Q E D h := by
  unfold XR
  rw [range'_at hi]
  exact xrl_op hi (fun a ha => by simp [Region.wanted, gv_yielded ha hg]) hd H
theorem xrl_no {ops : Array Oper} {i : Nat} {l : List Nat} {o : Oper} {j : Nat} {t u : Bool} (hi : ops[i]? = some o) (hgd : o.guard = some (j, t)) (hg : gv ops E j = some (.bool u)) (hne : (u == t) = false) (hd : dstOk N o.dst = true)
    (H : XRL P r N ops l Q (E.put o.dst undef) D h) : XRL P r N ops (i :: l) Q E D h := by
  intro w a ho ha hda
  simp only [wpOpsIn, hi]
  have hw : ¬ Region.wanted o (yielded ops a.tmps) = true := by
    simp only [Region.wanted, hgd, gv_yielded ha hg]
    cases u <;> cases t <;> simp_all
  rw [if_neg hw]
  refine ⟨fun _ _ => trivial, ?_⟩
  have hda' : (a.put o.dst undef).defers = D := by cases o.dst <;> exact hda
  exact H w _ ho (ha.put (dstOk_lt hd)) hda'
theorem xr_no {ops : Array Oper} {i : Nat} {dst : Option Nat} {op : Op} {ty : TypeId} {pos : String} {af : Array Edge} {j : Nat} {t u : Bool} (hi : ops[i]? = some ⟨dst, op, ty, pos, af, some (j, t)⟩) (hg : gv ops E j = some (.bool u)) (hne : (u == t) = false) (hd : dstOk N dst = true)
    (H : XR P r N ops (i + 1) Q (E.put dst undef) D h) : XR P r N ops i Q E D h := by
  unfold XR
  rw [range'_at hi]
  exact xrl_no hi rfl hg hne hd H
def plainOp (o : Op) : Prop := (∀ c, o ≠ .defer c) ∧ ∀ cs b, o ≠ .select cs b
theorem ops_rho {o : Oper} {a : Act} (hp : plainOp o.op) (ha : OpsAt E o a) : ∃ ρ : Operand → Value, (∀ x v, ev E x = some v → ρ x = v) ∧ execOp ρ o = execOp a.eval o := by
  refine ⟨fun x => (ev E x).getD (a.eval x), fun x v hv => by simp [hv], execOp_congr o hp.2 fun x hx => ?_⟩
  cases hv : ev E x with
  | none => simp
  | some v => simp only [Option.getD_some]; exact (ha x hx v hv).symm
theorem xv_of_run {o : Oper} {K : Value → Hp → Prop} {T : List PanicEntry → Hp → Prop} (hnd : plainOp o.op)
    (H : ∀ w ρ, Own h w → (∀ x v, ev E x = some v → ρ x = v) → ∃ v h' w', (execOp ρ o).run P w = .ok (.value v) w' ∧ K v h' ∧ Fol h w h' w') : XV P r o K T E h := by
  intro w a ho ha next Q hn _
  obtain ⟨ρ, he, hρ⟩ := ops_rho hnd ha
  obtain ⟨v, h', w', hr, hk, hf⟩ := H w ρ ho he
  refine ⟨fun _ _ => trivial, ?_⟩
  rw [Oper.semAt_eq _ _ _ hnd.1, ← hρ, hr]
  exact hn v h' w' hk hf
theorem xv_of_skip {o : Oper} {K : Value → Hp → Prop} {T : List PanicEntry → Hp → Prop} (hnd : plainOp o.op)
    (H : ∀ w ρ, Own h w → (∀ x v, ev E x = some v → ρ x = v) → ∃ h' w', (execOp ρ o).run P w = .ok .skip w' ∧ K undef h' ∧ Fol h w h' w') : XV P r o K T E h := by
  intro w a ho ha next Q hn _
  obtain ⟨ρ, he, hρ⟩ := ops_rho hnd ha
  obtain ⟨h', w', hr, hk, hf⟩ := H w ρ ho he
  refine ⟨fun _ _ => trivial, ?_⟩
  rw [Oper.semAt_eq _ _ _ hnd.1, ← hρ, hr]
  exact hn undef h' w' hk hf
theorem xv_of_panic {o : Oper} {K : Value → Hp → Prop} {T : List PanicEntry → Hp → Prop} (hnd : plainOp o.op)
    (H : ∀ w ρ, Own h w → (∀ x v, ev E x = some v → ρ x = v) → ∃ v h' w', (execOp ρ o).run P w = .halt (.panic v) w' ∧ T [{ v, recovered := false }] h' ∧ Fol h w h' w') : XV P r o K T E h := by
  intro w a ho ha next Q _ hq
  obtain ⟨ρ, he, hρ⟩ := ops_rho hnd ha
  obtain ⟨v, h', w', hr, hk, hf⟩ := H w ρ ho he
  refine ⟨fun _ _ => trivial, ?_⟩
  rw [Oper.semAt_eq _ _ _ hnd.1, ← hρ, hr]
  exact hq _ h' w' hk hf
theorem ACalls.mono {f : FuncId} {args : Array Value} {R R' : Ending → Hp → Prop} (H : ACalls P f args h R) (hr : ∀ e h', R e h' → R' e h') : ACalls P f args h R' :=
  fun w ho => (H w ho).mono fun _ _ ⟨h', q, x⟩ => ⟨h', hr _ _ q, x⟩
def Up (K : Value → Hp → Prop) (T : List PanicEntry → Hp → Prop) : Ending → Hp → Prop
  | .returned v, h => K v h
  | .panicked ch, h => T ch h
  | .outgrown, _ => False
theorem callsIn_fen {f : FuncId} {args : Array Value} {w : World} {R : Ending → World → Prop} {n : Nat} : CallsIn (fen r) n P f args w R ↔ Calls P f args w R := by
  have := callsIn_wide (n := n) (P := P) (f := f) (args := args) (w := w) (R := R)
  exact this
theorem xv_enter {o : Oper} {K : Value → Hp → Prop} {T : List PanicEntry → Hp → Prop} {f : FuncId} {args : Array Value} (hnd : plainOp o.op)
    (hr : ∀ w ρ, (∀ x v, ev E x = some v → ρ x = v) → (execOp ρ o).run P w = .ok (.enter f args) w) (H : ACalls P f args h (Up K T)) : XV P r o K T E h := by
  intro w a ho ha next Q hn hq
  obtain ⟨ρ, he, hρ⟩ := ops_rho hnd ha
  refine ⟨fun _ _ => trivial, ?_⟩
  rw [Oper.semAt_eq _ _ _ hnd.1, ← hρ, hr w ρ he]
  refine ⟨fun hh => by simp [fen, Fence.wide] at hh, callsIn_fen.2 ((H w ho).mono ?_)⟩
  rintro e w' ⟨h', q, hf⟩
  cases e with
  | returned v => exact hn v h' w' q hf
  | panicked ch => exact hq ch h' w' q hf
  | outgrown => exact q.elim
theorem XV.mono {o : Oper} {K K' : Value → Hp → Prop} {T T' : List PanicEntry → Hp → Prop} (H : XV P r o K T E h) (hk : ∀ v h', K v h' → K' v h') (ht : ∀ c h', T c h' → T' c h') : XV P r o K' T' E h :=
  fun w a ho ha next Q hn hq => H w a ho ha next Q (fun v h' w' k f => hn v h' w' (hk _ _ k) f) (fun c h' w' k f => hq c h' w' (ht _ _ k) f)
end Go.H

/-
  The rules on operations: one a kind of operation.
-/
namespace Go.H
open Go
variable {P : Program} {r : Option Nat} {N : Nat} {Q : Post} {E : Env} {D : List Deferred} {h : Hp}
variable {K : Value → Hp → Prop} {T : List PanicEntry → Hp → Prop} {dst : Option Nat} {ty : TypeId} {pos : String} {af : Array Edge} {gd : Option (Nat × Bool)}
structure TD where
  size : Nat
  bytes : Nat
  und : TypeDesc
  zero : Value
def TyOk (P : Program) (t : TypeId) (d : TD) : Prop := P.underlying t = some d.und ∧ (P.info? t).map (fun i => (i.size, i.bytes, i.zero)) = some (d.size, d.bytes, some d.zero)
theorem TyOk.info {t : TypeId} {d : TD} (H : TyOk P t d) : ∃ i, P.info? t = some i ∧ i.size = d.size ∧ i.bytes = d.bytes ∧ i.zero = some d.zero := by
  have := H.2
  cases hi : P.info? t with
  | none => simp [hi] at this
  | some i => simp [hi] at this; exact ⟨i, rfl, this⟩
theorem TyOk.run_size {t : TypeId} {d : TD} (H : TyOk P t d) (w : World) : (sizeOf t).run P w = .ok d.size w := by
  obtain ⟨i, hi, hs, _⟩ := H.info
  simp [sizeOf, typeInfo, hi, hs]
theorem TyOk.run_zero {t : TypeId} {d : TD} (H : TyOk P t d) (w : World) : (zeroValue t).run P w = .ok d.zero w := by
  obtain ⟨i, hi, _, _, hz⟩ := H.info
  simp [zeroValue, typeInfo, hi, hz]
theorem TyOk.run_und {t : TypeId} {d : TD} (H : TyOk P t d) (w : World) : (underlying t).run P w = .ok d.und w := run_underlying H.1 w
def aggB : TypeDesc → Bool
  | .struct _ | .array _ _ => true
  | _ => false
theorem TyOk.run_agg {t : TypeId} {d : TD} (H : TyOk P t d) (w : World) : (isAgg t).run P w = .ok (aggB d.und) w := by
  unfold isAgg
  simp only [Sem.run_bind, H.run_und, Result.andThen_ok]
  cases d.und <;> rfl
theorem wrap_i64 {n : Int} (h1 : -9223372036854775808 ≤ n) (h2 : n ≤ 9223372036854775807) : IntKind.i64.wrap n = n := by
  rw [IntKind.wrap_i64]; omega
theorem xv_move {x : Operand} {v : Value} (hx : ev E x = some v) (H : K v h) : XV P r ⟨dst, .move x, ty, pos, af, gd⟩ K T E h :=
  xv_of_run (by simp [plainOp]) fun w ρ ho he => ⟨v, h, w, by simp [execOp, he _ _ hx], H, .refl ho⟩
theorem xv_assign {x : Operand} {v : Value} (hx : ev E x = some v) (H : K v h) : XV P r ⟨dst, .assign x, ty, pos, af, gd⟩ K T E h :=
  xv_of_run (by simp [plainOp]) fun w ρ ho he => ⟨v, h, w, by simp [execOp, he _ _ hx], H, .refl ho⟩
theorem xv_pick {c x y : Operand} {t : Bool} {v : Value} (hc : ev E c = some (.bool t)) (hx : (if t then ev E x else ev E y) = some v) (H : K v h) : XV P r ⟨dst, .pick c x y, ty, pos, af, gd⟩ K T E h :=
  xv_of_run (by simp [plainOp]) fun w ρ ho he => ⟨v, h, w, by
    cases t with
    | true => simp [execOp, he _ _ hc, he _ _ hx, asBool]
    | false => simp [execOp, he _ _ hc, he _ _ hx, asBool], H, .refl ho⟩
theorem xv_nilp {x : Operand} {a : Addr} (hx : ev E x = some (.pointer (some a))) (H : K (.pointer (some a)) h) : XV P r ⟨dst, .nilCheck x, ty, pos, af, gd⟩ K T E h :=
  xv_of_run (by simp [plainOp]) fun w ρ ho he => ⟨_, h, w, by simp [execOp, he _ _ hx], H, .refl ho⟩
theorem run_bin {op : BinOp} {xt yt : TypeId} {x y : Operand} {ρ : Operand → Value} {u v : Value} {w : World} (hu : ρ x = u) (hv : ρ y = v) (hg : ∀ w, (eqGuard op xt x y u v).run P w = .ok () w) :
    (execOp ρ ⟨dst, .binOp op xt x y yt, ty, pos, af, gd⟩).run P w = ((binOp op xt u v).run P w).andThen fun z w' => .ok (.value z) w' := by
  simp [execOp, hu, hv, hg]
theorem eqGuard_int (op : BinOp) (t : TypeId) (x y : Operand) (k : IntKind) (a b : Int) (w : World) : (eqGuard op t x y (.int k a) (.int k b)).run P w = .ok () w := by
  unfold eqGuard; cases op <;> simp
theorem xv_add {xt yt : TypeId} {x y : Operand} {k : IntKind} {a b : Int} {c : Int} (hx : ev E x = some (.int k a)) (hy : ev E y = some (.int k b)) (hc : k.wrap (a + b) = c) (H : K (.int k c) h) : XV P r ⟨dst, .binOp .add xt x y yt, ty, pos, af, gd⟩ K T E h :=
  xv_of_run (by simp [plainOp]) fun w ρ ho he => ⟨_, h, w, by rw [run_bin (he _ _ hx) (he _ _ hy) (eqGuard_int _ _ _ _ _ _ _)]; simp [binOp, Op.intArith, hc], H, .refl ho⟩
theorem xv_sub {xt yt : TypeId} {x y : Operand} {k : IntKind} {a b : Int} {c : Int} (hx : ev E x = some (.int k a)) (hy : ev E y = some (.int k b)) (hc : k.wrap (a - b) = c) (H : K (.int k c) h) : XV P r ⟨dst, .binOp .sub xt x y yt, ty, pos, af, gd⟩ K T E h :=
  xv_of_run (by simp [plainOp]) fun w ρ ho he => ⟨_, h, w, by rw [run_bin (he _ _ hx) (he _ _ hy) (eqGuard_int _ _ _ _ _ _ _)]; simp [binOp, Op.intArith, hc], H, .refl ho⟩
theorem xv_mul {xt yt : TypeId} {x y : Operand} {k : IntKind} {a b : Int} {c : Int} (hx : ev E x = some (.int k a)) (hy : ev E y = some (.int k b)) (hc : k.wrap (a * b) = c) (H : K (.int k c) h) : XV P r ⟨dst, .binOp .mul xt x y yt, ty, pos, af, gd⟩ K T E h :=
  xv_of_run (by simp [plainOp]) fun w ρ ho he => ⟨_, h, w, by rw [run_bin (he _ _ hx) (he _ _ hy) (eqGuard_int _ _ _ _ _ _ _)]; simp [binOp, Op.intArith, hc], H, .refl ho⟩
theorem xv_quo {xt yt : TypeId} {x y : Operand} {k : IntKind} {a b : Int} {c : Int} (hx : ev E x = some (.int k a)) (hy : ev E y = some (.int k b)) (hb : b ≠ 0) (hc : k.wrap (a.tdiv b) = c) (H : K (.int k c) h) : XV P r ⟨dst, .binOp .quo xt x y yt, ty, pos, af, gd⟩ K T E h :=
  xv_of_run (by simp [plainOp]) fun w ρ ho he => ⟨_, h, w, by rw [run_bin (he _ _ hx) (he _ _ hy) (eqGuard_int _ _ _ _ _ _ _)]; simp [binOp, Op.intDiv, hb, hc], H, .refl ho⟩
theorem xv_rem {xt yt : TypeId} {x y : Operand} {k : IntKind} {a b : Int} {c : Int} (hx : ev E x = some (.int k a)) (hy : ev E y = some (.int k b)) (hb : b ≠ 0) (hc : a.tmod b = c) (H : K (.int k c) h) : XV P r ⟨dst, .binOp .rem xt x y yt, ty, pos, af, gd⟩ K T E h :=
  xv_of_run (by simp [plainOp]) fun w ρ ho he => ⟨_, h, w, by rw [run_bin (he _ _ hx) (he _ _ hy) (eqGuard_int _ _ _ _ _ _ _)]; simp [binOp, Op.intDiv, hb, hc], H, .refl ho⟩
def cmpB (op : BinOp) (a b : Int) : Option Bool :=
  match op with
  | .eql => some (a == b)
  | .neq => some (a != b)
  | .lss => some (decide (a < b))
  | .leq => some (decide (a ≤ b))
  | .gtr => some (decide (b < a))
  | .geq => some (decide (b ≤ a))
  | _ => none
theorem xv_cmp {op : BinOp} {xt yt : TypeId} {x y : Operand} {k : IntKind} {a b : Int} {c : Bool} (hx : ev E x = some (.int k a)) (hy : ev E y = some (.int k b)) (hc : cmpB op a b = some c) (H : K (.bool c) h) : XV P r ⟨dst, .binOp op xt x y yt, ty, pos, af, gd⟩ K T E h :=
  xv_of_run (by simp [plainOp]) fun w ρ ho he => ⟨_, h, w, by
    rw [run_bin (he _ _ hx) (he _ _ hy) (eqGuard_int _ _ _ _ _ _ _)]
    cases op <;> simp [cmpB] at hc <;> subst hc <;> simp [binOp, Op.intCmp], H, .refl ho⟩
def cmpP (op : BinOp) (a b : Int) : Prop :=
  match op with
  | .eql => a = b
  | .neq => a ≠ b
  | .lss => a < b
  | .leq => a ≤ b
  | .gtr => b < a
  | .geq => b ≤ a
  | _ => False
theorem xv_cmp2 {op : BinOp} {xt yt : TypeId} {x y : Operand} {k : IntKind} {a b : Int} {c : Bool} (hx : ev E x = some (.int k a)) (hy : ev E y = some (.int k b)) (hc : cmpB op a b = some c)
    (H1 : cmpP op a b → K (.bool true) h) (H2 : ¬ cmpP op a b → K (.bool false) h) : XV P r ⟨dst, .binOp op xt x y yt, ty, pos, af, gd⟩ K T E h := by
  have hq : c = true ↔ cmpP op a b := by cases op <;> simp [cmpB] at hc <;> subst hc <;> simp [cmpP]
  refine xv_cmp hx hy hc ?_
  cases c with
  | true => exact H1 (hq.1 rfl)
  | false => exact H2 fun hh => by simpa using hq.2 hh
theorem xv_not {xt : TypeId} {x : Operand} {t : Bool} (hx : ev E x = some (.bool t)) (H : K (.bool (!t)) h) : XV P r ⟨dst, .unOp .not xt x, ty, pos, af, gd⟩ K T E h :=
  xv_of_run (by simp [plainOp]) fun w ρ ho he => ⟨_, h, w, by simp [execOp, he _ _ hx, Op.unary], H, .refl ho⟩
def notIface : TypeDesc → Bool
  | .interface _ => false
  | _ => true
theorem xv_iface {xt : TypeId} {x : Operand} {v : Value} {d : TD} (ht : TyOk P xt d) (hd : notIface d.und = true) (hx : ev E x = some v) (H : K (.iface xt v) h) : XV P r ⟨dst, .makeInterface xt x, ty, pos, af, gd⟩ K T E h :=
  xv_of_run (by simp [plainOp]) fun w ρ ho he => ⟨_, h, w, by
    have hu := ht.run_und w
    cases hq : d.und <;> simp [hq, notIface] at hd <;> simp [execOp, he _ _ hx, Instr.makeInterface, hu, hq], H, .refl ho⟩
def evs (E : Env) : List Operand → Option (List Value)
  | [] => some []
  | x :: xs => match ev E x, evs E xs with
    | some v, some vs => some (v :: vs)
    | _, _ => none
theorem evs_map {ρ : Operand → Value} (he : ∀ x v, ev E x = some v → ρ x = v) : ∀ (l : List Operand) (vs : List Value), evs E l = some vs → l.map ρ = vs
  | [], _, hh => by cases hh; rfl
  | x :: xs, _, hh => by
    simp only [evs] at hh
    cases h1 : ev E x with
    | none => simp [h1] at hh
    | some v =>
      cases h2 : evs E xs with
      | none => simp [h1, h2] at hh
      | some vs => simp [h1, h2] at hh; subst hh; simp [he _ _ h1, evs_map he xs vs h2]
theorem evs_arr {ρ : Operand → Value} (he : ∀ x v, ev E x = some v → ρ x = v) {l : Array Operand} {vs : List Value} (hh : evs E l.toList = some vs) : l.map ρ = vs.toArray := by
  have := evs_map he _ _ hh
  apply Array.ext'
  simp [this]
theorem xv_func {fn : Fn} {fi ca : Array Operand} {vs us : List Value} (h1 : evs E fi.toList = some vs) (h2 : evs E ca.toList = some us) (H : K (.func fn ⟨vs⟩ ⟨us⟩) h) : XV P r ⟨dst, .makeFunc fn fi ca, ty, pos, af, gd⟩ K T E h :=
  xv_of_run (by simp [plainOp]) fun w ρ ho he => ⟨_, h, w, by simp [execOp, Instr.makeFunc, evs_arr he h1, evs_arr he h2], H, .refl ho⟩
theorem xv_extract {x : Operand} {i : Nat} {l : List Value} {v : Value} (hx : ev E x = some (.tuple ⟨l⟩)) (hl : l[i]? = some v) (H : K v h) : XV P r ⟨dst, .extract x i, ty, pos, af, gd⟩ K T E h :=
  xv_of_run (by simp [plainOp]) fun w ρ ho he => ⟨v, h, w, by simp [execOp, he _ _ hx, Instr.extract, hl], H, .refl ho⟩
def FldOk (P : Program) (t : TypeId) (i off size : Nat) (agg : Bool) : Prop :=
  ∃ fields f, P.underlying t = some (.struct fields) ∧ fields[i]? = some f ∧ f.offset = off ∧ (∃ d, TyOk P f.type d ∧ d.size = size ∧ aggB d.und = agg)
theorem xv_faddr {t : TypeId} {x : Operand} {i off size b o : Nat} {agg : Bool} (hf : FldOk P t i off (size + 1) agg) (hx : ev E x = some (.pointer (some ⟨b, o, none⟩))) (H : K (.pointer (some ⟨b, o + off, none⟩)) h) : XV P r ⟨dst, .fieldAddr t x i, ty, pos, af, gd⟩ K T E h :=
  xv_of_run (by simp [plainOp]) fun w ρ ho he => ⟨_, h, w, by
    obtain ⟨fields, f, hu, hfi, rfl, d, hd, hs, _⟩ := hf
    have : (⟨b, o, none⟩ : Addr).add f.offset = ⟨b, o + f.offset, none⟩ := by unfold Addr.add; split <;> simp_all
    simp [execOp, he _ _ hx, Instr.fieldAt, run_underlying hu, hfi, Instr.sureAddr, fieldPlace, hd.run_size, hs, this], H, .refl ho⟩
theorem xv_box {t : TypeId} {x : Operand} {v : Value} (hx : ev E x = some v) (H : ∀ b, b ∉ keys h → K (.pointer (some ⟨b, 0, none⟩)) ((b, .cells v.cells t) :: h)) : XV P r ⟨dst, .box t x, ty, pos, af, gd⟩ K T E h :=
  xv_of_run (by simp [plainOp]) fun w ρ ho he => ⟨_, _, w.alloc (.cells v.cells t), by simp [execOp, he _ _ hx, Instr.box, newVar, newRow], H w.heap.size fun hc => Nat.lt_irrefl _ (ho.lt hc), .alloc ho _⟩
theorem xv_alloc {t : TypeId} {d : TD} (ht : TyOk P t d) (H : ∀ b, b ∉ keys h → K (.pointer (some ⟨b, 0, none⟩)) ((b, .cells d.zero.cells t) :: h)) : XV P r ⟨dst, .alloc t, ty, pos, af, gd⟩ K T E h :=
  xv_of_run (by simp [plainOp]) fun w ρ ho he => ⟨_, _, w.alloc (.cells d.zero.cells t), by simp [execOp, Instr.alloc, ht.run_zero, newVar, newRow], H w.heap.size fun hc => Nat.lt_irrefl _ (ho.lt hc), .alloc ho _⟩
theorem cell_of {w : World} {b o : Nat} {l : List Value} {t : TypeId} {fz : Nat × Nat} (ho : Own h w) (hm : (b, .cells ⟨l⟩ t fz) ∈ h) : w.cell? ⟨b, o, none⟩ = l[o]? := by
  simp [World.cell?, ho.has _ _ hm]
theorem xv_load1 {t : TypeId} {x : Operand} {b o : Nat} {l : List Value} {t' : TypeId} {fz : Nat × Nat} {v : Value} {d : TD} (ht : TyOk P t d) (ha : aggB d.und = false) (hx : ev E x = some (.pointer (some ⟨b, o, none⟩)))
    (hm : (b, .cells ⟨l⟩ t' fz) ∈ h) (hl : l[o]? = some v) (H : K v h) : XV P r ⟨dst, .load t x, ty, pos, af, gd⟩ K T E h :=
  xv_of_run (by simp [plainOp]) fun w ρ ho he => ⟨v, h, w, by simp [execOp, he _ _ hx, Instr.loadAt, loadVar, Instr.sureAddr, ht.run_agg, ha, cell_of ho hm, hl], H, .refl ho⟩
theorem xv_loadA {t : TypeId} {x : Operand} {b o : Nat} {l : List Value} {t' : TypeId} {fz : Nat × Nat} {l' : List Value} {d : TD} (ht : TyOk P t d) (ha : aggB d.und = true) (hx : ev E x = some (.pointer (some ⟨b, o, none⟩)))
    (hm : (b, .cells ⟨l⟩ t' fz) ∈ h) (hl : (l.drop o).take d.size = l') (hn : l'.length = d.size) (H : K (.agg ⟨l'⟩) h) : XV P r ⟨dst, .load t x, ty, pos, af, gd⟩ K T E h :=
  xv_of_run (by simp [plainOp]) fun w ρ ho he => ⟨_, h, w, by
    have hc : ∀ j v, l'[j]? = some v → w.cell? ((⟨b, o, none⟩ : Addr).add j) = some v := by
      intro j v hv
      have e : (⟨b, o, none⟩ : Addr).add j = ⟨b, o + j, none⟩ := by unfold Addr.add; split <;> simp_all
      have hj : j < d.size := by rw [← hn]; exact (List.getElem?_eq_some_iff.1 hv).1
      rw [e, cell_of ho hm]
      rw [← hl, List.getElem?_take_of_lt hj, List.getElem?_drop] at hv
      exact hv
    have := run_loadCells_list (P := P) w ⟨b, o, none⟩ l' hc
    rw [hn] at this
    simp [execOp, he _ _ hx, Instr.loadAt, loadVar, Instr.sureAddr, ht.run_agg, ha, ht.run_size, this], H, .refl ho⟩
def splice (l : List Value) (o : Nat) (vs : List Value) : List Value := l.take o ++ vs ++ l.drop (o + vs.length)
theorem fol_row {w : World} {b : Nat} {l : List Value} {t : TypeId} {fz : Nat × Nat} (ho : Own h w) (hm : (b, .cells ⟨l⟩ t fz) ∈ h) (l' : List Value) : Fol h w (setH h b (.cells ⟨l'⟩ t fz)) (w.setRow b ⟨l'⟩) := by
  have hb := ho.has _ _ hm
  have hlt := (Array.getElem?_eq_some_iff.1 hb).1
  refine Fol.set ho hm ?_ (fun k hk => ?_) (by simp [World.setRow]) rfl rfl rfl
  · simp only [World.setRow, Array.getElem?_modify, if_true]
    rw [hb]; rfl
  · simp only [World.setRow, Array.getElem?_modify]
    rw [if_neg (fun e => hk e.symm)]
theorem xv_store {t : TypeId} {x y : Operand} {b o : Nat} {l : List Value} {t' : TypeId} {v : Value} {d : TD} (ht : TyOk P t d) (hx : ev E x = some (.pointer (some ⟨b, o, none⟩))) (hy : ev E y = some v)
    (hm : (b, .cells ⟨l⟩ t' (0, 0)) ∈ h) (hn : v.cells.size = d.size) (hr : o + d.size ≤ l.length) (h1 : v.cells.toList.all Value.oneCell' = true)
    (H : K undef (setH h b (.cells ⟨splice l o v.cells.toList⟩ t' (0, 0)))) : XV P r ⟨dst, .store t x y, ty, pos, af, gd⟩ K T E h :=
  xv_of_skip (by simp [plainOp]) fun w ρ ho he => ⟨_, _, by
    have hg := ho.has _ _ hm
    have hs := run_storeCells_at (P := P) b o t' v.cells.toList 0 ⟨l⟩ w hg (by simp; omega) (List.all_eq_true.1 h1)
    simp only [Nat.add_zero] at hs
    have h2 : (storeVar t ⟨b, o, none⟩ v).run P w = .ok () (w.setRow b ⟨splice l o v.cells.toList⟩) := by
      simp only [storeVar, Sem.run_bind, ht.run_size, Result.andThen_ok, hn, ne_eq, not_true_eq_false, if_false, Sem.run_ite]
      rw [show (storeCells ⟨b, o, none⟩ v.cells.toList).run P w = _ from hs]
      rfl
    simp only [execOp, he _ _ hx, he _ _ hy, Instr.storeAt, Instr.sureAddr, Sem.run_bind, Sem.run_pure, Result.andThen_ok, h2], H, fol_row ho hm _⟩
theorem splice_one {l : List Value} {o : Nat} {v : Value} (ho : o < l.length) : splice l o [v] = l.set o v := by
  unfold splice
  rw [List.set_eq_take_append_cons_drop, if_pos ho]
  simp
theorem xv_store1 {t : TypeId} {x y : Operand} {b o : Nat} {l : List Value} {t' : TypeId} {v : Value} {d : TD} (ht : TyOk P t d) (hd : d.size = 1) (hx : ev E x = some (.pointer (some ⟨b, o, none⟩))) (hy : ev E y = some v)
    (hm : (b, .cells ⟨l⟩ t' (0, 0)) ∈ h) (h1 : v.oneCell' = true) (hr : o < l.length)
    (H : K undef (setH h b (.cells ⟨l.set o v⟩ t' (0, 0)))) : XV P r ⟨dst, .store t x y, ty, pos, af, gd⟩ K T E h := by
  have hc : v.cells = #[v] := by cases v <;> simp [Value.oneCell'] at h1 <;> rfl
  refine xv_store ht hx hy hm (by rw [hc, hd]; rfl) (by omega) (by simp [hc, h1]) ?_
  rw [hc]
  show K undef (setH h b (.cells ⟨splice l o [v]⟩ t' (0, 0)))
  rw [splice_one hr]
  exact H
end Go.H

/-
  Calls, entry and return of a function, ranges over functions.
-/
namespace Go.H
open Go
variable {P : Program} {r : Option Nat} {N : Nat} {Q : Post} {E : Env} {D : List Deferred} {h : Hp}
variable {K : Value → Hp → Prop} {T : List PanicEntry → Hp → Prop} {dst : Option Nat} {ty : TypeId} {pos : String} {af : Array Edge} {gd : Option (Nat × Bool)}
def HasBody (P : Program) (f : FuncId) : Prop := ∀ args w, (callFunc f args).run P w = .ok (.enter f args) w
theorem resolve_value {ρ : Operand → Value} {c : Operand} {fn : Fn} {fi ca : Array Value} {args : Array Operand} {at_ : Array TypeId} {t : TypeId} {w : World} (hc : ρ c = .func fn fi ca) :
    (resolve ρ ⟨.value c, args, at_⟩ t).run P w = .ok { target := .fn fn ca, args := fi ++ args.map ρ } w := by
  simp [resolve, Deferred.ofValue, hc]
theorem xv_call {c : Operand} {g : FuncId} {fi ca vs : List Value} {args : Array Operand} {at_ : Array TypeId} {az : Array Value} (hc : ev E c = some (.func (.func g) ⟨fi⟩ ⟨ca⟩)) (ha : evs E args.toList = some vs) (hb : HasBody P g)
    (has : (⟨fi ++ vs ++ ca⟩ : Array Value) = az) (H : ACalls P g az h (Up K T)) : XV P r ⟨dst, .call ⟨.value c, args, at_⟩, ty, pos, af, gd⟩ K T E h := by
  refine xv_enter (by simp [plainOp]) (fun w ρ he => ?_) H
  have hr := resolve_value (P := P) (args := args) (at_ := at_) (t := ty) (w := w) (he _ _ hc)
  have hm := evs_arr he ha
  subst has
  simpa [execOp, hr, invoke, hm] using hb _ w
theorem xv_calls {g : FuncId} {vs : List Value} {args : Array Operand} {at_ : Array TypeId} (ha : evs E args.toList = some vs) (hb : HasBody P g)
    (H : ACalls P g ⟨vs⟩ h (Up K T)) : XV P r ⟨dst, .call ⟨.value (.func g), args, at_⟩, ty, pos, af, gd⟩ K T E h :=
  xv_call (fi := []) (ca := []) rfl ha hb (by simp) H
def ofL (l : List Value) : Env := fun t => l[t]?
theorem agree_ofL (vs : List Value) (k : Nat) : Agree (vs.length + k) (ofL vs) { tmps := ⟨vs⟩ ++ Array.replicate k undef, defers := [] } := by
  refine ⟨by simp, fun t v hv => ?_⟩
  have hlt : t < vs.length := (List.getElem?_eq_some_iff.1 hv).1
  simp only [ofL] at hv
  rw [Array.getElem?_append_left (by simpa using hlt)]
  simpa using hv
def ResOk (P : Program) (E : Env) (h : Hp) : List ResultVar → List Value → Prop
  | [], vs => vs = []
  | .tmp t :: rs, vs => ∃ v vs', vs = v :: vs' ∧ E t = some v ∧ ResOk P E h rs vs'
  | .cell a t :: rs, vs => ∃ v vs', vs = v :: vs' ∧ (∃ b o l t' fz d, E a = some (.pointer (some ⟨b, o, none⟩)) ∧ (b, .cells ⟨l⟩ t' fz) ∈ h ∧ TyOk P t d ∧
      ((aggB d.und = false ∧ l[o]? = some v) ∨ (aggB d.und = true ∧ ∃ l', (l.drop o).take d.size = l' ∧ l'.length = d.size ∧ v = .agg ⟨l'⟩))) ∧ ResOk P E h rs vs'
def tupV : List Value → Value
  | [v] => v
  | vs => .tuple ⟨vs⟩
theorem run_loadVarH {w : World} {b o : Nat} {l : List Value} {t t' : TypeId} {fz : Nat × Nat} {d : TD} {v : Value} (hb : w.heap[b]? = some (.cells ⟨l⟩ t' fz)) (ht : TyOk P t d)
    (hv : (aggB d.und = false ∧ l[o]? = some v) ∨ (aggB d.und = true ∧ ∃ l', (l.drop o).take d.size = l' ∧ l'.length = d.size ∧ v = .agg ⟨l'⟩)) : (loadVar t ⟨b, o, none⟩).run P w = .ok v w := by
  have hcell : ∀ o, w.cell? ⟨b, o, none⟩ = l[o]? := fun o => by simp [World.cell?, hb]
  rcases hv with ⟨ha, hv⟩ | ⟨ha, l', hl, hn, rfl⟩
  · simp [loadVar, ht.run_agg, ha, hcell, hv]
  · have hc : ∀ j v, l'[j]? = some v → w.cell? ((⟨b, o, none⟩ : Addr).add j) = some v := by
      intro j v hv
      have e : (⟨b, o, none⟩ : Addr).add j = ⟨b, o + j, none⟩ := by unfold Addr.add; split <;> simp_all
      have hj : j < d.size := by rw [← hn]; exact (List.getElem?_eq_some_iff.1 hv).1
      rw [e, hcell]
      rw [← hl, List.getElem?_take_of_lt hj, List.getElem?_drop] at hv
      exact hv
    have := run_loadCells_list (P := P) w ⟨b, o, none⟩ l' hc
    rw [hn] at this
    simp [loadVar, ht.run_agg, ha, ht.run_size, this]
def resRun (tmps : Array Value) : ResultVar → Sem Value
  | .tmp t => pure (tmps.getD t undef)
  | .cell a t => do loadVar t (← asAddr (tmps.getD a undef))
theorem ResOk.run {w : World} {tmps : Array Value} {a : Act} (ha : Agree N E a) (htm : a.tmps = tmps) (hw : ∀ b l t fz, (b, .cells l t fz) ∈ h → w.heap[b]? = some (.cells l t fz)) : ∀ (rs : List ResultVar) (vs : List Value), ResOk P E h rs vs →
    (rs.mapM (resRun tmps)).run P w = .ok vs w
  | [], vs, hh => by cases hh; simp
  | .tmp t :: rs, vs, hh => by
    obtain ⟨v, vs', rfl, hv, hrest⟩ := hh
    have h1 := ha.val t v hv
    rw [htm] at h1
    have ih := ResOk.run ha htm hw rs vs' hrest
    simp only [List.mapM_cons, Sem.run_bind, resRun, Sem.run_pure, Result.andThen_ok, ih]
    simp [h1]
  | .cell b t :: rs, vs, hh => by
    obtain ⟨v, vs', rfl, ⟨blk, o, l, t', fz, d, hp, hm, ht, hv⟩, hrest⟩ := hh
    have h1 := ha.val b _ hp
    rw [htm] at h1
    have ih := ResOk.run ha htm hw rs vs' hrest
    have hl := run_loadVarH (P := P) (hw _ _ _ _ hm) ht hv
    simp only [List.mapM_cons, Sem.run_bind, resRun, Sem.run_pure, Result.andThen_ok]
    simp [h1, asAddr, hl, ih]
def Marks (h : Hp) : List Deferred → Prop
  | [] => True
  | d :: ds => (∃ k, d.target = .collected k ∧ (k, .deferred (some [])) ∈ h ∧ ∀ d' ∈ ds, d'.target ≠ .collected k) ∧ Marks h ds
def marked : List Deferred → List Nat
  | [] => []
  | d :: ds => (match d.target with | .collected k => [k] | _ => []) ++ marked ds
def BodyQ (P : Program) (fn : Func) (R : Ending → Hp → Prop) : Post
  | .normal, E, D, h | .ret, E, D, h => Marks h D ∧ ∃ vs h', ResOk P E h fn.results.toList vs ∧ List.Sublist h' h ∧ (∀ k ∈ marked D, k ∉ keys h') ∧ R (.returned (tupV vs)) h'
  | .panic ch, _, D, h => D = [] ∧ R (.panicked ch) h
  | _, _, _, _ => False
theorem results_run {fn : Func} {tmps : Array Value} {w : World} {vs : List Value}
    (hh : (fn.results.toList.mapM (resRun tmps)).run P w = .ok vs w) : (results fn tmps).run P w = .ok (tupV vs) w := by
  have e : results fn tmps = (do
      let vs ← fn.results.mapM (resRun tmps)
      pure (if h : vs.size = 1 then vs[0] else .tuple vs)) := rfl
  rw [e, Array.mapM_eq_mapM_toList]
  simp only [Sem.run_bind, Sem.run_map, hh, Result.andThen_ok, Sem.run_pure]
  match vs with
  | [] => rfl
  | [v] => rfl
  | v :: u :: vs => rfl
theorem leavesM {fn : Func} {R : Ending → World → Prop} {a : Act} {vs : List Value} {h0 h' : Hp} {w0 : World} {R' : Ending → Hp → Prop} (ha : Agree N E a) (hres : ResOk P E h fn.results.toList vs)
    (hR : R' (.returned (tupV vs)) h') (hRR : ∀ e h1 w1, R' e h1 → Fol h0 w0 h1 w1 → R e w1) (hsub : List.Sublist h' h) : ∀ (ds : List Deferred) (w : World),
    Marks h ds → (∀ k ∈ marked ds, k ∉ keys h') → (keys h).Nodup → (∀ b l t fz, (b, .cells l t fz) ∈ h → w.heap[b]? = some (.cells l t fz)) → (∀ k, .collected k ∈ ds.map (·.target) → w.heap[k]? = some (.deferred (some []))) → 
    Fol h0 w0 h' w → (∀ k, .collected k ∈ ds.map (·.target) → w0.heap.size ≤ k ∨ k ∈ keys h0) → LeavesInM (fen none) 0 P fn a.tmps R ds .returning w
  | [], w, _, _, _, hw, _, hf, _ => by
    refine ⟨tupV vs, results_run (hres.run ha rfl hw), hRR _ h' w hR hf⟩
  | d :: ds, w, hm, hk, hnd, hw, hd, hf, hnew => by
    obtain ⟨⟨k, hkt, hkm, hne⟩, hm'⟩ := hm
    have hdk := hd k (by simp [hkt])
    have hkk : k ∉ keys h' := hk k (by simp [marked, hkt])
    refine ⟨by simp, .inl ⟨k, _, hkt, run_takeDeferred hdk, ?_⟩⟩
    have hsize : (w.putObj k (.deferred none)).heap.size = w.heap.size := by simp
    refine leavesM ha hres hR hRR hsub ds _ hm' (fun x hx => hk x (by simp only [marked]; exact List.mem_append_right _ hx)) hnd ?_ ?_ ?_ ?_
    · intro b l t fz hb
      have : b ≠ k := by
        rintro rfl
        have h1 := hw _ _ _ _ hb
        rw [hdk] at h1; cases h1
      rw [World.putObj_heap_other this]; exact hw _ _ _ _ hb
    · intro k' hk'
      have : k' ≠ k := by
        rintro rfl
        obtain ⟨d', hd', e⟩ := List.mem_map.1 hk'
        exact hne d' hd' e
      rw [World.putObj_heap_other this]
      exact hd k' (by simp only [List.map_cons]; exact List.mem_cons_of_mem _ hk')
    · refine ⟨⟨hf.own.nd, fun b o hb => ?_⟩, hf.os, hf.tape, hf.output, by rw [hsize]; exact hf.size, fun b hb hn => ⟨(hf.rest b hb hn).1, ?_⟩⟩
      · have : b ≠ k := by rintro rfl; exact hkk (List.mem_map.2 ⟨_, hb, rfl⟩)
        rw [World.putObj_heap_other this]; exact hf.own.has b o hb
      · have : b ≠ k := by
          rintro rfl
          rcases hnew b (by simp [hkt]) with h1 | h1
          · omega
          · exact hn h1
        rw [World.putObj_heap_other this]; exact (hf.rest b hb hn).2
    · exact fun k' hk' => hnew k' (by simp only [List.map_cons]; exact List.mem_cons_of_mem _ hk')
theorem marks_mem : ∀ {ds : List Deferred}, Marks h ds → ∀ k, .collected k ∈ ds.map (·.target) → (k, .deferred (some [])) ∈ h
  | [], _, k, hk => by cases hk
  | d :: ds, hm, k, hk => by
    rcases List.mem_cons.1 hk with e | hk
    · obtain ⟨k', h1, h2, _⟩ := hm.1
      simp only [h1, Target.collected.injEq] at e; subst e; exact h2
    · exact marks_mem hm.2 k hk
theorem calls_of_xc {f : FuncId} {fn : Func} {c : Code} {vs : List Value} {R : Ending → Hp → Prop} (hf : P.funcs[f]? = some fn) (hb : fn.body = some c) (hN : N = vs.length + (fn.ntmps - vs.length))
    (H : XC P none N c (BodyQ P fn R) (ofL vs) [] h) : ACalls P f ⟨vs⟩ h R := by
  intro w ho
  have hA := agree_ofL vs (fn.ntmps - vs.length)
  rw [← hN] at hA
  refine (callsIn_fen (r := none) (n := 0)).1 (callsIn_of_wp_marks hf hb trivial (wpIn_mono (H w _ ho hA rfl) ?_) rfl)
  rintro e a' w' ⟨E', h', q, ha', hfol⟩
  have key : (Marks h' a'.defers ∧ ∃ vs h2, ResOk P E' h' fn.results.toList vs ∧ List.Sublist h2 h' ∧ (∀ k ∈ marked a'.defers, k ∉ keys h2) ∧ R (.returned (tupV vs)) h2) → 
      LeavesInM (fen none) 0 P fn a'.tmps (fun e w' => ∃ h', R e h' ∧ Fol h w h' w') a'.defers .returning w' := by
    rintro ⟨hm, vs, h2, hres, hsub, hmk, hR⟩
    refine leavesM (R' := R) (h0 := h) (w0 := w) ha' hres hR (fun e h1 w1 a b => ⟨h1, a, b⟩) hsub a'.defers w' hm hmk hfol.own.nd (fun b l t fz hb => hfol.own.has _ _ hb) (fun k hk => hfol.own.has _ _ (marks_mem hm k hk)) (hfol.sub hsub) ?_
    intro k hk
    have hkm := marks_mem hm k hk
    by_cases hlt : k < w.heap.size
    · refine .inr (Classical.byContradiction fun hn => (hfol.rest k hlt hn).1 (List.mem_map.2 ⟨_, hkm, rfl⟩))
    · exact .inl (by omega)
  cases e with
  | normal => exact key q
  | ret => exact key q
  | panic ch =>
    obtain ⟨hd, hR⟩ := q
    show LeavesInM _ _ _ _ _ _ a'.defers _ _
    rw [hd]
    exact ⟨h', hR, hfol⟩
  | exit id => exact q.elim
  | goto l => exact q.elim
  | outgrown => exact q.elim
end Go.H

/-
  Rules on operations, more: stores by the block's place in the list, builtins, slices, maps, strings.
-/
namespace Go.H
open Go
variable {P : Program} {r : Option Nat} {N : Nat} {Q : Post} {E : Env} {D : List Deferred} {h h' : Hp}
variable {K : Value → Hp → Prop} {T : List PanicEntry → Hp → Prop} {dst : Option Nat} {ty : TypeId} {pos : String} {af : Array Edge} {gd : Option (Nat × Bool)}
inductive Upd : Hp → Nat → Obj → Obj → Hp → Prop
  | here {b : Nat} {o o' : Obj} {h : Hp} : Upd ((b, o) :: h) b o o' ((b, o') :: h)
  | there {x : Nat × Obj} {b : Nat} {o o' : Obj} {h h' : Hp} : Upd h b o o' h' → Upd (x :: h) b o o' (x :: h')
theorem Upd.mem {b : Nat} {o o' : Obj} (H : Upd h b o o' h') : (b, o) ∈ h := by
  induction H with
  | here => exact List.mem_cons_self
  | there _ ih => exact List.mem_cons_of_mem _ ih
theorem Upd.set {b : Nat} {o o' : Obj} (H : Upd h b o o' h') : (keys h).Nodup → setH h b o' = h' := by
  induction H with
  | here => intro _; simp [setH]
  | @there x b o o' h h' H ih =>
    intro hn
    obtain ⟨c, oc⟩ := x
    have hn' : c ∉ keys h ∧ (keys h).Nodup := List.nodup_cons.1 hn
    have hne : ¬ c = b := fun e => hn'.1 (by subst e; exact List.mem_map.2 ⟨_, H.mem, rfl⟩)
    simp only [setH, if_neg hne, ih hn'.2]
theorem Upd.append {b : Nat} {o o' : Obj} {f : Hp} (H : Upd h b o o' h') : Upd (h ++ f) b o o' (h' ++ f) := by
  induction H with
  | here => exact .here
  | there _ ih => exact .there ih
theorem Upd.left {b : Nat} {o o' : Obj} (f : Hp) (H : Upd h b o o' h') : Upd (f ++ h) b o o' (f ++ h') := by
  induction f with
  | nil => exact H
  | cons x f ih => exact .there ih
theorem xv_st {t : TypeId} {x y : Operand} {b o : Nat} {l l' vs : List Value} {t' : TypeId} {v : Value} {d : TD} (ht : TyOk P t d) (hx : ev E x = some (.pointer (some ⟨b, o, none⟩))) (hy : ev E y = some v) (hv : v.cells.toList = vs)
    (hn : vs.length = d.size) (h1 : vs.all Value.oneCell' = true) (hl : splice l o vs = l') (hr : Nat.ble (o + d.size) l.length = true)
    (hm : Upd h b (.cells ⟨l⟩ t' (0, 0)) (.cells ⟨l'⟩ t' (0, 0)) h') (H : K undef h') : XV P r ⟨dst, .store t x y, ty, pos, af, gd⟩ K T E h := by
  intro w a ho ha next Q hn1 hq1
  have hs := hm.set ho.nd
  subst hl hv
  exact xv_store (K := fun v h2 => K v h2) (T := T) ht hx hy hm.mem (by simpa using hn) (Nat.le_of_ble_eq_true hr) h1 (by rw [hs]; exact H) w a ho ha next Q hn1 hq1
theorem xv_st1 {t : TypeId} {x y : Operand} {b o : Nat} {l l' : List Value} {t' : TypeId} {v : Value} {d : TD} (ht : TyOk P t d) (hd : d.size = 1) (hx : ev E x = some (.pointer (some ⟨b, o, none⟩))) (hy : ev E y = some v)
    (h1 : v.oneCell' = true) (hr : o < l.length) (hl : l.set o v = l')
    (hm : Upd h b (.cells ⟨l⟩ t' (0, 0)) (.cells ⟨l'⟩ t' (0, 0)) h') (H : K undef h') : XV P r ⟨dst, .store t x y, ty, pos, af, gd⟩ K T E h := by
  intro w a ho ha next Q hn1 hq1
  have hs := hm.set ho.nd
  subst hl
  exact xv_store1 (K := fun v h2 => K v h2) (T := T) ht hd hx hy hm.mem h1 hr (by rw [hs]; exact H) w a ho ha next Q hn1 hq1
theorem run_builtin (ρ : Operand → Value) (b : Builtin) (args : Array Operand) (at_ : Array TypeId) (w : World) :
    ∃ cs, (execOp ρ ⟨dst, .call ⟨.builtin b, args, at_⟩, ty, pos, af, gd⟩).run P w = (builtin b at_ ty cs (args.map ρ)).run P w :=
  ⟨_, by simp only [execOp, resolve, Sem.run_bind, Sem.run_pure, Result.andThen_ok, invoke]; rfl⟩
def SlT (P : Program) (t e : TypeId) : Prop := P.underlying t = some (.slice e)
theorem xv_len {x : Operand} {t e : TypeId} {a : Option Addr} {n c : Nat} (ht : SlT P t e) (hx : ev E x = some (.slice a n c)) (H : K (.int .i64 n) h) : XV P r ⟨dst, .call ⟨.builtin .len, #[x], #[t]⟩, ty, pos, af, gd⟩ K T E h :=
  xv_of_run (by simp [plainOp]) fun w ρ ho he => ⟨_, h, w, by obtain ⟨cs, hcs⟩ := run_builtin (P := P) (dst := dst) (ty := ty) (pos := pos) (af := af) (gd := gd) ρ _ _ _ w; rw [hcs]; simp [builtin, Builtin.len_, he _ _ hx, run_underlying ht, goInt], H, .refl ho⟩
theorem xv_lenStr {x : Operand} {t : TypeId} {s : ByteArray} (ht : P.underlying t = some .string) (hx : ev E x = some (.string s)) (H : K (.int .i64 s.size) h) : XV P r ⟨dst, .call ⟨.builtin .len, #[x], #[t]⟩, ty, pos, af, gd⟩ K T E h :=
  xv_of_run (by simp [plainOp]) fun w ρ ho he => ⟨_, h, w, by obtain ⟨cs, hcs⟩ := run_builtin (P := P) (dst := dst) (ty := ty) (pos := pos) (af := af) (gd := gd) ρ _ _ _ w; rw [hcs]; simp [builtin, Builtin.len_, he _ _ hx, run_underlying ht, goInt], H, .refl ho⟩
theorem addr_add (b o n : Nat) : (⟨b, o, none⟩ : Addr).add n = ⟨b, o + n, none⟩ := by unfold Addr.add; split <;> simp_all
theorem xv_iaddr {x y : Operand} {t e : TypeId} {d : TD} {b o n c : Nat} {k : IntKind} {i : Int} (ht : SlT P t e) (hd : TyOk P e d) (hx : ev E x = some (.slice (some ⟨b, o, none⟩) n c)) (hy : ev E y = some (.int k i)) (h0 : 0 ≤ i) (h1 : i < n)
    (H : K (.pointer (some ⟨b, o + i.toNat * d.size, none⟩)) h) : XV P r ⟨dst, .indexAddr t x y, ty, pos, af, gd⟩ K T E h :=
  xv_of_run (by simp [plainOp]) fun w ρ ho he => ⟨_, h, w, by simp [execOp, he _ _ hx, he _ _ hy, Instr.indexAt, asIntOf, run_underlying ht, h0, h1, hd.run_size, addr_add], H, .refl ho⟩
theorem xv_iaddrA {x y : Operand} {t e : TypeId} {d : TD} {b o n : Nat} {k : IntKind} {i : Int} (ht : P.underlying t = some (.array n e)) (hd : TyOk P e d) (hx : ev E x = some (.pointer (some ⟨b, o, none⟩))) (hy : ev E y = some (.int k i)) (h0 : 0 ≤ i) (h1 : i < n)
    (H : K (.pointer (some ⟨b, o + i.toNat * d.size, none⟩)) h) : XV P r ⟨dst, .indexAddr t x y, ty, pos, af, gd⟩ K T E h :=
  xv_of_run (by simp [plainOp]) fun w ρ ho he => ⟨_, h, w, by simp [execOp, he _ _ hx, he _ _ hy, Instr.indexAt, asIntOf, run_underlying ht, h0, h1, hd.run_size, addr_add, Instr.sureAddr], H, .refl ho⟩
theorem run_sliceBoundH {i : Int} {k : IntKind} {y : Nat} {code : BoundsCode} {w : World} (h0 : 0 ≤ i) (h1 : i ≤ y) : (Instr.sliceBound (.int k i) y code).run P w = .ok i.toNat w := by
  simp [Instr.sliceBound, asIntOf, h0, h1]
end Go.H

/-
  Regions whose order Go leaves open: one canonical order is walked; every other order comes to the same.
-/
namespace Go.H
open Go
variable {P : Program} {r : Option Nat} {N : Nat} {Q : Post} {E : Env} {D : List Deferred} {h : Hp}
variable {K : Value → Hp → Prop} {T : List PanicEntry → Hp → Prop}
def Runs (ops : Array Oper) (o : Oper) (E : Env) : Prop := o.guard = none ∨ ∃ j t, o.guard = some (j, t) ∧ gv ops E j = some (.bool t)
def isb : Value → Bool → Bool
  | .bool u, t => u == t
  | _, _ => false
def Skips (ops : Array Oper) (o : Oper) (E : Env) : Prop := ∃ j t v, o.guard = some (j, t) ∧ gv ops E j = some v ∧ isb v t = false
inductive Kd where
  | S | R | P | A | O
  deriving DecidableEq
abbrev Item := Nat × Kd
def QV (P : Program) (r : Option Nat) (o : Oper) (E : Env) (f : Hp) (v : Value) : Prop := XV P r o (fun v' h' => v' = v ∧ h' = f) (fun _ _ => False) E f
def EqOn (o : Oper) (E E' : Env) : Prop := ∀ t, .tmp t ∈ o.op.operands → E t = E' t
def AL (P : Program) (o : Oper) (E : Env) (mk : Nat → Value) (obj : Obj) : Prop :=
  plainOp o.op ∧ ∀ w ρ, (∀ x v, ev E x = some v → ρ x = v) → (execOp ρ o).run P w = .ok (.value (mk w.heap.size)) (w.alloc obj)
noncomputable def restr (o : Oper) (E : Env) : Env := fun t => by classical exact if .tmp t ∈ o.op.operands then E t else none
theorem restr_eqOn (o : Oper) (E : Env) : EqOn o (restr o E) E := fun t ht => by simp [restr, ht]
theorem restr_congr {o : Oper} {E E' : Env} (H : EqOn o E E') : restr o E = restr o E' := by
  funext t
  unfold restr
  split
  · rename_i ht; exact H t ht
  · rfl
structure Pr where
  val : Nat → Value
  obj : Obj
  env : Env
abbrev Prom := Nat → Option Pr
def Prom.add (G : Prom) (i : Nat) (p : Pr) : Prom := fun k => if k = i then some p else G k
def Holds (L : List (Nat × (Obj → Prop))) (h : Hp) : Prop := ∀ b p, (b, p) ∈ L → ∃ o, (b, o) ∈ h ∧ p o
theorem Holds.perm {L : List (Nat × (Obj → Prop))} {h h' : Hp} (hp : List.Perm h h') (H : Holds L h) : Holds L h' := fun b p hm => let ⟨o, h1, h2⟩ := H b p hm; ⟨o, hp.mem_iff.1 h1, h2⟩
theorem Holds.cons {L : List (Nat × (Obj → Prop))} {h : Hp} (x : Nat × Obj) (H : Holds L h) : Holds L (x :: h) := fun b p hm => let ⟨o, h1, h2⟩ := H b p hm; ⟨o, List.mem_cons_of_mem _ h1, h2⟩
theorem Holds.nil {h : Hp} : Holds [] h := fun _ _ hm => by cases hm
section
variable (P : Program) (r : Option Nat) (N : Nat) (ops : Array Oper) (D : List Deferred) (Q : Post) (f : Hp) (L : List (Nat × (Obj → Prop)))
def Jst (k : Kd) (i : Nat) (o : Oper) (E : Env) (G : Prom) (h : Hp) (K : Env → Prom → Hp → Prop) : Prop :=
  match k with
  | .S => (Skips ops o E ∧ K (E.put o.dst undef) G h) ∨ (Runs ops o E ∧ ∃ v, (∀ hh, Holds L hh → QV P r o E (hh ++ f) v) ∧ K (E.put o.dst v) G h)
  | .R => (Skips ops o E ∧ K (E.put o.dst undef) G h) ∨ (Runs ops o E ∧ ∃ v, QV P r o E (h ++ f) v ∧ K (E.put o.dst v) G h)
  | .P => o.guard = none ∧ ∃ mk obj, AL P o E mk obj ∧ K E (G.add i ⟨mk, obj, restr o E⟩) h
  | .A => o.guard = none ∧ ∃ p, G i = some p ∧ EqOn o p.env E ∧ ∀ b, b ∉ keys (h ++ f) → K (E.put o.dst (p.val b)) G ((b, p.obj) :: h)
  | .O => (Skips ops o E ∧ K (E.put o.dst undef) G h) ∨ (Runs ops o E ∧ XV P r o (fun v h'' => ∃ h', List.Perm (h' ++ f) h'' ∧ Holds L h' ∧ K (E.put o.dst v) G h') (fun ch h'' => Q (.panic ch) emp D h'') E (h ++ f))
def J : List Item → Env → Prom → Hp → Prop
  | [], E, _, h => ∃ hh, List.Perm (h ++ f) hh ∧ Q .normal E D hh
  | (i, k) :: l, E, G, h => ∃ o, ops[i]? = some o ∧ dstOk N o.dst = true ∧ Jst P r ops D Q f L k i o E G h (J l)
end
variable {ops : Array Oper} {f : Hp} {L : List (Nat × (Obj → Prop))}
theorem XV.perm {o : Oper} {h' : Hp} (hp : List.Perm h h') (H : XV P r o K T E h) : XV P r o K T E h' := by
  intro w a ho ha next Q hn hq
  exact H w a (ho.perm hp) ha next Q (fun v h2 w' k fl => hn v h2 w' k (fl.permL hp.symm)) (fun c h2 w' k fl => hq c h2 w' k (fl.permL hp.symm))
theorem XV.conv {o : Oper} {K' : Value → Hp → Prop} {T' : List PanicEntry → Hp → Prop} (H : XV P r o K T E h) (hk : ∀ v h', (keys h').Nodup → K v h' → ∃ h2, List.Perm h2 h' ∧ K' v h2) (ht : ∀ c h', T c h' → ∃ h2 h3, List.Perm h2 h' ∧ List.Sublist h3 h2 ∧ T' c h3) : XV P r o K' T' E h := by
  intro w a ho ha next Q hn hq
  refine H w a ho ha next Q (fun v h' w' k fl => ?_) (fun c h' w' k fl => ?_)
  · obtain ⟨h2, hp, k2⟩ := hk v h' fl.own.nd k
    exact hn v h2 w' k2 (fl.perm hp)
  · obtain ⟨h2, h3, hp, hs, k2⟩ := ht c h' k
    exact hq c h3 w' k2 ((fl.perm hp).sub hs)
theorem XV.frame {o : Oper} (g : Hp) (H : XV P r o K T E h) : XV P r o (fun v h2 => ∃ h', h2 = h' ++ g ∧ K v h') (fun c h2 => ∃ h', h2 = h' ++ g ∧ T c h') E (h ++ g) := by
  intro w a ho ha next Q hn hq
  exact H w a ho.left ha next Q (fun v h' w' k fl => hn v (h' ++ g) w' ⟨h', rfl, k⟩ (Fol.frame ho fl)) (fun c h' w' k fl => hq c (h' ++ g) w' ⟨h', rfl, k⟩ (Fol.frame ho fl))
theorem XV.congr {o : Oper} {E' : Env} (he : EqOn o E E') (H : XV P r o K T E h) : XV P r o K T E' h := by
  intro w a ho ha next Q hn hq
  refine H w a ho (fun x hx v hv => ha x hx v ?_) next Q hn hq
  cases x with
  | tmp t => show E' t = some v; rw [← he t hx]; exact hv
  | _ => exact hv
theorem QV.congr {o : Oper} {E' : Env} {g : Hp} {v : Value} (he : EqOn o E E') (H : QV P r o E g v) : QV P r o E' g v := XV.congr he H
theorem QV.perm {o : Oper} {g g' : Hp} {v : Value} (hp : List.Perm g g') (H : QV P r o E g v) : QV P r o E g' v :=
  (XV.perm hp H).conv (fun v' h' _ ⟨e, e'⟩ => ⟨g', by rw [e']; exact hp.symm, e, rfl⟩) (fun _ _ k => k.elim)
theorem QV.cons {o : Oper} {g : Hp} {v : Value} (x : Nat × Obj) (H : QV P r o E g v) : QV P r o E (x :: g) v := by
  have := XV.frame [x] H
  have hp : List.Perm (g ++ [x]) (x :: g) := List.perm_append_comm (l₁ := g) (l₂ := [x])
  exact (XV.perm hp this).conv (fun v' h' _ ⟨h2, e, e1, e2⟩ => ⟨x :: g, by rw [e, e2]; exact hp.symm, e1, rfl⟩) (fun _ _ ⟨_, _, k⟩ => k.elim)
theorem AL.congr {o : Oper} {E' : Env} {mk : Nat → Value} {obj : Obj} (he : EqOn o E E') (H : AL P o E mk obj) : AL P o E' mk obj := by
  refine ⟨H.1, fun w ρ hρ => ?_⟩
  rw [← H.2 w (fun x => (ev E x).getD (ρ x)) (fun x v hv => by simp [hv])]
  congr 1
  refine (execOp_congr o H.1.2 fun x hx => ?_).symm
  cases hv : ev E x with
  | none => simp
  | some v =>
    simp only [Option.getD_some]
    refine (hρ x v ?_).symm
    cases x with
    | tmp t => show E' t = some v; rw [← he t hx]; exact hv
    | _ => exact hv
theorem EqOn.symm {o : Oper} {E E' : Env} (H : EqOn o E E') : EqOn o E' E := fun t ht => (H t ht).symm
theorem EqOn.trans {o : Oper} {E E' E'' : Env} (H : EqOn o E E') (H' : EqOn o E' E'') : EqOn o E E'' := fun t ht => (H t ht).trans (H' t ht)
theorem put_other {d : Option Nat} {v : Value} {t : Nat} (hne : d ≠ some t) : (E.put d v) t = E t := by
  cases d with
  | none => rfl
  | some d =>
    show (bif Nat.beq t d then some v else E t) = E t
    cases hb : Nat.beq t d with
    | true => exact absurd (by rw [Nat.eq_of_beq_eq_true hb]) hne
    | false => rfl
theorem put_comm {d e : Option Nat} {v u : Value} (hne : ∀ k, d = some k → e ≠ some k) : (E.put d v).put e u = (E.put e u).put d v := by
  funext t
  by_cases h1 : d = some t
  · have h2 := hne t h1
    rw [put_other h2]; subst h1; simp [Env.put]
  · by_cases h2 : e = some t
    · rw [put_other h1]; subst h2; simp [Env.put]
    · rw [put_other h1, put_other h2, put_other h2, put_other h1]
theorem eqOn_put {x y : Oper} (ha : x.apart ops y = true) (v : Value) : EqOn y E (E.put x.dst v) := by
  intro t ht
  refine (put_other fun e => (Oper.apart_spec ha).1 t e ?_).symm
  exact List.mem_append_left _ (List.mem_filterMap.2 ⟨.tmp t, by simpa using ht, rfl⟩)
theorem gv_put {y : Oper} {d : Option Nat} {v : Value} {j : Nat} {t : Bool} (hg : y.guard = some (j, t)) (hd : ∀ k, d = some k → k ∉ y.looksAt ops) : gv ops (E.put d v) j = gv ops E j := by
  unfold gv
  cases ht : (ops[j]?).bind (·.dst) with
  | none => rfl
  | some k =>
    simp only [Option.bind_some]
    exact put_other fun e => hd k e (List.mem_append_right _ (by simp [hg, ht]))
theorem runs_put {y : Oper} {d : Option Nat} {v : Value} (hd : ∀ k, d = some k → k ∉ y.looksAt ops) : Runs ops y (E.put d v) ↔ Runs ops y E := by
  unfold Runs
  constructor
  · rintro (h1 | ⟨j, t, h1, h2⟩)
    · exact .inl h1
    · exact .inr ⟨j, t, h1, by rwa [gv_put h1 hd] at h2⟩
  · rintro (h1 | ⟨j, t, h1, h2⟩)
    · exact .inl h1
    · exact .inr ⟨j, t, h1, by rwa [gv_put h1 hd]⟩
theorem skips_put {y : Oper} {d : Option Nat} {v : Value} (hd : ∀ k, d = some k → k ∉ y.looksAt ops) : Skips ops y (E.put d v) ↔ Skips ops y E := by
  unfold Skips
  constructor
  · rintro ⟨j, t, u, h1, h2, h3⟩; exact ⟨j, t, u, h1, by rwa [gv_put h1 hd] at h2, h3⟩
  · rintro ⟨j, t, u, h1, h2, h3⟩; exact ⟨j, t, u, h1, by rwa [gv_put h1 hd], h3⟩
theorem Jst.mono {k : Kd} {i : Nat} {o : Oper} {G : Prom} {K K' : Env → Prom → Hp → Prop} (hk : ∀ E G h, K E G h → K' E G h) (H : Jst P r ops D Q f L k i o E G h K) : Jst P r ops D Q f L k i o E G h K' := by
  cases k with
  | S => exact H.imp (fun ⟨a, b⟩ => ⟨a, hk _ _ _ b⟩) (fun ⟨a, v, b, c⟩ => ⟨a, v, b, hk _ _ _ c⟩)
  | R => exact H.imp (fun ⟨a, b⟩ => ⟨a, hk _ _ _ b⟩) (fun ⟨a, v, b, c⟩ => ⟨a, v, b, hk _ _ _ c⟩)
  | P => obtain ⟨a, mk, obj, b, c⟩ := H; exact ⟨a, mk, obj, b, hk _ _ _ c⟩
  | A => obtain ⟨a, p, b, c, d⟩ := H; exact ⟨a, p, b, c, fun x hx => hk _ _ _ (d x hx)⟩
  | O => exact H.imp (fun ⟨a, b⟩ => ⟨a, hk _ _ _ b⟩) (fun ⟨a, b⟩ => ⟨a, b.mono (fun v h2 ⟨h', p, iv, c⟩ => ⟨h', p, iv, hk _ _ _ c⟩) (fun _ _ c => c)⟩)
theorem Jst.perm {k : Kd} {i : Nat} {o : Oper} {G : Prom} {K : Env → Prom → Hp → Prop} {h' : Hp} (hp : List.Perm h h') (hk : ∀ E G h h', List.Perm h h' → K E G h → K E G h') (H : Jst P r ops D Q f L k i o E G h K) : Jst P r ops D Q f L k i o E G h' K := by
  have hpf : List.Perm (h ++ f) (h' ++ f) := hp.append_right f
  cases k with
  | S => exact H.imp (fun ⟨a, b⟩ => ⟨a, hk _ _ _ _ hp b⟩) (fun ⟨a, v, b, c⟩ => ⟨a, v, b, hk _ _ _ _ hp c⟩)
  | R => exact H.imp (fun ⟨a, b⟩ => ⟨a, hk _ _ _ _ hp b⟩) (fun ⟨a, v, b, c⟩ => ⟨a, v, b.perm hpf, hk _ _ _ _ hp c⟩)
  | P => obtain ⟨a, mk, obj, b, c⟩ := H; exact ⟨a, mk, obj, b, hk _ _ _ _ hp c⟩
  | A =>
    obtain ⟨a, p, b, c, d⟩ := H
    refine ⟨a, p, b, c, fun x hx => hk _ _ _ _ (hp.cons _) (d x fun hm => hx ?_)⟩
    exact ((hpf.map Prod.fst).mem_iff).1 hm
  | O => exact H.imp (fun ⟨a, b⟩ => ⟨a, hk _ _ _ _ hp b⟩) (fun ⟨a, b⟩ => ⟨a, XV.perm hpf b⟩)
theorem J.perm : ∀ (l : List Item) {E : Env} {G : Prom} {h h' : Hp}, List.Perm h h' → J P r N ops D Q f L l E G h → J P r N ops D Q f L l E G h'
  | [], _, _, _, _, hp, ⟨hh, p, q⟩ => ⟨hh, ((hp.append_right f).symm.trans p), q⟩
  | (i, k) :: l, E, G, h, h', hp, ⟨o, ho, hd, H⟩ => ⟨o, ho, hd, Jst.perm hp (fun _ _ _ _ p q => J.perm l p q) H⟩
def okSwap : Kd → Kd → Bool
  | .S, _ => true
  | .P, _ => true
  | .R, .O => false
  | .R, _ => true
  | .A, .A => true
  | .O, .A => true
  | _, _ => false
theorem apart_eqOn {x y : Oper} (ha : x.apart ops y = true) (E : Env) (u : Value) : EqOn x E (E.put y.dst u) := by
  intro t ht
  refine (put_other fun e => (Oper.apart_spec ha).2.2 t e ?_).symm
  exact List.mem_append_left _ (List.mem_filterMap.2 ⟨.tmp t, by simpa using ht, rfl⟩)
def ExtE (y : Oper) (E E' : Env) : Prop := E' = E ∨ ∃ u, E' = E.put y.dst u
theorem ExtE.eqOn {x y : Oper} {E E' : Env} (ha : x.apart ops y = true) (H : ExtE y E E') : EqOn x E E' := by
  rcases H with rfl | ⟨u, rfl⟩
  · exact fun _ _ => rfl
  · exact apart_eqOn ha E u
theorem ExtE.runs {x y : Oper} {E E' : Env} (ha : x.apart ops y = true) (H : ExtE y E E') (hr : Runs ops x E) : Runs ops x E' := by
  rcases H with rfl | ⟨u, rfl⟩
  · exact hr
  · exact (runs_put (Oper.apart_spec ha).2.2).2 hr
theorem ExtE.skips {x y : Oper} {E E' : Env} (ha : x.apart ops y = true) (H : ExtE y E E') (hr : Skips ops x E) : Skips ops x E' := by
  rcases H with rfl | ⟨u, rfl⟩
  · exact hr
  · exact (skips_put (Oper.apart_spec ha).2.2).2 hr
theorem Jst.pull {x y : Oper} {k : Kd} {i : Nat} {v : Value} {G : Prom} {K : Env → Prom → Hp → Prop} (ha : x.apart ops y = true) (H : Jst P r ops D Q f L k i y (E.put x.dst v) G h K) :
    Jst P r ops D Q f L k i y E G h (fun E' G' h' => ExtE y E E' ∧ (k ≠ .O → h' = h ∨ ∃ z, h' = z :: h) ∧ K (E'.put x.dst v) G' h') := by
  have hs := Oper.apart_spec ha
  have e1 : EqOn y (E.put x.dst v) E := (eqOn_put ha v).symm
  have hc : ∀ u, (E.put x.dst v).put y.dst u = (E.put y.dst u).put x.dst v := fun u => put_comm hs.2.1
  cases k with
  | S =>
    rcases H with ⟨a, b⟩ | ⟨a, u, b, c⟩
    · exact .inl ⟨(skips_put hs.1).1 a, .inr ⟨_, rfl⟩, fun _ => .inl rfl, by rw [← hc]; exact b⟩
    · exact .inr ⟨(runs_put hs.1).1 a, u, fun hh iv => (b hh iv).congr e1, .inr ⟨_, rfl⟩, fun _ => .inl rfl, by rw [← hc]; exact c⟩
  | R =>
    rcases H with ⟨a, b⟩ | ⟨a, u, b, c⟩
    · exact .inl ⟨(skips_put hs.1).1 a, .inr ⟨_, rfl⟩, fun _ => .inl rfl, by rw [← hc]; exact b⟩
    · exact .inr ⟨(runs_put hs.1).1 a, u, b.congr e1, .inr ⟨_, rfl⟩, fun _ => .inl rfl, by rw [← hc]; exact c⟩
  | P =>
    obtain ⟨a, mk, obj, b, c⟩ := H
    refine ⟨a, mk, obj, b.congr e1, .inl rfl, fun _ => .inl rfl, ?_⟩
    rw [← restr_congr e1]; exact c
  | A =>
    obtain ⟨a, p, b, c, d⟩ := H
    exact ⟨a, p, b, c.trans e1, fun z hz => ⟨.inr ⟨_, rfl⟩, fun _ => .inr ⟨_, rfl⟩, by rw [← hc]; exact d z hz⟩⟩
  | O =>
    rcases H with ⟨a, b⟩ | ⟨a, b⟩
    · exact .inl ⟨(skips_put hs.1).1 a, .inr ⟨_, rfl⟩, fun hh => absurd rfl hh, by rw [← hc]; exact b⟩
    · refine .inr ⟨(runs_put hs.1).1 a, (b.congr e1).mono ?_ (fun _ _ c => c)⟩
      rintro u h2 ⟨h', p, iv, c⟩
      exact ⟨h', p, iv, .inr ⟨_, rfl⟩, fun hh => absurd rfl hh, by rw [← hc]; exact c⟩
theorem add_comm' {G : Prom} {i j : Nat} {p q : Pr} (hne : i ≠ j) : (G.add i p).add j q = (G.add j q).add i p := by
  funext t
  simp only [Prom.add]
  split
  · rename_i e; subst e; rw [if_neg (fun e => hne e.symm)]
  · rfl
theorem Jst.pullG {x y : Oper} {k : Kd} {i j : Nat} {pr : Pr} {G : Prom} {K : Env → Prom → Hp → Prop} (hne : j ≠ i) (H : Jst P r ops D Q f L k i y E (G.add j pr) h K) :
    Jst P r ops D Q f L k i y E G h (fun E' G' h' => ExtE y E E' ∧ K E' (G'.add j pr) h') := by
  cases k with
  | S =>
    rcases H with ⟨a, b⟩ | ⟨a, u, b, c⟩
    · exact .inl ⟨a, .inr ⟨_, rfl⟩, b⟩
    · exact .inr ⟨a, u, b, .inr ⟨_, rfl⟩, c⟩
  | R =>
    rcases H with ⟨a, b⟩ | ⟨a, u, b, c⟩
    · exact .inl ⟨a, .inr ⟨_, rfl⟩, b⟩
    · exact .inr ⟨a, u, b, .inr ⟨_, rfl⟩, c⟩
  | P =>
    obtain ⟨a, mk, obj, b, c⟩ := H
    exact ⟨a, mk, obj, b, .inl rfl, by rw [add_comm' hne.symm]; exact c⟩
  | A =>
    obtain ⟨a, p, b, c, d⟩ := H
    refine ⟨a, p, ?_, c, fun z hz => ⟨.inr ⟨_, rfl⟩, d z hz⟩⟩
    simp only [Prom.add] at b
    rwa [if_neg (fun e => hne e.symm)] at b
  | O =>
    rcases H with ⟨a, b⟩ | ⟨a, b⟩
    · exact .inl ⟨a, .inr ⟨_, rfl⟩, b⟩
    · exact .inr ⟨a, b.mono (fun u h2 ⟨h', p, iv, c⟩ => ⟨h', p, iv, .inr ⟨_, rfl⟩, c⟩) (fun _ _ c => c)⟩
theorem Jst.swap {x y : Oper} {kx ky : Kd} {ix iy : Nat} {G : Prom} {K : Env → Prom → Hp → Prop} (ha : x.apart ops y = true) (hok : okSwap kx ky = true) (hne : ix ≠ iy)
    (hI : ky = .A → y.guard = none ∧ ∃ p, G iy = some p ∧ EqOn y p.env E) (hK : ∀ E G h h', List.Perm h h' → K E G h → K E G h')
    (H : Jst P r ops D Q f L kx ix x E G h (fun E' G' h' => Jst P r ops D Q f L ky iy y E' G' h' K)) : Jst P r ops D Q f L ky iy y E G h (fun E' G' h' => Jst P r ops D Q f L kx ix x E' G' h' K) := by
  have hs := Oper.apart_spec ha
  cases kx with
  | S =>
    rcases H with ⟨a, b⟩ | ⟨a, v, q, b⟩
    · exact (b.pull ha).mono fun E' G' h' ⟨e, _, c⟩ => .inl ⟨e.skips ha a, c⟩
    · exact (b.pull ha).mono fun E' G' h' ⟨e, _, c⟩ => .inr ⟨e.runs ha a, v, fun hh iv => (q hh iv).congr (e.eqOn ha), c⟩
  | R =>
    have hky : ky ≠ .O := by rintro rfl; simp [okSwap] at hok
    rcases H with ⟨a, b⟩ | ⟨a, v, q, b⟩
    · exact (b.pull ha).mono fun E' G' h' ⟨e, _, c⟩ => .inl ⟨e.skips ha a, c⟩
    · refine (b.pull ha).mono fun E' G' h' ⟨e, eh, c⟩ => .inr ⟨e.runs ha a, v, ?_, c⟩
      rcases eh hky with rfl | ⟨z, rfl⟩
      · exact q.congr (e.eqOn ha)
      · exact (q.congr (e.eqOn ha)).cons z
  | P =>
    obtain ⟨a, mk, obj, b, c⟩ := H
    refine (Jst.pullG (x := x) hne c).mono fun E' G' h' ⟨e, d⟩ => ⟨a, mk, obj, b.congr (e.eqOn ha), ?_⟩
    rw [← restr_congr (e.eqOn ha)]; exact d
  | A =>
    have hky : ky = .A := by cases ky <;> simp [okSwap] at hok; rfl
    subst hky
    obtain ⟨hg, q, hq, hqe⟩ := hI rfl
    obtain ⟨a, p, hp, hpe, H⟩ := H
    refine ⟨hg, q, hq, hqe, fun c hc => ⟨a, p, hp, hpe.trans (apart_eqOn ha E _), fun b hb => ?_⟩⟩
    have hb' : b ∉ keys (h ++ f) := fun hm => hb (List.mem_cons_of_mem _ hm)
    obtain ⟨_, q', hq', _, H⟩ := H b hb'
    rw [hq] at hq'; cases hq'
    have hcb : c ∉ keys ((b, p.obj) :: h ++ f) := by
      intro hm
      rcases List.mem_cons.1 hm with e | hm
      · exact hb (by rw [show b = c from e.symm]; exact List.mem_cons_self)
      · exact hc hm
    have := H c hcb
    rw [put_comm hs.2.1] at this
    exact hK _ _ _ _ (List.Perm.swap _ _ _) this
  | O =>
    have hky : ky = .A := by cases ky <;> simp [okSwap] at hok; rfl
    subst hky
    obtain ⟨hg, q, hq, hqe⟩ := hI rfl
    refine ⟨hg, q, hq, hqe, fun b hb => ?_⟩
    rcases H with ⟨a, H⟩ | ⟨a, H⟩
    · obtain ⟨_, q', hq', _, H⟩ := H
      rw [hq] at hq'; cases hq'
      exact .inl ⟨(skips_put hs.2.2).2 a, by rw [← put_comm hs.2.1]; exact H b hb⟩
    · refine .inr ⟨(runs_put hs.2.2).2 a, ?_⟩
      have h1 := XV.frame [(b, q.obj)] H
      have hp : List.Perm ((h ++ f) ++ [(b, q.obj)]) ((b, q.obj) :: h ++ f) := List.perm_append_comm (l₁ := h ++ f) (l₂ := [(b, q.obj)])
      refine XV.congr (apart_eqOn ha E _) ((XV.perm hp h1).conv ?_ ?_)
      · rintro v h2 hnd ⟨h'', rfl, h', hp', iv, hj⟩
        obtain ⟨_, q', hq', _, hj⟩ := hj
        rw [hq] at hq'; cases hq'
        have hbn : b ∉ keys (h' ++ f) := by
          intro hm
          rw [keys_append, List.nodup_append] at hnd
          exact hnd.2.2 b (((hp'.map Prod.fst).mem_iff).1 hm) b (by simp [keys]) rfl
        refine ⟨h'' ++ [(b, q.obj)], List.Perm.refl _, (b, q.obj) :: h', ?_, iv.cons _, ?_⟩
        · exact (hp'.cons _).trans (List.perm_append_comm (l₁ := [(b, q.obj)]) (l₂ := h''))
        · rw [← put_comm hs.2.1]; exact hj b hbn
      · rintro c h2 ⟨h'', rfl, hq'⟩
        exact ⟨h'' ++ [(b, q.obj)], h'', List.Perm.refl _, List.sublist_append_left _ _, hq'⟩
end Go.H


/-
  The logic of owned blocks over the kit, part HB.
-/
set_option linter.all false
/-
  Regions whose order Go leaves open: the theorem.
-/
namespace Go.H
open Go
variable {P : Program} {r : Option Nat} {N : Nat} {Q : Post} {E : Env} {D : List Deferred} {h : Hp}
variable {ops : Array Oper} {f : Hp} {L : List (Nat × (Obj → Prop))}
theorem Jst.info {k : Kd} {i : Nat} {o : Oper} {G : Prom} {K : Env → Prom → Hp → Prop} (H : Jst P r ops D Q f L k i o E G h K) :
    Jst P r ops D Q f L k i o E G h (fun E' G' h' => ExtE o E E' ∧ (G' = G ∨ ∃ pr, G' = G.add i pr) ∧ K E' G' h') := by
  cases k with
  | S => exact H.imp (fun ⟨a, b⟩ => ⟨a, .inr ⟨_, rfl⟩, .inl rfl, b⟩) (fun ⟨a, v, b, c⟩ => ⟨a, v, b, .inr ⟨_, rfl⟩, .inl rfl, c⟩)
  | R => exact H.imp (fun ⟨a, b⟩ => ⟨a, .inr ⟨_, rfl⟩, .inl rfl, b⟩) (fun ⟨a, v, b, c⟩ => ⟨a, v, b, .inr ⟨_, rfl⟩, .inl rfl, c⟩)
  | P => obtain ⟨a, mk, obj, b, c⟩ := H; exact ⟨a, mk, obj, b, .inl rfl, .inr ⟨_, rfl⟩, c⟩
  | A => obtain ⟨a, p, b, c, d⟩ := H; exact ⟨a, p, b, c, fun x hx => ⟨.inr ⟨_, rfl⟩, .inl rfl, d x hx⟩⟩
  | O => exact H.imp (fun ⟨a, b⟩ => ⟨a, .inr ⟨_, rfl⟩, .inl rfl, b⟩) (fun ⟨a, b⟩ => ⟨a, b.mono (fun v h2 ⟨h', p, iv, c⟩ => ⟨h', p, iv, .inr ⟨_, rfl⟩, .inl rfl, c⟩) (fun _ _ c => c)⟩)
theorem J.moveFront {x : Nat} {k : Kd} {ox : Oper} (hx : ops[x]? = some ox) (hd : dstOk N ox.dst = true) {q : List Item} : ∀ (p : List Item) {E : Env} {G : Prom} {h : Hp},
    (∀ z kz, (z, kz) ∈ p → z ≠ x ∧ okSwap kz k = true ∧ ∀ oz, ops[z]? = some oz → oz.apart ops ox = true) →
    (k = .A → ox.guard = none ∧ ∃ pr, G x = some pr ∧ EqOn ox pr.env E) → J P r N ops D Q f L (p ++ (x, k) :: q) E G h → J P r N ops D Q f L ((x, k) :: (p ++ q)) E G h
  | [], _, _, _, _, _, H => H
  | (z, kz) :: p, E, G, h, hp, hI, H => by
    obtain ⟨oz, hoz, hdz, H⟩ := H
    obtain ⟨hne, hok, hap⟩ := hp z kz List.mem_cons_self
    have hap := hap oz hoz
    have H2 : Jst P r ops D Q f L kz z oz E G h (fun E' G' h' => Jst P r ops D Q f L k x ox E' G' h' (J P r N ops D Q f L (p ++ q))) := by
      refine H.info.mono ?_
      rintro E' G' h' ⟨e, g, H⟩
      have H' := J.moveFront hx hd p (fun z' kz' hm => hp z' kz' (List.mem_cons_of_mem _ hm)) (fun hk => by
        obtain ⟨hg, pr, h1, h2⟩ := hI hk
        refine ⟨hg, pr, ?_, h2.trans ?_⟩
        · rcases g with rfl | ⟨pr', rfl⟩
          · exact h1
          · simp only [Prom.add]; rw [if_neg (fun e => hne e.symm)]; exact h1
        · rcases e with rfl | ⟨u, rfl⟩
          · exact fun _ _ => rfl
          · exact eqOn_put hap u) H
      obtain ⟨o', ho', _, H'⟩ := H'
      rw [hx] at ho'; cases ho'
      exact H'
    refine ⟨ox, hx, hd, (Jst.swap (K := J P r N ops D Q f L (p ++ q)) hap hok hne hI (fun _ _ _ _ hp' q' => J.perm _ hp' q') H2).mono ?_⟩
    exact fun E' G' h' H' => ⟨oz, hoz, hdz, H'⟩
theorem Jst.exec {Ep : Env} {k : Kd} {i : Nat} {o : Oper} {G : Prom} {K : Env → Prom → Hp → Prop} {w : World} {a : Act} {QQ : Exit → Act → World → Prop} {next : Act → World → Prop} (ho : ops[i]? = some o) (hd : dstOk N o.dst = true) (hk : k ≠ .P)
    (hG : k = .A → ∀ p, G i = some p → AL P o p.env p.val p.obj) (hw : Own (h ++ f) w) (hIv : Holds L h) (ha : Agree N E a) (hda : a.defers = D) (hEp : ∀ t, o.dst = some t → Ep t = none) (hEa : Agree N Ep a)
    (hn : ∀ E' G' h' a' w', (G' = G) → ExtE o E E' → Agree N E' a' → Agree N Ep a' → a'.defers = D → Fol (h ++ f) w (h' ++ f) w' → Holds L h' → K E' G' h' → next a' w') (hq : ∀ ch h' w', Q (.panic ch) emp D h' → Fol (h ++ f) w h' w' → QQ (.panic ch) a w')
    (H : Jst P r ops D Q f L k i o E G h K) : wpOpIn (fen r) 0 P ops QQ i next a w := by
  have hput : ∀ v, (a.put o.dst v).defers = D := fun v => by cases o.dst <;> exact hda
  have hput2 : ∀ v, Agree N Ep (a.put o.dst v) := fun v => by
    have h1 := (hEa.put (v := v) (dstOk_lt hd))
    refine ⟨h1.size, fun t u hu => h1.val t u ?_⟩
    rw [put_other (fun e => by rw [hEp t e] at hu; cases hu)]; exact hu
  have hskip : Skips ops o E → K (E.put o.dst undef) G h → wpOpIn (fen r) 0 P ops QQ i next a w := by
    rintro ⟨j, t, v, hg, hgv, hne⟩ hK
    unfold wpOpIn
    simp only [ho]
    have hw' : ¬ Region.wanted o (yielded ops a.tmps) = true := by
      simp only [Region.wanted, hg]
      unfold gv at hgv
      unfold yielded
      cases hdj : (ops[j]?).bind (·.dst) with
      | none => rw [hdj] at hgv; cases hgv
      | some d =>
        rw [hdj] at hgv
        have := ha.val d _ hgv
        cases v <;> simp_all [isb]
    rw [if_neg hw']
    exact ⟨fun _ _ => trivial, hn _ _ _ _ _ rfl (.inr ⟨_, rfl⟩) (ha.put (dstOk_lt hd)) (hput2 _) (hput _) (.refl hw) hIv hK⟩
  have hrun : Runs ops o E → (o.wpIn (fen r) 0 P a w next QQ) → wpOpIn (fen r) 0 P ops QQ i next a w := by
    intro hr hh
    unfold wpOpIn
    simp only [ho]
    have hw' : Region.wanted o (yielded ops a.tmps) = true := by
      rcases hr with hr | ⟨j, t, hg, hgv⟩
      · simp [Region.wanted, hr]
      · simp [Region.wanted, hg, gv_yielded ha hgv]
    rw [if_pos hw']
    exact hh
  have hops : OpsAt E o a := fun x _ v hv => ha.ev hv
  cases k with
  | P => exact absurd rfl hk
  | S =>
    rcases H with ⟨hs, hK⟩ | ⟨hr, v, hv, hK⟩
    · exact hskip hs hK
    · refine hrun hr (hv h hIv w a hw hops next QQ ?_ (fun _ _ _ k _ => k.elim))
      rintro v' h' w' ⟨rfl, e⟩ hf
      rw [e] at hf
      exact hn _ _ h _ _ rfl (.inr ⟨_, rfl⟩) (ha.put (dstOk_lt hd)) (hput2 _) (hput _) hf hIv hK
  | R =>
    rcases H with ⟨hs, hK⟩ | ⟨hr, v, hv, hK⟩
    · exact hskip hs hK
    · refine hrun hr (hv w a hw hops next QQ ?_ (fun _ _ _ k _ => k.elim))
      rintro v' h' w' ⟨rfl, e⟩ hf
      rw [e] at hf
      exact hn _ _ h _ _ rfl (.inr ⟨_, rfl⟩) (ha.put (dstOk_lt hd)) (hput2 _) (hput _) hf hIv hK
  | A =>
    obtain ⟨hg, p, hp, he, hK⟩ := H
    have hal := (hG rfl p hp).congr he
    obtain ⟨ρ, hρ1, hρ2⟩ := ops_rho hal.1 hops
    refine hrun (.inl hg) ⟨fun _ _ => trivial, ?_⟩
    rw [Oper.semAt_eq _ _ _ hal.1.1, ← hρ2, hal.2 w ρ hρ1]
    exact hn _ _ ((w.heap.size, p.obj) :: h) _ _ rfl (.inr ⟨_, rfl⟩) (ha.put (dstOk_lt hd)) (hput2 _) (hput _) (Fol.alloc hw _) (hIv.cons _) (hK _ fun hc => Nat.lt_irrefl _ (hw.lt hc))
  | O =>
    rcases H with ⟨hs, hK⟩ | ⟨hr, hx⟩
    · exact hskip hs hK
    · refine hrun hr (hx w a hw hops next QQ ?_ ?_)
      · rintro v h2 w' ⟨h', hp, iv, hK⟩ hf
        exact hn _ _ h' _ _ rfl (.inr ⟨_, rfl⟩) (ha.put (dstOk_lt hd)) (hput2 _) (hput _) (hf.perm hp) iv hK
      · intro ch h2 w' hq' hf
        exact hq ch h2 w' hq' hf
def direct (o : Oper) : List Nat := (o.after.toList.filter (Region.binds .any)).map (·.on)
def clos (ops : Array Oper) : List (List Nat) :=
  ops.toList.foldl (fun acc o => acc ++ [(direct o).foldl (fun s j => s ++ [j] ++ (acc.getD j []).filter fun z => !s.contains z) []]) []
def tblOk (ops : Array Oper) (tbl : List (List Nat)) : Bool :=
  (List.range ops.size).all fun y => match ops[y]? with
    | none => false
    | some o => ((tbl.getD y []).all fun x => (direct o).contains x || (direct o).any fun z => (tbl.getD z []).contains x) && (direct o).all (· < y)
def pairsOk (ops : Array Oper) (tbl : List (List Nat)) : List Item → Bool
  | [] => true
  | (x, k) :: l => (l.all fun (y, ky) => (x == y && (k == .P && ky == .A)) || (x != y && ((tbl.getD y []).contains x || (okSwap k ky && match ops[x]?, ops[y]? with | some ox, some oy => ox.apart ops oy | _, _ => false)))) && pairsOk ops tbl l
def drawOk (N : Nat) (ops : Array Oper) (c : List Item) : Bool :=
  tblOk ops (clos ops) && (pairsOk ops (clos ops) c && (ops.toList.all (fun o => dstOk N o.dst) &&
  (((List.range ops.size).all fun i => c.contains (i, .S) || c.contains (i, .R) || c.contains (i, .O) || c.contains (i, .A)) &&
  ((c.all fun (i, k) => decide (i < ops.size) && ((k != .A || ((match ops[i]? with | some o => o.guard.isNone | none => false) && c.contains (i, .P))) && (k != .P || c.contains (i, .A)))) &&
  decide ((c.filter fun x => x.2 != .P).length ≤ ops.size)))))
theorem tbl_sound {tbl : List (List Nat)} {listed : Array Bool} (ht : tblOk ops tbl = true) (hdc : ∀ j o, listed.getD j false = true → ops[j]? = some o → ∀ x ∈ direct o, listed.getD x false = true) :
    ∀ (y : Nat) (o : Oper), ops[y]? = some o → (∀ x ∈ direct o, listed.getD x false = true) → ∀ x ∈ tbl.getD y [], listed.getD x false = true := by
  intro y
  induction y using Nat.strongRecOn with
  | _ y ih =>
    intro o ho hr x hx
    have hlt : y < ops.size := (Array.getElem?_eq_some_iff.1 ho).1
    have := List.all_eq_true.1 ht y (List.mem_range.2 hlt)
    simp only [ho, Bool.and_eq_true, List.all_eq_true, Bool.or_eq_true, List.contains_iff_mem, List.any_eq_true, decide_eq_true_eq] at this
    rcases this.1 x hx with h1 | ⟨z, hz, hxz⟩
    · exact hr x h1
    · have hzy := this.2 z hz
      obtain ⟨oz, hoz⟩ : ∃ oz, ops[z]? = some oz := ⟨_, Array.getElem?_eq_getElem (by omega)⟩
      exact ih z hzy oz hoz (hdc z oz (hr z hz) hoz) x hxz
theorem pairs_sub {tbl : List (List Nat)} {c c' : List Item} (hs : List.Sublist c' c) (hp : pairsOk ops tbl c = true) : pairsOk ops tbl c' = true := by
  induction hs with
  | slnil => rfl
  | @cons l1 l2 a _ ih => obtain ⟨x, k⟩ := a; simp only [pairsOk, Bool.and_eq_true] at hp; exact ih hp.2
  | @cons_cons l1 l2 a hs ih =>
    obtain ⟨x, k⟩ := a
    simp only [pairsOk, Bool.and_eq_true] at hp ⊢
    exact ⟨List.all_eq_true.2 fun z hz => List.all_eq_true.1 hp.1 z (hs.subset hz), ih hp.2⟩
theorem pairs_at {tbl : List (List Nat)} {x : Nat} {k : Kd} {q : List Item} : ∀ {p : List Item}, pairsOk ops tbl (p ++ (x, k) :: q) = true → ∀ z kz, (z, kz) ∈ p → 
    (z = x ∧ kz = .P ∧ k = .A) ∨ (z ≠ x ∧ (z ∈ tbl.getD x [] ∨ (okSwap kz k = true ∧ ∃ oz ox, ops[z]? = some oz ∧ ops[x]? = some ox ∧ oz.apart ops ox = true)))
  | [], _, _, _, hm => by cases hm
  | (y, ky) :: p, hp, z, kz, hm => by
    simp only [List.cons_append, pairsOk, Bool.and_eq_true] at hp
    rcases List.mem_cons.1 hm with e | hm
    · cases e
      have := List.all_eq_true.1 hp.1 (x, k) (by simp)
      simp only [Bool.or_eq_true, Bool.and_eq_true, beq_iff_eq, bne_iff_ne, ne_eq, List.contains_iff_mem] at this
      rcases this with ⟨e1, e2, e3⟩ | ⟨e1, e2 | ⟨e2, e3⟩⟩
      · exact .inl ⟨e1, e2, e3⟩
      · exact .inr ⟨e1, .inl e2⟩
      · refine .inr ⟨e1, .inr ⟨e2, ?_⟩⟩
        cases h1 : ops[y]? with
        | none => simp [h1] at e3
        | some oz =>
          cases h2 : ops[x]? with
          | none => simp [h1, h2] at e3
          | some ox => simp [h1, h2] at e3; exact ⟨oz, ox, rfl, rfl, e3⟩
    · exact pairs_at hp.2 z kz hm
structure WF (ops : Array Oper) (tbl : List (List Nat)) (c : List Item) (listed : Array Bool) : Prop where
  pr : pairsOk ops tbl c = true
  un : ∀ i k, (i, k) ∈ c → i < ops.size ∧ listed.getD i true = false
  al : ∀ i, i < ops.size → listed.getD i true = false → ∃ k, k ≠ Kd.P ∧ (i, k) ∈ c
  ap : ∀ i, (i, Kd.A) ∈ c → (i, Kd.P) ∈ c
  pa : ∀ i, (i, Kd.P) ∈ c → (i, Kd.A) ∈ c
  gd : ∀ i o, (i, Kd.A) ∈ c → ops[i]? = some o → o.guard = none
  sz : listed.size = ops.size
  dc : ∀ j o, listed.getD j false = true → ops[j]? = some o → ∀ x ∈ direct o, listed.getD x false = true
theorem WF.front {tbl : List (List Nat)} {c : List Item} {listed : Array Bool} (W : WF ops tbl c listed) (ht : tblOk ops tbl = true) {x : Nat} {k : Kd} {ox : Oper} (hox : ops[x]? = some ox) (hr : ∀ z ∈ direct ox, listed.getD z false = true)
    {p q : List Item} (hs : List.Sublist (p ++ (x, k) :: q) c) (hnp : (x, Kd.P) ∉ p) : ∀ z kz, (z, kz) ∈ p → z ≠ x ∧ okSwap kz k = true ∧ ∀ oz, ops[z]? = some oz → oz.apart ops ox = true := by
  intro z kz hm
  rcases pairs_at (pairs_sub hs W.pr) z kz hm with ⟨rfl, rfl, _⟩ | ⟨h1, h2 | ⟨h2, oz, ox', e1, e2, e3⟩⟩
  · exact absurd hm hnp
  · have hl := tbl_sound ht W.dc x ox hox hr z h2
    have hu := W.un z kz (hs.subset (List.mem_append_left _ hm))
    have hlt : z < listed.size := by rw [W.sz]; exact hu.1
    simp [Array.getD, hlt] at hl hu
    rw [hl] at hu; exact absurd hu.2 (by simp)
  · rw [hox] at e2; cases e2
    exact ⟨h1, h2, fun oz' ho' => by rw [e1] at ho'; cases ho'; exact e3⟩
theorem wf_nodup {tbl : List (List Nat)} : ∀ {c : List Item}, pairsOk ops tbl c = true → c.Nodup
  | [], _ => List.nodup_nil
  | (x, k) :: l, hp => by
    simp only [pairsOk, Bool.and_eq_true] at hp
    refine List.nodup_cons.2 ⟨fun hm => ?_, wf_nodup hp.2⟩
    have := List.all_eq_true.1 hp.1 (x, k) hm
    cases k <;> simp at this
theorem getD_set {l : Array Bool} {i j : Nat} {d : Bool} (hi : i < l.size) : (l.setIfInBounds i true).getD j d = if i = j then true else l.getD j d := by
  simp only [Array.getD_eq_getD_getElem?, Array.getElem?_setIfInBounds]
  split
  · rename_i e; subst e; simp [hi]
  · rfl
theorem WF.step {tbl : List (List Nat)} {c c' : List Item} {listed : Array Bool} (W : WF ops tbl c listed) {x : Nat} {ox : Oper} (hox : ops[x]? = some ox) (hr : ∀ z ∈ direct ox, listed.getD z false = true)
    (hs : List.Sublist c' c) (hm : ∀ i k, (i, k) ∈ c' ↔ (i, k) ∈ c ∧ i ≠ x) : WF ops tbl c' (listed.setIfInBounds x true) := by
  have hx : x < listed.size := by rw [W.sz]; exact (Array.getElem?_eq_some_iff.1 hox).1
  refine ⟨pairs_sub hs W.pr, fun i k hik => ?_, fun i hi hl => ?_, fun i hi => ?_, fun i hi => ?_, fun i o hi => W.gd i o ((hm _ _).1 hi).1, by simp [W.sz], fun j o hj ho z hz => ?_⟩
  · obtain ⟨h1, h2⟩ := (hm i k).1 hik
    refine ⟨(W.un i k h1).1, ?_⟩
    rw [getD_set hx, if_neg (fun e => h2 e.symm)]
    exact (W.un i k h1).2
  · rw [getD_set hx] at hl
    split at hl
    · cases hl
    · rename_i hne
      obtain ⟨k, h1, h2⟩ := W.al i hi hl
      exact ⟨k, h1, (hm i k).2 ⟨h2, fun e => hne e.symm⟩⟩
  · obtain ⟨h1, h2⟩ := (hm _ _).1 hi; exact (hm _ _).2 ⟨W.ap i h1, h2⟩
  · obtain ⟨h1, h2⟩ := (hm _ _).1 hi; exact (hm _ _).2 ⟨W.pa i h1, h2⟩
  · rw [getD_set hx] at hj ⊢
    split at hj
    · rename_i e
      subst e
      rw [hox] at ho; cases ho
      split
      · rfl
      · exact hr z hz
    · split
      · rfl
      · exact W.dc j o hj ho z hz
theorem one_np {tbl : List (List Nat)} {x : Nat} {k k' : Kd} {p q : List Item} (hp : pairsOk ops tbl (p ++ (x, k) :: q) = true) (hk : k ≠ .P) (hm : (x, k') ∈ p ++ q) : k' = .P ∧ k = .A ∧ (x, k') ∈ p := by
  rcases List.mem_append.1 hm with hm | hm
  · rcases pairs_at hp x k' hm with ⟨_, h1, h2⟩ | ⟨h1, _⟩
    · exact ⟨h1, h2, hm⟩
    · exact absurd rfl h1
  · exfalso
    have hp2 : pairsOk ops tbl ((x, k) :: q) = true := pairs_sub (List.sublist_append_right _ _) hp
    simp only [pairsOk, Bool.and_eq_true] at hp2
    have := List.all_eq_true.1 hp2.1 (x, k') hm
    simp [hk] at this
def dsts (ops : Array Oper) : List Nat := ops.toList.filterMap (·.dst)
def mask (ops : Array Oper) (E : Env) : Env := fun t => if (dsts ops).contains t then none else E t
def PanEnv (Ep : Env) (Q : Post) : Post
  | .panic ch, _, D, h => Q (.panic ch) Ep D h
  | e, E, D, h => Q e E D h
theorem jp_p {Ep : Env} {ch : List PanicEntry} (H : Q (.panic ch) Ep D h) : PanEnv Ep Q (.panic ch) E D h := H
theorem draw_main {Ep : Env} (hEp : ∀ (i : Nat) (o : Oper), ops[i]? = some o → ∀ t, o.dst = some t → Ep t = none) {tbl : List (List Nat)} {h0 : Hp} {w0 : World} (ht : tblOk ops tbl = true) (hdst : ops.toList.all (fun o : Oper => dstOk N o.dst) = true) :
    ∀ (fuel : Nat) (c : List Item) (listed : Array Bool) (E : Env) (G : Prom) (h : Hp) (w : World) (a : Act), WF ops tbl c listed → (c.filter fun x => x.2 != .P).length ≤ fuel → J P r N ops D (PanEnv Ep Q) f L c E G h →
      Own (h ++ f) w → Holds L h → Agree N E a → Agree N Ep a → a.defers = D → Fol h0 w0 (h ++ f) w →
      wpAnyIn (fen r) 0 P .any ops (fun e a' w' => ∃ E' h', Q e E' a'.defers h' ∧ Agree N E' a' ∧ Fol h0 w0 h' w') fuel listed a w := by
  have hdst' : ∀ (i : Nat) (o : Oper), ops[i]? = some o → dstOk N o.dst = true := fun i o ho => List.all_eq_true.1 hdst o (by simpa using Array.mem_of_getElem? ho)
  -- where nothing is ready all is done
  have hend : ∀ (c : List Item) (listed : Array Bool), WF ops tbl c listed → Region.ready .any ops listed = [] → c = [] := by
    intro c listed W hready
    have hall : ∀ j, j < ops.size → listed.getD j false = true := by
      intro j
      induction j using Nat.strongRecOn with
      | _ j ih =>
        intro hj
        refine Classical.byContradiction fun hn => ?_
        have hlt : j < listed.size := by rw [W.sz]; exact hj
        obtain ⟨o, ho⟩ : ∃ o, ops[j]? = some o := ⟨_, Array.getElem?_eq_getElem hj⟩
        have hmem : j ∈ Region.ready .any ops listed := by
          refine mem_ready.2 ⟨?_, o, ho, fun e he hb => ?_⟩
          · simp [Array.getD, hlt] at hn ⊢; exact hn
          · have hd : e.on ∈ direct o := List.mem_map.2 ⟨e, List.mem_filter.2 ⟨by simpa using he, hb⟩, rfl⟩
            have := List.all_eq_true.1 ht j (List.mem_range.2 hj)
            simp only [ho, Bool.and_eq_true, List.all_eq_true, decide_eq_true_eq] at this
            have hlt2 := this.2 _ hd
            exact ih _ hlt2 (by omega)
        rw [hready] at hmem; cases hmem
    cases c with
    | nil => rfl
    | cons x c =>
      obtain ⟨i, k⟩ := x
      have hu := W.un i k List.mem_cons_self
      have := hall i hu.1
      have hlt : i < listed.size := by rw [W.sz]; exact hu.1
      simp [Array.getD, hlt] at this hu
      rw [this] at hu; exact absurd hu.2 (by simp)
  have hfin : ∀ (c : List Item) (listed : Array Bool) (E : Env) (G : Prom) (h : Hp) (w : World) (a : Act), WF ops tbl c listed → J P r N ops D (PanEnv Ep Q) f L c E G h → Agree N E a → Agree N Ep a → a.defers = D → Fol h0 w0 (h ++ f) w →
      Region.ready .any ops listed = [] → ∃ E' h', Q .normal E' a.defers h' ∧ Agree N E' a ∧ Fol h0 w0 h' w := by
    intro c listed E G h w a W hj ha hEa hda hf hready
    rw [hend c listed W hready] at hj
    obtain ⟨hh, hp, hq⟩ := hj
    exact ⟨E, hh, by rw [hda]; exact hq, ha, hf.perm hp.symm⟩
  intro fuel
  induction fuel with
  | zero =>
    intro c listed E G h w a W hc hj hw hIv ha hEa hda hf
    have hready : Region.ready .any ops listed = [] := by
      cases hr : Region.ready .any ops listed with
      | nil => rfl
      | cons i l =>
        exfalso
        obtain ⟨h1, o, ho, _⟩ := mem_ready.1 (show i ∈ Region.ready .any ops listed by rw [hr]; exact List.mem_cons_self)
        obtain ⟨k, hk, hm⟩ := W.al i (Array.getElem?_eq_some_iff.1 ho).1 h1
        have : (i, k) ∈ c.filter fun x => x.2 != .P := List.mem_filter.2 ⟨hm, by simpa using hk⟩
        have hl : (c.filter fun x => x.2 != .P).length = 0 := by omega
        rw [List.length_eq_zero_iff.1 hl] at this
        cases this
    exact ⟨hready, hfin c listed E G h w a W hj ha hEa hda hf hready⟩
  | succ fuel ih =>
    intro c listed E G h w a W hc hj hw hIv ha hEa hda hf
    refine ⟨fun hready => hfin c listed E G h w a W hj ha hEa hda hf hready, fun i hi => ?_⟩
    obtain ⟨h1, o, ho, hpre⟩ := mem_ready.1 hi
    have hr : ∀ z ∈ direct o, listed.getD z false = true := by
      intro z hz
      obtain ⟨e, he, rfl⟩ := List.mem_map.1 hz
      obtain ⟨he1, he2⟩ := List.mem_filter.1 he
      exact hpre e (by simpa using he1) he2
    obtain ⟨k, hk, hm⟩ := W.al i (Array.getElem?_eq_some_iff.1 ho).1 h1
    have hd := hdst' i o ho
    -- the step itself, once it stands in front
    have go : ∀ (c' : List Item) (G' : Prom), J P r N ops D (PanEnv Ep Q) f L ((i, k) :: c') E G' h → List.Sublist c' c → (∀ j kj, (j, kj) ∈ c' ↔ (j, kj) ∈ c ∧ j ≠ i) →
        (k = .A → ∀ p, G' i = some p → AL P o p.env p.val p.obj) →
        wpOpIn (fen r) 0 P ops (fun e a' w' => ∃ E' h', Q e E' a'.defers h' ∧ Agree N E' a' ∧ Fol h0 w0 h' w') i (wpAnyIn (fen r) 0 P .any ops (fun e a' w' => ∃ E' h', Q e E' a'.defers h' ∧ Agree N E' a' ∧ Fol h0 w0 h' w') fuel (listed.setIfInBounds i true)) a w := by
      intro c' G' hj' hs hmem hal
      obtain ⟨o', ho', _, hst⟩ := hj'
      rw [ho] at ho'; cases ho'
      refine Jst.exec (Ep := Ep) ho hd hk hal hw hIv ha hda (hEp i o ho) hEa ?_ ?_ hst
      · intro E' G2 h' a' w' _ _ ha' hEa' hda' hf' iv' hK
        refine ih c' _ E' G2 h' w' a' (W.step ho hr hs hmem) ?_ hK hf'.own iv' ha' hEa' hda' (hf.trans hf')
        have hlt : ((i, k) :: c').length ≤ _ := Nat.le_refl _
        have hsub : List.Sublist (c'.filter fun x => x.2 != .P) (c.filter fun x => x.2 != .P) := hs.filter _
        have hne : (c'.filter fun x => x.2 != .P).length ≠ (c.filter fun x => x.2 != .P).length := by
          intro e
          have e2 := hsub.eq_of_length e
          have : (i, k) ∈ c'.filter fun x => x.2 != .P := by rw [e2]; exact List.mem_filter.2 ⟨hm, by simpa using hk⟩
          exact ((hmem i k).1 (List.mem_filter.1 this).1).2 rfl
        have := hsub.length_le
        omega
      · intro ch h' w' hq hf'
        exact ⟨Ep, h', by rw [hda]; exact hq, hEa, hf.trans hf'⟩
    by_cases hkA : k = .A
    · subst hkA
      have hmP := W.ap i hm
      obtain ⟨p, q, rfl⟩ := List.append_of_mem hmP
      have hnd := wf_nodup W.pr
      have hnp : (i, Kd.P) ∉ p := fun hmm => by
        rw [List.nodup_append] at hnd
        exact hnd.2.2 _ hmm _ List.mem_cons_self rfl
      have hj1 := J.moveFront ho hd p (W.front ht ho hr (List.Sublist.refl _) hnp) (fun e => by cases e) hj
      obtain ⟨o', ho', _, hg, mk, obj, hal, hj2⟩ := hj1
      rw [ho] at ho'; cases ho'
      have hmA : (i, Kd.A) ∈ p ++ q := by
        rcases List.mem_append.1 hm with hm | hm
        · exact List.mem_append_left _ hm
        · rcases List.mem_cons.1 hm with e | hm
          · cases e
          · exact List.mem_append_right _ hm
      have hs1 : List.Sublist (p ++ q) (p ++ (i, Kd.P) :: q) := (List.Sublist.refl p).append (List.sublist_cons_self _ _)
      have hmP2 : ∀ kk, (i, kk) ∈ p ++ q → kk = .A := by
        intro kk hkk
        obtain ⟨p2, q2, e2⟩ := List.append_of_mem hmA
        by_cases hkk2 : kk = .A
        · exact hkk2
        · exfalso
          have hmem2 : (i, kk) ∈ p2 ++ q2 := by
            rw [e2] at hkk
            rcases List.mem_append.1 hkk with h3 | h3
            · exact List.mem_append_left _ h3
            · rcases List.mem_cons.1 h3 with h3 | h3
              · cases h3; exact absurd rfl hkk2
              · exact List.mem_append_right _ h3
          have := one_np (ops := ops) (tbl := tbl) (x := i) (k := .A) (by rw [← e2]; exact pairs_sub hs1 W.pr) (by simp) hmem2
          obtain ⟨rfl, _, _⟩ := this
          rw [List.nodup_append] at hnd
          rcases List.mem_append.1 hkk with h3 | h3
          · exact hnp h3
          · exact (List.nodup_cons.1 hnd.2.1).1 h3
      obtain ⟨p2, q2, e2⟩ := List.append_of_mem hmA
      rw [e2] at hj2
      have hs2 : List.Sublist (p2 ++ (i, Kd.A) :: q2) (p ++ (i, Kd.P) :: q) := by rw [← e2]; exact hs1
      have hnp2 : (i, Kd.P) ∉ p2 := fun hmm => by
        have := hmP2 .P (by rw [e2]; exact List.mem_append_left _ hmm)
        cases this
      have hj3 := J.moveFront ho hd p2 (W.front ht ho hr hs2 hnp2) (fun _ => ⟨hg, ⟨mk, obj, restr o E⟩, by simp [Prom.add], restr_eqOn o E⟩) hj2
      refine go (p2 ++ q2) _ hj3 (((List.Sublist.refl p2).append (List.sublist_cons_self _ _)).trans hs2) ?_ ?_
      · intro j kj
        constructor
        · intro hmm
          have hmm2 : (j, kj) ∈ p ++ q := by
            rw [e2]
            rcases List.mem_append.1 hmm with h3 | h3
            · exact List.mem_append_left _ h3
            · exact List.mem_append_right _ (List.mem_cons_of_mem _ h3)
          refine ⟨hs1.subset hmm2, ?_⟩
          rintro rfl
          have := hmP2 kj hmm2
          subst this
          have hnd2 : (p2 ++ (j, Kd.A) :: q2).Nodup := by rw [← e2]; exact hs1.nodup hnd
          rw [List.nodup_append] at hnd2
          rcases List.mem_append.1 hmm with h3 | h3
          · exact hnd2.2.2 _ h3 _ List.mem_cons_self rfl
          · exact (List.nodup_cons.1 hnd2.2.1).1 h3
        · rintro ⟨h3, hne⟩
          have h4 : (j, kj) ∈ p ++ q := by
            rcases List.mem_append.1 h3 with h5 | h5
            · exact List.mem_append_left _ h5
            · rcases List.mem_cons.1 h5 with h5 | h5
              · cases h5; exact absurd rfl hne
              · exact List.mem_append_right _ h5
          rw [e2] at h4
          rcases List.mem_append.1 h4 with h5 | h5
          · exact List.mem_append_left _ h5
          · rcases List.mem_cons.1 h5 with h5 | h5
            · cases h5; exact absurd rfl hne
            · exact List.mem_append_right _ h5
      · intro _ pr hpr
        simp [Prom.add] at hpr
        subst hpr
        exact hal.congr (restr_eqOn o E).symm
    · obtain ⟨p, q, rfl⟩ := List.append_of_mem hm
      have hone : ∀ kk, (i, kk) ∉ p ++ q := fun kk hkk => hkA (one_np W.pr hk hkk).2.1
      have hj1 := J.moveFront ho hd p (W.front ht ho hr (List.Sublist.refl _) (fun hmm => hone _ (List.mem_append_left _ hmm))) (fun e => absurd e hkA) hj
      refine go (p ++ q) G hj1 ((List.Sublist.refl p).append (List.sublist_cons_self _ _)) ?_ (fun e => absurd e hkA)
      intro j kj
      constructor
      · intro hmm
        refine ⟨((List.Sublist.refl p).append (List.sublist_cons_self _ _)).subset hmm, ?_⟩
        rintro rfl
        exact hone kj hmm
      · rintro ⟨h3, hne⟩
        rcases List.mem_append.1 h3 with h5 | h5
        · exact List.mem_append_left _ h5
        · rcases List.mem_cons.1 h5 with h5 | h5
          · cases h5; exact absurd rfl hne
          · exact List.mem_append_right _ h5
theorem xc_drawL {id : Nat} {h' : Hp} (c : List Item) (f h : Hp) (hm : P.follows .mixedOrders = true) (hck : drawOk N ops c = true) (hp : List.Perm (h ++ f) h') (hIv : Holds L h) (H : J P r N ops D (PanEnv (mask ops E) Q) f L c E (fun _ => none) h) : XC P r N (.region id ops true) Q E D h' := by
  refine XC.perm hp ?_
  intro w a ho ha hda
  simp only [drawOk, Bool.and_eq_true] at hck
  obtain ⟨ht, hpr, hdst, hall, hit, hlen⟩ := hck
  refine wpIn_region_any hm ?_
  have hEp : ∀ (i : Nat) (o : Oper), ops[i]? = some o → ∀ t, o.dst = some t → mask ops E t = none := by
    intro i o hio t ht
    have : t ∈ dsts ops := List.mem_filterMap.2 ⟨o, by simpa using Array.mem_of_getElem? hio, ht⟩
    simp [mask, this]
  have hEa : Agree N (mask ops E) a := by
    refine ⟨ha.size, fun t v hv => ha.val t v ?_⟩
    unfold mask at hv
    split at hv
    · cases hv
    · exact hv
  refine draw_main (Ep := mask ops E) hEp (h0 := h ++ f) (w0 := w) ht hdst ops.size c _ E _ h _ a ⟨hpr, ?_, ?_, ?_, ?_, ?_, by simp, ?_⟩ (of_decide_eq_true hlen) H (ho.drew _) hIv ha hEa hda (Fol.refl (ho.drew _)).drew
  · intro i k hik
    have := List.all_eq_true.1 hit (i, k) hik
    simp only [Bool.and_eq_true, decide_eq_true_eq] at this
    exact ⟨this.1, by simp [Array.getD, this.1]⟩
  · intro i hi _
    have := List.all_eq_true.1 hall i (List.mem_range.2 hi)
    simp only [Bool.or_eq_true, List.contains_iff_mem] at this
    rcases this with ((h1 | h1) | h1) | h1
    · exact ⟨_, by simp, h1⟩
    · exact ⟨_, by simp, h1⟩
    · exact ⟨_, by simp, h1⟩
    · exact ⟨_, by simp, h1⟩
  · intro i hi
    have := List.all_eq_true.1 hit (i, .A) hi
    simp only [Bool.and_eq_true, Bool.or_eq_true, List.contains_iff_mem] at this
    rcases this.2.1 with h1 | h1
    · simp at h1
    · exact h1.2
  · intro i hi
    have := List.all_eq_true.1 hit (i, .P) hi
    simp only [Bool.and_eq_true, Bool.or_eq_true, List.contains_iff_mem] at this
    rcases this.2.2 with h1 | h1
    · simp at h1
    · exact h1
  · intro i o hi ho'
    have := List.all_eq_true.1 hit (i, .A) hi
    simp only [Bool.and_eq_true, Bool.or_eq_true, ho'] at this
    rcases this.2.1 with h1 | h1
    · simp at h1
    · simpa using h1.1
  · intro j o hj
    simp [Array.getD] at hj
end Go.H

/-
  Function values; ranges over functions.
-/
namespace Go.H
open Go
variable {P : Program} {r : Option Nat} {N : Nat} {Q : Post} {E : Env} {D : List Deferred} {h : Hp}
variable {K : Value → Hp → Prop} {T : List PanicEntry → Hp → Prop} {dst : Option Nat} {ty : TypeId} {pos : String} {af : Array Edge} {gd : Option (Nat × Bool)}
theorem XC.frame {c : Code} (g : Hp) (H : XC P r N c Q E D h) : XC P r N c (fun e E' D' h2 => ∃ h', h2 = h' ++ g ∧ Q e E' D' h') E D (h ++ g) := by
  intro w a ho ha hd
  refine wpIn_mono (H w a ho.left ha hd) ?_
  rintro e a' w' ⟨E', h', q, ha', hf⟩
  exact ⟨E', h' ++ g, ⟨h', rfl, q⟩, ha', Fol.frame ho hf⟩
def CallOp (o : Oper) (E : Env) (fv : Value) (args : List Value) : Prop :=
  ∃ c az at_, o.op = .call ⟨.value c, az, at_⟩ ∧ ev E c = some fv ∧ evs E az.toList = some args
def AFn (P : Program) (fv : Value) (args : List Value) (h : Hp) (R : Ending → Hp → Prop) : Prop :=
  ∀ (r : Option Nat) (o : Oper) (E : Env) (K : Value → Hp → Prop) (T : List PanicEntry → Hp → Prop), CallOp o E fv args → (∀ e h', R e h' → Up K T e h') → XV P r o K T E h
theorem xv_fn {c : Operand} {az : Array Operand} {at_ : Array TypeId} {fv : Value} {args : List Value} (hc : ev E c = some fv) (ha : evs E az.toList = some args) (H : AFn P fv args h (Up K T)) : XV P r ⟨dst, .call ⟨.value c, az, at_⟩, ty, pos, af, gd⟩ K T E h :=
  H r _ E K T ⟨c, az, at_, rfl, hc, ha⟩ (fun _ _ q => q)
theorem AFn.mono {fv : Value} {args : List Value} {R R' : Ending → Hp → Prop} (H : AFn P fv args h R) (hr : ∀ e h', R e h' → R' e h') : AFn P fv args h R' :=
  fun r o E K T hc hk => H r o E K T hc fun e h' q => hk e h' (hr e h' q)
theorem afn_func {g : FuncId} {fi lb args : List Value} {R : Ending → Hp → Prop} (hb : HasBody P g) (H : ACalls P g ⟨fi ++ args ++ lb⟩ h R) : AFn P (.func (.func g) ⟨fi⟩ ⟨lb⟩) args h R := by
  rintro r ⟨dst, op, ty, pos, af, gd⟩ E K T ⟨c, az, at_, rfl, hc, ha⟩ hk
  exact xv_call hc ha hb rfl (H.mono hk)
theorem AFn.perm {fv : Value} {args : List Value} {R : Ending → Hp → Prop} {h' : Hp} (hp : List.Perm h h') (H : AFn P fv args h R) : AFn P fv args h' R :=
  fun r o E K T hc hk => XV.perm hp (H r o E K T hc hk)
theorem up_frame {g : Hp} {K : Value → Hp → Prop} {T : List PanicEntry → Hp → Prop} {R : Ending → Hp → Prop} (hk : ∀ e h2, (∃ h', h2 = h' ++ g ∧ R e h') → Up K T e h2) :
    ∀ e h', R e h' → Up (fun v h' => K v (h' ++ g)) (fun c h' => T c (h' ++ g)) e h' := by
  intro e h' q
  have := hk e (h' ++ g) ⟨h', rfl, q⟩
  cases e <;> exact this
theorem AFn.frame {fv : Value} {args : List Value} {R : Ending → Hp → Prop} (g : Hp) (H : AFn P fv args h R) : AFn P fv args (h ++ g) (fun e h2 => ∃ h', h2 = h' ++ g ∧ R e h') := by
  intro r o E K T hc hk
  refine (XV.frame g (H r o E (fun v h' => K v (h' ++ g)) (fun c h' => T c (h' ++ g)) hc (up_frame hk))).mono ?_ ?_
  · rintro v h2 ⟨h', rfl, k⟩; exact k
  · rintro v h2 ⟨h', rfl, k⟩; exact k
theorem AFn.frameL {fv : Value} {args : List Value} {R : Ending → Hp → Prop} (g : Hp) (H : AFn P fv args h R) : AFn P fv args (g ++ h) (fun e h2 => ∃ h', h2 = g ++ h' ∧ R e h') := by
  intro r o E K T hc hk
  have hp : ∀ h', List.Perm (h' ++ g) (g ++ h') := fun h' => List.perm_append_comm
  refine XV.perm (hp h) ((XV.frame g (H r o E (fun v h' => K v (g ++ h')) (fun c h' => T c (g ++ h')) hc ?_)).conv ?_ ?_)
  · intro e h' q
    have := hk e (g ++ h') ⟨h', rfl, q⟩
    cases e <;> exact this
  · rintro v h2 _ ⟨h', rfl, k⟩; exact ⟨g ++ h', (hp h').symm, k⟩
  · rintro v h2 ⟨h', rfl, k⟩; exact ⟨g ++ h', g ++ h', (hp h').symm, List.Sublist.refl _, k⟩
theorem ACalls.frameL {f : FuncId} {args : Array Value} {R : Ending → Hp → Prop} (g : Hp) (H : ACalls P f args h R) : ACalls P f args (g ++ h) (fun e h2 => ∃ h', h2 = g ++ h' ∧ R e h') := by
  intro w ho
  have hp : ∀ h', List.Perm (h' ++ g) (g ++ h') := fun h' => List.perm_append_comm
  have ho' : Own (h ++ g) w := ho.perm (hp h)
  refine (H w ho'.left).mono ?_
  rintro e w' ⟨h', q, hf⟩
  exact ⟨g ++ h', ⟨h', rfl, q⟩, ((Fol.frame ho' hf).perm (hp h').symm).permL (hp h).symm⟩
theorem ACalls.perm {f : FuncId} {args : Array Value} {R : Ending → Hp → Prop} {h' : Hp} (hp : List.Perm h h') (H : ACalls P f args h R) : ACalls P f args h' R := by
  intro w ho
  refine (H w (ho.perm hp)).mono ?_
  rintro e w' ⟨h2, q, hf⟩
  exact ⟨h2, q, hf.permL hp.symm⟩
def Iter {α : Type} (P : Program) (g : FuncId) (fi lb : List Value) (enc : α → List Value) (all : List α) (Rd : Hp → Prop) : Prop :=
  ∀ (y : Value) (J Jx : Nat → Hp → Prop) (h : Hp), (∀ k h', J k h' → Rd h') →
    (∀ k x, all[k]? = some x → ∀ h', J k h' → AFn P y (enc x) h' (fun e h2 => (e = .returned (.bool true) ∧ J (k + 1) h2) ∨ (e = .returned (.bool false) ∧ Jx (k + 1) h2))) →
    J 0 h → ACalls P g ⟨fi ++ [y] ++ lb⟩ h (fun e h' => (∃ v, e = .returned v) ∧ (J all.length h' ∨ ∃ k, k ≤ all.length ∧ Jx k h'))
def puts (E : Env) : List Nat → List Value → Env
  | p :: ps, v :: vs => puts (E.put (some p) v) ps vs
  | _, _ => E
theorem agree_puts : ∀ (ps : List Nat) (vs : List Value) (E : Env) (tm : Array Value), Agree N E { tmps := tm, defers := [] } → (∀ p ∈ ps, p < N) →
    Agree N (puts E ps vs) { tmps := (ps.zip vs).foldl (fun t (p, v) => t.setIfInBounds p v) tm, defers := [] }
  | [], _, _, _, ha, _ => by simpa [puts] using ha
  | _ :: _, [], _, _, ha, _ => by simpa [puts] using ha
  | p :: ps, v :: vs, E, tm, ha, hp => by
    have := agree_puts ps vs (E.put (some p) v) (tm.setIfInBounds p v) (ha.put (d := some p) (fun k hk => by cases hk; exact hp p List.mem_cons_self)) (fun q hq => hp q (List.mem_cons_of_mem _ hq))
    simpa [puts] using this
theorem fol_put {l : Nat} {o o' : Obj} {g : Hp} {w : World} (ho : Own ((l, o) :: g) w) : Fol ((l, o) :: g) w ((l, o') :: g) (w.putObj l o') := by
  have hm : (l, o) ∈ (l, o) :: g := List.mem_cons_self
  have hb := ho.has _ _ hm
  have hlt := (Array.getElem?_eq_some_iff.1 hb).1
  have := Fol.set (o' := o') (w' := w.putObj l o') ho hm (World.putObj_heap_same hlt) (fun k hk => World.putObj_heap_other hk) (by simp) rfl rfl rfl
  simpa [setH] using this
def markOf (k : Nat) : Deferred := { target := .collected k, args := #[] }
theorem xc_range {α : Type} {g : Operand} {ps : Array Tmp} {assign body : Code} {gf : FuncId} {fi lb : List Value} (enc : α → List Value) (all : List α) (Rd : Hp → Prop)
    (hg : ev E g = some (.func (.func gf) ⟨fi⟩ ⟨lb⟩)) (hb : HasBody P gf) (hit : Iter P gf fi lb enc all Rd) (hps : ∀ x, (enc x).length = ps.size) (hpN : ∀ p ∈ ps.toList, p < N)
    (I : Nat → Hp → Prop) (Ix : Code → Nat → Hp → Prop) (hRd : ∀ k h', I k h' → ∀ x y, Rd (x :: y :: h')) (hRdp : ∀ h1 h2, List.Perm h1 h2 → Rd h1 → Rd h2) (h0 : I 0 h)
    (round : ∀ l k x, all[k]? = some x → ∀ h', I k h' →
      XC P (some l) N assign (fun e E1 D1 h1 => e = .normal ∧ XC P (some l) N body (fun e2 _ D2 h2 => D2 = [] ∧ (match e2 with
        | .normal => I (k + 1) h2
        | .ret => Ix .ret (k + 1) h2
        | .exit id => Ix (.exit id) (k + 1) h2
        | .goto t => Ix (.goto t) (k + 1) h2
        | _ => False)) E1 D1 h1) (puts E ps.toList (enc x)) [] h')
    (done : ∀ k h', I all.length h' → k ∉ keys h' → Q .normal E (markOf k :: D) ((k, .deferred (some [])) :: h'))
    (stop : ∀ k c j h', j ≤ all.length → Ix c j h' → k ∉ keys h' → XC P none N c Q E (markOf k :: D) ((k, .deferred (some [])) :: h')) : XC P none N (.rangeFunc g ps assign body) Q E D h := by
  intro w a ho ha hd
  refine wpIn_rangeFunc ?_
  intro fn _
  obtain ⟨rec, hrec⟩ : ∃ rec : LoopState → Option Code → Loop, rec = fun st pe => { state := st, pending := pe, fn, tmps := a.tmps, params := ps, assign, body, defers := w.heap.size } := ⟨_, rfl⟩
  have f1 := Fol.alloc ho (.deferred (some []))
  have f2 := Fol.alloc f1.own (.loop (rec .ready none))
  rw [World.size_alloc] at f2
  have f12 := f1.trans f2
  obtain ⟨w1, hw1⟩ : ∃ w1, (w.alloc (.deferred (some []))).alloc (.loop (rec .ready none)) = w1 := ⟨_, rfl⟩
  rw [hw1] at f12
  have hgv := ha.ev hg
  refine ⟨w.heap.size + 1, [markOf w.heap.size], w1, { target := .fn (.func gf) ⟨lb⟩, args := ⟨fi⟩ ++ #[.func (.yield (w.heap.size + 1)) #[] #[]] }, w1, gf,
    ⟨fi ++ [.func (.yield (w.heap.size + 1)) #[] #[]] ++ lb⟩, w1, ?_, ?_, fun _ _ => trivial, ?_, fun hh => by simp [fen, Fence.wide] at hh, callsIn_fen.2 ?_⟩
  · rw [← hw1, hrec]; exact run_enterLoop_outer _ _ _ _ _
  · simp [resolve, Deferred.ofValue, hgv]; rfl
  · simpa [invoke] using hb _ w1
  obtain ⟨Dk, hDk⟩ : ∃ k, k = w.heap.size := ⟨_, rfl⟩
  obtain ⟨l, hl⟩ : ∃ l, l = w.heap.size + 1 := ⟨_, rfl⟩
  rw [← hl, ← hDk] at f12
  rw [← hl]
  let base : LoopState → Option Code → Hp → Hp := fun st pe h' => (l, .loop (rec st pe)) :: (Dk, .deferred (some [])) :: h'
  have hcall := hit (.func (.yield l) #[] #[]) (fun k h' => ∃ h2, List.Perm h' (base .ready none h2) ∧ I k h2) (fun k h' => ∃ c h2, List.Perm h' (base .done (some c) h2) ∧ Ix c k h2) (base .ready none h)
    (fun k h' ⟨h2, hp, hi⟩ => hRdp _ _ hp.symm (hRd k h2 hi _ _)) ?_ ⟨h, List.Perm.refl _, h0⟩
  · refine (hcall w1 f12.own).mono ?_
    rintro e w2 ⟨h2, ⟨⟨v, rfl⟩, q⟩, hf2⟩
    have hf3 := f12.trans hf2
    rcases q with ⟨h3, hp, hi⟩ | ⟨j, hj, c, h3, hp, hi⟩
    · have ho3 := hf3.own.perm hp.symm
      have hl3 := ho3.has l _ List.mem_cons_self
      have hend := run_endLoop (P := P) hl3 (by rw [hrec]; simp)
      have hf4 := (hf3.perm hp.symm).trans (fol_put (o' := .loop { rec .ready none with state := .exhausted }) ho3)
      refine ⟨none, _, hend.trans (congrArg (fun p => Result.ok p _) (show (rec .ready none).pending = none by rw [hrec])), E, (Dk, .deferred (some [])) :: h3, ?_, ⟨ha.size, ha.val⟩, hf4.sub (List.sublist_cons_self _ _)⟩
      have hnd := ho3.nd
      simp only [base, keys, List.map_cons, List.nodup_cons] at hnd
      have := done Dk h3 hi (fun hm => hnd.2.1 hm)
      show Q .normal E ([markOf w.heap.size] ++ a.defers) _
      rw [hd, ← hDk]
      exact this
    · have ho3 := hf3.own.perm hp.symm
      have hl3 := ho3.has l _ List.mem_cons_self
      have hend := run_endLoop (P := P) hl3 (by rw [hrec]; simp)
      have hf4 := (hf3.perm hp.symm).trans (fol_put (o' := .loop { rec .done (some c) with state := .exhausted }) ho3)
      have hf5 := hf4.sub (List.sublist_cons_self _ _)
      have hnd := ho3.nd
      simp only [base, keys, List.map_cons, List.nodup_cons] at hnd
      refine ⟨some c, _, hend.trans (congrArg (fun p => Result.ok p _) (show (rec .done (some c)).pending = some c by rw [hrec])), ?_⟩
      have hst := stop Dk c j h3 hj hi (fun hm => hnd.2.1 hm) _ { a with defers := [markOf w.heap.size] ++ a.defers } hf5.own ⟨ha.size, ha.val⟩ (by show [markOf w.heap.size] ++ a.defers = _; rw [hd, ← hDk]; rfl)
      refine wpIn_mono hst ?_
      rintro e a' w' ⟨E', h', q, x, f⟩
      exact ⟨E', h', q, x, hf5.trans f⟩
  · -- one round
    rintro k x hx h' ⟨h2, hp, hi⟩
    refine AFn.perm hp.symm ?_
    rintro r2 ⟨dst, op, ty, pos, af, gd⟩ E2 K T ⟨c, az, at_, rfl, hc, hargs⟩ hk w' a' ho' ha' next QQ hn hq
    obtain ⟨ρ, he, hρ⟩ := ops_rho (by simp [plainOp]) ha'
    have hm := evs_arr he hargs
    have hl1 := ho'.has l _ List.mem_cons_self
    have hy := run_yield (P := P) (args := ⟨enc x⟩) hl1 (by rw [hrec]; simpa using hps x)
    have hres := resolve_value (P := P) (args := az) (at_ := at_) (t := ty) (w := w') (he _ _ hc)
    refine ⟨fun _ _ => trivial, ?_⟩
    rw [Oper.semAt_eq _ _ _ (by simp), ← hρ]
    have hex : (execOp ρ ⟨dst, .call ⟨.value c, az, at_⟩, ty, pos, af, gd⟩).run P w' = .ok (.round l fn ((ps.zip (⟨enc x⟩ : Array Value)).foldl (fun tmps (t, a) => tmps.setIfInBounds t a) a.tmps) assign body) w' := by
      have : (execOp ρ ⟨dst, .call ⟨.value c, az, at_⟩, ty, pos, af, gd⟩).run P w' = (Instr.yield l ⟨enc x⟩).run P w' := by
        simp [execOp, hres, invoke, hm]
      rw [this, hy, hrec]
    rw [hex]
    refine ⟨fun hh => by simp [fen, Fence.wide] at hh, ?_⟩
    have hrnd := round l k x hx h2 hi
    -- the frame: the record, the block of the deferred calls
    have hpf : ∀ z y (g : Hp), List.Perm (g ++ [z, y]) (z :: y :: g) := fun z y g => List.perm_append_comm (l₁ := g) (l₂ := [z, y])
    have hown : Own (h2 ++ [(l, .loop (rec .ready none)), (Dk, .deferred (some []))]) w' := ho'.perm (hpf _ _ _)
    have hag : Agree N (puts E ps.toList (enc x)) { tmps := (ps.zip (⟨enc x⟩ : Array Value)).foldl (fun tmps (t, a) => tmps.setIfInBounds t a) a.tmps, defers := [] } := by
      have := agree_puts ps.toList (enc x) E a.tmps ⟨ha.size, ha.val⟩ hpN
      have e : (ps.zip (⟨enc x⟩ : Array Value)).foldl (fun tmps (t, a) => tmps.setIfInBounds t a) a.tmps = (ps.toList.zip (enc x)).foldl (fun t (p, v) => t.setIfInBounds p v) a.tmps := by
        rw [← Array.foldl_toList]; simp
      rw [e]; exact this
    refine roundIn_of_wpIn (F := fen r2) trivial ?_
    refine wpIn_mono (XC.frame [(l, .loop (rec .ready none)), (Dk, .deferred (some []))] hrnd w' _ hown hag rfl) ?_
    rintro e a1 w1' ⟨E1, h1, ⟨h1', rfl, rfl, hbody⟩, ha1, hf1⟩
    have ho1 : Own ((l, .loop (rec .ready none)) :: (Dk, .deferred (some [])) :: h1') w1' := hf1.own.perm (hpf _ _ _).symm
    have hl2 := ho1.has l _ List.mem_cons_self
    refine ⟨_, run_beginRound (P := P) hl2 (by rw [hrec]), ?_⟩
    have hf2 := fol_put (o' := .loop { rec .ready none with state := .busy }) ho1
    have ho2 : Own (h1' ++ [(l, .loop { rec .ready none with state := .busy }), (Dk, .deferred (some []))]) (w1'.putObj l (.loop { rec .ready none with state := .busy })) := hf2.own.perm (hpf _ _ _)
    refine wpIn_mono (XC.frame [(l, .loop { rec .ready none with state := .busy }), (Dk, .deferred (some []))] hbody _ a1 ho2 ha1 rfl) ?_
    rintro e a3 w3 ⟨E3, h3, ⟨h3', rfl, hd3, hpost⟩, ha3, hf3⟩
    have ho3 : Own ((l, .loop { rec .ready none with state := .busy }) :: (Dk, .deferred (some [])) :: h3') w3 := hf3.own.perm (hpf _ _ _).symm
    have hl3 := ho3.has l _ List.mem_cons_self
    have hall : Fol ((l, .loop (rec .ready none)) :: (Dk, .deferred (some [])) :: h2) w' ((l, .loop { rec .ready none with state := .busy }) :: (Dk, .deferred (some [])) :: h3') w3 :=
      (((hf1.permL (hpf _ _ _).symm).perm (hpf _ _ _).symm).trans hf2).trans ((hf3.permL (hpf _ _ _).symm).perm (hpf _ _ _).symm)
    have fin : ∀ (jump : Option Code), Fol ((l, .loop (rec .ready none)) :: (Dk, .deferred (some [])) :: h2) w' ((l, .loop (rec (if jump.isNone then .ready else .done) jump)) :: (Dk, .deferred (some [])) :: h3') (w3.putObj l (.loop (rec (if jump.isNone then .ready else .done) jump))) ∧
        (Instr.endRound l jump).run P w3 = .ok (.bool jump.isNone) (w3.putObj l (.loop (rec (if jump.isNone then .ready else .done) jump))) := by
      intro jump
      refine ⟨hall.trans (fol_put ho3), ?_⟩
      have := run_endRound (P := P) jump hl3
      rw [hrec] at this ⊢
      exact this
    cases e with
    | normal =>
      obtain ⟨h4, h5⟩ := fin none
      refine ⟨_, _, h5, ?_⟩
      have := hk _ _ (.inl ⟨rfl, h3', List.Perm.refl _, hpost⟩)
      exact hn _ _ _ this h4
    | ret =>
      obtain ⟨h4, h5⟩ := fin (some .ret)
      refine ⟨_, _, h5, ?_⟩
      have := hk _ _ (.inr ⟨rfl, .ret, h3', List.Perm.refl _, hpost⟩)
      exact hn _ _ _ this h4
    | exit id =>
      obtain ⟨h4, h5⟩ := fin (some (.exit id))
      refine ⟨_, _, h5, ?_⟩
      have := hk _ _ (.inr ⟨rfl, .exit id, h3', List.Perm.refl _, hpost⟩)
      exact hn _ _ _ this h4
    | goto t =>
      obtain ⟨h4, h5⟩ := fin (some (.goto t))
      refine ⟨_, _, h5, ?_⟩
      have := hk _ _ (.inr ⟨rfl, .goto t, h3', List.Perm.refl _, hpost⟩)
      exact hn _ _ _ this h4
    | panic ch => exact hpost.elim
    | outgrown => exact hpost.elim
end Go.H

/-
  Rules on operations: literals, appends, maps, interfaces, panics.
-/
namespace Go.H
open Go
variable {P : Program} {r : Option Nat} {N : Nat} {Q : Post} {E : Env} {D : List Deferred} {h h' : Hp}
variable {K : Value → Hp → Prop} {T : List PanicEntry → Hp → Prop} {dst : Option Nat} {ty : TypeId} {pos : String} {af : Array Edge} {gd : Option (Nat × Bool)}
def putL : List Value → Nat → List Value → List Value
  | l, _, [] => l
  | l, o, v :: vs => putL (l.set o v) (o + 1) vs
def bld (z : List Value) (pl : Nat → Option (Nat × Nat)) : List (Nat × Value) → Option (List Value)
  | [] => some z
  | (i, v) :: rest => match pl i with
    | none => none
    | some (off, size) => if v.cells.toList.length = size ∧ off + size ≤ z.length then bld (putL z off v.cells.toList) pl rest else none
theorem foldl_putL : ∀ (vs : List Value) (j off : Nat) (cs : Array Value), (vs.zipIdx j).foldl (fun cs (c, j) => cs.setIfInBounds (off + j) c) cs = ⟨putL cs.toList (off + j) vs⟩
  | [], j, off, cs => rfl
  | v :: vs, j, off, cs => by
    simp only [List.zipIdx_cons, List.foldl_cons, putL]
    rw [foldl_putL vs (j + 1) off]
    simp [Nat.add_assoc]
theorem bld_fill (pl : Nat → Option (Nat × Nat)) : ∀ (parts : List (Nat × Value)) (z l : List Value), bld z pl parts = some l → Instr.fill pl ⟨z⟩ parts = some ⟨l⟩
  | [], z, l, hh => by cases hh; rfl
  | (i, v) :: rest, z, l, hh => by
    simp only [bld] at hh
    simp only [Instr.fill]
    cases hp : pl i with
    | none => simp [hp] at hh
    | some p =>
      obtain ⟨off, size⟩ := p
      simp only [hp] at hh ⊢
      split at hh
      · rename_i hc
        have h1 : v.cells.size = size := by simpa using hc.1
        have hne : ¬ (decide (v.cells.size ≠ size) || decide (off + v.cells.size > z.toArray.size)) = true := by simp [h1]; omega
        have e : (v.cells.zipIdx.foldl (fun cs (c, j) => cs.setIfInBounds (off + j) c) (⟨z⟩ : Array Value)) = ⟨putL z off v.cells.toList⟩ := by
          have := foldl_putL v.cells.toList 0 off ⟨z⟩
          simp only [Nat.add_zero] at this
          rw [← this, ← Array.foldl_toList]
          simp
        rw [if_neg hne, e]
        exact bld_fill pl rest _ l hh
      · cases hh
def BtOk (P : Program) (t : TypeId) (z : List Value) (pl : Nat → Option (Nat × Nat)) : Prop := ∀ parts, P.built t parts = Instr.fill pl ⟨z⟩ parts
def evps (E : Env) : List (Nat × Operand) → Option (List (Nat × Value))
  | [] => some []
  | (i, x) :: xs => match ev E x, evps E xs with
    | some v, some vs => some ((i, v) :: vs)
    | _, _ => none
theorem evps_map {ρ : Operand → Value} (he : ∀ x v, ev E x = some v → ρ x = v) : ∀ (l : List (Nat × Operand)) (vs : List (Nat × Value)), evps E l = some vs → (l.map fun (i, x) => (i, ρ x)) = vs
  | [], _, hh => by cases hh; rfl
  | (i, x) :: xs, _, hh => by
    simp only [evps] at hh
    cases h1 : ev E x with
    | none => simp [h1] at hh
    | some v =>
      cases h2 : evps E xs with
      | none => simp [h1, h2] at hh
      | some vs => simp [h1, h2] at hh; subst hh; simp [he _ _ h1, evps_map he xs vs h2]
theorem xv_build {t : TypeId} {ps : Array (Nat × Operand)} {vs : List (Nat × Value)} {z l : List Value} {pl : Nat → Option (Nat × Nat)} (hb : BtOk P t z pl) (hv : evps E ps.toList = some vs) (hl : bld z pl vs = some l)
    (H : K (.agg ⟨l⟩) h) : XV P r ⟨dst, .build t ps, ty, pos, af, gd⟩ K T E h :=
  xv_of_run (by simp [plainOp]) fun w ρ ho he => ⟨_, h, w, by
    have hm := evps_map he _ _ hv
    have hmm : (ps.map fun (i, x) => (i, ρ x)).toList = vs := by rw [← hm]; simp
    have := run_build (P := P) w t (ps.map fun (i, x) => (i, ρ x)) ⟨l⟩ (by rw [hmm, hb]; exact bld_fill pl vs z l hl)
    simp only [execOp, Sem.run_bind, this, Result.andThen_ok, Sem.run_pure], H, .refl ho⟩
def zeros (z : List Value) : Nat → List Value
  | 0 => []
  | n + 1 => z ++ zeros z n
theorem zeros_length (z : List Value) (n : Nat) : (zeros z n).length = n * z.length := by
  induction n with
  | zero => simp [zeros]
  | succ n ih => simp [zeros, ih, Nat.add_mul, Nat.add_comm]
theorem zeros_get (z : List Value) : ∀ (n i : Nat), i < n * z.length → (zeros z n)[i]? = z[i % z.length]?
  | 0, i, hi => by simp at hi
  | n + 1, i, hi => by
    simp only [zeros]
    by_cases h1 : i < z.length
    · rw [List.getElem?_append_left h1, Nat.mod_eq_of_lt h1]
    · rw [List.getElem?_append_right (by omega), zeros_get z n _ (by rw [Nat.add_mul] at hi; omega)]
      congr 1
      rw [Nat.mod_eq_sub_mod (a := i) (by omega)]
theorem zeros_arr (z : List Value) (n : Nat) (hz : 0 < z.length) : (Array.range (n * z.length)).map (fun i => (⟨z⟩ : Array Value)[i % (⟨z⟩ : Array Value).size]!) = ⟨zeros z n⟩ := by
  apply Array.ext'
  apply List.ext_getElem?
  intro i
  simp only [Array.toList_map, Array.toList_range]
  rw [List.getElem?_map]
  by_cases hi : i < n * z.length
  · rw [List.getElem?_range hi, zeros_get z n i hi]
    have hlt : i % z.length < z.length := Nat.mod_lt _ hz
    simp [hlt]
  · rw [List.getElem?_eq_none (by simpa using Nat.le_of_not_lt hi), List.getElem?_eq_none (by rw [zeros_length]; omega)]
    rfl
theorem run_buildSlice {t e : TypeId} {d : TD} {n : Nat} {parts : Array (Nat × Value)} {zl l : List Value} {w : World} (ht : SlT P t e) (hd : TyOk P e d) (hz : d.zero.cells.toList = zl) (hzs : zl.length = d.size) (h0 : 0 < d.size) (hn : n * d.size ≤ 16777216)
    (hl : bld (zeros zl n) (fun i => some (i * d.size, d.size)) parts.toList = some l) :
    (Instr.buildSlice t n parts).run P w = .ok (.slice (some ⟨w.heap.size, 0, none⟩) n n) (w.alloc (.cells ⟨l⟩ e)) := by
  have hfill := bld_fill _ _ _ _ hl
  have hzc : d.zero.cells = ⟨zl⟩ := by apply Array.ext'; simpa using hz
  have hna : ¬ (n * d.size > 2 ^ 24) := by omega
  unfold Instr.buildSlice
  by_cases hn0 : n = 0
  · subst hn0
    simp only [zeros] at hfill
    simp [run_underlying ht, hd.run_size, Array.range_zero', hfill, newRow]
  · have hne : ¬ (n * d.size = 0) := fun e => by rcases Nat.mul_eq_zero.1 e with h1 | h1 <;> omega
    have ha := zeros_arr zl n (by omega)
    rw [hzs] at ha
    have hna' : ¬ (16777216 < n * d.size) := by omega
    simp only [List.size_toArray] at ha
    simp [run_underlying ht, hd.run_size, hna', hne, hd.run_zero, hzc, newRow]
    simp only [hzs] at ha ⊢
    rw [show (Array.map (fun x => zl[x % d.size]?.getD default) (Array.range (n * d.size))) = ⟨zeros zl n⟩ from ?_]
    · rw [hfill]; simp
    · rw [← ha]
      apply Array.map_congr_left
      intro x _
      simp
end Go.H

/-
  Rules on operations: slices that grow, maps, interfaces, panics, allocations in drawn regions.
-/
namespace Go.H
open Go
variable {P : Program} {r : Option Nat} {N : Nat} {Q : Post} {E : Env} {D : List Deferred} {h h' : Hp}
variable {K : Value → Hp → Prop} {T : List PanicEntry → Hp → Prop} {dst : Option Nat} {ty : TypeId} {pos : String} {af : Array Edge} {gd : Option (Nat × Bool)}
theorem al_buildSlice {t e : TypeId} {d : TD} {n : Nat} {ps : Array (Nat × Operand)} {vs : List (Nat × Value)} {zl l : List Value} (ht : SlT P t e) (hd : TyOk P e d) (hz : d.zero.cells.toList = zl) (hzs : zl.length = d.size) (h0 : Nat.blt 0 d.size = true) (hn : Nat.ble (n * d.size) 16777216 = true)
    (hv : evps E ps.toList = some vs) (hl : bld (zeros zl n) (fun i => some (i * d.size, d.size)) vs = some l) :
    AL P ⟨dst, .buildSlice t n ps, ty, pos, af, gd⟩ E (fun b => .slice (some ⟨b, 0, none⟩) n n) (.cells ⟨l⟩ e) :=
  ⟨by simp [plainOp], fun w ρ he => by
    have hm := evps_map he _ _ hv
    have hmm : (ps.map fun (i, x) => (i, ρ x)).toList = vs := by rw [← hm]; simp
    have := run_buildSlice (P := P) (n := n) (parts := ps.map fun (i, x) => (i, ρ x)) (w := w) ht hd hz hzs (Nat.le_of_ble_eq_true h0) (Nat.le_of_ble_eq_true hn) (by rw [hmm]; exact hl)
    simp only [execOp, Sem.run_bind, this, Result.andThen_ok, Sem.run_pure]⟩
theorem AL.xv {o : Oper} {mk : Nat → Value} {obj : Obj} (H : AL P o E mk obj) (hk : ∀ b, b ∉ keys h → K (mk b) ((b, obj) :: h)) : XV P r o K T E h :=
  xv_of_run H.1 fun w ρ ho he => ⟨_, _, w.alloc obj, H.2 w ρ he, hk _ fun hc => Nat.lt_irrefl _ (ho.lt hc), .alloc ho _⟩
theorem eqGuard_iface (op : BinOp) (t t' : TypeId) (x y : Operand) (v : Value) (w : World) : (eqGuard op t x y (.iface t' v) .nilIface).run P w = .ok () w := by
  unfold eqGuard; cases op <;> simp
theorem xv_neNil {xt yt t' : TypeId} {x y : Operand} {v : Value} (ht : ∃ ms, P.underlying xt = some (.interface ms)) (hx : ev E x = some (.iface t' v)) (hy : ev E y = some .nilIface) (H : K (.bool true) h) : XV P r ⟨dst, .binOp .neq xt x y yt, ty, pos, af, gd⟩ K T E h :=
  xv_of_run (by simp [plainOp]) fun w ρ ho he => ⟨_, h, w, by
    obtain ⟨ms, ht⟩ := ht
    rw [run_bin (he _ _ hx) (he _ _ hy) (eqGuard_iface _ _ _ _ _ _)]
    have hq0 : ∀ n, (Op.equalIn (n + 1) xt (.iface t' v) .nilIface).run P w = .ok false w := fun n => by
      simp only [Op.equalIn, Sem.run_bind, run_underlying ht, Result.andThen_ok, Sem.run_pure]
    have hq := hq0 9999
    have hb : (binOp .neq xt (.iface t' v) .nilIface).run P w = .ok (.bool true) w := by
      show (do let b ← Op.equalIn (9999 + 1) xt (.iface t' v) .nilIface; pure (Value.bool (!b)) : Sem Value).run P w = _
      simp only [Sem.run_bind, hq, Result.andThen_ok, Sem.run_pure, Bool.not_false]
    rw [hb]; rfl, H, .refl ho⟩
theorem xv_assertOk {x : Operand} {xt t : TypeId} {v : Value} {d : TD} (ht : TyOk P t d) (hd : notIface d.und = true) (hx : ev E x = some (.iface t v)) (H : K (.tuple ⟨[v, .bool true]⟩) h) : XV P r ⟨dst, .typeAssert x xt t true, ty, pos, af, gd⟩ K T E h :=
  xv_of_run (by simp [plainOp]) fun w ρ ho he => ⟨_, h, w, by
    have hu := ht.run_und w
    cases hq : d.und <;> simp [hq, notIface] at hd <;> simp [execOp, he _ _ hx, Instr.typeAssert, hu, hq], H, .refl ho⟩
theorem xv_panic {x : Operand} {t : TypeId} {v : Value} (hx : ev E x = some (.iface t v)) (H : T [{ v := .iface t v, recovered := false }] h) : XV P r ⟨dst, .panic x, ty, pos, af, gd⟩ K T E h :=
  xv_of_panic (by simp [plainOp]) fun w ρ ho he => ⟨_, h, w, by simp [execOp, he _ _ hx, Instr.panic], H, .refl ho⟩
def mfind (k : Int) : List MapEntry → Nat → Option (Nat × Value)
  | [], _ => none
  | e :: es, i => match e.key with
    | .int .i64 j => if k = j then some (i, e.val) else mfind k es (i + 1)
    | _ => none
def mget (es : List MapEntry) (k : Int) : Option Value := (mfind k es 0).map (·.2)
def AllInt (es : List MapEntry) : Prop := ∀ e ∈ es, ∃ j, e.key = .int .i64 j
structure MSet (es : List MapEntry) (k : Int) (v : Value) (es' : List MapEntry) : Prop where
  ai : AllInt es'
  get : ∀ j, mget es' j = if j = k then some v else mget es j
end Go.H

