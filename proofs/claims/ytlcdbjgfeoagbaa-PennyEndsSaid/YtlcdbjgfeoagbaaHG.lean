/-
  The logic of owned blocks over the kit, part HB.
-/
import Derived.Test.YtlcdbjgfeoagbaaHA
import Derived.MapKept
import Derived.Recover
import Derived.Tactics2
import Derived.TacticsIn
import Derived.Laws.StructEq
import Derived.Maps.RangeRun
import Derived.Below
import Derived.ProofKit
import Derived.Laws.MakeOwn
import Derived.KernelRfl
set_option linter.all false
/-
  Regions whose order Go leaves open: the theorem.
-/
namespace Go.H
open Go
variable {P : Program} {r : Option Nat} {N : Nat} {Q : Post} {E : Env} {D : List Deferred} {h : Hp}
variable {ops : Array Oper} {f : Hp} {L : List (Nat × (Obj → Prop))}
theorem Jst.info {k : Kd} {i : Nat} {o : Oper} {G : Prom} {K : Env → Prom → Hp → Prop} (H : Jst P r ops D Q f L k i o E G h K) :
    Jst P r ops D Q f L k i o E G h (fun E' G' h' => ExtE o E E' ∧ (G' = G ∨ ∃ pr, G' = G.add i pr) ∧ K E' G' h') := by
  cases k with
  | S => exact H.imp (fun ⟨a, b⟩ => ⟨a, .inr ⟨_, rfl⟩, .inl rfl, b⟩) (fun ⟨a, v, b, c⟩ => ⟨a, v, b, .inr ⟨_, rfl⟩, .inl rfl, c⟩)
  | R => exact H.imp (fun ⟨a, b⟩ => ⟨a, .inr ⟨_, rfl⟩, .inl rfl, b⟩) (fun ⟨a, v, b, c⟩ => ⟨a, v, b, .inr ⟨_, rfl⟩, .inl rfl, c⟩)
  | P => obtain ⟨a, mk, obj, b, c⟩ := H; exact ⟨a, mk, obj, b, .inl rfl, .inr ⟨_, rfl⟩, c⟩
  | A => obtain ⟨a, p, b, c, d⟩ := H; exact ⟨a, p, b, c, fun x hx => ⟨.inr ⟨_, rfl⟩, .inl rfl, d x hx⟩⟩
  | O => exact H.imp (fun ⟨a, b⟩ => ⟨a, .inr ⟨_, rfl⟩, .inl rfl, b⟩) (fun ⟨a, b⟩ => ⟨a, b.mono (fun v h2 ⟨h', p, iv, c⟩ => ⟨h', p, iv, .inr ⟨_, rfl⟩, .inl rfl, c⟩) (fun _ _ c => c)⟩)
theorem J.moveFront {x : Nat} {k : Kd} {ox : Oper} (hx : ops[x]? = some ox) (hd : dstOk N ox.dst = true) {q : List Item} : ∀ (p : List Item) {E : Env} {G : Prom} {h : Hp},
    (∀ z kz, (z, kz) ∈ p → z ≠ x ∧ okSwap kz k = true ∧ ∀ oz, ops[z]? = some oz → oz.apart ops ox = true) →
    (k = .A → ox.guard = none ∧ ∃ pr, G x = some pr ∧ EqOn ox pr.env E) → J P r N ops D Q f L (p ++ (x, k) :: q) E G h → J P r N ops D Q f L ((x, k) :: (p ++ q)) E G h
  | [], _, _, _, _, _, H => H
  | (z, kz) :: p, E, G, h, hp, hI, H => by
    obtain ⟨oz, hoz, hdz, H⟩ := H
    obtain ⟨hne, hok, hap⟩ := hp z kz List.mem_cons_self
    have hap := hap oz hoz
    have H2 : Jst P r ops D Q f L kz z oz E G h (fun E' G' h' => Jst P r ops D Q f L k x ox E' G' h' (J P r N ops D Q f L (p ++ q))) := by
      refine H.info.mono ?_
      rintro E' G' h' ⟨e, g, H⟩
      have H' := J.moveFront hx hd p (fun z' kz' hm => hp z' kz' (List.mem_cons_of_mem _ hm)) (fun hk => by
        obtain ⟨hg, pr, h1, h2⟩ := hI hk
        refine ⟨hg, pr, ?_, h2.trans ?_⟩
        · rcases g with rfl | ⟨pr', rfl⟩
          · exact h1
          · simp only [Prom.add]; rw [if_neg (fun e => hne e.symm)]; exact h1
        · rcases e with rfl | ⟨u, rfl⟩
          · exact fun _ _ => rfl
          · exact eqOn_put hap u) H
      obtain ⟨o', ho', _, H'⟩ := H'
      rw [hx] at ho'; cases ho'
      exact H'
    refine ⟨ox, hx, hd, (Jst.swap (K := J P r N ops D Q f L (p ++ q)) hap hok hne hI (fun _ _ _ _ hp' q' => J.perm _ hp' q') H2).mono ?_⟩
    exact fun E' G' h' H' => ⟨oz, hoz, hdz, H'⟩
theorem Jst.exec {Ep : Env} {k : Kd} {i : Nat} {o : Oper} {G : Prom} {K : Env → Prom → Hp → Prop} {w : World} {a : Act} {QQ : Exit → Act → World → Prop} {next : Act → World → Prop} (ho : ops[i]? = some o) (hd : dstOk N o.dst = true) (hk : k ≠ .P)
    (hG : k = .A → ∀ p, G i = some p → AL P o p.env p.val p.obj) (hw : Own (h ++ f) w) (hIv : Holds L h) (ha : Agree N E a) (hda : a.defers = D) (hEp : ∀ t, o.dst = some t → Ep t = none) (hEa : Agree N Ep a)
    (hn : ∀ E' G' h' a' w', (G' = G) → ExtE o E E' → Agree N E' a' → Agree N Ep a' → a'.defers = D → Fol (h ++ f) w (h' ++ f) w' → Holds L h' → K E' G' h' → next a' w') (hq : ∀ ch h' w', Q (.panic ch) emp D h' → Fol (h ++ f) w h' w' → QQ (.panic ch) a w')
    (H : Jst P r ops D Q f L k i o E G h K) : wpOpIn (fen r) 0 P ops QQ i next a w := by
  have hput : ∀ v, (a.put o.dst v).defers = D := fun v => by cases o.dst <;> exact hda
  have hput2 : ∀ v, Agree N Ep (a.put o.dst v) := fun v => by
    have h1 := (hEa.put (v := v) (dstOk_lt hd))
    refine ⟨h1.size, fun t u hu => h1.val t u ?_⟩
    rw [put_other (fun e => by rw [hEp t e] at hu; cases hu)]; exact hu
  have hskip : Skips ops o E → K (E.put o.dst undef) G h → wpOpIn (fen r) 0 P ops QQ i next a w := by
    rintro ⟨j, t, v, hg, hgv, hne⟩ hK
    unfold wpOpIn
    simp only [ho]
    have hw' : ¬ Region.wanted o (yielded ops a.tmps) = true := by
      simp only [Region.wanted, hg]
      unfold gv at hgv
      unfold yielded
      cases hdj : (ops[j]?).bind (·.dst) with
      | none => rw [hdj] at hgv; cases hgv
      | some d =>
        rw [hdj] at hgv
        have := ha.val d _ hgv
        cases v <;> simp_all [isb]
    rw [if_neg hw']
    exact ⟨fun _ _ => trivial, hn _ _ _ _ _ rfl (.inr ⟨_, rfl⟩) (ha.put (dstOk_lt hd)) (hput2 _) (hput _) (.refl hw) hIv hK⟩
  have hrun : Runs ops o E → (o.wpIn (fen r) 0 P a w next QQ) → wpOpIn (fen r) 0 P ops QQ i next a w := by
    intro hr hh
    unfold wpOpIn
    simp only [ho]
    have hw' : Region.wanted o (yielded ops a.tmps) = true := by
      rcases hr with hr | ⟨j, t, hg, hgv⟩
      · simp [Region.wanted, hr]
      · simp [Region.wanted, hg, gv_yielded ha hgv]
    rw [if_pos hw']
    exact hh
  have hops : OpsAt E o a := fun x _ v hv => ha.ev hv
  cases k with
  | P => exact absurd rfl hk
  | S =>
    rcases H with ⟨hs, hK⟩ | ⟨hr, v, hv, hK⟩
    · exact hskip hs hK
    · refine hrun hr (hv h hIv w a hw hops next QQ ?_ (fun _ _ _ k _ => k.elim))
      rintro v' h' w' ⟨rfl, e⟩ hf
      rw [e] at hf
      exact hn _ _ h _ _ rfl (.inr ⟨_, rfl⟩) (ha.put (dstOk_lt hd)) (hput2 _) (hput _) hf hIv hK
  | R =>
    rcases H with ⟨hs, hK⟩ | ⟨hr, v, hv, hK⟩
    · exact hskip hs hK
    · refine hrun hr (hv w a hw hops next QQ ?_ (fun _ _ _ k _ => k.elim))
      rintro v' h' w' ⟨rfl, e⟩ hf
      rw [e] at hf
      exact hn _ _ h _ _ rfl (.inr ⟨_, rfl⟩) (ha.put (dstOk_lt hd)) (hput2 _) (hput _) hf hIv hK
  | A =>
    obtain ⟨hg, p, hp, he, hK⟩ := H
    have hal := (hG rfl p hp).congr he
    obtain ⟨ρ, hρ1, hρ2⟩ := ops_rho hal.1 hops
    refine hrun (.inl hg) ⟨fun _ _ => trivial, ?_⟩
    rw [Oper.semAt_eq _ _ _ hal.1.1, ← hρ2, hal.2 w ρ hρ1]
    exact hn _ _ ((w.heap.size, p.obj) :: h) _ _ rfl (.inr ⟨_, rfl⟩) (ha.put (dstOk_lt hd)) (hput2 _) (hput _) (Fol.alloc hw _) (hIv.cons _) (hK _ fun hc => Nat.lt_irrefl _ (hw.lt hc))
  | O =>
    rcases H with ⟨hs, hK⟩ | ⟨hr, hx⟩
    · exact hskip hs hK
    · refine hrun hr (hx w a hw hops next QQ ?_ ?_)
      · rintro v h2 w' ⟨h', hp, iv, hK⟩ hf
        exact hn _ _ h' _ _ rfl (.inr ⟨_, rfl⟩) (ha.put (dstOk_lt hd)) (hput2 _) (hput _) (hf.perm hp) iv hK
      · intro ch h2 w' hq' hf
        exact hq ch h2 w' hq' hf
def direct (o : Oper) : List Nat := (o.after.toList.filter (Region.binds .any)).map (·.on)
def clos (ops : Array Oper) : List (List Nat) :=
  ops.toList.foldl (fun acc o => acc ++ [(direct o).foldl (fun s j => s ++ [j] ++ (acc.getD j []).filter fun z => !s.contains z) []]) []
def tblOk (ops : Array Oper) (tbl : List (List Nat)) : Bool :=
  (List.range ops.size).all fun y => match ops[y]? with
    | none => false
    | some o => ((tbl.getD y []).all fun x => (direct o).contains x || (direct o).any fun z => (tbl.getD z []).contains x) && (direct o).all (· < y)
def pairsOk (ops : Array Oper) (tbl : List (List Nat)) : List Item → Bool
  | [] => true
  | (x, k) :: l => (l.all fun (y, ky) => (x == y && (k == .P && ky == .A)) || (x != y && ((tbl.getD y []).contains x || (okSwap k ky && match ops[x]?, ops[y]? with | some ox, some oy => ox.apart ops oy | _, _ => false)))) && pairsOk ops tbl l
def drawOk (N : Nat) (ops : Array Oper) (c : List Item) : Bool :=
  tblOk ops (clos ops) && (pairsOk ops (clos ops) c && (ops.toList.all (fun o => dstOk N o.dst) &&
  (((List.range ops.size).all fun i => c.contains (i, .S) || c.contains (i, .R) || c.contains (i, .O) || c.contains (i, .A)) &&
  ((c.all fun (i, k) => decide (i < ops.size) && ((k != .A || ((match ops[i]? with | some o => o.guard.isNone | none => false) && c.contains (i, .P))) && (k != .P || c.contains (i, .A)))) &&
  decide ((c.filter fun x => x.2 != .P).length ≤ ops.size)))))
theorem tbl_sound {tbl : List (List Nat)} {listed : Array Bool} (ht : tblOk ops tbl = true) (hdc : ∀ j o, listed.getD j false = true → ops[j]? = some o → ∀ x ∈ direct o, listed.getD x false = true) :
    ∀ (y : Nat) (o : Oper), ops[y]? = some o → (∀ x ∈ direct o, listed.getD x false = true) → ∀ x ∈ tbl.getD y [], listed.getD x false = true := by
  intro y
  induction y using Nat.strongRecOn with
  | _ y ih =>
    intro o ho hr x hx
    have hlt : y < ops.size := (Array.getElem?_eq_some_iff.1 ho).1
    have := List.all_eq_true.1 ht y (List.mem_range.2 hlt)
    simp only [ho, Bool.and_eq_true, List.all_eq_true, Bool.or_eq_true, List.contains_iff_mem, List.any_eq_true, decide_eq_true_eq] at this
    rcases this.1 x hx with h1 | ⟨z, hz, hxz⟩
    · exact hr x h1
    · have hzy := this.2 z hz
      obtain ⟨oz, hoz⟩ : ∃ oz, ops[z]? = some oz := ⟨_, Array.getElem?_eq_getElem (by omega)⟩
      exact ih z hzy oz hoz (hdc z oz (hr z hz) hoz) x hxz
theorem pairs_sub {tbl : List (List Nat)} {c c' : List Item} (hs : List.Sublist c' c) (hp : pairsOk ops tbl c = true) : pairsOk ops tbl c' = true := by
  induction hs with
  | slnil => rfl
  | @cons l1 l2 a _ ih => obtain ⟨x, k⟩ := a; simp only [pairsOk, Bool.and_eq_true] at hp; exact ih hp.2
  | @cons_cons l1 l2 a hs ih =>
    obtain ⟨x, k⟩ := a
    simp only [pairsOk, Bool.and_eq_true] at hp ⊢
    exact ⟨List.all_eq_true.2 fun z hz => List.all_eq_true.1 hp.1 z (hs.subset hz), ih hp.2⟩
theorem pairs_at {tbl : List (List Nat)} {x : Nat} {k : Kd} {q : List Item} : ∀ {p : List Item}, pairsOk ops tbl (p ++ (x, k) :: q) = true → ∀ z kz, (z, kz) ∈ p → 
    (z = x ∧ kz = .P ∧ k = .A) ∨ (z ≠ x ∧ (z ∈ tbl.getD x [] ∨ (okSwap kz k = true ∧ ∃ oz ox, ops[z]? = some oz ∧ ops[x]? = some ox ∧ oz.apart ops ox = true)))
  | [], _, _, _, hm => by cases hm
  | (y, ky) :: p, hp, z, kz, hm => by
    simp only [List.cons_append, pairsOk, Bool.and_eq_true] at hp
    rcases List.mem_cons.1 hm with e | hm
    · cases e
      have := List.all_eq_true.1 hp.1 (x, k) (by simp)
      simp only [Bool.or_eq_true, Bool.and_eq_true, beq_iff_eq, bne_iff_ne, ne_eq, List.contains_iff_mem] at this
      rcases this with ⟨e1, e2, e3⟩ | ⟨e1, e2 | ⟨e2, e3⟩⟩
      · exact .inl ⟨e1, e2, e3⟩
      · exact .inr ⟨e1, .inl e2⟩
      · refine .inr ⟨e1, .inr ⟨e2, ?_⟩⟩
        cases h1 : ops[y]? with
        | none => simp [h1] at e3
        | some oz =>
          cases h2 : ops[x]? with
          | none => simp [h1, h2] at e3
          | some ox => simp [h1, h2] at e3; exact ⟨oz, ox, rfl, rfl, e3⟩
    · exact pairs_at hp.2 z kz hm
structure WF (ops : Array Oper) (tbl : List (List Nat)) (c : List Item) (listed : Array Bool) : Prop where
  pr : pairsOk ops tbl c = true
  un : ∀ i k, (i, k) ∈ c → i < ops.size ∧ listed.getD i true = false
  al : ∀ i, i < ops.size → listed.getD i true = false → ∃ k, k ≠ Kd.P ∧ (i, k) ∈ c
  ap : ∀ i, (i, Kd.A) ∈ c → (i, Kd.P) ∈ c
  pa : ∀ i, (i, Kd.P) ∈ c → (i, Kd.A) ∈ c
  gd : ∀ i o, (i, Kd.A) ∈ c → ops[i]? = some o → o.guard = none
  sz : listed.size = ops.size
  dc : ∀ j o, listed.getD j false = true → ops[j]? = some o → ∀ x ∈ direct o, listed.getD x false = true
theorem WF.front {tbl : List (List Nat)} {c : List Item} {listed : Array Bool} (W : WF ops tbl c listed) (ht : tblOk ops tbl = true) {x : Nat} {k : Kd} {ox : Oper} (hox : ops[x]? = some ox) (hr : ∀ z ∈ direct ox, listed.getD z false = true)
    {p q : List Item} (hs : List.Sublist (p ++ (x, k) :: q) c) (hnp : (x, Kd.P) ∉ p) : ∀ z kz, (z, kz) ∈ p → z ≠ x ∧ okSwap kz k = true ∧ ∀ oz, ops[z]? = some oz → oz.apart ops ox = true := by
  intro z kz hm
  rcases pairs_at (pairs_sub hs W.pr) z kz hm with ⟨rfl, rfl, _⟩ | ⟨h1, h2 | ⟨h2, oz, ox', e1, e2, e3⟩⟩
  · exact absurd hm hnp
  · have hl := tbl_sound ht W.dc x ox hox hr z h2
    have hu := W.un z kz (hs.subset (List.mem_append_left _ hm))
    have hlt : z < listed.size := by rw [W.sz]; exact hu.1
    simp [Array.getD, hlt] at hl hu
    rw [hl] at hu; exact absurd hu.2 (by simp)
  · rw [hox] at e2; cases e2
    exact ⟨h1, h2, fun oz' ho' => by rw [e1] at ho'; cases ho'; exact e3⟩
theorem wf_nodup {tbl : List (List Nat)} : ∀ {c : List Item}, pairsOk ops tbl c = true → c.Nodup
  | [], _ => List.nodup_nil
  | (x, k) :: l, hp => by
    simp only [pairsOk, Bool.and_eq_true] at hp
    refine List.nodup_cons.2 ⟨fun hm => ?_, wf_nodup hp.2⟩
    have := List.all_eq_true.1 hp.1 (x, k) hm
    cases k <;> simp at this
theorem getD_set {l : Array Bool} {i j : Nat} {d : Bool} (hi : i < l.size) : (l.setIfInBounds i true).getD j d = if i = j then true else l.getD j d := by
  simp only [Array.getD_eq_getD_getElem?, Array.getElem?_setIfInBounds]
  split
  · rename_i e; subst e; simp [hi]
  · rfl
theorem WF.step {tbl : List (List Nat)} {c c' : List Item} {listed : Array Bool} (W : WF ops tbl c listed) {x : Nat} {ox : Oper} (hox : ops[x]? = some ox) (hr : ∀ z ∈ direct ox, listed.getD z false = true)
    (hs : List.Sublist c' c) (hm : ∀ i k, (i, k) ∈ c' ↔ (i, k) ∈ c ∧ i ≠ x) : WF ops tbl c' (listed.setIfInBounds x true) := by
  have hx : x < listed.size := by rw [W.sz]; exact (Array.getElem?_eq_some_iff.1 hox).1
  refine ⟨pairs_sub hs W.pr, fun i k hik => ?_, fun i hi hl => ?_, fun i hi => ?_, fun i hi => ?_, fun i o hi => W.gd i o ((hm _ _).1 hi).1, by simp [W.sz], fun j o hj ho z hz => ?_⟩
  · obtain ⟨h1, h2⟩ := (hm i k).1 hik
    refine ⟨(W.un i k h1).1, ?_⟩
    rw [getD_set hx, if_neg (fun e => h2 e.symm)]
    exact (W.un i k h1).2
  · rw [getD_set hx] at hl
    split at hl
    · cases hl
    · rename_i hne
      obtain ⟨k, h1, h2⟩ := W.al i hi hl
      exact ⟨k, h1, (hm i k).2 ⟨h2, fun e => hne e.symm⟩⟩
  · obtain ⟨h1, h2⟩ := (hm _ _).1 hi; exact (hm _ _).2 ⟨W.ap i h1, h2⟩
  · obtain ⟨h1, h2⟩ := (hm _ _).1 hi; exact (hm _ _).2 ⟨W.pa i h1, h2⟩
  · rw [getD_set hx] at hj ⊢
    split at hj
    · rename_i e
      subst e
      rw [hox] at ho; cases ho
      split
      · rfl
      · exact hr z hz
    · split
      · rfl
      · exact W.dc j o hj ho z hz
theorem one_np {tbl : List (List Nat)} {x : Nat} {k k' : Kd} {p q : List Item} (hp : pairsOk ops tbl (p ++ (x, k) :: q) = true) (hk : k ≠ .P) (hm : (x, k') ∈ p ++ q) : k' = .P ∧ k = .A ∧ (x, k') ∈ p := by
  rcases List.mem_append.1 hm with hm | hm
  · rcases pairs_at hp x k' hm with ⟨_, h1, h2⟩ | ⟨h1, _⟩
    · exact ⟨h1, h2, hm⟩
    · exact absurd rfl h1
  · exfalso
    have hp2 : pairsOk ops tbl ((x, k) :: q) = true := pairs_sub (List.sublist_append_right _ _) hp
    simp only [pairsOk, Bool.and_eq_true] at hp2
    have := List.all_eq_true.1 hp2.1 (x, k') hm
    simp [hk] at this
def dsts (ops : Array Oper) : List Nat := ops.toList.filterMap (·.dst)
def mask (ops : Array Oper) (E : Env) : Env := fun t => if (dsts ops).contains t then none else E t
def PanEnv (Ep : Env) (Q : Post) : Post
  | .panic ch, _, D, h => Q (.panic ch) Ep D h
  | e, E, D, h => Q e E D h
theorem draw_main {Ep : Env} (hEp : ∀ (i : Nat) (o : Oper), ops[i]? = some o → ∀ t, o.dst = some t → Ep t = none) {tbl : List (List Nat)} {h0 : Hp} {w0 : World} (ht : tblOk ops tbl = true) (hdst : ops.toList.all (fun o : Oper => dstOk N o.dst) = true) :
    ∀ (fuel : Nat) (c : List Item) (listed : Array Bool) (E : Env) (G : Prom) (h : Hp) (w : World) (a : Act), WF ops tbl c listed → (c.filter fun x => x.2 != .P).length ≤ fuel → J P r N ops D (PanEnv Ep Q) f L c E G h →
      Own (h ++ f) w → Holds L h → Agree N E a → Agree N Ep a → a.defers = D → Fol h0 w0 (h ++ f) w →
      wpAnyIn (fen r) 0 P .any ops (fun e a' w' => ∃ E' h', Q e E' a'.defers h' ∧ Agree N E' a' ∧ Fol h0 w0 h' w') fuel listed a w := by
  have hdst' : ∀ (i : Nat) (o : Oper), ops[i]? = some o → dstOk N o.dst = true := fun i o ho => List.all_eq_true.1 hdst o (by simpa using Array.mem_of_getElem? ho)
  -- where nothing is ready all is done
  have hend : ∀ (c : List Item) (listed : Array Bool), WF ops tbl c listed → Region.ready .any ops listed = [] → c = [] := by
    intro c listed W hready
    have hall : ∀ j, j < ops.size → listed.getD j false = true := by
      intro j
      induction j using Nat.strongRecOn with
      | _ j ih =>
        intro hj
        refine Classical.byContradiction fun hn => ?_
        have hlt : j < listed.size := by rw [W.sz]; exact hj
        obtain ⟨o, ho⟩ : ∃ o, ops[j]? = some o := ⟨_, Array.getElem?_eq_getElem hj⟩
        have hmem : j ∈ Region.ready .any ops listed := by
          refine mem_ready.2 ⟨?_, o, ho, fun e he hb => ?_⟩
          · simp [Array.getD, hlt] at hn ⊢; exact hn
          · have hd : e.on ∈ direct o := List.mem_map.2 ⟨e, List.mem_filter.2 ⟨by simpa using he, hb⟩, rfl⟩
            have := List.all_eq_true.1 ht j (List.mem_range.2 hj)
            simp only [ho, Bool.and_eq_true, List.all_eq_true, decide_eq_true_eq] at this
            have hlt2 := this.2 _ hd
            exact ih _ hlt2 (by omega)
        rw [hready] at hmem; cases hmem
    cases c with
    | nil => rfl
    | cons x c =>
      obtain ⟨i, k⟩ := x
      have hu := W.un i k List.mem_cons_self
      have := hall i hu.1
      have hlt : i < listed.size := by rw [W.sz]; exact hu.1
      simp [Array.getD, hlt] at this hu
      rw [this] at hu; exact absurd hu.2 (by simp)
  have hfin : ∀ (c : List Item) (listed : Array Bool) (E : Env) (G : Prom) (h : Hp) (w : World) (a : Act), WF ops tbl c listed → J P r N ops D (PanEnv Ep Q) f L c E G h → Agree N E a → Agree N Ep a → a.defers = D → Fol h0 w0 (h ++ f) w →
      Region.ready .any ops listed = [] → ∃ E' h', Q .normal E' a.defers h' ∧ Agree N E' a ∧ Fol h0 w0 h' w := by
    intro c listed E G h w a W hj ha hEa hda hf hready
    rw [hend c listed W hready] at hj
    obtain ⟨hh, hp, hq⟩ := hj
    exact ⟨E, hh, by rw [hda]; exact hq, ha, hf.perm hp.symm⟩
  intro fuel
  induction fuel with
  | zero =>
    intro c listed E G h w a W hc hj hw hIv ha hEa hda hf
    have hready : Region.ready .any ops listed = [] := by
      cases hr : Region.ready .any ops listed with
      | nil => rfl
      | cons i l =>
        exfalso
        obtain ⟨h1, o, ho, _⟩ := mem_ready.1 (show i ∈ Region.ready .any ops listed by rw [hr]; exact List.mem_cons_self)
        obtain ⟨k, hk, hm⟩ := W.al i (Array.getElem?_eq_some_iff.1 ho).1 h1
        have : (i, k) ∈ c.filter fun x => x.2 != .P := List.mem_filter.2 ⟨hm, by simpa using hk⟩
        have hl : (c.filter fun x => x.2 != .P).length = 0 := by omega
        rw [List.length_eq_zero_iff.1 hl] at this
        cases this
    exact ⟨hready, hfin c listed E G h w a W hj ha hEa hda hf hready⟩
  | succ fuel ih =>
    intro c listed E G h w a W hc hj hw hIv ha hEa hda hf
    refine ⟨fun hready => hfin c listed E G h w a W hj ha hEa hda hf hready, fun i hi => ?_⟩
    obtain ⟨h1, o, ho, hpre⟩ := mem_ready.1 hi
    have hr : ∀ z ∈ direct o, listed.getD z false = true := by
      intro z hz
      obtain ⟨e, he, rfl⟩ := List.mem_map.1 hz
      obtain ⟨he1, he2⟩ := List.mem_filter.1 he
      exact hpre e (by simpa using he1) he2
    obtain ⟨k, hk, hm⟩ := W.al i (Array.getElem?_eq_some_iff.1 ho).1 h1
    have hd := hdst' i o ho
    -- the step itself, once it stands in front
    have go : ∀ (c' : List Item) (G' : Prom), J P r N ops D (PanEnv Ep Q) f L ((i, k) :: c') E G' h → List.Sublist c' c → (∀ j kj, (j, kj) ∈ c' ↔ (j, kj) ∈ c ∧ j ≠ i) →
        (k = .A → ∀ p, G' i = some p → AL P o p.env p.val p.obj) →
        wpOpIn (fen r) 0 P ops (fun e a' w' => ∃ E' h', Q e E' a'.defers h' ∧ Agree N E' a' ∧ Fol h0 w0 h' w') i (wpAnyIn (fen r) 0 P .any ops (fun e a' w' => ∃ E' h', Q e E' a'.defers h' ∧ Agree N E' a' ∧ Fol h0 w0 h' w') fuel (listed.setIfInBounds i true)) a w := by
      intro c' G' hj' hs hmem hal
      obtain ⟨o', ho', _, hst⟩ := hj'
      rw [ho] at ho'; cases ho'
      refine Jst.exec (Ep := Ep) ho hd hk hal hw hIv ha hda (hEp i o ho) hEa ?_ ?_ hst
      · intro E' G2 h' a' w' _ _ ha' hEa' hda' hf' iv' hK
        refine ih c' _ E' G2 h' w' a' (W.step ho hr hs hmem) ?_ hK hf'.own iv' ha' hEa' hda' (hf.trans hf')
        have hlt : ((i, k) :: c').length ≤ _ := Nat.le_refl _
        have hsub : List.Sublist (c'.filter fun x => x.2 != .P) (c.filter fun x => x.2 != .P) := hs.filter _
        have hne : (c'.filter fun x => x.2 != .P).length ≠ (c.filter fun x => x.2 != .P).length := by
          intro e
          have e2 := hsub.eq_of_length e
          have : (i, k) ∈ c'.filter fun x => x.2 != .P := by rw [e2]; exact List.mem_filter.2 ⟨hm, by simpa using hk⟩
          exact ((hmem i k).1 (List.mem_filter.1 this).1).2 rfl
        have := hsub.length_le
        omega
      · intro ch h' w' hq hf'
        exact ⟨Ep, h', by rw [hda]; exact hq, hEa, hf.trans hf'⟩
    by_cases hkA : k = .A
    · subst hkA
      have hmP := W.ap i hm
      obtain ⟨p, q, rfl⟩ := List.append_of_mem hmP
      have hnd := wf_nodup W.pr
      have hnp : (i, Kd.P) ∉ p := fun hmm => by
        rw [List.nodup_append] at hnd
        exact hnd.2.2 _ hmm _ List.mem_cons_self rfl
      have hj1 := J.moveFront ho hd p (W.front ht ho hr (List.Sublist.refl _) hnp) (fun e => by cases e) hj
      obtain ⟨o', ho', _, hg, mk, obj, hal, hj2⟩ := hj1
      rw [ho] at ho'; cases ho'
      have hmA : (i, Kd.A) ∈ p ++ q := by
        rcases List.mem_append.1 hm with hm | hm
        · exact List.mem_append_left _ hm
        · rcases List.mem_cons.1 hm with e | hm
          · cases e
          · exact List.mem_append_right _ hm
      have hs1 : List.Sublist (p ++ q) (p ++ (i, Kd.P) :: q) := (List.Sublist.refl p).append (List.sublist_cons_self _ _)
      have hmP2 : ∀ kk, (i, kk) ∈ p ++ q → kk = .A := by
        intro kk hkk
        obtain ⟨p2, q2, e2⟩ := List.append_of_mem hmA
        by_cases hkk2 : kk = .A
        · exact hkk2
        · exfalso
          have hmem2 : (i, kk) ∈ p2 ++ q2 := by
            rw [e2] at hkk
            rcases List.mem_append.1 hkk with h3 | h3
            · exact List.mem_append_left _ h3
            · rcases List.mem_cons.1 h3 with h3 | h3
              · cases h3; exact absurd rfl hkk2
              · exact List.mem_append_right _ h3
          have := one_np (ops := ops) (tbl := tbl) (x := i) (k := .A) (by rw [← e2]; exact pairs_sub hs1 W.pr) (by simp) hmem2
          obtain ⟨rfl, _, _⟩ := this
          rw [List.nodup_append] at hnd
          rcases List.mem_append.1 hkk with h3 | h3
          · exact hnp h3
          · exact (List.nodup_cons.1 hnd.2.1).1 h3
      obtain ⟨p2, q2, e2⟩ := List.append_of_mem hmA
      rw [e2] at hj2
      have hs2 : List.Sublist (p2 ++ (i, Kd.A) :: q2) (p ++ (i, Kd.P) :: q) := by rw [← e2]; exact hs1
      have hnp2 : (i, Kd.P) ∉ p2 := fun hmm => by
        have := hmP2 .P (by rw [e2]; exact List.mem_append_left _ hmm)
        cases this
      have hj3 := J.moveFront ho hd p2 (W.front ht ho hr hs2 hnp2) (fun _ => ⟨hg, ⟨mk, obj, restr o E⟩, by simp [Prom.add], restr_eqOn o E⟩) hj2
      refine go (p2 ++ q2) _ hj3 (((List.Sublist.refl p2).append (List.sublist_cons_self _ _)).trans hs2) ?_ ?_
      · intro j kj
        constructor
        · intro hmm
          have hmm2 : (j, kj) ∈ p ++ q := by
            rw [e2]
            rcases List.mem_append.1 hmm with h3 | h3
            · exact List.mem_append_left _ h3
            · exact List.mem_append_right _ (List.mem_cons_of_mem _ h3)
          refine ⟨hs1.subset hmm2, ?_⟩
          rintro rfl
          have := hmP2 kj hmm2
          subst this
          have hnd2 : (p2 ++ (j, Kd.A) :: q2).Nodup := by rw [← e2]; exact hs1.nodup hnd
          rw [List.nodup_append] at hnd2
          rcases List.mem_append.1 hmm with h3 | h3
          · exact hnd2.2.2 _ h3 _ List.mem_cons_self rfl
          · exact (List.nodup_cons.1 hnd2.2.1).1 h3
        · rintro ⟨h3, hne⟩
          have h4 : (j, kj) ∈ p ++ q := by
            rcases List.mem_append.1 h3 with h5 | h5
            · exact List.mem_append_left _ h5
            · rcases List.mem_cons.1 h5 with h5 | h5
              · cases h5; exact absurd rfl hne
              · exact List.mem_append_right _ h5
          rw [e2] at h4
          rcases List.mem_append.1 h4 with h5 | h5
          · exact List.mem_append_left _ h5
          · rcases List.mem_cons.1 h5 with h5 | h5
            · cases h5; exact absurd rfl hne
            · exact List.mem_append_right _ h5
      · intro _ pr hpr
        simp [Prom.add] at hpr
        subst hpr
        exact hal.congr (restr_eqOn o E).symm
    · obtain ⟨p, q, rfl⟩ := List.append_of_mem hm
      have hone : ∀ kk, (i, kk) ∉ p ++ q := fun kk hkk => hkA (one_np W.pr hk hkk).2.1
      have hj1 := J.moveFront ho hd p (W.front ht ho hr (List.Sublist.refl _) (fun hmm => hone _ (List.mem_append_left _ hmm))) (fun e => absurd e hkA) hj
      refine go (p ++ q) G hj1 ((List.Sublist.refl p).append (List.sublist_cons_self _ _)) ?_ (fun e => absurd e hkA)
      intro j kj
      constructor
      · intro hmm
        refine ⟨((List.Sublist.refl p).append (List.sublist_cons_self _ _)).subset hmm, ?_⟩
        rintro rfl
        exact hone kj hmm
      · rintro ⟨h3, hne⟩
        rcases List.mem_append.1 h3 with h5 | h5
        · exact List.mem_append_left _ h5
        · rcases List.mem_cons.1 h5 with h5 | h5
          · cases h5; exact absurd rfl hne
          · exact List.mem_append_right _ h5
theorem xc_drawL {id : Nat} {h' : Hp} (c : List Item) (f h : Hp) (hm : P.follows .mixedOrders = true) (hck : drawOk N ops c = true) (hp : List.Perm (h ++ f) h') (hIv : Holds L h) (H : J P r N ops D (PanEnv (mask ops E) Q) f L c E (fun _ => none) h) : XC P r N (.region id ops true) Q E D h' := by
  refine XC.perm hp ?_
  intro w a ho ha hda
  simp only [drawOk, Bool.and_eq_true] at hck
  obtain ⟨ht, hpr, hdst, hall, hit, hlen⟩ := hck
  refine wpIn_region_any hm ?_
  have hEp : ∀ (i : Nat) (o : Oper), ops[i]? = some o → ∀ t, o.dst = some t → mask ops E t = none := by
    intro i o hio t ht
    have : t ∈ dsts ops := List.mem_filterMap.2 ⟨o, by simpa using Array.mem_of_getElem? hio, ht⟩
    simp [mask, this]
  have hEa : Agree N (mask ops E) a := by
    refine ⟨ha.size, fun t v hv => ha.val t v ?_⟩
    unfold mask at hv
    split at hv
    · cases hv
    · exact hv
  refine draw_main (Ep := mask ops E) hEp (h0 := h ++ f) (w0 := w) ht hdst ops.size c _ E _ h _ a ⟨hpr, ?_, ?_, ?_, ?_, ?_, by simp, ?_⟩ (of_decide_eq_true hlen) H (ho.drew _) hIv ha hEa hda (Fol.refl (ho.drew _)).drew
  · intro i k hik
    have := List.all_eq_true.1 hit (i, k) hik
    simp only [Bool.and_eq_true, decide_eq_true_eq] at this
    exact ⟨this.1, by simp [Array.getD, this.1]⟩
  · intro i hi _
    have := List.all_eq_true.1 hall i (List.mem_range.2 hi)
    simp only [Bool.or_eq_true, List.contains_iff_mem] at this
    rcases this with ((h1 | h1) | h1) | h1
    · exact ⟨_, by simp, h1⟩
    · exact ⟨_, by simp, h1⟩
    · exact ⟨_, by simp, h1⟩
    · exact ⟨_, by simp, h1⟩
  · intro i hi
    have := List.all_eq_true.1 hit (i, .A) hi
    simp only [Bool.and_eq_true, Bool.or_eq_true, List.contains_iff_mem] at this
    rcases this.2.1 with h1 | h1
    · simp at h1
    · exact h1.2
  · intro i hi
    have := List.all_eq_true.1 hit (i, .P) hi
    simp only [Bool.and_eq_true, Bool.or_eq_true, List.contains_iff_mem] at this
    rcases this.2.2 with h1 | h1
    · simp at h1
    · exact h1
  · intro i o hi ho'
    have := List.all_eq_true.1 hit (i, .A) hi
    simp only [Bool.and_eq_true, Bool.or_eq_true, ho'] at this
    rcases this.2.1 with h1 | h1
    · simp at h1
    · simpa using h1.1
  · intro j o hj
    simp [Array.getD] at hj
end Go.H

/-
  Function values; ranges over functions.
-/
namespace Go.H
open Go
variable {P : Program} {r : Option Nat} {N : Nat} {Q : Post} {E : Env} {D : List Deferred} {h : Hp}
variable {K : Value → Hp → Prop} {T : List PanicEntry → Hp → Prop} {dst : Option Nat} {ty : TypeId} {pos : String} {af : Array Edge} {gd : Option (Nat × Bool)}
theorem XC.frame {c : Code} (g : Hp) (H : XC P r N c Q E D h) : XC P r N c (fun e E' D' h2 => ∃ h', h2 = h' ++ g ∧ Q e E' D' h') E D (h ++ g) := by
  intro w a ho ha hd
  refine wpIn_mono (H w a ho.left ha hd) ?_
  rintro e a' w' ⟨E', h', q, ha', hf⟩
  exact ⟨E', h' ++ g, ⟨h', rfl, q⟩, ha', Fol.frame ho hf⟩
def CallOp (o : Oper) (E : Env) (fv : Value) (args : List Value) : Prop :=
  ∃ c az at_, o.op = .call ⟨.value c, az, at_⟩ ∧ ev E c = some fv ∧ evs E az.toList = some args
def AFn (P : Program) (fv : Value) (args : List Value) (h : Hp) (R : Ending → Hp → Prop) : Prop :=
  ∀ (r : Option Nat) (o : Oper) (E : Env) (K : Value → Hp → Prop) (T : List PanicEntry → Hp → Prop), CallOp o E fv args → (∀ e h', R e h' → Up K T e h') → XV P r o K T E h
theorem xv_fn {c : Operand} {az : Array Operand} {at_ : Array TypeId} {fv : Value} {args : List Value} (hc : ev E c = some fv) (ha : evs E az.toList = some args) (H : AFn P fv args h (Up K T)) : XV P r ⟨dst, .call ⟨.value c, az, at_⟩, ty, pos, af, gd⟩ K T E h :=
  H r _ E K T ⟨c, az, at_, rfl, hc, ha⟩ (fun _ _ q => q)
theorem AFn.mono {fv : Value} {args : List Value} {R R' : Ending → Hp → Prop} (H : AFn P fv args h R) (hr : ∀ e h', R e h' → R' e h') : AFn P fv args h R' :=
  fun r o E K T hc hk => H r o E K T hc fun e h' q => hk e h' (hr e h' q)
theorem afn_func {g : FuncId} {fi lb args : List Value} {R : Ending → Hp → Prop} (hb : HasBody P g) (H : ACalls P g ⟨fi ++ args ++ lb⟩ h R) : AFn P (.func (.func g) ⟨fi⟩ ⟨lb⟩) args h R := by
  rintro r ⟨dst, op, ty, pos, af, gd⟩ E K T ⟨c, az, at_, rfl, hc, ha⟩ hk
  exact xv_call hc ha hb rfl (H.mono hk)
theorem AFn.perm {fv : Value} {args : List Value} {R : Ending → Hp → Prop} {h' : Hp} (hp : List.Perm h h') (H : AFn P fv args h R) : AFn P fv args h' R :=
  fun r o E K T hc hk => XV.perm hp (H r o E K T hc hk)
theorem up_frame {g : Hp} {K : Value → Hp → Prop} {T : List PanicEntry → Hp → Prop} {R : Ending → Hp → Prop} (hk : ∀ e h2, (∃ h', h2 = h' ++ g ∧ R e h') → Up K T e h2) :
    ∀ e h', R e h' → Up (fun v h' => K v (h' ++ g)) (fun c h' => T c (h' ++ g)) e h' := by
  intro e h' q
  have := hk e (h' ++ g) ⟨h', rfl, q⟩
  cases e <;> exact this
theorem AFn.frame {fv : Value} {args : List Value} {R : Ending → Hp → Prop} (g : Hp) (H : AFn P fv args h R) : AFn P fv args (h ++ g) (fun e h2 => ∃ h', h2 = h' ++ g ∧ R e h') := by
  intro r o E K T hc hk
  refine (XV.frame g (H r o E (fun v h' => K v (h' ++ g)) (fun c h' => T c (h' ++ g)) hc (up_frame hk))).mono ?_ ?_
  · rintro v h2 ⟨h', rfl, k⟩; exact k
  · rintro v h2 ⟨h', rfl, k⟩; exact k
theorem AFn.frameL {fv : Value} {args : List Value} {R : Ending → Hp → Prop} (g : Hp) (H : AFn P fv args h R) : AFn P fv args (g ++ h) (fun e h2 => ∃ h', h2 = g ++ h' ∧ R e h') := by
  intro r o E K T hc hk
  have hp : ∀ h', List.Perm (h' ++ g) (g ++ h') := fun h' => List.perm_append_comm
  refine XV.perm (hp h) ((XV.frame g (H r o E (fun v h' => K v (g ++ h')) (fun c h' => T c (g ++ h')) hc ?_)).conv ?_ ?_)
  · intro e h' q
    have := hk e (g ++ h') ⟨h', rfl, q⟩
    cases e <;> exact this
  · rintro v h2 _ ⟨h', rfl, k⟩; exact ⟨g ++ h', (hp h').symm, k⟩
  · rintro v h2 ⟨h', rfl, k⟩; exact ⟨g ++ h', g ++ h', (hp h').symm, List.Sublist.refl _, k⟩
theorem ACalls.frameL {f : FuncId} {args : Array Value} {R : Ending → Hp → Prop} (g : Hp) (H : ACalls P f args h R) : ACalls P f args (g ++ h) (fun e h2 => ∃ h', h2 = g ++ h' ∧ R e h') := by
  intro w ho
  have hp : ∀ h', List.Perm (h' ++ g) (g ++ h') := fun h' => List.perm_append_comm
  have ho' : Own (h ++ g) w := ho.perm (hp h)
  refine (H w ho'.left).mono ?_
  rintro e w' ⟨h', q, hf⟩
  exact ⟨g ++ h', ⟨h', rfl, q⟩, ((Fol.frame ho' hf).perm (hp h').symm).permL (hp h).symm⟩
theorem ACalls.perm {f : FuncId} {args : Array Value} {R : Ending → Hp → Prop} {h' : Hp} (hp : List.Perm h h') (H : ACalls P f args h R) : ACalls P f args h' R := by
  intro w ho
  refine (H w (ho.perm hp)).mono ?_
  rintro e w' ⟨h2, q, hf⟩
  exact ⟨h2, q, hf.permL hp.symm⟩
def Iter {α : Type} (P : Program) (g : FuncId) (fi lb : List Value) (enc : α → List Value) (all : List α) (Rd : Hp → Prop) : Prop :=
  ∀ (y : Value) (J Jx : Nat → Hp → Prop) (h : Hp), (∀ k h', J k h' → Rd h') →
    (∀ k x, all[k]? = some x → ∀ h', J k h' → AFn P y (enc x) h' (fun e h2 => (e = .returned (.bool true) ∧ J (k + 1) h2) ∨ (e = .returned (.bool false) ∧ Jx (k + 1) h2))) →
    J 0 h → ACalls P g ⟨fi ++ [y] ++ lb⟩ h (fun e h' => (∃ v, e = .returned v) ∧ (J all.length h' ∨ ∃ k, k ≤ all.length ∧ Jx k h'))
def puts (E : Env) : List Nat → List Value → Env
  | p :: ps, v :: vs => puts (E.put (some p) v) ps vs
  | _, _ => E
theorem agree_puts : ∀ (ps : List Nat) (vs : List Value) (E : Env) (tm : Array Value), Agree N E { tmps := tm, defers := [] } → (∀ p ∈ ps, p < N) →
    Agree N (puts E ps vs) { tmps := (ps.zip vs).foldl (fun t (p, v) => t.setIfInBounds p v) tm, defers := [] }
  | [], _, _, _, ha, _ => by simpa [puts] using ha
  | _ :: _, [], _, _, ha, _ => by simpa [puts] using ha
  | p :: ps, v :: vs, E, tm, ha, hp => by
    have := agree_puts ps vs (E.put (some p) v) (tm.setIfInBounds p v) (ha.put (d := some p) (fun k hk => by cases hk; exact hp p List.mem_cons_self)) (fun q hq => hp q (List.mem_cons_of_mem _ hq))
    simpa [puts] using this
theorem fol_put {l : Nat} {o o' : Obj} {g : Hp} {w : World} (ho : Own ((l, o) :: g) w) : Fol ((l, o) :: g) w ((l, o') :: g) (w.putObj l o') := by
  have hm : (l, o) ∈ (l, o) :: g := List.mem_cons_self
  have hb := ho.has _ _ hm
  have hlt := (Array.getElem?_eq_some_iff.1 hb).1
  have := Fol.set (o' := o') (w' := w.putObj l o') ho hm (World.putObj_heap_same hlt) (fun k hk => World.putObj_heap_other hk) (by simp) rfl rfl rfl
  simpa [setH] using this
def markOf (k : Nat) : Deferred := { target := .collected k, args := #[] }
theorem xc_range {α : Type} {g : Operand} {ps : Array Tmp} {assign body : Code} {gf : FuncId} {fi lb : List Value} (enc : α → List Value) (all : List α) (Rd : Hp → Prop)
    (hg : ev E g = some (.func (.func gf) ⟨fi⟩ ⟨lb⟩)) (hb : HasBody P gf) (hit : Iter P gf fi lb enc all Rd) (hps : ∀ x, (enc x).length = ps.size) (hpN : ∀ p ∈ ps.toList, p < N)
    (I : Nat → Hp → Prop) (Ix : Code → Nat → Hp → Prop) (hRd : ∀ k h', I k h' → ∀ x y, Rd (x :: y :: h')) (hRdp : ∀ h1 h2, List.Perm h1 h2 → Rd h1 → Rd h2) (h0 : I 0 h)
    (round : ∀ l k x, all[k]? = some x → ∀ h', I k h' →
      XC P (some l) N assign (fun e E1 D1 h1 => e = .normal ∧ XC P (some l) N body (fun e2 _ D2 h2 => D2 = [] ∧ (match e2 with
        | .normal => I (k + 1) h2
        | .ret => Ix .ret (k + 1) h2
        | .exit id => Ix (.exit id) (k + 1) h2
        | .goto t => Ix (.goto t) (k + 1) h2
        | _ => False)) E1 D1 h1) (puts E ps.toList (enc x)) [] h')
    (done : ∀ k h', I all.length h' → k ∉ keys h' → Q .normal E (markOf k :: D) ((k, .deferred (some [])) :: h'))
    (stop : ∀ k c j h', j ≤ all.length → Ix c j h' → k ∉ keys h' → XC P none N c Q E (markOf k :: D) ((k, .deferred (some [])) :: h')) : XC P none N (.rangeFunc g ps assign body) Q E D h := by
  intro w a ho ha hd
  refine wpIn_rangeFunc ?_
  intro fn _
  obtain ⟨rec, hrec⟩ : ∃ rec : LoopState → Option Code → Loop, rec = fun st pe => { state := st, pending := pe, fn, tmps := a.tmps, params := ps, assign, body, defers := w.heap.size } := ⟨_, rfl⟩
  have f1 := Fol.alloc ho (.deferred (some []))
  have f2 := Fol.alloc f1.own (.loop (rec .ready none))
  rw [World.size_alloc] at f2
  have f12 := f1.trans f2
  obtain ⟨w1, hw1⟩ : ∃ w1, (w.alloc (.deferred (some []))).alloc (.loop (rec .ready none)) = w1 := ⟨_, rfl⟩
  rw [hw1] at f12
  have hgv := ha.ev hg
  refine ⟨w.heap.size + 1, [markOf w.heap.size], w1, { target := .fn (.func gf) ⟨lb⟩, args := ⟨fi⟩ ++ #[.func (.yield (w.heap.size + 1)) #[] #[]] }, w1, gf,
    ⟨fi ++ [.func (.yield (w.heap.size + 1)) #[] #[]] ++ lb⟩, w1, ?_, ?_, fun _ _ => trivial, ?_, fun hh => by simp [fen, Fence.wide] at hh, callsIn_fen.2 ?_⟩
  · rw [← hw1, hrec]; exact run_enterLoop_outer _ _ _ _ _
  · simp [resolve, Deferred.ofValue, hgv]; rfl
  · simpa [invoke] using hb _ w1
  obtain ⟨Dk, hDk⟩ : ∃ k, k = w.heap.size := ⟨_, rfl⟩
  obtain ⟨l, hl⟩ : ∃ l, l = w.heap.size + 1 := ⟨_, rfl⟩
  rw [← hl, ← hDk] at f12
  rw [← hl]
  let base : LoopState → Option Code → Hp → Hp := fun st pe h' => (l, .loop (rec st pe)) :: (Dk, .deferred (some [])) :: h'
  have hcall := hit (.func (.yield l) #[] #[]) (fun k h' => ∃ h2, List.Perm h' (base .ready none h2) ∧ I k h2) (fun k h' => ∃ c h2, List.Perm h' (base .done (some c) h2) ∧ Ix c k h2) (base .ready none h)
    (fun k h' ⟨h2, hp, hi⟩ => hRdp _ _ hp.symm (hRd k h2 hi _ _)) ?_ ⟨h, List.Perm.refl _, h0⟩
  · refine (hcall w1 f12.own).mono ?_
    rintro e w2 ⟨h2, ⟨⟨v, rfl⟩, q⟩, hf2⟩
    have hf3 := f12.trans hf2
    rcases q with ⟨h3, hp, hi⟩ | ⟨j, hj, c, h3, hp, hi⟩
    · have ho3 := hf3.own.perm hp.symm
      have hl3 := ho3.has l _ List.mem_cons_self
      have hend := run_endLoop (P := P) hl3 (by rw [hrec]; simp)
      have hf4 := (hf3.perm hp.symm).trans (fol_put (o' := .loop { rec .ready none with state := .exhausted }) ho3)
      refine ⟨none, _, hend.trans (congrArg (fun p => Result.ok p _) (show (rec .ready none).pending = none by rw [hrec])), E, (Dk, .deferred (some [])) :: h3, ?_, ⟨ha.size, ha.val⟩, hf4.sub (List.sublist_cons_self _ _)⟩
      have hnd := ho3.nd
      simp only [base, keys, List.map_cons, List.nodup_cons] at hnd
      have := done Dk h3 hi (fun hm => hnd.2.1 hm)
      show Q .normal E ([markOf w.heap.size] ++ a.defers) _
      rw [hd, ← hDk]
      exact this
    · have ho3 := hf3.own.perm hp.symm
      have hl3 := ho3.has l _ List.mem_cons_self
      have hend := run_endLoop (P := P) hl3 (by rw [hrec]; simp)
      have hf4 := (hf3.perm hp.symm).trans (fol_put (o' := .loop { rec .done (some c) with state := .exhausted }) ho3)
      have hf5 := hf4.sub (List.sublist_cons_self _ _)
      have hnd := ho3.nd
      simp only [base, keys, List.map_cons, List.nodup_cons] at hnd
      refine ⟨some c, _, hend.trans (congrArg (fun p => Result.ok p _) (show (rec .done (some c)).pending = some c by rw [hrec])), ?_⟩
      have hst := stop Dk c j h3 hj hi (fun hm => hnd.2.1 hm) _ { a with defers := [markOf w.heap.size] ++ a.defers } hf5.own ⟨ha.size, ha.val⟩ (by show [markOf w.heap.size] ++ a.defers = _; rw [hd, ← hDk]; rfl)
      refine wpIn_mono hst ?_
      rintro e a' w' ⟨E', h', q, x, f⟩
      exact ⟨E', h', q, x, hf5.trans f⟩
  · -- one round
    rintro k x hx h' ⟨h2, hp, hi⟩
    refine AFn.perm hp.symm ?_
    rintro r2 ⟨dst, op, ty, pos, af, gd⟩ E2 K T ⟨c, az, at_, rfl, hc, hargs⟩ hk w' a' ho' ha' next QQ hn hq
    obtain ⟨ρ, he, hρ⟩ := ops_rho (by simp [plainOp]) ha'
    have hm := evs_arr he hargs
    have hl1 := ho'.has l _ List.mem_cons_self
    have hy := run_yield (P := P) (args := ⟨enc x⟩) hl1 (by rw [hrec]; simpa using hps x)
    have hres := resolve_value (P := P) (args := az) (at_ := at_) (t := ty) (w := w') (he _ _ hc)
    refine ⟨fun _ _ => trivial, ?_⟩
    rw [Oper.semAt_eq _ _ _ (by simp), ← hρ]
    have hex : (execOp ρ ⟨dst, .call ⟨.value c, az, at_⟩, ty, pos, af, gd⟩).run P w' = .ok (.round l fn ((ps.zip (⟨enc x⟩ : Array Value)).foldl (fun tmps (t, a) => tmps.setIfInBounds t a) a.tmps) assign body) w' := by
      have : (execOp ρ ⟨dst, .call ⟨.value c, az, at_⟩, ty, pos, af, gd⟩).run P w' = (Instr.yield l ⟨enc x⟩).run P w' := by
        simp [execOp, hres, invoke, hm]
      rw [this, hy, hrec]
    rw [hex]
    refine ⟨fun hh => by simp [fen, Fence.wide] at hh, ?_⟩
    have hrnd := round l k x hx h2 hi
    -- the frame: the record, the block of the deferred calls
    have hpf : ∀ z y (g : Hp), List.Perm (g ++ [z, y]) (z :: y :: g) := fun z y g => List.perm_append_comm (l₁ := g) (l₂ := [z, y])
    have hown : Own (h2 ++ [(l, .loop (rec .ready none)), (Dk, .deferred (some []))]) w' := ho'.perm (hpf _ _ _)
    have hag : Agree N (puts E ps.toList (enc x)) { tmps := (ps.zip (⟨enc x⟩ : Array Value)).foldl (fun tmps (t, a) => tmps.setIfInBounds t a) a.tmps, defers := [] } := by
      have := agree_puts ps.toList (enc x) E a.tmps ⟨ha.size, ha.val⟩ hpN
      have e : (ps.zip (⟨enc x⟩ : Array Value)).foldl (fun tmps (t, a) => tmps.setIfInBounds t a) a.tmps = (ps.toList.zip (enc x)).foldl (fun t (p, v) => t.setIfInBounds p v) a.tmps := by
        rw [← Array.foldl_toList]; simp
      rw [e]; exact this
    refine roundIn_of_wpIn (F := fen r2) trivial ?_
    refine wpIn_mono (XC.frame [(l, .loop (rec .ready none)), (Dk, .deferred (some []))] hrnd w' _ hown hag rfl) ?_
    rintro e a1 w1' ⟨E1, h1, ⟨h1', rfl, rfl, hbody⟩, ha1, hf1⟩
    have ho1 : Own ((l, .loop (rec .ready none)) :: (Dk, .deferred (some [])) :: h1') w1' := hf1.own.perm (hpf _ _ _).symm
    have hl2 := ho1.has l _ List.mem_cons_self
    refine ⟨_, run_beginRound (P := P) hl2 (by rw [hrec]), ?_⟩
    have hf2 := fol_put (o' := .loop { rec .ready none with state := .busy }) ho1
    have ho2 : Own (h1' ++ [(l, .loop { rec .ready none with state := .busy }), (Dk, .deferred (some []))]) (w1'.putObj l (.loop { rec .ready none with state := .busy })) := hf2.own.perm (hpf _ _ _)
    refine wpIn_mono (XC.frame [(l, .loop { rec .ready none with state := .busy }), (Dk, .deferred (some []))] hbody _ a1 ho2 ha1 rfl) ?_
    rintro e a3 w3 ⟨E3, h3, ⟨h3', rfl, hd3, hpost⟩, ha3, hf3⟩
    have ho3 : Own ((l, .loop { rec .ready none with state := .busy }) :: (Dk, .deferred (some [])) :: h3') w3 := hf3.own.perm (hpf _ _ _).symm
    have hl3 := ho3.has l _ List.mem_cons_self
    have hall : Fol ((l, .loop (rec .ready none)) :: (Dk, .deferred (some [])) :: h2) w' ((l, .loop { rec .ready none with state := .busy }) :: (Dk, .deferred (some [])) :: h3') w3 :=
      (((hf1.permL (hpf _ _ _).symm).perm (hpf _ _ _).symm).trans hf2).trans ((hf3.permL (hpf _ _ _).symm).perm (hpf _ _ _).symm)
    have fin : ∀ (jump : Option Code), Fol ((l, .loop (rec .ready none)) :: (Dk, .deferred (some [])) :: h2) w' ((l, .loop (rec (if jump.isNone then .ready else .done) jump)) :: (Dk, .deferred (some [])) :: h3') (w3.putObj l (.loop (rec (if jump.isNone then .ready else .done) jump))) ∧
        (Instr.endRound l jump).run P w3 = .ok (.bool jump.isNone) (w3.putObj l (.loop (rec (if jump.isNone then .ready else .done) jump))) := by
      intro jump
      refine ⟨hall.trans (fol_put ho3), ?_⟩
      have := run_endRound (P := P) jump hl3
      rw [hrec] at this ⊢
      exact this
    cases e with
    | normal =>
      obtain ⟨h4, h5⟩ := fin none
      refine ⟨_, _, h5, ?_⟩
      have := hk _ _ (.inl ⟨rfl, h3', List.Perm.refl _, hpost⟩)
      exact hn _ _ _ this h4
    | ret =>
      obtain ⟨h4, h5⟩ := fin (some .ret)
      refine ⟨_, _, h5, ?_⟩
      have := hk _ _ (.inr ⟨rfl, .ret, h3', List.Perm.refl _, hpost⟩)
      exact hn _ _ _ this h4
    | exit id =>
      obtain ⟨h4, h5⟩ := fin (some (.exit id))
      refine ⟨_, _, h5, ?_⟩
      have := hk _ _ (.inr ⟨rfl, .exit id, h3', List.Perm.refl _, hpost⟩)
      exact hn _ _ _ this h4
    | goto t =>
      obtain ⟨h4, h5⟩ := fin (some (.goto t))
      refine ⟨_, _, h5, ?_⟩
      have := hk _ _ (.inr ⟨rfl, .goto t, h3', List.Perm.refl _, hpost⟩)
      exact hn _ _ _ this h4
    | panic ch => exact hpost.elim
    | outgrown => exact hpost.elim
end Go.H

/-
  Rules on operations: literals, appends, maps, interfaces, panics.
-/
namespace Go.H
open Go
variable {P : Program} {r : Option Nat} {N : Nat} {Q : Post} {E : Env} {D : List Deferred} {h h' : Hp}
variable {K : Value → Hp → Prop} {T : List PanicEntry → Hp → Prop} {dst : Option Nat} {ty : TypeId} {pos : String} {af : Array Edge} {gd : Option (Nat × Bool)}
def putL : List Value → Nat → List Value → List Value
  | l, _, [] => l
  | l, o, v :: vs => putL (l.set o v) (o + 1) vs
def bld (z : List Value) (pl : Nat → Option (Nat × Nat)) : List (Nat × Value) → Option (List Value)
  | [] => some z
  | (i, v) :: rest => match pl i with
    | none => none
    | some (off, size) => if v.cells.toList.length = size ∧ off + size ≤ z.length then bld (putL z off v.cells.toList) pl rest else none
theorem foldl_putL : ∀ (vs : List Value) (j off : Nat) (cs : Array Value), (vs.zipIdx j).foldl (fun cs (c, j) => cs.setIfInBounds (off + j) c) cs = ⟨putL cs.toList (off + j) vs⟩
  | [], j, off, cs => rfl
  | v :: vs, j, off, cs => by
    simp only [List.zipIdx_cons, List.foldl_cons, putL]
    rw [foldl_putL vs (j + 1) off]
    simp [Nat.add_assoc]
theorem bld_fill (pl : Nat → Option (Nat × Nat)) : ∀ (parts : List (Nat × Value)) (z l : List Value), bld z pl parts = some l → Instr.fill pl ⟨z⟩ parts = some ⟨l⟩
  | [], z, l, hh => by cases hh; rfl
  | (i, v) :: rest, z, l, hh => by
    simp only [bld] at hh
    simp only [Instr.fill]
    cases hp : pl i with
    | none => simp [hp] at hh
    | some p =>
      obtain ⟨off, size⟩ := p
      simp only [hp] at hh ⊢
      split at hh
      · rename_i hc
        have h1 : v.cells.size = size := by simpa using hc.1
        have hne : ¬ (decide (v.cells.size ≠ size) || decide (off + v.cells.size > z.toArray.size)) = true := by simp [h1]; omega
        have e : (v.cells.zipIdx.foldl (fun cs (c, j) => cs.setIfInBounds (off + j) c) (⟨z⟩ : Array Value)) = ⟨putL z off v.cells.toList⟩ := by
          have := foldl_putL v.cells.toList 0 off ⟨z⟩
          simp only [Nat.add_zero] at this
          rw [← this, ← Array.foldl_toList]
          simp
        rw [if_neg hne, e]
        exact bld_fill pl rest _ l hh
      · cases hh
def BtOk (P : Program) (t : TypeId) (z : List Value) (pl : Nat → Option (Nat × Nat)) : Prop := ∀ parts, P.built t parts = Instr.fill pl ⟨z⟩ parts
def evps (E : Env) : List (Nat × Operand) → Option (List (Nat × Value))
  | [] => some []
  | (i, x) :: xs => match ev E x, evps E xs with
    | some v, some vs => some ((i, v) :: vs)
    | _, _ => none
theorem evps_map {ρ : Operand → Value} (he : ∀ x v, ev E x = some v → ρ x = v) : ∀ (l : List (Nat × Operand)) (vs : List (Nat × Value)), evps E l = some vs → (l.map fun (i, x) => (i, ρ x)) = vs
  | [], _, hh => by cases hh; rfl
  | (i, x) :: xs, _, hh => by
    simp only [evps] at hh
    cases h1 : ev E x with
    | none => simp [h1] at hh
    | some v =>
      cases h2 : evps E xs with
      | none => simp [h1, h2] at hh
      | some vs => simp [h1, h2] at hh; subst hh; simp [he _ _ h1, evps_map he xs vs h2]
theorem xv_build {t : TypeId} {ps : Array (Nat × Operand)} {vs : List (Nat × Value)} {z l : List Value} {pl : Nat → Option (Nat × Nat)} (hb : BtOk P t z pl) (hv : evps E ps.toList = some vs) (hl : bld z pl vs = some l)
    (H : K (.agg ⟨l⟩) h) : XV P r ⟨dst, .build t ps, ty, pos, af, gd⟩ K T E h :=
  xv_of_run (by simp [plainOp]) fun w ρ ho he => ⟨_, h, w, by
    have hm := evps_map he _ _ hv
    have hmm : (ps.map fun (i, x) => (i, ρ x)).toList = vs := by rw [← hm]; simp
    have := run_build (P := P) w t (ps.map fun (i, x) => (i, ρ x)) ⟨l⟩ (by rw [hmm, hb]; exact bld_fill pl vs z l hl)
    simp only [execOp, Sem.run_bind, this, Result.andThen_ok, Sem.run_pure], H, .refl ho⟩
def zeros (z : List Value) : Nat → List Value
  | 0 => []
  | n + 1 => z ++ zeros z n
theorem zeros_length (z : List Value) (n : Nat) : (zeros z n).length = n * z.length := by
  induction n with
  | zero => simp [zeros]
  | succ n ih => simp [zeros, ih, Nat.add_mul, Nat.add_comm]
theorem zeros_get (z : List Value) : ∀ (n i : Nat), i < n * z.length → (zeros z n)[i]? = z[i % z.length]?
  | 0, i, hi => by simp at hi
  | n + 1, i, hi => by
    simp only [zeros]
    by_cases h1 : i < z.length
    · rw [List.getElem?_append_left h1, Nat.mod_eq_of_lt h1]
    · rw [List.getElem?_append_right (by omega), zeros_get z n _ (by rw [Nat.add_mul] at hi; omega)]
      congr 1
      rw [Nat.mod_eq_sub_mod (a := i) (by omega)]
theorem zeros_arr (z : List Value) (n : Nat) (hz : 0 < z.length) : (Array.range (n * z.length)).map (fun i => (⟨z⟩ : Array Value)[i % (⟨z⟩ : Array Value).size]!) = ⟨zeros z n⟩ := by
  apply Array.ext'
  apply List.ext_getElem?
  intro i
  simp only [Array.toList_map, Array.toList_range]
  rw [List.getElem?_map]
  by_cases hi : i < n * z.length
  · rw [List.getElem?_range hi, zeros_get z n i hi]
    have hlt : i % z.length < z.length := Nat.mod_lt _ hz
    simp [hlt]
  · rw [List.getElem?_eq_none (by simpa using Nat.le_of_not_lt hi), List.getElem?_eq_none (by rw [zeros_length]; omega)]
    rfl
theorem run_buildSlice {t e : TypeId} {d : TD} {n : Nat} {parts : Array (Nat × Value)} {zl l : List Value} {w : World} (ht : SlT P t e) (hd : TyOk P e d) (hz : d.zero.cells.toList = zl) (hzs : zl.length = d.size) (h0 : 0 < d.size) (hn : n * d.size ≤ 16777216)
    (hl : bld (zeros zl n) (fun i => some (i * d.size, d.size)) parts.toList = some l) :
    (Instr.buildSlice t n parts).run P w = .ok (.slice (some ⟨w.heap.size, 0, none⟩) n n) (w.alloc (.cells ⟨l⟩ e)) := by
  have hfill := bld_fill _ _ _ _ hl
  have hzc : d.zero.cells = ⟨zl⟩ := by apply Array.ext'; simpa using hz
  have hna : ¬ (n * d.size > 2 ^ 24) := by omega
  unfold Instr.buildSlice
  by_cases hn0 : n = 0
  · subst hn0
    simp only [zeros] at hfill
    simp [run_underlying ht, hd.run_size, Array.range_zero', hfill, newRow]
  · have hne : ¬ (n * d.size = 0) := fun e => by rcases Nat.mul_eq_zero.1 e with h1 | h1 <;> omega
    have ha := zeros_arr zl n (by omega)
    rw [hzs] at ha
    have hna' : ¬ (16777216 < n * d.size) := by omega
    simp only [List.size_toArray] at ha
    simp [run_underlying ht, hd.run_size, hna', hne, hd.run_zero, hzc, newRow]
    simp only [hzs] at ha ⊢
    rw [show (Array.map (fun x => zl[x % d.size]?.getD default) (Array.range (n * d.size))) = ⟨zeros zl n⟩ from ?_]
    · rw [hfill]; simp
    · rw [← ha]
      apply Array.map_congr_left
      intro x _
      simp
end Go.H

/-
  Rules on operations: slices that grow, maps, interfaces, panics, allocations in drawn regions.
-/
namespace Go.H
open Go
variable {P : Program} {r : Option Nat} {N : Nat} {Q : Post} {E : Env} {D : List Deferred} {h h' : Hp}
variable {K : Value → Hp → Prop} {T : List PanicEntry → Hp → Prop} {dst : Option Nat} {ty : TypeId} {pos : String} {af : Array Edge} {gd : Option (Nat × Bool)}
theorem al_buildSlice {t e : TypeId} {d : TD} {n : Nat} {ps : Array (Nat × Operand)} {vs : List (Nat × Value)} {zl l : List Value} (ht : SlT P t e) (hd : TyOk P e d) (hz : d.zero.cells.toList = zl) (hzs : zl.length = d.size) (h0 : Nat.blt 0 d.size = true) (hn : Nat.ble (n * d.size) 16777216 = true)
    (hv : evps E ps.toList = some vs) (hl : bld (zeros zl n) (fun i => some (i * d.size, d.size)) vs = some l) :
    AL P ⟨dst, .buildSlice t n ps, ty, pos, af, gd⟩ E (fun b => .slice (some ⟨b, 0, none⟩) n n) (.cells ⟨l⟩ e) :=
  ⟨by simp [plainOp], fun w ρ he => by
    have hm := evps_map he _ _ hv
    have hmm : (ps.map fun (i, x) => (i, ρ x)).toList = vs := by rw [← hm]; simp
    have := run_buildSlice (P := P) (n := n) (parts := ps.map fun (i, x) => (i, ρ x)) (w := w) ht hd hz hzs (Nat.le_of_ble_eq_true h0) (Nat.le_of_ble_eq_true hn) (by rw [hmm]; exact hl)
    simp only [execOp, Sem.run_bind, this, Result.andThen_ok, Sem.run_pure]⟩
theorem al_alloc {t : TypeId} {d : TD} (ht : TyOk P t d) : AL P ⟨dst, .alloc t, ty, pos, af, gd⟩ E (fun b => .pointer (some ⟨b, 0, none⟩)) (.cells d.zero.cells t) :=
  ⟨by simp [plainOp], fun w ρ he => by simp [execOp, Instr.alloc, ht.run_zero, newVar, newRow]⟩
theorem AL.xv {o : Oper} {mk : Nat → Value} {obj : Obj} (H : AL P o E mk obj) (hk : ∀ b, b ∉ keys h → K (mk b) ((b, obj) :: h)) : XV P r o K T E h :=
  xv_of_run H.1 fun w ρ ho he => ⟨_, _, w.alloc obj, H.2 w ρ he, hk _ fun hc => Nat.lt_irrefl _ (ho.lt hc), .alloc ho _⟩
def mfind (k : Int) : List MapEntry → Nat → Option (Nat × Value)
  | [], _ => none
  | e :: es, i => match e.key with
    | .int .i64 j => if k = j then some (i, e.val) else mfind k es (i + 1)
    | _ => none
def mget (es : List MapEntry) (k : Int) : Option Value := (mfind k es 0).map (·.2)
def AllInt (es : List MapEntry) : Prop := ∀ e ∈ es, ∃ j, e.key = .int .i64 j
theorem findNow_mfind (k : Int) : ∀ (es : List MapEntry) (i : Nat), AllInt es → Instr.findNow (.int .i64) (.int .i64 k) es i = some (mfind k es i)
  | [], i, _ => rfl
  | e :: es, i, ha => by
    obtain ⟨j, hj⟩ := ha e List.mem_cons_self
    have ih := findNow_mfind k es (i + 1) (fun e he => ha e (List.mem_cons_of_mem _ he))
    simp only [Instr.findNow, hj, Instr.sameNow, mfind]
    by_cases hkj : k = j
    · simp [hkj]
    · have hb : (k == j) = false := by simpa using hkj
      simp [hkj, hb, ih]
theorem run_findKeyI {kt : TypeId} {k : Int} {es : List MapEntry} {w : World} (hk : P.underlying kt = some (.int .i64)) (ha : AllInt es) : (Instr.findKey kt (.int .i64 k) es).run P w = .ok (mfind k es 0) w := by
  simp [Instr.findKey, run_underlying hk, findNow_mfind k es 0 ha]
theorem run_checkKeyI {kt : TypeId} {k : Int} {b : Bool} {n : Nat} {w : World} (hk : P.underlying kt = some (.int .i64)) : (Instr.checkKey b (n + 1) kt (.int .i64 k)).run P w = .ok () w := by
  simp [Instr.checkKey, run_underlying hk]
theorem xv_lookupOk {t kt et : TypeId} {x y : Operand} {m c : Nat} {es : List MapEntry} {k : Int} {d : TD} {v : Value} {b : Bool} (ht : P.underlying t = some (.map kt et)) (hk : P.underlying kt = some (.int .i64)) (hd : TyOk P et d)
    (hx : ev E x = some (.map (some m))) (hy : ev E y = some (.int .i64 k)) (hm : (m, .map ⟨es⟩ c) ∈ h) (ha : AllInt es) (hv : (mget es k).getD d.zero = v) (hb : (mget es k).isSome = b) (H : K (.tuple ⟨[v, .bool b]⟩) h) : XV P r ⟨dst, .lookup t x y true, ty, pos, af, gd⟩ K T E h :=
  xv_of_run (by simp [plainOp]) fun w ρ ho he => ⟨_, h, w, by
    have hg := ho.has _ _ hm
    have hgo : (getObj m).run P w = .ok (.map ⟨es⟩ c) w := by simp [getObj, Sem.run, hg]
    subst hv hb
    have hf := run_findKeyI (P := P) (k := k) (w := w) hk ha
    simp only [execOp, he _ _ hx, he _ _ hy, Instr.lookup, Sem.run_bind, run_underlying ht, Result.andThen_ok, hgo, Sem.run_pure, run_checkKeyI (P := P) (n := 9999) hk, hf]
    unfold mget
    cases mfind k es 0 with
    | none => simp [hd.run_zero]
    | some p => simp, H, .refl ho⟩
structure MSet (es : List MapEntry) (k : Int) (v : Value) (es' : List MapEntry) : Prop where
  ai : AllInt es'
  get : ∀ j, mget es' j = if j = k then some v else mget es j
theorem mfind_push (k : Int) (v : Value) (b : Nat) : ∀ (es : List MapEntry) (i : Nat), AllInt es → mfind k es i = none → ∀ j, (mfind j (es ++ [{ key := .int .i64 k, val := v, born := b }]) i).map (·.2) = if j = k then some v else (mfind j es i).map (·.2)
  | [], i, _, _, j => by simp only [List.nil_append, mfind]; split <;> simp_all
  | e :: es, i, ha, hn, j => by
    obtain ⟨q, hq⟩ := ha e List.mem_cons_self
    simp only [mfind, hq, List.cons_append] at hn ⊢
    split at hn
    · cases hn
    · rename_i hne
      have ih := mfind_push k v b es (i + 1) (fun e he => ha e (List.mem_cons_of_mem _ he)) hn j
      by_cases hjq : j = q
      · simp [hjq]; intro e; exact absurd e.symm hne
      · simp only [hjq, if_false]; exact ih
theorem mfind_shift (k : Int) : ∀ (es : List MapEntry) (i n : Nat) (v : Value), mfind k es i = some (n, v) → i ≤ n ∧ ∃ e, es[n - i]? = some e ∧ e.key = .int .i64 k ∧ e.val = v
  | [], _, _, _, hh => by cases hh
  | e :: es, i, n, v, hh => by
    simp only [mfind] at hh
    split at hh
    · rename_i j hj
      split at hh
      · rename_i hkj
        simp at hh
        obtain ⟨rfl, rfl⟩ := hh
        exact ⟨Nat.le_refl _, e, by simp, by rw [hj, hkj], rfl⟩
      · obtain ⟨h1, e', h2, h3⟩ := mfind_shift k es (i + 1) n v hh
        refine ⟨by omega, e', ?_, h3⟩
        rw [show n - i = (n - (i + 1)) + 1 by omega]; simpa using h2
    · cases hh
theorem mfind_modify (k : Int) (v : Value) : ∀ (es : List MapEntry) (i n : Nat) (u : Value), AllInt es → mfind k es i = some (n, u) →
    ∀ j, (mfind j (es.modify (n - i) fun e => { e with key := .int .i64 k, val := v }) i).map (·.2) = if j = k then some v else (mfind j es i).map (·.2)
  | [], _, _, _, _, hh, _ => by cases hh
  | e :: es, i, n, u, ha, hh, j => by
    obtain ⟨q, hq⟩ := ha e List.mem_cons_self
    have hs := (mfind_shift k (e :: es) i n u hh).1
    simp only [mfind, hq] at hh
    split at hh
    · rename_i hkq
      simp at hh
      obtain ⟨rfl, rfl⟩ := hh
      simp only [Nat.sub_self, List.modify_zero_cons, mfind, hq]
      by_cases hjk : j = k
      · simp [hjk]
      · have : ¬ j = q := fun e => hjk (by rw [e, hkq])
        simp [hjk, this]
    · rename_i hne
      have hlt := (mfind_shift k es (i + 1) n u hh).1
      have ih := mfind_modify k v es (i + 1) n u (fun e he => ha e (List.mem_cons_of_mem _ he)) hh j
      rw [show n - i = (n - (i + 1)) + 1 by omega, List.modify_succ_cons]
      simp only [mfind, hq]
      by_cases hjq : j = q
      · simp [hjq]; intro e; exact absurd e.symm hne
      · simp only [hjq, if_false]; exact ih
theorem xv_mapSet {t kt et : TypeId} {x y z : Operand} {m c : Nat} {es : List MapEntry} {k : Int} {v : Value} {Hf : Obj → Hp} (ht : P.underlying t = some (.map kt et)) (hk : P.underlying kt = some (.int .i64))
    (hx : ev E x = some (.map (some m))) (hy : ev E y = some (.int .i64 k)) (hz : ev E z = some v) (hm : ∀ o', Upd h m (.map ⟨es⟩ c) o' (Hf o')) (ha : AllInt es)
    (H : ∀ es' c', MSet es k v es' → K undef (Hf (.map ⟨es'⟩ c'))) : XV P r ⟨dst, .mapUpdate t x y z, ty, pos, af, gd⟩ K T E h :=
  xv_of_skip (by simp [plainOp]) fun w ρ ho he => by
    have hg := ho.has _ _ (hm (.map ⟨es⟩ c)).mem
    have hlt := (Array.getElem?_eq_some_iff.1 hg).1
    have hgo : (getObj m).run P w = .ok (.map ⟨es⟩ c) w := by simp [getObj, Sem.run, hg]
    have hset : ∀ o, (setObj m o).run P w = .ok () { w with heap := w.heap.setIfInBounds m o } := fun o => by simp [setObj, Sem.run, hg]
    have hf := run_findKeyI (P := P) (k := k) (w := w) hk ha
    have hfol : ∀ o', Fol h w (Hf o') { w with heap := w.heap.setIfInBounds m o' } := by
      intro o'
      have := Fol.set (o' := o') (w' := { w with heap := w.heap.setIfInBounds m o' }) ho (hm o').mem (by simp [hlt]) (fun k hk => by simp [Array.getElem?_setIfInBounds]; intro e; exact absurd e.symm hk) (by simp) rfl rfl rfl
      rwa [(hm o').set ho.nd] at this
    cases hfi : mfind k es 0 with
    | none =>
      rw [hfi] at hf
      refine ⟨Hf (.map ⟨es ++ [{ key := .int .i64 k, val := v, born := c }]⟩ (c + 1)), _, ?_, H _ _ ⟨?_, fun j => ?_⟩, hfol _⟩
      · simp [execOp, he _ _ hx, he _ _ hy, he _ _ hz, Instr.mapUpdate, run_underlying ht, hgo, run_checkKeyI (P := P) (n := 9999) hk, hf, hset]
      · intro e he'
        rcases List.mem_append.1 he' with h1 | h1
        · exact ha e h1
        · simp at h1; exact ⟨k, by rw [h1]⟩
      · exact mfind_push k v c es 0 ha hfi j
    | some p =>
      obtain ⟨n, u⟩ := p
      rw [hfi] at hf
      obtain ⟨_, e0, he0, hk0, hv0⟩ := mfind_shift k es 0 n u hfi
      simp only [Nat.sub_zero] at he0
      refine ⟨Hf (.map ⟨es.modify n fun e => { e with key := .int .i64 k, val := v }⟩ c), _, ?_, H _ _ ⟨?_, fun j => ?_⟩, hfol _⟩
      · simp [execOp, he _ _ hx, he _ _ hy, he _ _ hz, Instr.mapUpdate, run_underlying ht, hgo, run_checkKeyI (P := P) (n := 9999) hk, hf, hset, he0, hk0, Instr.keyThatStays, Instr.sameBits]
      · intro e he'
        obtain ⟨i, hi⟩ := List.mem_iff_getElem?.1 he'
        rw [List.getElem?_modify] at hi
        by_cases hni : n = i
        · subst hni; rw [he0] at hi; simp at hi; exact ⟨k, by rw [← hi]⟩
        · cases hq : es[i]? with
          | none => simp [hq] at hi
          | some e1 =>
            simp [hq, hni] at hi
            rw [← hi]; exact ha e1 (List.mem_of_getElem? hq)
      · have := mfind_modify k v es 0 n u ha hfi j
        unfold mget
        simpa using this
end Go.H


/-
  The logic of owned blocks over the kit, part HC.
-/
set_option linter.all false
/-
  Slices that grow: what 'append' leaves, whether there was room or not.
-/
namespace Go.H
open Go
variable {P : Program} {r : Option Nat} {N : Nat} {Q : Post} {E : Env} {D : List Deferred} {h h' g : Hp}
variable {K : Value → Hp → Prop} {T : List PanicEntry → Hp → Prop} {dst : Option Nat} {ty : TypeId} {pos : String} {af : Array Edge} {gd : Option (Nat × Bool)}
inductive Vec where
  | nil
  | at (b cap : Nat) (sp : List Value)
def Vec.val : Vec → Nat → Value
  | .nil, _ => .slice none 0 0
  | .at b cap _, n => .slice (some ⟨b, 0, none⟩) n cap
def Vec.hp : Vec → TypeId → List Value → Hp
  | .nil, _, _ => []
  | .at b _ sp, t, xs => [(b, .cells ⟨xs ++ sp⟩ t (0, 0))]
def Vec.ok : Vec → Nat → Nat → List Value → Prop
  | .nil, sz, n, xs => xs.length = n * sz ∧ n = 0
  | .at _ cap sp, sz, n, xs => xs.length = n * sz ∧ n ≤ cap ∧ (xs ++ sp).length = cap * sz
inductive Tk : Hp → Hp → Hp → Prop
  | here {a r : Hp} : Tk a (a ++ r) r
  | there {a h r : Hp} {x : Nat × Obj} : Tk a h r → Tk a (x :: h) (x :: r)
  | skip {a h r b : Hp} : Tk a h r → Tk a (b ++ h) (b ++ r)
theorem Tk.perm {a h r : Hp} (H : Tk a h r) : List.Perm h (a ++ r) := by
  induction H with
  | here => exact List.Perm.refl _
  | there _ ih => exact (ih.cons _).trans (List.perm_middle).symm
  | skip _ ih =>
    refine (ih.append_left _).trans ?_
    rw [← List.append_assoc, ← List.append_assoc]
    exact (List.perm_append_comm).append_right _
theorem xv_append0 {x y : Operand} {t e : TypeId} {d : TD} {a a' : Option Addr} {n c c' : Nat} (ht : SlT P t e) (hd : TyOk P e d) (hx : ev E x = some (.slice a n c)) (hy : ev E y = some (.slice a' 0 c')) (hn : n ≤ c) (H : K (.slice a n c) h) : XV P r ⟨dst, .call ⟨.builtin .append, #[x, y], #[t, t]⟩, ty, pos, af, gd⟩ K T E h :=
  xv_of_run (by simp [plainOp]) fun w ρ ho he => ⟨_, h, w, by
    obtain ⟨cs, hcs⟩ := run_builtin (P := P) (dst := dst) (ty := ty) (pos := pos) (af := af) (gd := gd) ρ .append #[x, y] #[t, t] w
    rw [hcs]
    cases a' with
    | none => cases a <;> simp [builtin, Builtin.append_, he _ _ hx, he _ _ hy, run_underlying ht, hd.run_size, Builtin.lenOf, Builtin.firstCells, hn, storeCells]
    | some a' => cases a <;> simp [builtin, Builtin.append_, he _ _ hx, he _ _ hy, run_underlying ht, hd.run_size, Builtin.lenOf, Builtin.firstCells, hn, storeCells, loadCells, loadCellsFrom], H, .refl ho⟩
theorem fol_grow {w : World} {b : Nat} {o : Obj} (ho : Own ((b, o) :: g) w) (o' : Obj) : Fol ((b, o) :: g) w ((w.heap.size, o') :: g) (w.drew.alloc o') := by
  have f1 : Fol ((b, o) :: g) w ((w.heap.size, o') :: (b, o) :: g) (w.drew.alloc o') := by
    have := Fol.alloc (ho.drew (w.drawn + 1)) o'
    exact this.drew
  exact f1.sub ((List.sublist_cons_self _ _).cons_cons _)
theorem cells_read {w : World} {bu ou m sz : Nat} {lu news : List Value} {tu : TypeId} {fz : Nat × Nat} (hb : w.heap[bu]? = some (.cells ⟨lu⟩ tu fz)) (hl : (lu.drop ou).take (m * sz) = news) (hn : news.length = m * sz) :
    ∀ j v, news[j]? = some v → w.cell? ((⟨bu, ou, none⟩ : Addr).add j) = some v := by
  intro j v hv
  have hj : j < m * sz := by rw [← hn]; exact (List.getElem?_eq_some_iff.1 hv).1
  rw [addr_add]
  simp only [World.cell?, hb]
  rw [← hl, List.getElem?_take_of_lt hj, List.getElem?_drop] at hv
  simpa using hv
theorem xv_append {x y : Operand} {t e : TypeId} {d : TD} {V : Vec} {n m bu ou cu : Nat} {xs lu news : List Value} {tu : TypeId} {fz : Nat × Nat} (ht : SlT P t e) (hd : TyOk P e d) (hzs : d.zero.cells.size = d.size)
    (hx : ev E x = some (V.val n)) (hy : ev E y = some (.slice (some ⟨bu, ou, none⟩) m cu)) (hV : V.ok d.size n xs) (hp : Tk (V.hp e xs) h g) (hu : (bu, .cells ⟨lu⟩ tu fz) ∈ g) (hl : (lu.drop ou).take (m * d.size) = news) (hn : news.length = m * d.size)
    (h1 : news.all Value.oneCell' = true) (hm : 0 < m) (hb : 2 * (n + m) * d.bytes ≤ 281474976710656) (h63 : n + m ≤ 9223372036854775807)
    (H : ∀ V' : Vec, V'.ok d.size (n + m) (xs ++ news) → K (V'.val (n + m)) (V'.hp e (xs ++ news) ++ g)) : XV P r ⟨dst, .call ⟨.builtin .append, #[x, y], #[t, t]⟩, ty, pos, af, gd⟩ K T E h := by
  refine XV.perm hp.perm.symm (xv_of_run (by simp [plainOp]) fun w ρ ho he => ?_)
  obtain ⟨i, hi, his, hib, hiz⟩ := hd.info
  obtain ⟨cs, hcs⟩ := run_builtin (P := P) (dst := dst) (ty := ty) (pos := pos) (af := af) (gd := gd) ρ .append #[x, y] #[t, t] w
  have hub : w.heap[bu]? = some (.cells ⟨lu⟩ tu fz) := ho.has _ _ (List.mem_append_right _ hu)
  have hnews := cells_read hub hl hn
  have hbase : (execOp ρ ⟨dst, .call ⟨.builtin .append, #[x, y], #[t, t]⟩, ty, pos, af, gd⟩).run P w = ((Builtin.append_ #[t, t] ty #[V.val n, .slice (some ⟨bu, ou, none⟩) m cu]).run P w).andThen fun v w' => .ok (.value v) w' := by
    rw [hcs]; simp [builtin, he _ _ hx, he _ _ hy]
  rw [hbase]
  have h63' : ((n + m : Nat) : Int) ≤ 9223372036854775807 := by omega
  cases V with
  | nil =>
    obtain ⟨hx1, rfl⟩ := hV
    have hxs : xs = [] := List.length_eq_zero_iff.1 (by simpa using hx1)
    subst hxs
    simp only [Nat.zero_add] at H hb h63 h63'
    have hcap : m ≤ grownCap w m 0 e := by unfold grownCap; simp [Question.cut]
    have hr := run_append_nil (P := P) w t ty e i d.zero ht hi hiz ⟨bu, ou, none⟩ m cu news (by rw [his]; exact hn) hnews hm (by omega) (by rw [hib]; rw [Nat.mul_assoc] at hb; omega)
    refine ⟨_, _, _, by rw [show Vec.val .nil 0 = .slice none 0 0 from rfl, hr]; rfl, H (.at w.heap.size (grownCap w m 0 e) (Builtin.zeroCells d.zero.cells (grownCap w m 0 e - m)).toList) ?_, ?_⟩
    · refine ⟨by simpa using hn, by simpa using hcap, ?_⟩
      simp only [List.nil_append, List.length_append, hn, Array.length_toList, size_zeroCells, hzs]
      rw [← Nat.add_mul]; congr 1; omega
    · have := (Fol.alloc (ho.drew (w.drawn + 1)) (.cells (news.toArray ++ Builtin.zeroCells d.zero.cells (grownCap w m 0 e - m)) e)).drew
      have e2 : (⟨news ++ (Builtin.zeroCells d.zero.cells (grownCap w m 0 e - m)).toList⟩ : Array Value) = news.toArray ++ Builtin.zeroCells d.zero.cells (grownCap w m 0 e - m) := by apply Array.ext'; simp
      simp only [Vec.hp, List.nil_append, List.cons_append, e2]
      exact this
  | «at» b cap sp =>
    obtain ⟨hx1, hx2, hx3⟩ := hV
    have hg : w.heap[b]? = some (.cells ⟨xs ++ sp⟩ e (0, 0)) := ho.has _ _ List.mem_cons_self
    by_cases hroom : n + m ≤ cap
    · have hfit : n * i.size + news.length ≤ (⟨xs ++ sp⟩ : Array Value).size := by
        rw [his, hn, ← Nat.add_mul]
        simp only [List.size_toArray, hx3]
        exact Nat.mul_le_mul_right _ hroom
      have hr := run_append_room (P := P) w t ty e i ht hi b n cap ⟨xs ++ sp⟩ hg ⟨bu, ou, none⟩ m cu news (by rw [his]; exact hn) hnews (List.all_eq_true.1 h1) hroom hfit
      have hcur : ((xs ++ sp).take (n * i.size) ++ news ++ (xs ++ sp).drop (n * i.size + news.length)) = (xs ++ news) ++ sp.drop news.length := by
        rw [his, ← hx1, List.take_left, List.drop_append]
        have : List.drop (xs.length + news.length) xs = [] := List.drop_eq_nil_of_le (by omega)
        rw [this]; simp
      refine ⟨_, _, _, by rw [show Vec.val (.at b cap sp) n = .slice (some ⟨b, 0, none⟩) n cap from rfl, hr]; rfl, H (.at b cap (sp.drop news.length)) ?_, ?_⟩
      · refine ⟨by simp [hx1, hn, Nat.add_mul], hroom, ?_⟩
        simp only [List.length_append, List.length_drop] at hx3 ⊢
        have hle : news.length ≤ sp.length := by
          have := Nat.mul_le_mul_right d.size hroom
          rw [Nat.add_mul] at this
          omega
        omega
      · have := fol_row ho (List.mem_cons_self (a := (b, Obj.cells ⟨xs ++ sp⟩ e (0, 0))) (l := g)) ((xs ++ news) ++ sp.drop news.length)
        simp only [Vec.hp, List.cons_append, List.nil_append, setH, if_true] at this ⊢
        rw [show ((⟨xs ++ sp⟩ : Array Value).toList.take (n * i.size) ++ news ++ (⟨xs ++ sp⟩ : Array Value).toList.drop (n * i.size + news.length)) = (xs ++ news) ++ sp.drop news.length from hcur]
        exact this
    · have hgt : cap < n + m := by omega
      have hold : ∀ j v, xs[j]? = some v → w.cell? ((⟨b, 0, none⟩ : Addr).add j) = some v := by
        intro j v hv
        rw [addr_add]
        simp only [World.cell?, hg]
        have hlt : j < xs.length := (List.getElem?_eq_some_iff.1 hv).1
        simp [List.getElem?_append_left hlt, hv]
      have hfit : Builtin.nextslicecap (n + m) cap * i.bytes ≤ 281474976710656 := by
        rw [hib]
        exact Nat.le_trans (Nat.mul_le_mul_right _ (nextslicecap_le hgt)) hb
      have hr := run_append_grow (P := P) w t ty e i d.zero ht hi hiz ⟨b, 0, none⟩ n cap xs (by rw [his]; exact hx1) hold ⟨bu, ou, none⟩ m cu news (by rw [his]; exact hn) hnews hgt h63' hfit
      have hcap : n + m ≤ grownCap w (n + m) cap e := by unfold grownCap; simp [Question.cut]
      refine ⟨_, _, _, by rw [show Vec.val (.at b cap sp) n = .slice (some ⟨b, 0, none⟩) n cap from rfl, hr]; rfl, H (.at w.heap.size (grownCap w (n + m) cap e) (Builtin.zeroCells d.zero.cells (grownCap w (n + m) cap e - (n + m))).toList) ?_, ?_⟩
      · refine ⟨by simp [hx1, hn, Nat.add_mul], hcap, ?_⟩
        simp only [List.length_append, hx1, hn, Array.length_toList, size_zeroCells, hzs]
        rw [← Nat.add_mul, ← Nat.add_mul]; congr 1; omega
      · have := fol_grow ho (.cells (xs.toArray ++ news.toArray ++ Builtin.zeroCells d.zero.cells (grownCap w (n + m) cap e - (n + m))) e)
        have e2 : (⟨xs ++ news ++ (Builtin.zeroCells d.zero.cells (grownCap w (n + m) cap e - (n + m))).toList⟩ : Array Value) = xs.toArray ++ news.toArray ++ Builtin.zeroCells d.zero.cells (grownCap w (n + m) cap e - (n + m)) := by apply Array.ext'; simp
        simp only [Vec.hp, List.nil_append, List.cons_append, e2]
        exact this
end Go.H

/-
  Small rules that the written walks use.
-/
namespace Go.H
open Go
variable {P : Program} {r : Option Nat} {N : Nat} {Q : Post} {E : Env} {D : List Deferred} {h h' : Hp}
variable {K : Value → Hp → Prop} {T : List PanicEntry → Hp → Prop} {dst : Option Nat} {ty : TypeId} {pos : String} {af : Array Edge} {gd : Option (Nat × Bool)}
section
variable {KK : Env → List Deferred → Hp → Prop} {id id' : Nat} {ch : List PanicEntry}
theorem th_n (H : KK E D h) : Th KK Q .normal E D h := H
theorem th_x (H : Q (.exit id) E D h) : Th KK Q (.exit id) E D h := H
theorem th_r (H : Q .ret E D h) : Th KK Q .ret E D h := H
theorem bk_n (H : Q .normal E D h) : Bk id Q .normal E D h := H
theorem bk_r (H : Q .ret E D h) : Bk id Q .ret E D h := H
end
theorem up_ret {v : Value} (H : K v h) : Up K T (.returned v) h := H
theorem xv_lss2 {xt yt : TypeId} {x y : Operand} {k : IntKind} {a b : Int} (hx : ev E x = some (.int k a)) (hy : ev E y = some (.int k b))
    (H1 : a < b → K (.bool true) h) (H2 : b ≤ a → K (.bool false) h) : XV P r ⟨dst, .binOp .lss xt x y yt, ty, pos, af, gd⟩ K T E h :=
  xv_cmp2 hx hy rfl (fun hh => H1 hh) (fun hh => H2 (by simp only [cmpP] at hh; omega))
theorem xv_leq2 {xt yt : TypeId} {x y : Operand} {k : IntKind} {a b : Int} (hx : ev E x = some (.int k a)) (hy : ev E y = some (.int k b))
    (H1 : a ≤ b → K (.bool true) h) (H2 : b < a → K (.bool false) h) : XV P r ⟨dst, .binOp .leq xt x y yt, ty, pos, af, gd⟩ K T E h :=
  xv_cmp2 hx hy rfl (fun hh => H1 hh) (fun hh => H2 (by simp only [cmpP] at hh; omega))
theorem xv_gtr2 {xt yt : TypeId} {x y : Operand} {k : IntKind} {a b : Int} (hx : ev E x = some (.int k a)) (hy : ev E y = some (.int k b))
    (H1 : b < a → K (.bool true) h) (H2 : a ≤ b → K (.bool false) h) : XV P r ⟨dst, .binOp .gtr xt x y yt, ty, pos, af, gd⟩ K T E h :=
  xv_cmp2 hx hy rfl (fun hh => H1 hh) (fun hh => H2 (by simp only [cmpP] at hh; omega))
theorem xv_geq2 {xt yt : TypeId} {x y : Operand} {k : IntKind} {a b : Int} (hx : ev E x = some (.int k a)) (hy : ev E y = some (.int k b))
    (H1 : b ≤ a → K (.bool true) h) (H2 : a < b → K (.bool false) h) : XV P r ⟨dst, .binOp .geq xt x y yt, ty, pos, af, gd⟩ K T E h :=
  xv_cmp2 hx hy rfl (fun hh => H1 hh) (fun hh => H2 (by simp only [cmpP] at hh; omega))
theorem xv_eql2 {xt yt : TypeId} {x y : Operand} {k : IntKind} {a b : Int} (hx : ev E x = some (.int k a)) (hy : ev E y = some (.int k b))
    (H1 : a = b → K (.bool true) h) (H2 : a ≠ b → K (.bool false) h) : XV P r ⟨dst, .binOp .eql xt x y yt, ty, pos, af, gd⟩ K T E h :=
  xv_cmp2 hx hy rfl (fun hh => H1 hh) (fun hh => H2 hh)
theorem xv_neq2 {xt yt : TypeId} {x y : Operand} {k : IntKind} {a b : Int} (hx : ev E x = some (.int k a)) (hy : ev E y = some (.int k b))
    (H1 : a ≠ b → K (.bool true) h) (H2 : a = b → K (.bool false) h) : XV P r ⟨dst, .binOp .neq xt x y yt, ty, pos, af, gd⟩ K T E h :=
  xv_cmp2 hx hy rfl (fun hh => H1 hh) (fun hh => H2 (Classical.not_not.1 hh))
theorem body_ret {fn : Func} {R : Ending → Hp → Prop} {rl : List ResultVar} {vs : List Value} (hrl : fn.results.toList = rl) (hr : ResOk P E h rl vs) (hs : List.Sublist h' h) (H : R (.returned (tupV vs)) h') : BodyQ P fn R .ret E [] h :=
  ⟨trivial, vs, h', by rw [hrl]; exact hr, hs, fun _ hk => by simp [marked] at hk, H⟩
theorem body_end {fn : Func} {R : Ending → Hp → Prop} {rl : List ResultVar} {vs : List Value} (hrl : fn.results.toList = rl) (hr : ResOk P E h rl vs) (hs : List.Sublist h' h) (H : R (.returned (tupV vs)) h') : BodyQ P fn R .normal E [] h :=
  ⟨trivial, vs, h', by rw [hrl]; exact hr, hs, fun _ hk => by simp [marked] at hk, H⟩
theorem res_cell {b o : Nat} {l : List Value} {t t' : TypeId} {fz : Nat × Nat} {d : TD} {a : Nat} {v : Value} (ht : TyOk P t d) (ha : aggB d.und = false) (he : E a = some (.pointer (some ⟨b, o, none⟩))) (hm : (b, .cells ⟨l⟩ t' fz) ∈ h) (hl : l[o]? = some v) :
    ∃ b o l t' fz d, E a = some (.pointer (some ⟨b, o, none⟩)) ∧ (b, .cells ⟨l⟩ t' fz) ∈ h ∧ TyOk P t d ∧
      ((aggB d.und = false ∧ l[o]? = some v) ∨ (aggB d.und = true ∧ ∃ l', (l.drop o).take d.size = l' ∧ l'.length = d.size ∧ v = .agg ⟨l'⟩)) :=
  ⟨b, o, l, t', fz, d, he, hm, ht, .inl ⟨ha, hl⟩⟩
theorem res_cellA {b o : Nat} {l l' : List Value} {t t' : TypeId} {fz : Nat × Nat} {d : TD} {a : Nat} (ht : TyOk P t d) (ha : aggB d.und = true) (he : E a = some (.pointer (some ⟨b, o, none⟩))) (hm : (b, .cells ⟨l⟩ t' fz) ∈ h) (hl : (l.drop o).take d.size = l') (hn : l'.length = d.size) :
    ∃ b o l t' fz d, E a = some (.pointer (some ⟨b, o, none⟩)) ∧ (b, .cells ⟨l⟩ t' fz) ∈ h ∧ TyOk P t d ∧
      ((aggB d.und = false ∧ l[o]? = some (.agg ⟨l'⟩)) ∨ (aggB d.und = true ∧ ∃ l'', (l.drop o).take d.size = l'' ∧ l''.length = d.size ∧ (.agg ⟨l'⟩ : Value) = .agg ⟨l''⟩)) :=
  ⟨b, o, l, t', fz, d, he, hm, ht, .inr ⟨ha, l', hl, hn, rfl⟩⟩
theorem rnd {σ : Type} {I : σ → Prop} {EI : σ → Env} {HI : σ → Hp} {μ : σ → Nat} {x : σ} {D0 : List Deferred} (x' : σ) (h1 : I x') (h2 : μ x' < μ x) (h3 : EnvLe (EI x') E) (h5 : List.Sublist (HI x') h) :
    Th (fun E' D' h' => ∃ x', I x' ∧ μ x' < μ x ∧ EnvLe (EI x') E' ∧ D' = D0 ∧ List.Sublist (HI x') h') Q .normal E D0 h := ⟨x', h1, h2, h3, rfl, h5⟩
theorem ro_nil : ResOk P E h [] [] := rfl
theorem ro_tmp {t : Nat} {v : Value} {rs : List ResultVar} {vs : List Value} (he : E t = some v) (H : ResOk P E h rs vs) : ResOk P E h (.tmp t :: rs) (v :: vs) := ⟨v, vs, rfl, he, H⟩
theorem ro_cell {b o : Nat} {l : List Value} {t t' : TypeId} {fz : Nat × Nat} {d : TD} {a : Nat} {v : Value} {rs : List ResultVar} {vs : List Value} (ht : TyOk P t d) (ha : aggB d.und = false) (he : E a = some (.pointer (some ⟨b, o, none⟩))) (hm : (b, .cells ⟨l⟩ t' fz) ∈ h) (hl : l[o]? = some v)
    (H : ResOk P E h rs vs) : ResOk P E h (.cell a t :: rs) (v :: vs) := ⟨v, vs, rfl, res_cell ht ha he hm hl, H⟩
theorem ro_cellA {b o : Nat} {l l' : List Value} {t t' : TypeId} {fz : Nat × Nat} {d : TD} {a : Nat} {rs : List ResultVar} {vs : List Value} (ht : TyOk P t d) (ha : aggB d.und = true) (he : E a = some (.pointer (some ⟨b, o, none⟩))) (hm : (b, .cells ⟨l⟩ t' fz) ∈ h) (hl : (l.drop o).take d.size = l') (hn : l'.length = d.size)
    (H : ResOk P E h rs vs) : ResOk P E h (.cell a t :: rs) (.agg ⟨l'⟩ :: vs) := ⟨_, vs, rfl, res_cellA ht ha he hm hl hn, H⟩
end Go.H

/-
  Small rules for drawn regions, and stores in the order in which they are asked.
-/
namespace Go.H
open Go
variable {P : Program} {r : Option Nat} {N : Nat} {Q : Post} {E : Env} {D : List Deferred} {h h' f : Hp} {ops : Array Oper} {G : Prom} {l : List Item} {L : List (Nat × (Obj → Prop))}
variable {K : Value → Hp → Prop} {T : List PanicEntry → Hp → Prop} {dst : Option Nat} {ty : TypeId} {pos : String} {af : Array Edge} {gd : Option (Nat × Bool)}
theorem qv_ext {o : Oper} {v : Value} (H : QV P r o E f v) : ∀ hh : Hp, QV P r o E (hh ++ f) v
  | [] => H
  | x :: hh => (qv_ext H hh).cons x
theorem js_S {i : Nat} {o : Oper} {v : Value} (hi : ops[i]? = some o) (hd : dstOk N o.dst = true) (hr : Runs ops o E) (H : XV P r o (fun v' h' => v' = v ∧ h' = f) (fun _ _ => False) E f) (H2 : J P r N ops D Q f L l (E.put o.dst v) G h) : J P r N ops D Q f L ((i, .S) :: l) E G h :=
  ⟨o, hi, hd, .inr ⟨hr, v, fun hh _ => qv_ext H hh, H2⟩⟩
theorem js_R {i : Nat} {o : Oper} {v : Value} (hi : ops[i]? = some o) (hd : dstOk N o.dst = true) (hr : Runs ops o E) (H : XV P r o (fun v' h' => v' = v ∧ h' = h ++ f) (fun _ _ => False) E (h ++ f)) (H2 : J P r N ops D Q f L l (E.put o.dst v) G h) : J P r N ops D Q f L ((i, .R) :: l) E G h :=
  ⟨o, hi, hd, .inr ⟨hr, v, H, H2⟩⟩
theorem js_Ss {i : Nat} {o : Oper} (hi : ops[i]? = some o) (hd : dstOk N o.dst = true) (hr : Skips ops o E) (H2 : J P r N ops D Q f L l (E.put o.dst undef) G h) : J P r N ops D Q f L ((i, .S) :: l) E G h := ⟨o, hi, hd, .inl ⟨hr, H2⟩⟩
theorem js_Rs {i : Nat} {o : Oper} (hi : ops[i]? = some o) (hd : dstOk N o.dst = true) (hr : Skips ops o E) (H2 : J P r N ops D Q f L l (E.put o.dst undef) G h) : J P r N ops D Q f L ((i, .R) :: l) E G h := ⟨o, hi, hd, .inl ⟨hr, H2⟩⟩
theorem js_Os {i : Nat} {o : Oper} (hi : ops[i]? = some o) (hd : dstOk N o.dst = true) (hr : Skips ops o E) (H2 : J P r N ops D Q f L l (E.put o.dst undef) G h) : J P r N ops D Q f L ((i, .O) :: l) E G h := ⟨o, hi, hd, .inl ⟨hr, H2⟩⟩
theorem js_P {i : Nat} {o : Oper} {mk : Nat → Value} {obj : Obj} (hi : ops[i]? = some o) (hd : dstOk N o.dst = true) (hg : o.guard = none) (H : AL P o E mk obj) (H2 : J P r N ops D Q f L l E (G.add i ⟨mk, obj, restr o E⟩) h) : J P r N ops D Q f L ((i, .P) :: l) E G h :=
  ⟨o, hi, hd, hg, mk, obj, H, H2⟩
def EqL : List Nat → Env → Env → Prop
  | [], _, _ => True
  | t :: l, E, E' => E t = E' t ∧ EqL l E E'
def tmpsOf : List Operand → List Nat
  | [] => []
  | .tmp t :: l => t :: tmpsOf l
  | _ :: l => tmpsOf l
theorem mem_tmpsOf : ∀ {l : List Operand} {t : Nat}, .tmp t ∈ l → t ∈ tmpsOf l
  | x :: l, t, hm => by
    rcases List.mem_cons.1 hm with e | hm
    · subst e; simp [tmpsOf]
    · have ih := mem_tmpsOf hm
      cases x <;> simp [tmpsOf, ih]
theorem eqL_mem : ∀ {l : List Nat} {E E' : Env}, EqL l E E' → ∀ t ∈ l, E t = E' t
  | _ :: _, _, _, hh, t, hm => by
    rcases List.mem_cons.1 hm with e | hm
    · subst e; exact hh.1
    · exact eqL_mem hh.2 t hm
theorem js_A {i : Nat} {o : Oper} {mk : Nat → Value} {obj : Obj} {E0 : Env} {tl : List Nat} (hi : ops[i]? = some o) (hd : dstOk N o.dst = true) (hg : o.guard = none) (hG : G i = some ⟨mk, obj, restr o E0⟩) (ht : tmpsOf o.op.operands.toList = tl) (he : EqL tl E0 E)
    (H2 : ∀ b, b ∉ keys (h ++ f) → J P r N ops D Q f L l (E.put o.dst (mk b)) G ((b, obj) :: h)) : J P r N ops D Q f L ((i, .A) :: l) E G h :=
  ⟨o, hi, hd, hg, _, hG, (restr_eqOn o E0).trans (fun t hm => eqL_mem he t (by rw [← ht]; exact mem_tmpsOf (by simpa using hm))), H2⟩
theorem js_O {i : Nat} {o : Oper} (hi : ops[i]? = some o) (hd : dstOk N o.dst = true) (hr : Runs ops o E) (H : XV P r o (fun v h'' => ∃ h', List.Perm (h' ++ f) h'' ∧ Holds L h' ∧ J P r N ops D Q f L l (E.put o.dst v) G h') (fun ch h'' => Q (.panic ch) emp D h'') E (h ++ f)) : J P r N ops D Q f L ((i, .O) :: l) E G h :=
  ⟨o, hi, hd, .inr ⟨hr, H⟩⟩
theorem j_end0 {Ep : Env} (H : Q .normal E D h) : J P r N ops D (PanEnv Ep Q) [] L [] E G h := ⟨h, by simp, H⟩
theorem xc_draw {id : Nat} {h' : Hp} (c : List Item) (f h : Hp) (hm : P.follows .mixedOrders = true) (hck : drawOk N ops c = true) (hp : List.Perm (h ++ f) h') (H : J P r N ops D (PanEnv (mask ops E) Q) f [] c E (fun _ => none) h) : XC P r N (.region id ops true) Q E D h' :=
  xc_drawL c f h hm hck hp .nil H
theorem xc_draw0 {id : Nat} (c : List Item) (hm : P.follows .mixedOrders = true) (hck : drawOk N ops c = true) (H : J P r N ops D (PanEnv (mask ops E) Q) [] [] c E (fun _ => none) h) : XC P r N (.region id ops true) Q E D h :=
  xc_draw c [] h hm hck (by simp) H
theorem xv_s1 {t : TypeId} {x y : Operand} {b o : Nat} {l l' : List Value} {t' : TypeId} {v : Value} {d : TD} (ht : TyOk P t d) (hd : d.size = 1) (hx : ev E x = some (.pointer (some ⟨b, o, none⟩))) (hy : ev E y = some v)
    (hm : Upd h b (.cells ⟨l⟩ t' (0, 0)) (.cells ⟨l'⟩ t' (0, 0)) h') (h1 : v.oneCell' = true) (hr : o < l.length) (hl : l.set o v = l') (H : K undef h') : XV P r ⟨dst, .store t x y, ty, pos, af, gd⟩ K T E h :=
  xv_st1 ht hd hx hy h1 hr hl hm H
theorem xv_s {t : TypeId} {x y : Operand} {b o : Nat} {l l' vs : List Value} {t' : TypeId} {v : Value} {d : TD} (ht : TyOk P t d) (hx : ev E x = some (.pointer (some ⟨b, o, none⟩))) (hy : ev E y = some v)
    (hm : Upd h b (.cells ⟨l⟩ t' (0, 0)) (.cells ⟨l'⟩ t' (0, 0)) h') (hv : v.cells.toList = vs) (hn : vs.length = d.size) (h1 : vs.all Value.oneCell' = true) (hr : Nat.ble (o + d.size) l.length = true) (hl : splice l o vs = l') (H : K undef h') : XV P r ⟨dst, .store t x y, ty, pos, af, gd⟩ K T E h :=
  xv_st ht hx hy hv hn h1 hl hr hm H
end Go.H

/-
  A slice that reads as a list of structs.
-/
namespace Go.H
open Go
variable {P : Program} {h h' : Hp}
def SlV {α : Type} (h : Hp) (sz : Nat) (enc : α → List Value) (a : Option Addr) (xs : List α) : Prop :=
  xs = [] ∨ ∃ b o l t fz, a = some ⟨b, o, none⟩ ∧ (b, .cells ⟨l⟩ t fz) ∈ h ∧ ∀ i x, xs[i]? = some x → (l.drop (o + i * sz)).take sz = enc x
theorem SlV.at {α : Type} {sz : Nat} {enc : α → List Value} {a : Option Addr} {xs : List α} (H : SlV h sz enc a xs) {i : Nat} (hi : i < xs.length) :
    ∃ b o l t fz, a = some ⟨b, o, none⟩ ∧ (b, .cells ⟨l⟩ t fz) ∈ h ∧ ∀ i x, xs[i]? = some x → (l.drop (o + i * sz)).take sz = enc x := by
  rcases H with rfl | H
  · simp at hi
  · exact H
theorem SlV.sub {α : Type} {sz : Nat} {enc : α → List Value} {a : Option Addr} {xs : List α} (H : SlV h sz enc a xs) (hs : h ⊆ h') : SlV h' sz enc a xs := by
  rcases H with rfl | ⟨b, o, l, t, fz, h1, h2, h3⟩
  · exact .inl rfl
  · exact .inr ⟨b, o, l, t, fz, h1, hs h2, h3⟩
theorem SlV.cons {α : Type} {sz : Nat} {enc : α → List Value} {a : Option Addr} {xs : List α} (H : SlV h sz enc a xs) (x : Nat × Obj) : SlV (x :: h) sz enc a xs := H.sub (List.subset_cons_self _ _)
theorem take_get {l e : List Value} {o sz j : Nat} {v : Value} (hl : (l.drop o).take sz = e) (hj : e[j]? = some v) : l[o + j]? = some v := by
  subst hl
  have hlt : j < sz := by
    have := (List.getElem?_eq_some_iff.1 hj).1
    simp at this; omega
  rwa [List.getElem?_take_of_lt hlt, List.getElem?_drop] at hj
end Go.H


/-
  The logic of owned blocks over the kit, part HD.
-/
set_option linter.all false
/-
  Small tactics: a block's place in the list of blocks.
-/
namespace Go.H
open Go
theorem evl_cons {α : Type _} {l t t' : List α} {x x' : α} (h : l = x :: t) (hx : x = x') (ht : t = t') : l = x' :: t' := by rw [h, hx, ht]
theorem evl_some {α : Type _} {o : Option (List α)} {l l' : List α} (h : o = some l) (h2 : l = l') : o = some l' := by rw [h, h2]
variable {P : Program} {h h' : Hp}
theorem z_0 {α : Type _} {a : α} {l : List α} : a ∈ a :: l := List.mem_cons_self
theorem z_1 {α : Type _} {a b : α} {l : List α} (h : a ∈ l) : a ∈ b :: l := List.mem_cons_of_mem _ h
theorem z_r {α : Type _} {a : α} {l r : List α} (h : a ∈ r) : a ∈ l ++ r := List.mem_append_right _ h
theorem z_l {α : Type _} {a : α} {l r : List α} (h : a ∈ l) : a ∈ l ++ r := List.mem_append_left _ h
theorem s_0 {α : Type _} {l : List α} : List.Sublist l l := List.Sublist.refl _
theorem s_1 {α : Type _} {l : List α} : List.Sublist [] l := List.nil_sublist _
theorem s_3 {α : Type _} {l r : List α} : List.Sublist l (l ++ r) := List.sublist_append_left _ _
theorem s_4 {α : Type _} {l r r' : List α} (h : List.Sublist r r') : List.Sublist (l ++ r) (l ++ r') := List.Sublist.append (List.Sublist.refl _) h
theorem s_5 {α : Type _} {a : α} {l r : List α} (h : List.Sublist l r) : List.Sublist (a :: l) (a :: r) := List.Sublist.cons_cons _ h
theorem s_6 {α : Type _} {a : α} {l r : List α} (h : List.Sublist l r) : List.Sublist l (a :: r) := List.Sublist.cons _ h
theorem s_7 {α : Type _} {x l r : List α} (h : List.Sublist x r) : List.Sublist x (l ++ r) := List.Sublist.trans h (List.sublist_append_right _ _)
theorem s_8 {α : Type _} {x l r : List α} (h : List.Sublist x l) : List.Sublist x (l ++ r) := List.Sublist.trans h (List.sublist_append_left _ _)
theorem u_0 {b : Nat} {o o' : Obj} {h : Hp} : Upd ((b, o) :: h) b o o' ((b, o') :: h) := .here
theorem u_1 {x : Nat × Obj} {b : Nat} {o o' : Obj} {h h' : Hp} (H : Upd h b o o' h') : Upd (x :: h) b o o' (x :: h') := .there H
theorem u_2 {h h' : Hp} {b : Nat} {o o' : Obj} {f : Hp} (H : Upd h b o o' h') : Upd (f ++ h) b o o' (f ++ h') := Upd.left f H
theorem u_3 {h h' : Hp} {b : Nat} {o o' : Obj} {f : Hp} (H : Upd h b o o' h') : Upd (h ++ f) b o o' (h' ++ f) := Upd.append H
theorem v_1 {k : IntKind} {n : Int} : Value.int k n = .int k n := rfl
theorem v_2 {b : Bool} : Value.bool b = .bool b := rfl
theorem v_3 {a : Option Addr} : Value.pointer a = .pointer a := rfl
theorem v_4 {a : Option Addr} {n c : Nat} : Value.slice a n c = .slice a n c := rfl
theorem v_5 {c : Array Value} : Value.agg c = .agg c := rfl
theorem v_6 {r : Option Nat} : Value.map r = .map r := rfl
theorem v_7 {f : Fn} {a b : Array Value} : Value.func f a b = .func f a b := rfl
theorem v_8 {t : TypeId} {v : Value} : Value.iface t v = .iface t v := rfl
theorem v_9 {s : ByteArray} : Value.string s = .string s := rfl
theorem AFn.framed {fv : Value} {args : List Value} {R : Ending → Hp → Prop} (g : Hp) (H : AFn P fv args h (fun e h' => R e (g ++ h'))) : AFn P fv args (g ++ h) R :=
  (AFn.frameL g H).mono (by rintro e _ ⟨h', rfl, q⟩; exact q)
theorem ACalls.framed {f : FuncId} {args : Array Value} {R : Ending → Hp → Prop} (g : Hp) (H : ACalls P f args h (fun e h' => R e (g ++ h'))) : ACalls P f args (g ++ h) R := by
  intro w ho
  refine (ACalls.frameL g H w ho).mono ?_
  rintro e w' ⟨h2, ⟨h', rfl, q⟩, hf⟩
  exact ⟨_, q, hf⟩
theorem Vec.one (V : Vec) (n : Nat) : (V.val n).oneCell' = true := by cases V <;> rfl
theorem Vec.val_eq {V : Vec} {sz n : Nat} {xs : List Value} (hV : V.ok sz n xs) : ∃ a c, V.val n = .slice a n c := by
  cases V with
  | nil => obtain ⟨_, rfl⟩ := hV; exact ⟨_, _, rfl⟩
  | «at» b cap sp => exact ⟨_, _, rfl⟩
section
variable {r : Option Nat} {E : Env} {K : Value → Hp → Prop} {T : List PanicEntry → Hp → Prop} {dst : Option Nat} {ty : TypeId} {pos : String} {af : Array Edge} {gd : Option (Nat × Bool)}
theorem xv_ia {x y : Operand} {t e : TypeId} {d : TD} {b o n c : Nat} {k : IntKind} {i : Int} {j sz : Nat} (ht : SlT P t e) (hd : TyOk P e d) (hs : d.size = sz) (hx : ev E x = some (.slice (some ⟨b, o, none⟩) n c)) (hy : ev E y = some (.int k i)) (hj : i.toNat = j) (h0 : 0 ≤ i) (h1 : i < n)
    (H : K (.pointer (some ⟨b, o + j * sz, none⟩)) h) : XV P r ⟨dst, .indexAddr t x y, ty, pos, af, gd⟩ K T E h :=
  xv_iaddr ht hd hx hy h0 h1 (by rw [hs, hj]; exact H)
theorem xv_iaA {x y : Operand} {t e : TypeId} {d : TD} {b o n : Nat} {k : IntKind} {i : Int} {j sz : Nat} (ht : P.underlying t = some (.array n e)) (hd : TyOk P e d) (hs : d.size = sz) (hx : ev E x = some (.pointer (some ⟨b, o, none⟩))) (hy : ev E y = some (.int k i)) (hj : i.toNat = j) (h0 : 0 ≤ i) (h1 : i < n)
    (H : K (.pointer (some ⟨b, o + j * sz, none⟩)) h) : XV P r ⟨dst, .indexAddr t x y, ty, pos, af, gd⟩ K T E h :=
  xv_iaddrA ht hd hx hy h0 h1 (by rw [hs, hj]; exact H)
end
section
variable {r : Option Nat} {N : Nat} {Q : Post} {E : Env} {D : List Deferred} {ops : Array Oper} {G : Prom} {l : List Item} {L : List (Nat × (Obj → Prop))}
theorem js_R0 {i : Nat} {o : Oper} {v : Value} (hi : ops[i]? = some o) (hd : dstOk N o.dst = true) (hr : Runs ops o E) (H : XV P r o (fun v' h' => v' = v ∧ h' = h) (fun _ _ => False) E h) (H2 : J P r N ops D Q [] L l (E.put o.dst v) G h) : J P r N ops D Q [] L ((i, .R) :: l) E G h :=
  js_R hi hd hr (by rw [List.append_nil]; exact H) H2
theorem js_O0 {i : Nat} {o : Oper} (hi : ops[i]? = some o) (hd : dstOk N o.dst = true) (hr : Runs ops o E) (H : XV P r o (fun v h' => J P r N ops D Q [] [] l (E.put o.dst v) G h') (fun ch h'' => Q (.panic ch) emp D h'') E h) : J P r N ops D Q [] [] ((i, .O) :: l) E G h :=
  js_O hi hd hr (by rw [List.append_nil]; exact H.mono (fun v h' k => ⟨h', by simp, .nil, k⟩) (fun _ _ k => k))
theorem holds1 {b : Nat} {o : Obj} {p : Obj → Prop} (hm : (b, o) ∈ h) (hp : p o) : Holds [(b, p)] h := fun b' p' hb => by
  simp only [List.mem_singleton, Prod.mk.injEq] at hb
  obtain ⟨rfl, rfl⟩ := hb
  exact ⟨o, hm, hp⟩
theorem js_A0 {i : Nat} {o : Oper} {mk : Nat → Value} {obj : Obj} {E0 : Env} {tl : List Nat} (hi : ops[i]? = some o) (hd : dstOk N o.dst = true) (hg : o.guard = none) (hG : G i = some ⟨mk, obj, restr o E0⟩) (ht : tmpsOf o.op.operands.toList = tl) (he : EqL tl E0 E)
    (H2 : ∀ b, b ∉ keys h → J P r N ops D Q [] L l (E.put o.dst (mk b)) G ((b, obj) :: h)) : J P r N ops D Q [] L ((i, .A) :: l) E G h :=
  js_A hi hd hg hG ht he (by simpa using H2)
end
end Go.H

/-
  Deferred calls: a closure that recovers; the end of a function that has one.
-/
namespace Go.H
open Go
variable {P : Program} {r : Option Nat} {N : Nat} {Q : Post} {E : Env} {D : List Deferred} {h : Hp}
section
variable {K : Value → Hp → Prop} {T : List PanicEntry → Hp → Prop} {dst : Option Nat} {ty : TypeId} {pos : String} {af : Array Edge} {gd : Option (Nat × Bool)} {xt yt : TypeId} {x y : Operand} {k : IntKind} {a b : Int}
theorem xv_neqT (hx : ev E x = some (.int k a)) (hy : ev E y = some (.int k b)) (hn : a ≠ b) (H : K (.bool true) h) : XV P r ⟨dst, .binOp .neq xt x y yt, ty, pos, af, gd⟩ K T E h := xv_cmp hx hy (by simp [cmpB, hn]) H
theorem xv_neqF (hx : ev E x = some (.int k a)) (hy : ev E y = some (.int k b)) (hn : a = b) (H : K (.bool false) h) : XV P r ⟨dst, .binOp .neq xt x y yt, ty, pos, af, gd⟩ K T E h := xv_cmp hx hy (by simp [cmpB, hn]) H
theorem xv_eqlT (hx : ev E x = some (.int k a)) (hy : ev E y = some (.int k b)) (hn : a = b) (H : K (.bool true) h) : XV P r ⟨dst, .binOp .eql xt x y yt, ty, pos, af, gd⟩ K T E h := xv_cmp hx hy (by simp [cmpB, hn]) H
theorem xv_eqlF (hx : ev E x = some (.int k a)) (hy : ev E y = some (.int k b)) (hn : a ≠ b) (H : K (.bool false) h) : XV P r ⟨dst, .binOp .eql xt x y yt, ty, pos, af, gd⟩ K T E h := xv_cmp hx hy (by simp [cmpB, hn]) H
end
end Go.H

/-
  Ranges over functions, as they are walked: a ghost, garbage let go; the end of a body with marks.
-/
namespace Go.H
open Go
variable {P : Program} {r : Option Nat} {N : Nat} {Q : Post} {E : Env} {D : List Deferred} {h h' : Hp}
def Mon (Q : Post) : Prop := ∀ E D h h', List.Sublist h h' → Q .normal E D h → Q .normal E D h'
theorem EnvLe.rfl' (E : Env) : EnvLe E E := fun _ _ hh => hh
theorem mon_th {y : Code} {Q' : Post} : Mon (Th (XC P r N y Q) Q') := fun _ _ _ _ hs hq => XC.weaken (EnvLe.rfl' _) hs hq
theorem mon_bk {id : Nat} (H : Mon Q) : Mon (Bk id Q) := fun E D h h' hs hq => H E D h h' hs hq
def RndA (K : Env → List Deferred → Hp → Prop) : Post
  | .normal, E, D, h => K E D h
  | _, _, _, _ => False
def RndQ {γ : Type} (Inv : Nat → γ → Prop) (HI : Nat → γ → Hp) (k : Nat) (Ix : Code → Nat → Hp → Prop) : Post
  | .normal, _, D, h => D = [] ∧ ∃ g, Inv (k + 1) g ∧ List.Sublist (HI (k + 1) g) h
  | .ret, _, D, h => D = [] ∧ Ix .ret (k + 1) h
  | .exit id, _, D, h => D = [] ∧ Ix (.exit id) (k + 1) h
  | _, _, _, _ => False
theorem rndA_n {K : Env → List Deferred → Hp → Prop} (H : K E D h) : RndA K .normal E D h := H
theorem rndQ_n {γ : Type} {Inv : Nat → γ → Prop} {HI : Nat → γ → Hp} {k : Nat} {Ix : Code → Nat → Hp → Prop} (g : γ) (h1 : Inv (k + 1) g) (h2 : List.Sublist (HI (k + 1) g) h) : RndQ Inv HI k Ix .normal E [] h := ⟨rfl, g, h1, h2⟩
theorem rndQ_r {γ : Type} {Inv : Nat → γ → Prop} {HI : Nat → γ → Hp} {k : Nat} {Ix : Code → Nat → Hp → Prop} (h1 : Ix .ret (k + 1) h) : RndQ Inv HI k Ix .ret E [] h := ⟨rfl, h1⟩
theorem puts_le {ps : List Nat} {vs : List Value} {E E' : Env} (hle : EnvLe E E') : EnvLe (puts E ps vs) (puts E' ps vs) := by
  induction ps generalizing vs E E' with
  | nil => simpa [puts] using hle
  | cons p ps ih =>
    cases vs with
    | nil => simpa [puts] using hle
    | cons v vs =>
      simp only [puts]
      refine ih (fun t u hu => ?_)
      simp only [Env.put] at hu ⊢
      cases hb : Nat.beq t p with
      | true => rw [hb] at hu; exact hu
      | false => rw [hb] at hu; exact hle t u hu
theorem xc_range2 {α γ : Type} {g : Operand} {ps : Array Tmp} {assign body : Code} {gf : FuncId} {fi lb : List Value} (enc : α → List Value) (all : List α) (core : Hp)
    (hg : ev E g = some (.func (.func gf) ⟨fi⟩ ⟨lb⟩)) (hb : HasBody P gf) (hit : Iter P gf fi lb enc all (fun h' => core ⊆ h')) (hps : ∀ x, (enc x).length = ps.size) (hpN : ∀ p ∈ ps.toList, p < N)
    (EI : Env) (Inv : Nat → γ → Prop) (HI : Nat → γ → Hp) (Ix : Code → Nat → Hp → Prop) (g0 : γ) (hm : Mon Q) (hle : EnvLe EI E) (h0 : Inv 0 g0) (hs0 : List.Sublist (HI 0 g0) h) (hcore : ∀ k g, core ⊆ HI k g)
    (round : ∀ l k x g, all[k]? = some x → Inv k g → XC P (some l) N assign (RndA (XC P (some l) N body (RndQ Inv HI k Ix))) (puts EI ps.toList (enc x)) [] (HI k g))
    (stop : ∀ k c j h', j ≤ all.length → Ix c j h' → k ∉ keys h' → XC P none N c Q E (markOf k :: D) ((k, .deferred (some [])) :: h'))
    (done : ∀ k g, Inv all.length g → k ∉ keys (HI all.length g) → Q .normal E (markOf k :: D) ((k, .deferred (some [])) :: HI all.length g)) : XC P none N (.rangeFunc g ps assign body) Q E D h := by
  refine xc_range enc all (fun h' => core ⊆ h') hg hb hit hps hpN (fun k h' => ∃ g, Inv k g ∧ List.Sublist (HI k g) h') Ix ?_ ?_ ⟨g0, h0, hs0⟩ ?_ ?_ stop
  · rintro k h' ⟨g, _, hs⟩ x y z hz
    exact List.mem_cons_of_mem _ (List.mem_cons_of_mem _ (hs.subset (hcore k g hz)))
  · intro h1 h2 hp hr z hz; exact (hp.mem_iff).1 (hr hz)
  · rintro l k x hx h' ⟨g, hi, hs⟩
    refine XC.mono (XC.weaken (puts_le hle) hs (round l k x g hx hi)) ?_
    intro e E1 D1 h1 q
    cases e with
    | normal =>
      refine ⟨rfl, XC.mono q ?_⟩
      intro e2 E2 D2 h2 q2
      cases e2 with
      | normal => exact q2
      | ret => exact q2
      | exit id => exact q2
      | _ => exact q2.elim
    | _ => exact q.elim
  · rintro k h' ⟨g, hi, hs⟩ hk
    have hk2 : k ∉ keys (HI all.length g) := fun hh => hk ((hs.map Prod.fst).subset hh)
    exact hm _ _ _ _ (hs.cons_cons _) (done k g hi hk2)
theorem body_retM {fn : Func} {R : Ending → Hp → Prop} {rl : List ResultVar} {vs : List Value} {k : Nat} (hrl : fn.results.toList = rl) (hr : ResOk P E h rl vs) (hs : List.Sublist h' h) (hk : (k, .deferred (some [])) ∈ h) (hn : k ∉ keys h') (H : R (.returned (tupV vs)) h') : BodyQ P fn R .ret E [markOf k] h :=
  ⟨⟨⟨k, rfl, hk, by simp⟩, trivial⟩, vs, h', by rw [hrl]; exact hr, hs, fun j hj => by simp [marked, markOf] at hj; subst hj; exact hn, H⟩
theorem nkeys {k : Nat} (hs : h ⊆ h') (hn : k ∉ keys h') : k ∉ keys h := fun hh => hn ((List.map_subset Prod.fst hs) hh)
theorem yieldTo {y : Value} {args : List Value} {g h0 : Hp} {J1 J2 : Hp → Prop} {R : Ending → Hp → Prop} (H : AFn P y args h0 (fun e h2 => (e = .returned (.bool true) ∧ J1 h2) ∨ (e = .returned (.bool false) ∧ J2 h2)))
    (H1 : ∀ h2, J1 h2 → R (.returned (.bool true)) (g ++ h2)) (H2 : ∀ h2, J2 h2 → R (.returned (.bool false)) (g ++ h2)) : AFn P y args (g ++ h0) R := by
  refine AFn.framed g (H.mono ?_)
  rintro e h2 (⟨rfl, hj⟩ | ⟨rfl, hj⟩)
  · exact H1 _ hj
  · exact H2 _ hj
theorem flat_at {α : Type} {enc : α → List Value} {sz : Nat} (henc : ∀ x, (enc x).length = sz) {x : α} (sp : List Value) : ∀ (xs : List α) (k : Nat), xs[k]? = some x → ((xs.flatMap enc ++ sp).drop (0 + k * sz)).take sz = enc x
  | [], k, hk => by simp at hk
  | q :: rs, 0, hk => by
    simp at hk; subst hk
    simp only [List.flatMap_cons, List.append_assoc, Nat.zero_mul, Nat.add_zero, List.drop_zero]
    rw [List.take_append_of_le_length (by rw [henc]; exact Nat.le_refl _), List.take_of_length_le (by rw [henc]; exact Nat.le_refl _)]
  | q :: rs, k + 1, hk => by
    have ih := flat_at henc sp rs k (by simpa using hk)
    rw [Nat.zero_add] at ih
    have e : 0 + (k + 1) * sz = (enc q).length + k * sz := by rw [henc, Nat.add_mul]; omega
    simp only [List.flatMap_cons, List.append_assoc]
    rw [e, ← List.drop_drop, List.drop_left]
    exact ih
theorem Vec.slv {α : Type} {V : Vec} {sz : Nat} {enc : α → List Value} (henc : ∀ x, (enc x).length = sz) {xs : List α} {t : TypeId} (hV : V.ok sz xs.length (xs.flatMap enc)) (hsub : V.hp t (xs.flatMap enc) ⊆ h) :
    ∃ a c, V.val xs.length = .slice a xs.length c ∧ SlV h sz enc a xs := by
  cases V with
  | nil =>
    obtain ⟨_, h0⟩ := hV
    have : xs = [] := List.length_eq_zero_iff.1 h0
    subst this
    exact ⟨none, 0, rfl, .inl rfl⟩
  | «at» b cap sp =>
    exact ⟨some ⟨b, 0, none⟩, cap, rfl, .inr ⟨b, 0, _, t, (0, 0), rfl, hsub List.mem_cons_self, fun i x hx => flat_at henc sp xs i hx⟩⟩
end Go.H

/-
  '==' of structs and arrays of numbers; ranges over maps.
-/
namespace Go.H
open Go
variable {P : Program} {r : Option Nat} {N : Nat} {Q : Post} {E : Env} {D : List Deferred} {h h' : Hp}
variable {K : Value → Hp → Prop} {T : List PanicEntry → Hp → Prop} {dst : Option Nat} {ty : TypeId} {pos : String} {af : Array Edge} {gd : Option (Nat × Bool)}
def eqc : List Value → List Value → Bool
  | [], [] => true
  | .int _ a :: xs, .int _ b :: ys => a == b && eqc xs ys
  | .bool a :: xs, .bool b :: ys => a == b && eqc xs ys
  | _, _ => false
def Num (v : Value) : Prop := ∃ n, v = .int .i64 n
def pk : Bool → List Value → Value
  | true, xs => .agg ⟨xs⟩
  | false, x :: _ => x
  | false, [] => undef
def Flat (P : Program) (n : Nat) (t : TypeId) (sz : Nat) (agg : Bool) : Prop :=
  ∀ d, n ≤ d → ∀ xs ys : List Value, xs.length = sz → ys.length = sz → (∀ x ∈ xs, Num x) → (∀ y ∈ ys, Num y) → ∀ w, (Op.equalIn d t (pk agg xs) (pk agg ys)).run P w = .ok (eqc xs ys) w
theorem flat_int {t : TypeId} (ht : P.underlying t = some (.int .i64)) : Flat P 1 t 1 false := by
  intro d hd xs ys hx hy nx ny w
  obtain ⟨d, rfl⟩ : ∃ e, d = e + 1 := ⟨d - 1, by omega⟩
  match xs, ys, hx, hy with
  | [x], [y], _, _ =>
    obtain ⟨a, rfl⟩ := nx x List.mem_cons_self
    obtain ⟨b, rfl⟩ := ny y List.mem_cons_self
    simp only [pk]
    rw [run_equalIn_int w d t .i64 .i64 a b ht]
    simp [eqc]
theorem eqc_append : ∀ {xs ys us vs : List Value}, xs.length = ys.length → (∀ x ∈ xs, Num x) → (∀ y ∈ ys, Num y) → eqc (xs ++ us) (ys ++ vs) = (eqc xs ys && eqc us vs)
  | [], [], us, vs, _, _, _ => by simp [eqc]
  | x :: xs, y :: ys, us, vs, hl, hx, hy => by
    obtain ⟨a, rfl⟩ := hx x List.mem_cons_self
    obtain ⟨b, rfl⟩ := hy y List.mem_cons_self
    have := eqc_append (us := us) (vs := vs) (by simpa using hl) (fun x h => hx x (List.mem_cons_of_mem _ h)) (fun y h => hy y (List.mem_cons_of_mem _ h))
    simp only [List.cons_append, eqc, this, Bool.and_assoc]
inductive FlatF (P : Program) (n : Nat) : List Field → Nat → Nat → Prop
  | nil {o : Nat} : FlatF P n [] o o
  | cons {f : Field} {fs : List Field} {o s e : Nat} {d : TD} (hn : f.name ≠ "_") (ho : f.offset = o) (hd : TyOk P f.type d) (hs : d.size = s) (hf : Flat P n f.type s (aggB d.und)) (h0 : 0 < s) (h1 : (aggB d.und || Nat.beq s 1) = true) (hr : FlatF P n fs (o + s) e) : FlatF P n (f :: fs) o e
theorem FlatF.le {n : Nat} {fs : List Field} {o e : Nat} (H : FlatF P n fs o e) : o ≤ e := by
  induction H with
  | nil => exact Nat.le_refl _
  | cons _ _ _ _ _ _ _ ih => omega
theorem part_run {t : TypeId} {d : TD} (ht : TyOk P t d) {xs : List Value} {o : Nat} (h0 : 0 < d.size) (hl : o + d.size ≤ xs.length) (h1 : aggB d.und = false → d.size = 1) (w : World) : (part t ⟨xs⟩ o).run P w = .ok (pk (aggB d.und) ((xs.drop o).take d.size)) w := by
  cases ha : aggB d.und with
  | true => simp [part, ht.run_agg, ha, ht.run_size, pk]
  | false =>
    have h1 := h1 ha
    have hlt : o < xs.length := by omega
    rw [h1]
    have e : (xs.drop o).take 1 = [xs[o]] := by rw [List.drop_eq_getElem_cons hlt]; rfl
    rw [e]
    simp [part, ht.run_agg, ha, pk, hlt]
theorem seg_num {xs : List Value} (hx : ∀ x ∈ xs, Num x) (o n : Nat) : ∀ x ∈ (xs.drop o).take n, Num x := fun x hm => hx x (List.mem_of_mem_drop (List.mem_of_mem_take hm))
theorem seg_split (xs : List Value) (o s : Nat) : xs.drop o = (xs.drop o).take s ++ xs.drop (o + s) := by
  rw [← List.drop_drop, List.take_append_drop]
theorem flatF_run {n : Nat} : ∀ {fs : List Field} {o e : Nat}, FlatF P n fs o e → ∀ d, n ≤ d → ∀ xs ys : List Value, xs.length = e → ys.length = e → (∀ x ∈ xs, Num x) → (∀ y ∈ ys, Num y) → ∀ w, (Op.eqFields d ⟨xs⟩ ⟨ys⟩ fs).run P w = .ok (eqc (xs.drop o) (ys.drop o)) w := by
  intro fs o e H
  induction H with
  | nil =>
    intro d hd xs ys hx hy nx ny w
    rw [List.drop_eq_nil_of_le (by omega), List.drop_eq_nil_of_le (by omega)]
    simp [Op.eqFields, eqc]
  | @cons f fs o s e td hn ho hd hs hf h0 h1 hr ih =>
    intro d hdn xs ys hx hy nx ny w
    have hle := hr.le
    subst hs
    have hs1 : aggB td.und = false → td.size = 1 := fun ha => by simpa [ha] using h1
    have lx : ((xs.drop o).take td.size).length = td.size := by simp; omega
    have ly : ((ys.drop o).take td.size).length = td.size := by simp; omega
    have pa := part_run hd (xs := xs) (o := o) h0 (by omega) hs1 w
    have pb := part_run hd (xs := ys) (o := o) h0 (by omega) hs1 w
    have pe := hf d hdn _ _ lx ly (seg_num nx o _) (seg_num ny o _) w
    have hrest := ih d hdn xs ys hx hy nx ny w
    rw [seg_split xs o td.size, seg_split ys o td.size, eqc_append (by rw [lx, ly]) (seg_num nx o _) (seg_num ny o _)]
    simp only [Op.eqFields, if_pos hn, ho, Sem.run_bind, pa, pb, pe, Result.andThen_ok]
    cases eqc ((xs.drop o).take td.size) ((ys.drop o).take td.size)
    · simp
    · simpa using hrest
theorem flat_struct {n : Nat} {t : TypeId} {fs : Array Field} {sz : Nat} (hu : P.underlying t = some (.struct fs)) (hp : P.stoodInHeld t = false) (hf : FlatF P n fs.toList 0 sz) : Flat P (n + 1) t sz true := by
  intro d hd xs ys hx hy nx ny w
  obtain ⟨d, rfl⟩ : ∃ e, d = e + 1 := ⟨d - 1, by omega⟩
  have hfo : P.fieldsOf t = fs := by simp [Program.fieldsOf, hu]
  show (Op.equalIn (d + 1) t (.agg ⟨xs⟩) (.agg ⟨ys⟩)).run P w = _
  rw [run_equalIn_struct w d t ⟨xs⟩ ⟨ys⟩ (by rw [hfo]; exact hu) hp, hfo]
  have := flatF_run hf d (by omega) xs ys hx hy nx ny w
  simpa using this
theorem Flat.le {n m sz : Nat} {t : TypeId} {agg : Bool} (H : Flat P n t sz agg) (hm : Nat.ble n m = true) : Flat P m t sz agg := fun d hd => H d (Nat.le_trans (Nat.le_of_ble_eq_true hm) hd)
theorem numNil : ∀ x ∈ ([] : List Value), Num x := fun _ hx => by cases hx
theorem numCons {n : Int} {xs : List Value} (H : ∀ x ∈ xs, Num x) : ∀ x ∈ (Value.int .i64 n :: xs), Num x := fun x hx => by
  rcases List.mem_cons.1 hx with rfl | hx
  · exact ⟨_, rfl⟩
  · exact H x hx
theorem numApp {xs ys : List Value} (H1 : ∀ x ∈ xs, Num x) (H2 : ∀ y ∈ ys, Num y) : ∀ x ∈ xs ++ ys, Num x := fun x hx => (List.mem_append.1 hx).elim (H1 x) (H2 x)
theorem guard_ok {op : BinOp} {t : TypeId} {x y : Operand} {xs ys : List Value} (hg : P.eqGuardType P.depth t = false) (w : World) : (eqGuard op t x y (.agg ⟨xs⟩) (.agg ⟨ys⟩)).run P w = .ok () w := by
  unfold eqGuard
  cases op <;> simp [hg]
theorem xv_eqA {n sz : Nat} {xt yt : TypeId} {x y : Operand} {xs ys : List Value} {b : Bool} (hf : Flat P n xt sz true) (hn : Nat.ble n 10000 = true) (hg : P.eqGuardType P.depth xt = false) (hx : ev E x = some (.agg ⟨xs⟩)) (hy : ev E y = some (.agg ⟨ys⟩)) (lx : xs.length = sz) (ly : ys.length = sz) (nx : ∀ x ∈ xs, Num x) (ny : ∀ y ∈ ys, Num y) (hb : eqc xs ys = b)
    (H : K (.bool b) h) : XV P r ⟨dst, .binOp .eql xt x y yt, ty, pos, af, gd⟩ K T E h :=
  xv_of_run (by simp [plainOp]) fun w ρ ho he => ⟨_, h, w, by
    have hq : (binOp .eql xt (.agg ⟨xs⟩) (.agg ⟨ys⟩)).run P w = .ok (.bool b) w := by
      rw [run_eql_struct, show (Op.equalIn 10000 xt (.agg ⟨xs⟩) (.agg ⟨ys⟩)).run P w = _ from hf 10000 (Nat.le_of_ble_eq_true hn) xs ys lx ly nx ny w, hb]; rfl
    rw [run_bin (he _ _ hx) (he _ _ hy) (guard_ok hg), hq]; rfl, H, .refl ho⟩
theorem xv_neA {n sz : Nat} {xt yt : TypeId} {x y : Operand} {xs ys : List Value} {b : Bool} (hf : Flat P n xt sz true) (hn : Nat.ble n 10000 = true) (hg : P.eqGuardType P.depth xt = false) (hx : ev E x = some (.agg ⟨xs⟩)) (hy : ev E y = some (.agg ⟨ys⟩)) (lx : xs.length = sz) (ly : ys.length = sz) (nx : ∀ x ∈ xs, Num x) (ny : ∀ y ∈ ys, Num y) (hb : (!eqc xs ys) = b)
    (H : K (.bool b) h) : XV P r ⟨dst, .binOp .neq xt x y yt, ty, pos, af, gd⟩ K T E h :=
  xv_of_run (by simp [plainOp]) fun w ρ ho he => ⟨_, h, w, by
    have hq : (binOp .neq xt (.agg ⟨xs⟩) (.agg ⟨ys⟩)).run P w = .ok (.bool b) w := by
      rw [run_neq_struct, show (Op.equalIn 10000 xt (.agg ⟨xs⟩) (.agg ⟨ys⟩)).run P w = _ from hf 10000 (Nat.le_of_ble_eq_true hn) xs ys lx ly nx ny w, ← hb]; rfl
    rw [run_bin (he _ _ hx) (he _ _ hy) (guard_ok hg), hq]; rfl, H, .refl ho⟩
structure Lay (es : List MapEntry) (c : Nat) : Prop where
  ai : AllInt es
  lt : ∀ e ∈ es, e.born < c
  nd : (es.map (·.born)).Nodup
  kd : es.Pairwise (fun x y => x.key ≠ y.key)
theorem Lay.empty (c : Nat) : Lay [] c := ⟨fun _ he => (by cases he), fun _ he => (by cases he), List.nodup_nil, List.Pairwise.nil⟩
theorem Lay.get {es : List MapEntry} {c : Nat} (H : Lay es c) {e : MapEntry} (he : e ∈ es) : ∃ k, e.key = .int .i64 k ∧ mget es k = some e.val := by
  obtain ⟨k, hk⟩ := H.ai e he
  refine ⟨k, hk, ?_⟩
  have hkd := H.kd
  have hai := H.ai
  clear H
  unfold mget
  suffices hs : ∀ i, (mfind k es i).map (·.2) = some e.val from hs 0
  induction es with
  | nil => cases he
  | cons x es ih =>
    intro i
    obtain ⟨j, hj⟩ := hai x List.mem_cons_self
    obtain ⟨h1, h2⟩ := List.pairwise_cons.1 hkd
    simp only [mfind, hj]
    rcases List.mem_cons.1 he with rfl | he
    · rw [hj] at hk; injection hk with _ hk; rw [if_pos hk.symm]; rfl
    · have hne : ¬ k = j := fun hq => h1 e he (by rw [hj, hk, hq])
      rw [if_neg hne]
      exact ih he h2 (fun e he => hai e (List.mem_cons_of_mem _ he)) (i + 1)
end Go.H


/-
  The logic of owned blocks over the kit, part HE.
-/
set_option linter.all false
/-
  Rules for the laws' walks: bools that are compared, comparisons that are known.
-/
namespace Go.H
open Go
variable {P : Program} {r : Option Nat} {E : Env} {h : Hp}
variable {K : Value → Hp → Prop} {T : List PanicEntry → Hp → Prop} {dst : Option Nat} {ty : TypeId} {pos : String} {af : Array Edge} {gd : Option (Nat × Bool)} {xt yt : TypeId} {x y : Operand}
theorem equalB {t : TypeId} (ht : P.underlying t = some .bool) (a b : Bool) (w : World) : (Op.equalIn (9999 + 1) t (.bool a) (.bool b)).run P w = .ok (a == b) w := by
  have hq0 : ∀ n, (Op.equalIn (n + 1) t (.bool a) (.bool b)).run P w = .ok (a == b) w := fun n => by
    simp only [Op.equalIn, Sem.run_bind, run_underlying ht, Result.andThen_ok, Sem.run_pure]
  exact hq0 9999
theorem xv_eqB {a b c : Bool} (ht : P.underlying xt = some .bool) (hx : ev E x = some (.bool a)) (hy : ev E y = some (.bool b)) (hc : (a == b) = c) (H : K (.bool c) h) : XV P r ⟨dst, .binOp .eql xt x y yt, ty, pos, af, gd⟩ K T E h :=
  xv_of_run (by simp [plainOp]) fun w ρ ho he => ⟨_, h, w, by
    have hg : ∀ w, (eqGuard .eql xt x y (.bool a) (.bool b)).run P w = .ok () w := fun w => by unfold eqGuard; simp
    rw [run_bin (he _ _ hx) (he _ _ hy) hg]
    have hb : (binOp .eql xt (.bool a) (.bool b)).run P w = .ok (.bool (a == b)) w := by
      show (do let b ← Op.equalIn (9999 + 1) xt _ _; pure (Value.bool b) : Sem Value).run P w = _
      simp only [Sem.run_bind, equalB ht, Result.andThen_ok, Sem.run_pure]
    rw [hb]; subst hc; rfl, H, .refl ho⟩
theorem xv_cmpK {op : BinOp} {k : IntKind} {a b : Int} {c : Bool} (hx : ev E x = some (.int k a)) (hy : ev E y = some (.int k b)) (hc : cmpB op a b = some c) (H : K (.bool c) h) : XV P r ⟨dst, .binOp op xt x y yt, ty, pos, af, gd⟩ K T E h := xv_cmp hx hy hc H
theorem cmpT {op : BinOp} {a b : Int} (hp : cmpP op a b) : cmpB op a b = some true := by
  cases op <;> simp only [cmpP] at hp <;> simp [cmpB, hp]
theorem cmpF {op : BinOp} {a b : Int} (hq : (cmpB op a b).isSome = true) (hp : ¬ cmpP op a b) : cmpB op a b = some false := by
  cases op <;> simp only [cmpP] at hp <;> simp [cmpB] at hq ⊢ <;> omega
theorem slvL {α : Type} {sz : Nat} {enc : α → List Value} {b t : Nat} {fz : Nat × Nat} {xs : List α} (henc : ∀ x, (enc x).length = sz) (hm : (b, .cells ⟨xs.flatMap enc⟩ t fz) ∈ h) : SlV h sz enc (some ⟨b, 0, none⟩) xs := by
  refine .inr ⟨b, 0, xs.flatMap enc, t, fz, rfl, hm, fun i x hx => ?_⟩
  have := flat_at henc [] xs i hx
  simpa using this
end Go.H

/-
  From what an input reads as to the blocks that a walk owns: all blocks of the memory are owned, each stays.
-/
namespace Go.H
open Go Go.RowKit
def full (w : World) : Hp := (List.range w.heap.size).filterMap fun i => (w.heap[i]?).map fun o => (i, o)
theorem mem_full {w : World} {b : Nat} {o : Obj} : (b, o) ∈ full w ↔ w.heap[b]? = some o := by
  unfold full
  rw [List.mem_filterMap]
  constructor
  · rintro ⟨i, _, hi⟩
    cases ho : w.heap[i]? with
    | none => simp [ho] at hi
    | some o' => simp [ho] at hi; obtain ⟨rfl, rfl⟩ := hi; exact ho
  · intro ho
    refine ⟨b, List.mem_range.2 (Array.getElem?_eq_some_iff.1 ho).1, by simp [ho]⟩
theorem full_nd (w : World) : (keys (full w)).Nodup := by
  unfold keys full
  rw [List.map_filterMap]
  have hsub : List.Sublist ((List.range w.heap.size).filterMap fun i => ((w.heap[i]?).map fun o => (i, o)).map (·.1)) (List.range w.heap.size) := by
    generalize List.range w.heap.size = l
    induction l with
    | nil => exact List.Sublist.refl _
    | cons x l ih =>
      rw [List.filterMap_cons]
      cases hx : w.heap[x]? with
      | none => simpa [hx] using List.Sublist.cons _ ih
      | some o => simpa [hx] using List.Sublist.cons_cons x ih
  exact hsub.nodup List.nodup_range
theorem own_full (w : World) : Own (full w) w := ⟨full_nd w, fun _ _ hm => mem_full.1 hm⟩
theorem calls_of_full {P : Program} {f : FuncId} {args : Array Value} {W : World} {v : Value} (H : ∀ R : Ending → Hp → Prop, R (.returned v) (full W) → ACalls P f args (full W) R) : Calls P f args W fun e W' => e = .returned v ∧ Below W.heap.size W W' := by
  refine (H (fun e h' => e = .returned v ∧ h' = full W) ⟨rfl, rfl⟩ W (own_full W)).mono ?_
  rintro e w' ⟨h', ⟨rfl, rfl⟩, hf⟩
  refine ⟨rfl, hf.os, hf.tape, hf.output, hf.size, fun k hk => ?_⟩
  obtain ⟨o, ho⟩ : ∃ o, W.heap[k]? = some o := ⟨_, Array.getElem?_eq_getElem hk⟩
  rw [ho]
  exact hf.own.has _ _ (mem_full.2 ho)
section
variable {H : Type} {enc : TypeId × Value → H} {P : Program} {w : World} {sp : Nat → Bool} {held : Bool}
theorem trod_struct_open {t : TypeId} {fs : Array Field} (ht : P.underlying t = some (.struct fs)) {fuel : Nat} {cs : List Value} {x : DataW H × List MemPlace} (h : DataW.trod enc P w 0 sp held fuel t cs = some x) :
    cs.length = P.cellsOf t ∧ ∀ f ∈ fs.toList, ∃ n y, DataW.trod enc P w 0 sp held n f.type ((cs.drop f.offset).take (P.cellsOf f.type)) = some y := by
  cases fuel with
  | zero => simp [DataW.trod] at h
  | succ fuel =>
    unfold DataW.trod at h
    rw [ht] at h
    simp only at h
    split at h
    · rename_i hl
      refine ⟨hl, fun f hf => ?_⟩
      cases hm : fs.toList.mapM fun f => DataW.trod enc P w 0 sp held fuel f.type ((cs.drop f.offset).take (P.cellsOf f.type)) with
      | none => rw [hm] at h; cases h
      | some xs =>
        have key : ∀ (l : List Field) (ys : List (DataW H × List MemPlace)), (l.mapM fun f => DataW.trod enc P w 0 sp held fuel f.type ((cs.drop f.offset).take (P.cellsOf f.type))) = some ys → ∀ f ∈ l, ∃ y, DataW.trod enc P w 0 sp held fuel f.type ((cs.drop f.offset).take (P.cellsOf f.type)) = some y := by
          intro l
          induction l with
          | nil => intro _ _ f hf; cases hf
          | cons g l ih =>
            intro ys hy f hf
            rw [List.mapM_cons] at hy
            cases hg : DataW.trod enc P w 0 sp held fuel g.type ((cs.drop g.offset).take (P.cellsOf g.type)) with
            | none => rw [hg] at hy; cases hy
            | some y =>
              rw [hg] at hy
              cases hr : l.mapM fun f => DataW.trod enc P w 0 sp held fuel f.type ((cs.drop f.offset).take (P.cellsOf f.type)) with
              | none => rw [hr] at hy; cases hy
              | some zs =>
                rcases List.mem_cons.1 hf with rfl | hf
                · exact ⟨y, hg⟩
                · exact ih zs hr f hf
        obtain ⟨y, hy⟩ := key _ _ hm f hf
        exact ⟨fuel, y, hy⟩
    · cases h
theorem mapM_range {α : Type} {f : Nat → Option α} : ∀ {n : Nat} {ys : List α}, (List.range n).mapM f = some ys → ys.length = n ∧ ∀ i, i < n → ∃ y, f i = some y ∧ ys[i]? = some y := by
  have key : ∀ (l : List Nat) (ys : List α), l.mapM f = some ys → l.length = ys.length ∧ ∀ (i x : Nat), l[i]? = some x → ∃ y, f x = some y ∧ ys[i]? = some y := by
    intro l
    induction l with
    | nil => intro ys hy; cases hy; exact ⟨rfl, fun i x hx => by simp at hx⟩
    | cons g l ih =>
      intro ys hy
      rw [List.mapM_cons] at hy
      cases hg : f g with
      | none => rw [hg] at hy; cases hy
      | some y =>
        rw [hg] at hy
        cases hr : l.mapM f with
        | none => rw [hr] at hy; cases hy
        | some zs =>
          rw [hr] at hy
          injection hy with hy
          subst hy
          refine ⟨by simp [(ih zs hr).1], fun i x hx => ?_⟩
          cases i with
          | zero => simp at hx; subst hx; exact ⟨y, hg, rfl⟩
          | succ i => simp at hx; obtain ⟨y', h1, h2⟩ := (ih zs hr).2 i x hx; exact ⟨y', h1, by simpa using h2⟩
  intro n ys hy
  exact ⟨by have := (key _ _ hy).1; simpa using this.symm, fun i hi => (key _ _ hy).2 i i (by simp [hi])⟩
theorem trod_slice_open {t e : TypeId} {sz : Nat} (ht : P.underlying t = some (.slice e)) (hsz : P.cellsOf e = sz) {fuel : Nat} {cs : List Value} {x : DataW H × List MemPlace} (h : DataW.trod enc P w 0 sp held fuel t cs = some x) :
    ∃ a len cap, cs = [.slice a len cap] ∧ len ≤ 9223372036854775807 ∧ (a = none ∧ len = 0 ∨ ∃ ad, a = some ad ∧ ∀ i, i < len → ∃ l n y, w.cells? 0 (ad.add (i * sz)) sz = some l ∧ DataW.trod enc P w 0 sp held n e l = some y) := by
  cases fuel with
  | zero => simp [DataW.trod] at h
  | succ fuel =>
    unfold DataW.trod at h
    rw [ht] at h
    split at h <;> first | (simp at *; done) | skip
    · exact ⟨none, 0, 0, rfl, by decide, .inl ⟨rfl, rfl⟩⟩
    · rename_i e' a len cap hq
      cases hq
      simp only at h
      split at h
      · rename_i hc
        rw [hsz] at h
        refine ⟨some a, len, cap, rfl, Nat.le_trans hc.2.1 (Nat.le_trans hc.2.2 (by decide)), .inr ⟨a, rfl, fun i hi => ?_⟩⟩
        cases hm : (List.range len).mapM fun i => (w.cells? 0 (a.add (i * sz)) sz).bind (DataW.trod enc P w 0 sp held fuel e) with
        | none => rw [hm] at h; cases h
        | some ys =>
          obtain ⟨y, hy, _⟩ := (mapM_range hm).2 i hi
          cases hl : w.cells? 0 (a.add (i * sz)) sz with
          | none => rw [hl] at hy; cases hy
          | some l => rw [hl] at hy; exact ⟨l, fuel, y, rfl, hy⟩
      · cases h
theorem cells_at {a : Addr} {sz : Nat} {l : List Value} (h0 : 0 < sz) (h : w.cells? 0 a sz = some l) : ∃ c t fz, a.spot = none ∧ w.heap[a.block]? = some (.cells c t fz) ∧ (c.toList.drop a.off).take sz = l := by
  unfold World.cells? at h
  rw [if_pos (Nat.zero_le _)] at h
  obtain ⟨hlen, h1⟩ := mapM_range h
  obtain ⟨v0, hv0, _⟩ := h1 0 h0
  have hadd0 : a.add 0 = a := rfl
  rw [hadd0] at hv0
  unfold World.cell? at hv0
  cases hb : w.heap[a.block]? with
  | none => simp [hb] at hv0
  | some o =>
    rw [hb] at hv0
    cases o with
    | cells c t fz =>
      simp only at hv0
      cases hs : a.spot with
      | some s => simp [hs] at hv0
      | none =>
        refine ⟨c, t, fz, rfl, rfl, ?_⟩
        apply List.ext_getElem?
        intro i
        by_cases hi : i < sz
        · obtain ⟨v, hv, hl⟩ := h1 i hi
          rw [List.getElem?_take, if_pos hi, List.getElem?_drop, hl]
          have hadd : (a.add i).block = a.block ∧ (a.add i).off = a.off + i ∧ (a.add i).spot = none := by
            unfold Addr.add
            split
            · rename_i hz; subst hz; exact ⟨rfl, rfl, hs⟩
            · exact ⟨rfl, rfl, rfl⟩
          unfold World.cell? at hv
          rw [hadd.1, hb] at hv
          simp only [hadd.2.2, hadd.2.1, Option.isSome_none] at hv
          rw [← hv]
          simp
        · rw [List.getElem?_take, if_neg hi, List.getElem?_eq_none (by omega)]
    | _ => simp at hv0
theorem list_of {α : Type} {Q : Nat → α → Prop} : ∀ (n : Nat), (∀ i, i < n → ∃ x, Q i x) → ∃ xs : List α, xs.length = n ∧ ∀ i x, xs[i]? = some x → Q i x
  | 0, _ => ⟨[], rfl, fun i x hx => by simp at hx⟩
  | n + 1, h => by
    obtain ⟨xs, h1, h2⟩ := list_of n fun i hi => h i (by omega)
    obtain ⟨x, hx⟩ := h n (by omega)
    refine ⟨xs ++ [x], by simp [h1], fun i y hy => ?_⟩
    by_cases hi : i < xs.length
    · rw [List.getElem?_append_left hi] at hy; exact h2 i y hy
    · rw [List.getElem?_append_right (by omega)] at hy
      have : i - xs.length = 0 := by
        have := (List.getElem?_eq_some_iff.1 hy).1
        simp at this; omega
      rw [this] at hy
      simp at hy; subst hy
      have : i = n := by omega
      subst this; exact hx
theorem open_slv {α : Type} {en : α → List Value} {t e : TypeId} {sz : Nat} (ht : P.underlying t = some (.slice e)) (hsz : P.cellsOf e = sz) (h0 : 0 < sz) (he : ∀ n l y, DataW.trod enc P w 0 sp held n e l = some y → ∃ x, l = en x)
    {fuel : Nat} {cs : List Value} {x : DataW H × List MemPlace} (h : DataW.trod enc P w 0 sp held fuel t cs = some x) :
    ∃ a cap xs, cs = [.slice a (xs : List α).length cap] ∧ xs.length ≤ 9223372036854775807 ∧ SlV (full w) sz en a xs := by
  obtain ⟨a, len, cap, rfl, hlen, hq⟩ := trod_slice_open ht hsz h
  rcases hq with ⟨rfl, rfl⟩ | ⟨ad, rfl, hq⟩
  · exact ⟨none, cap, [], rfl, by simp, .inl rfl⟩
  · obtain ⟨xs, hx1, hx2⟩ := list_of (α := α) (Q := fun i x => w.cells? 0 (ad.add (i * sz)) sz = some (en x)) len fun i hi => by
      obtain ⟨l, n, y, hl, hy⟩ := hq i hi
      obtain ⟨x, rfl⟩ := he n l y hy
      exact ⟨x, hl⟩
    subst hx1
    refine ⟨some ad, cap, xs, rfl, hlen, ?_⟩
    cases xs with
    | nil => exact .inl rfl
    | cons x0 xs =>
      have h1 := hx2 0 x0 rfl
      rw [Nat.zero_mul] at h1
      obtain ⟨c, t', fz, hs, hb, _⟩ := cells_at h0 h1
      have hs' : ad.spot = none := hs
      refine .inr ⟨ad.block, ad.off, c.toList, t', fz, ?_, mem_full.2 hb, fun i x hx => ?_⟩
      · cases ad; simp at hs'; simp [hs']
      · obtain ⟨c', t2, fz2, hs2, hb2, hd⟩ := cells_at h0 (hx2 i x hx)
        have hadd : (ad.add (i * sz)).block = ad.block ∧ (ad.add (i * sz)).off = ad.off + i * sz := by
          unfold Addr.add
          split
          · rename_i hz; rw [hz]; exact ⟨rfl, rfl⟩
          · exact ⟨rfl, rfl⟩
        rw [hadd.1] at hb2
        have hb' : w.heap[ad.block]? = some (.cells c t' fz) := hb
        rw [hb'] at hb2
        cases hb2
        rw [← hadd.2]; exact hd
end
end Go.H

/-
  Rules: numbers of other kinds as int; the first part of a slice.
-/
namespace Go.H
open Go
variable {P : Program} {r : Option Nat} {E : Env} {h h' : Hp}
variable {K : Value → Hp → Prop} {T : List PanicEntry → Hp → Prop} {dst : Option Nat} {ty : TypeId} {pos : String} {af : Array Edge} {gd : Option (Nat × Bool)}
theorem xv_convI {s t : TypeId} {x : Operand} {k k' : IntKind} {n m : Int} (hs : P.underlying s = some (.int k)) (ht : P.underlying t = some (.int k')) (hx : ev E x = some (.int k n)) (hw : k'.wrap n = m) (H : K (.int k' m) h) : XV P r ⟨dst, .convert s t x, ty, pos, af, gd⟩ K T E h :=
  xv_of_run (by simp [plainOp]) fun w ρ ho he => ⟨_, h, w, by
    simp only [execOp, he _ _ hx]
    simp [Go.convert, run_underlying hs, run_underlying ht, Conv.intToInt, hw], H, .refl ho⟩
theorem addr_add0 (a : Addr) : a.add 0 = a := rfl
theorem xv_sliceTo {x y : Operand} {t e : TypeId} {d : TD} {a : Option Addr} {n c : Nat} {k : IntKind} {i : Int} (ht : SlT P t e) (hd : TyOk P e d) (hx : ev E x = some (.slice a n c)) (hy : ev E y = some (.int k i)) (h0 : 0 ≤ i) (h1 : i ≤ c)
    (H : K (.slice a i.toNat c) h) : XV P r ⟨dst, .slice t x none (some y) none, ty, pos, af, gd⟩ K T E h :=
  xv_of_run (by simp [plainOp]) fun w ρ ho he => ⟨_, h, w, by
    have hadd : (if c = 0 then a else a.map (fun z => z.add (0 * d.size))) = a := by
      split
      · rfl
      · cases a <;> simp [addr_add0]
    simp only [execOp, he _ _ hx, Option.map_none, Option.map_some, he _ _ hy]
    simp [Instr.sliceAt, run_underlying ht, Instr.slice, Instr.sliceBounds, run_sliceBoundH h0 h1, hd.run_size, hadd]
    intro _
    cases a <;> simp [addr_add0], H, .refl ho⟩
theorem xv_sliceToN {x y : Operand} {t e : TypeId} {d : TD} {a : Option Addr} {n c m : Nat} {k : IntKind} {i : Int} (ht : SlT P t e) (hd : TyOk P e d) (hx : ev E x = some (.slice a n c)) (hy : ev E y = some (.int k i)) (h0 : 0 ≤ i) (h1 : i ≤ c) (hm : i.toNat = m)
    (H : K (.slice a m c) h) : XV P r ⟨dst, .slice t x none (some y) none, ty, pos, af, gd⟩ K T E h := by
  subst hm; exact xv_sliceTo ht hd hx hy h0 h1 H
theorem SlV.take {α : Type} {sz : Nat} {enc : α → List Value} {a : Option Addr} {xs : List α} (H : SlV h sz enc a xs) (k : Nat) : SlV h sz enc a (xs.take k) := by
  rcases H with rfl | ⟨b, o, l, t, fz, h1, h2, h3⟩
  · exact .inl (by simp)
  · refine .inr ⟨b, o, l, t, fz, h1, h2, fun i x hx => h3 i x ?_⟩
    rw [List.getElem?_take] at hx
    split at hx
    · exact hx
    · cases hx
theorem slv_flat2 {α : Type} {enc : α → List Value} {sz : Nat} (henc : ∀ x, (enc x).length = sz) : ∀ {xs : List α} {l : List Value} {o : Nat}, (∀ (i : Nat) (x : α), xs[i]? = some x → (l.drop (o + i * sz)).take sz = enc x) → (l.drop o).take (xs.length * sz) = xs.flatMap enc
  | [], l, o, _ => by simp
  | x :: xs, l, o, h => by
    have h0 := h 0 x rfl
    rw [Nat.zero_mul, Nat.add_zero] at h0
    have ih := slv_flat2 henc (xs := xs) (l := l) (o := o + sz) (fun i y hy => by have := h (i + 1) y (by simpa using hy); rwa [Nat.add_mul, Nat.one_mul, Nat.add_comm (i * sz) sz, ← Nat.add_assoc] at this)
    rw [List.flatMap_cons, ← h0, ← ih, List.length_cons, Nat.add_mul, Nat.one_mul, Nat.add_comm (xs.length * sz) sz, List.take_add, List.drop_drop]
theorem flat_all {α : Type} {enc : α → List Value} (h1 : ∀ x, (enc x).all Value.oneCell' = true) (xs : List α) : (xs.flatMap enc).all Value.oneCell' = true := by
  induction xs with
  | nil => rfl
  | cons x xs ih => rw [List.flatMap_cons, List.all_append, h1, ih]; rfl
theorem flat_lenM {α : Type} {enc : α → List Value} {sz : Nat} (henc : ∀ x, (enc x).length = sz) (xs : List α) : (xs.flatMap enc).length = xs.length * sz := by
  induction xs with
  | nil => simp
  | cons x xs ih => rw [List.flatMap_cons, List.length_append, henc, ih, List.length_cons, Nat.add_mul]; omega
theorem xv_copy {α : Type} {enc : α → List Value} {x y : Operand} {t e : TypeId} {d : TD} {b cl sz : Nat} {al : Option Addr} {xs : List α} {g : Hp} (ht : SlT P t e) (hd : TyOk P e d) (hzs : d.zero.cells.size = d.size) (hsz : d.size = sz)
    (hx : ev E x = some (.slice (some ⟨b, 0, none⟩) 0 0)) (hy : ev E y = some (.slice al xs.length cl)) (hl : SlV g sz enc al xs) (henc : ∀ x, (enc x).length = sz) (h1 : ∀ x, (enc x).all Value.oneCell' = true)
    (hb : 2 * xs.length * d.bytes ≤ 281474976710656) (h63 : xs.length ≤ 9223372036854775807)
    (H : ∀ V : Vec, V.ok sz xs.length (xs.flatMap enc) → K (V.val xs.length) (V.hp e (xs.flatMap enc) ++ g)) : XV P r ⟨dst, .call ⟨.builtin .append, #[x, y], #[t, t]⟩, ty, pos, af, gd⟩ K T E ((b, .cells ⟨[]⟩ e (0, 0)) :: g) := by
  subst hsz
  cases xs with
  | nil =>
    refine xv_append0 ht hd hx (c' := cl) (a' := al) hy (Nat.le_refl _) ?_
    exact H (.at b 0 []) ⟨by simp, Nat.le_refl _, by simp⟩
  | cons x0 xs0 =>
    obtain ⟨b9, o9, li, t9, fz, hal, hm, hx9⟩ := hl.at (i := 0) (by simp)
    subst hal
    refine xv_append (V := .at b 0 []) (n := 0) (xs := []) ht hd hzs hx hy ⟨by simp, Nat.le_refl _, by simp⟩ .here hm (slv_flat2 henc hx9) (flat_lenM henc _) (flat_all h1 _) (by simp) (by simpa using hb) (by simpa using h63) ?_
    intro V hV
    have hn : 0 + (x0 :: xs0).length = (x0 :: xs0).length := Nat.zero_add _
    rw [hn] at hV ⊢
    exact H V hV
theorem splice_flat {α : Type} {enc : α → List Value} {sz : Nat} (henc : ∀ x, (enc x).length = sz) {y : α} (sp : List Value) : ∀ (xs : List α) (k : Nat), k < xs.length → splice (xs.flatMap enc ++ sp) (0 + k * sz) (enc y) = (xs.set k y).flatMap enc ++ sp := by
  intro xs k hk
  have hsp : ∀ (l : List Value) (o : Nat) (vs : List Value), splice l o vs = l.take o ++ vs ++ l.drop (o + vs.length) := fun l o vs => rfl
  rw [hsp, henc, Nat.zero_add]
  induction xs generalizing k with
  | nil => simp at hk
  | cons q rs ih =>
    cases k with
    | zero =>
      simp only [List.flatMap_cons, List.append_assoc, List.set_cons_zero, Nat.zero_mul, List.take_zero, List.nil_append, Nat.zero_add]
      rw [List.drop_append_of_le_length (by rw [henc]; exact Nat.le_refl _), List.drop_of_length_le (by rw [henc]; exact Nat.le_refl _), List.nil_append]
    | succ k =>
      have ih := ih k (by simpa using hk)
      simp only [List.flatMap_cons, List.append_assoc, List.set_cons_succ] at ih ⊢
      rw [← ih]
      have e : (k + 1) * sz = sz + k * sz := by rw [Nat.add_mul]; omega
      rw [e, List.take_append, henc, List.drop_append, henc, List.take_of_length_le (by rw [henc]; omega), List.drop_of_length_le (by rw [henc]; omega), show sz + k * sz - sz = k * sz by omega, show sz + k * sz + sz - sz = k * sz + sz by omega]
      simp only [List.append_assoc, List.nil_append]
end Go.H

/-
  A copy of a slice of one's own; three blocks that stay.
-/
namespace Go.H
open Go
variable {P : Program} {r : Option Nat} {E : Env} {h h' : Hp}
variable {K : Value → Hp → Prop} {T : List PanicEntry → Hp → Prop} {dst : Option Nat} {ty : TypeId} {pos : String} {af : Array Edge} {gd : Option (Nat × Bool)}
theorem XR.perm {N : Nat} {ops : Array Oper} {i : Nat} {Q : Post} {D : List Deferred} (hp : List.Perm h h') (H : XR P r N ops i Q E D h) : XR P r N ops i Q E D h' := by
  intro w a ho ha hd
  refine wpOpsIn_mono ?_ _ _ _ (H w a (ho.perm hp) ha hd)
  rintro e a' w' ⟨E2, h2, q, ha2, hf⟩
  exact ⟨E2, h2, q, ha2, hf.permL hp.symm⟩
end Go.H

/-
  Ways that meet again.
-/
namespace Go.H
open Go
variable {P : Program} {r : Option Nat} {N : Nat} {Q : Post} {E : Env} {D : List Deferred} {h : Hp}
def Jn {σ : Type} (I : σ → Prop) (EI : σ → Env) (HI : σ → Hp) (Q : Post) (D : List Deferred) : Post := fun e E' D' h' => match e with
  | .normal => D' = D ∧ ∃ g, I g ∧ EnvLe (EI g) E' ∧ List.Sublist (HI g) h'
  | e => Q e E' D' h'
theorem xc_join {σ : Type} {x y : Code} (I : σ → Prop) (EI : σ → Env) (HI : σ → Hp) (H1 : XC P r N x (Jn I EI HI Q D) E D h) (H2 : ∀ g, I g → XC P r N y Q (EI g) D (HI g)) : XC P r N (.seq x y) Q E D h := by
  refine xc_seq (H1.mono fun e E' D' h' q => ?_)
  cases e with
  | normal => obtain ⟨rfl, g, i, l, s⟩ := q; exact (H2 g i).weaken l s
  | _ => exact q
section
variable {σ : Type} {I : σ → Prop} {EI : σ → Env} {HI : σ → Hp} {id : Nat} {ch : List PanicEntry}
theorem jn_n (g : σ) (hI : I g) (hl : EnvLe (EI g) E) (hs : List.Sublist (HI g) h) : Jn I EI HI Q D .normal E D h := ⟨rfl, g, hI, hl, hs⟩
end
end Go.H


/-
  Iterators that hand out what they made themselves; parts of slices and of arrays; a slice beside nil; a full slice that grows.
-/
set_option linter.all false
namespace Go.H
open Go
variable {P : Program} {r : Option Nat} {N : Nat} {Q : Post} {E : Env} {D : List Deferred} {h h' : Hp}
section
variable {K : Value → Hp → Prop} {T : List PanicEntry → Hp → Prop} {dst : Option Nat} {ty : TypeId} {pos : String} {af : Array Edge} {gd : Option (Nat × Bool)}
theorem xv_sliceArr {x y : Operand} {t e : TypeId} {d : TD} {a : Addr} {n m : Nat} {k : IntKind} {i : Int} (ht : P.underlying t = some (.array n e)) (hd : TyOk P e d) (hx : ev E x = some (.pointer (some a))) (hy : ev E y = some (.int k i)) (h0 : 0 ≤ i) (h1 : i ≤ n) (hm : i.toNat = m)
    (H : K (.slice (some a) m n) h) : XV P r ⟨dst, .slice t x none (some y) none, ty, pos, af, gd⟩ K T E h := by
  subst hm
  exact xv_of_run (by simp [plainOp]) fun w ρ ho he => ⟨_, h, w, by
    simp only [execOp, he _ _ hx, Option.map_none, Option.map_some, he _ _ hy]
    simp [Instr.sliceAt, Instr.sureAddr, run_underlying ht, Instr.sliceBounds, run_sliceBoundH h0 h1, hd.run_size, addr_add0], H, .refl ho⟩
theorem xv_eqNilS {x y : Operand} {xt yt e : TypeId} {a : Option Addr} {n c n' c' : Nat} {b : Bool} (ht : SlT P xt e) (hx : ev E x = some (.slice a n c)) (hy : ev E y = some (.slice none n' c')) (hb : a.isNone = b) (H : K (.bool b) h) : XV P r ⟨dst, .binOp .eql xt x y yt, ty, pos, af, gd⟩ K T E h :=
  xv_of_run (by simp [plainOp]) fun w ρ ho he => ⟨_, h, w, by
    have hg : ∀ w, (eqGuard .eql xt x y (.slice a n c) (.slice none n' c')).run P w = .ok () w := fun w => by unfold eqGuard; simp
    rw [run_bin (he _ _ hx) (he _ _ hy) hg]
    have hq0 : ∀ m, (Op.equalIn (m + 1) xt (.slice a n c) (.slice none n' c')).run P w = .ok a.isNone w := fun m => by
      cases a <;> simp only [Op.equalIn, Sem.run_bind, run_underlying ht, Result.andThen_ok, Sem.run_pure, Option.isNone]
    have hq := hq0 9999
    have hb2 : (binOp .eql xt (.slice a n c) (.slice none n' c')).run P w = .ok (.bool a.isNone) w := by
      show (do let b ← Op.equalIn (9999 + 1) xt _ _; pure (Value.bool b) : Sem Value).run P w = _
      simp only [Sem.run_bind, hq, Result.andThen_ok, Sem.run_pure]
    rw [hb2]; subst hb; rfl, H, .refl ho⟩
theorem xv_make {x y : Operand} {t e : TypeId} {d : TD} {k k' : IntKind} {n : Nat} {l : List Value} (ht : SlT P t e) (hd : TyOk P e d) (hx : ev E x = some (.int k (n : Int))) (hy : ev E y = some (.int k' (n : Int))) (hn : n ≤ 16777216) (hb : d.bytes * n ≤ 16777216) (hs : n * d.size ≤ 16777216)
    (hz : (madeCells d.zero.cells (n * d.size)).toList = l)
    (H : ∀ b, b ∉ keys h → K (.slice (some ⟨b, 0, none⟩) n n) ((b, .cells ⟨l⟩ e (0, 0)) :: h)) : XV P r ⟨dst, .makeSlice t x y, ty, pos, af, gd⟩ K T E h :=
  xv_of_run (by simp [plainOp]) fun w ρ ho he => ⟨_, _, w.alloc (.cells ⟨l⟩ e), by
    obtain ⟨i, hi, his, hib, hiz⟩ := hd.info
    have hr := run_makeSlice (P := P) (w := w) t e i d.zero ht hi hiz k k' n n (by omega) (by omega) (by rw [his]; simpa using hs) (by rw [hib]; omega) (by omega)
    simp only [execOp, he _ _ hx, he _ _ hy]
    rw [show (⟨l⟩ : Array Value) = madeCells d.zero.cells (n * d.size) by rw [← hz]]
    rw [his] at hr
    simp at hr
    simp [hr], H _ fun hc => Nat.lt_irrefl _ (ho.lt hc), .alloc ho _⟩
theorem wrap_u64 {n : Int} (h1 : 0 ≤ n) (h2 : n ≤ 9223372036854775807) : IntKind.u64.wrap n = n := by
  rw [IntKind.wrap_u64]; omega
theorem wrap_u8 {n : Int} (h1 : 0 ≤ n) (h2 : n ≤ 255) : IntKind.u8.wrap n = n := by
  rw [IntKind.wrap_u8]; omega
end
end Go.H

/-
  Openers: what a law's argument reads as.
-/
set_option linter.all false
namespace Go.H
open Go
section
variable {P : Program} {H : Type} {enc : TypeId × Value → H} {w : World} {sp : Nat → Bool} {held : Bool}
theorem open_num {t : TypeId} {k : IntKind} (ht : P.underlying t = some (.int k)) {fuel : Nat} {cs : List Value} {x : DataW H × List MemPlace} (h : DataW.trod enc P w 0 sp held fuel t cs = some x) : ∃ n, cs = [.int k n] ∧ (Lit.int k n).wf = true := by
  cases fuel with
  | zero => simp [DataW.trod] at h
  | succ fuel =>
    unfold DataW.trod at h
    rw [ht] at h
    split at h <;> first | (simp at *; done) | skip
    rename_i k k' n hq
    cases hq
    split at h
    · rename_i hc
      obtain ⟨rfl, hw⟩ := hc
      exact ⟨n, rfl, hw⟩
    · cases h
theorem SlV.map {α β : Type} {f : β → α} {h : Hp} {sz : Nat} {en : α → List Value} {a : Option Addr} {xs : List β} (H : SlV h sz (fun x => en (f x)) a xs) : SlV h sz en a (xs.map f) := by
  rcases H with rfl | ⟨b, o, l, t, fz, ha, hm, hx⟩
  · exact .inl rfl
  · refine .inr ⟨b, o, l, t, fz, ha, hm, fun i x hi => ?_⟩
    rw [List.getElem?_map] at hi
    cases hq : xs[i]? with
    | none => rw [hq] at hi; cases hi
    | some y => rw [hq] at hi; cases hi; exact hx i y hq
end
section
variable {P : Program} {E : Env} {dst : Option Nat} {ty : TypeId} {pos : String} {af : Array Edge} {gd : Option (Nat × Bool)}
theorem al_make {x y : Operand} {t e : TypeId} {d : TD} {k k' : IntKind} {n : Nat} {l : List Value} (ht : SlT P t e) (hd : TyOk P e d) (hx : ev E x = some (.int k (n : Int))) (hy : ev E y = some (.int k' (n : Int))) (hn : n ≤ 16777216) (hb : d.bytes * n ≤ 16777216) (hs : n * d.size ≤ 16777216)
    (hz : (madeCells d.zero.cells (n * d.size)).toList = l) : AL P ⟨dst, .makeSlice t x y, ty, pos, af, gd⟩ E (fun b => .slice (some ⟨b, 0, none⟩) n n) (.cells ⟨l⟩ e) :=
  ⟨by simp [plainOp], fun w ρ he => by
    obtain ⟨i, hi, his, hib, hiz⟩ := hd.info
    have hr := run_makeSlice (P := P) (w := w) t e i d.zero ht hi hiz k k' n n (by omega) (by omega) (by rw [his]; simpa using hs) (by rw [hib]; omega) (by omega)
    simp only [execOp, he _ _ hx, he _ _ hy]
    rw [show (⟨l⟩ : Array Value) = madeCells d.zero.cells (n * d.size) by rw [← hz]]
    rw [his] at hr
    simp at hr
    simp [hr]⟩
end
def Vec.ad : Vec → Option Addr
  | .nil => none
  | .at b _ _ => some ⟨b, 0, none⟩
def Vec.cp : Vec → Nat
  | .nil => 0
  | .at _ c _ => c
theorem Vec.val_ad {V : Vec} {sz n : Nat} {xs : List Value} (h : V.ok sz n xs) : V.val n = .slice V.ad n V.cp := by
  cases V with
  | nil => rw [h.2]; rfl
  | «at» b c sp => rfl
theorem Vec.slvA {α : Type} {V : Vec} {sz n : Nat} {t : TypeId} {enc : α → List Value} {xs : List α} (henc : ∀ x, (enc x).length = sz) (hn : xs.length = n) (hV : V.ok sz n (xs.flatMap enc)) : SlV (V.hp t (xs.flatMap enc)) sz enc V.ad xs := by
  cases V with
  | nil =>
    refine .inl (List.length_eq_zero_iff.1 ?_)
    rw [hn]; exact hV.2
  | «at» b c sp => exact .inr ⟨b, 0, _, t, (0, 0), rfl, List.mem_cons_self, fun i x hx => flat_at henc sp _ i hx⟩
section
variable {P : Program} {r : Option Nat} {E : Env} {h g : Hp}
variable {K : Value → Hp → Prop} {T : List PanicEntry → Hp → Prop} {dst : Option Nat} {ty : TypeId} {pos : String} {af : Array Edge} {gd : Option (Nat × Bool)}
theorem xv_appendL {α : Type} {enc : α → List Value} {x y : Operand} {t e : TypeId} {d : TD} {V : Vec} {n cl sz : Nat} {al : Option Addr} {xs : List Value} {ys : List α} (ht : SlT P t e) (hd : TyOk P e d) (hzs : d.zero.cells.size = d.size) (hsz : d.size = sz)
    (hx : ev E x = some (V.val n)) (hy : ev E y = some (.slice al ys.length cl)) (hV : V.ok sz n xs) (hp : Tk (V.hp e xs) h g) (hl : SlV g sz enc al ys) (henc : ∀ x, (enc x).length = sz) (h1 : ∀ x, (enc x).all Value.oneCell' = true)
    (hb : 2 * (n + ys.length) * d.bytes ≤ 281474976710656) (h63 : n + ys.length ≤ 9223372036854775807)
    (H : ∀ V' : Vec, V'.ok sz (n + ys.length) (xs ++ ys.flatMap enc) → K (V'.val (n + ys.length)) (V'.hp e (xs ++ ys.flatMap enc) ++ g)) : XV P r ⟨dst, .call ⟨.builtin .append, #[x, y], #[t, t]⟩, ty, pos, af, gd⟩ K T E h := by
  subst hsz
  cases ys with
  | nil =>
    have hv := V.val_ad hV
    have hn : n ≤ V.cp := by
      cases V with
      | nil => rw [hV.2]; exact Nat.le_refl _
      | «at» b c sp => exact hV.2.1
    refine XV.perm hp.perm.symm ?_
    refine xv_append0 ht hd (hx.trans (congrArg some hv)) (c' := cl) (a' := al) hy hn ?_
    rw [← hv]
    have := H V (by simpa using hV)
    simpa using this
  | cons x0 xs0 =>
    obtain ⟨b9, o9, li, t9, fz, hal, hm, hx9⟩ := hl.at (i := 0) (by simp)
    subst hal
    exact xv_append (V := V) (n := n) (xs := xs) ht hd hzs hx hy hV hp hm (slv_flat2 henc hx9) (flat_lenM henc _) (flat_all h1 _) (by simp) hb h63 H
end
theorem list2 {α : Type} {l : List α} (h : l.length = 2) : ∃ a b, l = [a, b] := by
  rcases l with _ | ⟨a, _ | ⟨b, _ | ⟨c, l⟩⟩⟩ <;> simp at h
  exact ⟨_, _, rfl⟩
end Go.H
