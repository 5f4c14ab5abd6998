/-
  The logic of owned blocks over the kit, part HB.
-/
import Derived.Test.YtjbfdfmngampdaaHA
import Derived.MapKept
set_option linter.all false
/-
  Regions whose order Go leaves open: the theorem.
-/
namespace Go.H
open Go
variable {P : Program} {r : Option Nat} {N : Nat} {Q : Post} {E : Env} {D : List Deferred} {h : Hp}
variable {ops : Array Oper} {f : Hp} {L : List (Nat × (Obj → Prop))}
theorem Jst.info {k : Kd} {i : Nat} {o : Oper} {G : Prom} {K : Env → Prom → Hp → Prop} (H : Jst P r ops D Q f L k i o E G h K) :
    Jst P r ops D Q f L k i o E G h (fun E' G' h' => ExtE o E E' ∧ (G' = G ∨ ∃ pr, G' = G.add i pr) ∧ K E' G' h') := by
  cases k with
  | S => exact H.imp (fun ⟨a, b⟩ => ⟨a, .inr ⟨_, rfl⟩, .inl rfl, b⟩) (fun ⟨a, v, b, c⟩ => ⟨a, v, b, .inr ⟨_, rfl⟩, .inl rfl, c⟩)
  | R => exact H.imp (fun ⟨a, b⟩ => ⟨a, .inr ⟨_, rfl⟩, .inl rfl, b⟩) (fun ⟨a, v, b, c⟩ => ⟨a, v, b, .inr ⟨_, rfl⟩, .inl rfl, c⟩)
  | P => obtain ⟨a, mk, obj, b, c⟩ := H; exact ⟨a, mk, obj, b, .inl rfl, .inr ⟨_, rfl⟩, c⟩
  | A => obtain ⟨a, p, b, c, d⟩ := H; exact ⟨a, p, b, c, fun x hx => ⟨.inr ⟨_, rfl⟩, .inl rfl, d x hx⟩⟩
  | O => exact H.imp (fun ⟨a, b⟩ => ⟨a, .inr ⟨_, rfl⟩, .inl rfl, b⟩) (fun ⟨a, b⟩ => ⟨a, b.mono (fun v h2 ⟨h', p, iv, c⟩ => ⟨h', p, iv, .inr ⟨_, rfl⟩, .inl rfl, c⟩) (fun _ _ c => c)⟩)
theorem J.moveFront {x : Nat} {k : Kd} {ox : Oper} (hx : ops[x]? = some ox) (hd : dstOk N ox.dst = true) {q : List Item} : ∀ (p : List Item) {E : Env} {G : Prom} {h : Hp},
    (∀ z kz, (z, kz) ∈ p → z ≠ x ∧ okSwap kz k = true ∧ ∀ oz, ops[z]? = some oz → oz.apart ops ox = true) →
    (k = .A → ox.guard = none ∧ ∃ pr, G x = some pr ∧ EqOn ox pr.env E) → J P r N ops D Q f L (p ++ (x, k) :: q) E G h → J P r N ops D Q f L ((x, k) :: (p ++ q)) E G h
  | [], _, _, _, _, _, H => H
  | (z, kz) :: p, E, G, h, hp, hI, H => by
    obtain ⟨oz, hoz, hdz, H⟩ := H
    obtain ⟨hne, hok, hap⟩ := hp z kz List.mem_cons_self
    have hap := hap oz hoz
    have H2 : Jst P r ops D Q f L kz z oz E G h (fun E' G' h' => Jst P r ops D Q f L k x ox E' G' h' (J P r N ops D Q f L (p ++ q))) := by
      refine H.info.mono ?_
      rintro E' G' h' ⟨e, g, H⟩
      have H' := J.moveFront hx hd p (fun z' kz' hm => hp z' kz' (List.mem_cons_of_mem _ hm)) (fun hk => by
        obtain ⟨hg, pr, h1, h2⟩ := hI hk
        refine ⟨hg, pr, ?_, h2.trans ?_⟩
        · rcases g with rfl | ⟨pr', rfl⟩
          · exact h1
          · simp only [Prom.add]; rw [if_neg (fun e => hne e.symm)]; exact h1
        · rcases e with rfl | ⟨u, rfl⟩
          · exact fun _ _ => rfl
          · exact eqOn_put hap u) H
      obtain ⟨o', ho', _, H'⟩ := H'
      rw [hx] at ho'; cases ho'
      exact H'
    refine ⟨ox, hx, hd, (Jst.swap (K := J P r N ops D Q f L (p ++ q)) hap hok hne hI (fun _ _ _ _ hp' q' => J.perm _ hp' q') H2).mono ?_⟩
    exact fun E' G' h' H' => ⟨oz, hoz, hdz, H'⟩
/-- One step of the canonical order, carried out. -/
theorem Jst.exec {Ep : Env} {k : Kd} {i : Nat} {o : Oper} {G : Prom} {K : Env → Prom → Hp → Prop} {w : World} {a : Act} {QQ : Exit → Act → World → Prop} {next : Act → World → Prop} (ho : ops[i]? = some o) (hd : dstOk N o.dst = true) (hk : k ≠ .P)
    (hG : k = .A → ∀ p, G i = some p → AL P o p.env p.val p.obj) (hw : Own (h ++ f) w) (hIv : Holds L h) (ha : Agree N E a) (hda : a.defers = D) (hEp : ∀ t, o.dst = some t → Ep t = none) (hEa : Agree N Ep a)
    (hn : ∀ E' G' h' a' w', (G' = G) → ExtE o E E' → Agree N E' a' → Agree N Ep a' → a'.defers = D → Fol (h ++ f) w (h' ++ f) w' → Holds L h' → K E' G' h' → next a' w') (hq : ∀ ch h' w', Q (.panic ch) emp D h' → Fol (h ++ f) w h' w' → QQ (.panic ch) a w')
    (H : Jst P r ops D Q f L k i o E G h K) : wpOpIn (fen r) 0 P ops QQ i next a w := by
  have hput : ∀ v, (a.put o.dst v).defers = D := fun v => by cases o.dst <;> exact hda
  have hput2 : ∀ v, Agree N Ep (a.put o.dst v) := fun v => by
    have h1 := (hEa.put (v := v) (dstOk_lt hd))
    refine ⟨h1.size, fun t u hu => h1.val t u ?_⟩
    rw [put_other (fun e => by rw [hEp t e] at hu; cases hu)]; exact hu
  have hskip : Skips ops o E → K (E.put o.dst undef) G h → wpOpIn (fen r) 0 P ops QQ i next a w := by
    rintro ⟨j, t, v, hg, hgv, hne⟩ hK
    unfold wpOpIn
    simp only [ho]
    have hw' : ¬ Region.wanted o (yielded ops a.tmps) = true := by
      simp only [Region.wanted, hg]
      unfold gv at hgv
      unfold yielded
      cases hdj : (ops[j]?).bind (·.dst) with
      | none => rw [hdj] at hgv; cases hgv
      | some d =>
        rw [hdj] at hgv
        have := ha.val d _ hgv
        cases v <;> simp_all [isb]
    rw [if_neg hw']
    exact ⟨fun _ _ => trivial, hn _ _ _ _ _ rfl (.inr ⟨_, rfl⟩) (ha.put (dstOk_lt hd)) (hput2 _) (hput _) (.refl hw) hIv hK⟩
  have hrun : Runs ops o E → (o.wpIn (fen r) 0 P a w next QQ) → wpOpIn (fen r) 0 P ops QQ i next a w := by
    intro hr hh
    unfold wpOpIn
    simp only [ho]
    have hw' : Region.wanted o (yielded ops a.tmps) = true := by
      rcases hr with hr | ⟨j, t, hg, hgv⟩
      · simp [Region.wanted, hr]
      · simp [Region.wanted, hg, gv_yielded ha hgv]
    rw [if_pos hw']
    exact hh
  have hops : OpsAt E o a := fun x _ v hv => ha.ev hv
  cases k with
  | P => exact absurd rfl hk
  | S =>
    rcases H with ⟨hs, hK⟩ | ⟨hr, v, hv, hK⟩
    · exact hskip hs hK
    · refine hrun hr (hv h hIv w a hw hops next QQ ?_ (fun _ _ _ k _ => k.elim))
      rintro v' h' w' ⟨rfl, e⟩ hf
      rw [e] at hf
      exact hn _ _ h _ _ rfl (.inr ⟨_, rfl⟩) (ha.put (dstOk_lt hd)) (hput2 _) (hput _) hf hIv hK
  | R =>
    rcases H with ⟨hs, hK⟩ | ⟨hr, v, hv, hK⟩
    · exact hskip hs hK
    · refine hrun hr (hv w a hw hops next QQ ?_ (fun _ _ _ k _ => k.elim))
      rintro v' h' w' ⟨rfl, e⟩ hf
      rw [e] at hf
      exact hn _ _ h _ _ rfl (.inr ⟨_, rfl⟩) (ha.put (dstOk_lt hd)) (hput2 _) (hput _) hf hIv hK
  | A =>
    obtain ⟨hg, p, hp, he, hK⟩ := H
    have hal := (hG rfl p hp).congr he
    obtain ⟨ρ, hρ1, hρ2⟩ := ops_rho hal.1 hops
    refine hrun (.inl hg) ⟨fun _ _ => trivial, ?_⟩
    rw [Oper.semAt_eq _ _ _ hal.1.1, ← hρ2, hal.2 w ρ hρ1]
    exact hn _ _ ((w.heap.size, p.obj) :: h) _ _ rfl (.inr ⟨_, rfl⟩) (ha.put (dstOk_lt hd)) (hput2 _) (hput _) (Fol.alloc hw _) (hIv.cons _) (hK _ fun hc => Nat.lt_irrefl _ (hw.lt hc))
  | O =>
    rcases H with ⟨hs, hK⟩ | ⟨hr, hx⟩
    · exact hskip hs hK
    · refine hrun hr (hx w a hw hops next QQ ?_ ?_)
      · rintro v h2 w' ⟨h', hp, iv, hK⟩ hf
        exact hn _ _ h' _ _ rfl (.inr ⟨_, rfl⟩) (ha.put (dstOk_lt hd)) (hput2 _) (hput _) (hf.perm hp) iv hK
      · intro ch h2 w' hq' hf
        exact hq ch h2 w' hq' hf
/-! ### What is checked of a region and its canonical order -/
def direct (o : Oper) : List Nat := (o.after.toList.filter (Region.binds .any)).map (·.on)
def clos (ops : Array Oper) : List (List Nat) :=
  ops.toList.foldl (fun acc o => acc ++ [(direct o).foldl (fun s j => s ++ [j] ++ (acc.getD j []).filter fun z => !s.contains z) []]) []
def tblOk (ops : Array Oper) (tbl : List (List Nat)) : Bool :=
  (List.range ops.size).all fun y => match ops[y]? with
    | none => false
    | some o => ((tbl.getD y []).all fun x => (direct o).contains x || (direct o).any fun z => (tbl.getD z []).contains x) && (direct o).all (· < y)
def pairsOk (ops : Array Oper) (tbl : List (List Nat)) : List Item → Bool
  | [] => true
  | (x, k) :: l => (l.all fun (y, ky) => (x == y && (k == .P && ky == .A)) || (x != y && ((tbl.getD y []).contains x || (okSwap k ky && match ops[x]?, ops[y]? with | some ox, some oy => ox.apart ops oy | _, _ => false)))) && pairsOk ops tbl l
def drawOk (N : Nat) (ops : Array Oper) (c : List Item) : Bool :=
  tblOk ops (clos ops) && (pairsOk ops (clos ops) c && (ops.toList.all (fun o => dstOk N o.dst) &&
  (((List.range ops.size).all fun i => c.contains (i, .S) || c.contains (i, .R) || c.contains (i, .O) || c.contains (i, .A)) &&
  ((c.all fun (i, k) => decide (i < ops.size) && ((k != .A || ((match ops[i]? with | some o => o.guard.isNone | none => false) && c.contains (i, .P))) && (k != .P || c.contains (i, .A)))) &&
  decide ((c.filter fun x => x.2 != .P).length ≤ ops.size)))))
theorem tbl_sound {tbl : List (List Nat)} {listed : Array Bool} (ht : tblOk ops tbl = true) (hdc : ∀ j o, listed.getD j false = true → ops[j]? = some o → ∀ x ∈ direct o, listed.getD x false = true) :
    ∀ (y : Nat) (o : Oper), ops[y]? = some o → (∀ x ∈ direct o, listed.getD x false = true) → ∀ x ∈ tbl.getD y [], listed.getD x false = true := by
  intro y
  induction y using Nat.strongRecOn with
  | _ y ih =>
    intro o ho hr x hx
    have hlt : y < ops.size := (Array.getElem?_eq_some_iff.1 ho).1
    have := List.all_eq_true.1 ht y (List.mem_range.2 hlt)
    simp only [ho, Bool.and_eq_true, List.all_eq_true, Bool.or_eq_true, List.contains_iff_mem, List.any_eq_true, decide_eq_true_eq] at this
    rcases this.1 x hx with h1 | ⟨z, hz, hxz⟩
    · exact hr x h1
    · have hzy := this.2 z hz
      obtain ⟨oz, hoz⟩ : ∃ oz, ops[z]? = some oz := ⟨_, Array.getElem?_eq_getElem (by omega)⟩
      exact ih z hzy oz hoz (hdc z oz (hr z hz) hoz) x hxz
theorem pairs_sub {tbl : List (List Nat)} {c c' : List Item} (hs : List.Sublist c' c) (hp : pairsOk ops tbl c = true) : pairsOk ops tbl c' = true := by
  induction hs with
  | slnil => rfl
  | @cons l1 l2 a _ ih => obtain ⟨x, k⟩ := a; simp only [pairsOk, Bool.and_eq_true] at hp; exact ih hp.2
  | @cons_cons l1 l2 a hs ih =>
    obtain ⟨x, k⟩ := a
    simp only [pairsOk, Bool.and_eq_true] at hp ⊢
    exact ⟨List.all_eq_true.2 fun z hz => List.all_eq_true.1 hp.1 z (hs.subset hz), ih hp.2⟩
theorem pairs_at {tbl : List (List Nat)} {x : Nat} {k : Kd} {q : List Item} : ∀ {p : List Item}, pairsOk ops tbl (p ++ (x, k) :: q) = true → ∀ z kz, (z, kz) ∈ p → 
    (z = x ∧ kz = .P ∧ k = .A) ∨ (z ≠ x ∧ (z ∈ tbl.getD x [] ∨ (okSwap kz k = true ∧ ∃ oz ox, ops[z]? = some oz ∧ ops[x]? = some ox ∧ oz.apart ops ox = true)))
  | [], _, _, _, hm => by cases hm
  | (y, ky) :: p, hp, z, kz, hm => by
    simp only [List.cons_append, pairsOk, Bool.and_eq_true] at hp
    rcases List.mem_cons.1 hm with e | hm
    · cases e
      have := List.all_eq_true.1 hp.1 (x, k) (by simp)
      simp only [Bool.or_eq_true, Bool.and_eq_true, beq_iff_eq, bne_iff_ne, ne_eq, List.contains_iff_mem] at this
      rcases this with ⟨e1, e2, e3⟩ | ⟨e1, e2 | ⟨e2, e3⟩⟩
      · exact .inl ⟨e1, e2, e3⟩
      · exact .inr ⟨e1, .inl e2⟩
      · refine .inr ⟨e1, .inr ⟨e2, ?_⟩⟩
        cases h1 : ops[y]? with
        | none => simp [h1] at e3
        | some oz =>
          cases h2 : ops[x]? with
          | none => simp [h1, h2] at e3
          | some ox => simp [h1, h2] at e3; exact ⟨oz, ox, rfl, rfl, e3⟩
    · exact pairs_at hp.2 z kz hm
structure WF (ops : Array Oper) (tbl : List (List Nat)) (c : List Item) (listed : Array Bool) : Prop where
  pr : pairsOk ops tbl c = true
  un : ∀ i k, (i, k) ∈ c → i < ops.size ∧ listed.getD i true = false
  al : ∀ i, i < ops.size → listed.getD i true = false → ∃ k, k ≠ Kd.P ∧ (i, k) ∈ c
  ap : ∀ i, (i, Kd.A) ∈ c → (i, Kd.P) ∈ c
  pa : ∀ i, (i, Kd.P) ∈ c → (i, Kd.A) ∈ c
  gd : ∀ i o, (i, Kd.A) ∈ c → ops[i]? = some o → o.guard = none
  sz : listed.size = ops.size
  dc : ∀ j o, listed.getD j false = true → ops[j]? = some o → ∀ x ∈ direct o, listed.getD x false = true
theorem WF.front {tbl : List (List Nat)} {c : List Item} {listed : Array Bool} (W : WF ops tbl c listed) (ht : tblOk ops tbl = true) {x : Nat} {k : Kd} {ox : Oper} (hox : ops[x]? = some ox) (hr : ∀ z ∈ direct ox, listed.getD z false = true)
    {p q : List Item} (hs : List.Sublist (p ++ (x, k) :: q) c) (hnp : (x, Kd.P) ∉ p) : ∀ z kz, (z, kz) ∈ p → z ≠ x ∧ okSwap kz k = true ∧ ∀ oz, ops[z]? = some oz → oz.apart ops ox = true := by
  intro z kz hm
  rcases pairs_at (pairs_sub hs W.pr) z kz hm with ⟨rfl, rfl, _⟩ | ⟨h1, h2 | ⟨h2, oz, ox', e1, e2, e3⟩⟩
  · exact absurd hm hnp
  · have hl := tbl_sound ht W.dc x ox hox hr z h2
    have hu := W.un z kz (hs.subset (List.mem_append_left _ hm))
    have hlt : z < listed.size := by rw [W.sz]; exact hu.1
    simp [Array.getD, hlt] at hl hu
    rw [hl] at hu; exact absurd hu.2 (by simp)
  · rw [hox] at e2; cases e2
    exact ⟨h1, h2, fun oz' ho' => by rw [e1] at ho'; cases ho'; exact e3⟩
theorem wf_nodup {tbl : List (List Nat)} : ∀ {c : List Item}, pairsOk ops tbl c = true → c.Nodup
  | [], _ => List.nodup_nil
  | (x, k) :: l, hp => by
    simp only [pairsOk, Bool.and_eq_true] at hp
    refine List.nodup_cons.2 ⟨fun hm => ?_, wf_nodup hp.2⟩
    have := List.all_eq_true.1 hp.1 (x, k) hm
    cases k <;> simp at this
theorem getD_set {l : Array Bool} {i j : Nat} {d : Bool} (hi : i < l.size) : (l.setIfInBounds i true).getD j d = if i = j then true else l.getD j d := by
  simp only [Array.getD_eq_getD_getElem?, Array.getElem?_setIfInBounds]
  split
  · rename_i e; subst e; simp [hi]
  · rfl
/-- The items of one index gone. -/
theorem WF.step {tbl : List (List Nat)} {c c' : List Item} {listed : Array Bool} (W : WF ops tbl c listed) {x : Nat} {ox : Oper} (hox : ops[x]? = some ox) (hr : ∀ z ∈ direct ox, listed.getD z false = true)
    (hs : List.Sublist c' c) (hm : ∀ i k, (i, k) ∈ c' ↔ (i, k) ∈ c ∧ i ≠ x) : WF ops tbl c' (listed.setIfInBounds x true) := by
  have hx : x < listed.size := by rw [W.sz]; exact (Array.getElem?_eq_some_iff.1 hox).1
  refine ⟨pairs_sub hs W.pr, fun i k hik => ?_, fun i hi hl => ?_, fun i hi => ?_, fun i hi => ?_, fun i o hi => W.gd i o ((hm _ _).1 hi).1, by simp [W.sz], fun j o hj ho z hz => ?_⟩
  · obtain ⟨h1, h2⟩ := (hm i k).1 hik
    refine ⟨(W.un i k h1).1, ?_⟩
    rw [getD_set hx, if_neg (fun e => h2 e.symm)]
    exact (W.un i k h1).2
  · rw [getD_set hx] at hl
    split at hl
    · cases hl
    · rename_i hne
      obtain ⟨k, h1, h2⟩ := W.al i hi hl
      exact ⟨k, h1, (hm i k).2 ⟨h2, fun e => hne e.symm⟩⟩
  · obtain ⟨h1, h2⟩ := (hm _ _).1 hi; exact (hm _ _).2 ⟨W.ap i h1, h2⟩
  · obtain ⟨h1, h2⟩ := (hm _ _).1 hi; exact (hm _ _).2 ⟨W.pa i h1, h2⟩
  · rw [getD_set hx] at hj ⊢
    split at hj
    · rename_i e
      subst e
      rw [hox] at ho; cases ho
      split
      · rfl
      · exact hr z hz
    · split
      · rfl
      · exact W.dc j o hj ho z hz
theorem one_np {tbl : List (List Nat)} {x : Nat} {k k' : Kd} {p q : List Item} (hp : pairsOk ops tbl (p ++ (x, k) :: q) = true) (hk : k ≠ .P) (hm : (x, k') ∈ p ++ q) : k' = .P ∧ k = .A ∧ (x, k') ∈ p := by
  rcases List.mem_append.1 hm with hm | hm
  · rcases pairs_at hp x k' hm with ⟨_, h1, h2⟩ | ⟨h1, _⟩
    · exact ⟨h1, h2, hm⟩
    · exact absurd rfl h1
  · exfalso
    have hp2 : pairsOk ops tbl ((x, k) :: q) = true := pairs_sub (List.sublist_append_right _ _) hp
    simp only [pairsOk, Bool.and_eq_true] at hp2
    have := List.all_eq_true.1 hp2.1 (x, k') hm
    simp [hk] at this
def dsts (ops : Array Oper) : List Nat := ops.toList.filterMap (·.dst)
/-- The slots that the region does not write. -/
def mask (ops : Array Oper) (E : Env) : Env := fun t => if (dsts ops).contains t then none else E t
def PanEnv (Ep : Env) (Q : Post) : Post
  | .panic ch, _, D, h => Q (.panic ch) Ep D h
  | e, E, D, h => Q e E D h
theorem draw_main {Ep : Env} (hEp : ∀ (i : Nat) (o : Oper), ops[i]? = some o → ∀ t, o.dst = some t → Ep t = none) {tbl : List (List Nat)} {h0 : Hp} {w0 : World} (ht : tblOk ops tbl = true) (hdst : ops.toList.all (fun o : Oper => dstOk N o.dst) = true) :
    ∀ (fuel : Nat) (c : List Item) (listed : Array Bool) (E : Env) (G : Prom) (h : Hp) (w : World) (a : Act), WF ops tbl c listed → (c.filter fun x => x.2 != .P).length ≤ fuel → J P r N ops D (PanEnv Ep Q) f L c E G h →
      Own (h ++ f) w → Holds L h → Agree N E a → Agree N Ep a → a.defers = D → Fol h0 w0 (h ++ f) w →
      wpAnyIn (fen r) 0 P .any ops (fun e a' w' => ∃ E' h', Q e E' a'.defers h' ∧ Agree N E' a' ∧ Fol h0 w0 h' w') fuel listed a w := by
  have hdst' : ∀ (i : Nat) (o : Oper), ops[i]? = some o → dstOk N o.dst = true := fun i o ho => List.all_eq_true.1 hdst o (by simpa using Array.mem_of_getElem? ho)
  -- where nothing is ready all is done
  have hend : ∀ (c : List Item) (listed : Array Bool), WF ops tbl c listed → Region.ready .any ops listed = [] → c = [] := by
    intro c listed W hready
    have hall : ∀ j, j < ops.size → listed.getD j false = true := by
      intro j
      induction j using Nat.strongRecOn with
      | _ j ih =>
        intro hj
        refine Classical.byContradiction fun hn => ?_
        have hlt : j < listed.size := by rw [W.sz]; exact hj
        obtain ⟨o, ho⟩ : ∃ o, ops[j]? = some o := ⟨_, Array.getElem?_eq_getElem hj⟩
        have hmem : j ∈ Region.ready .any ops listed := by
          refine mem_ready.2 ⟨?_, o, ho, fun e he hb => ?_⟩
          · simp [Array.getD, hlt] at hn ⊢; exact hn
          · have hd : e.on ∈ direct o := List.mem_map.2 ⟨e, List.mem_filter.2 ⟨by simpa using he, hb⟩, rfl⟩
            have := List.all_eq_true.1 ht j (List.mem_range.2 hj)
            simp only [ho, Bool.and_eq_true, List.all_eq_true, decide_eq_true_eq] at this
            have hlt2 := this.2 _ hd
            exact ih _ hlt2 (by omega)
        rw [hready] at hmem; cases hmem
    cases c with
    | nil => rfl
    | cons x c =>
      obtain ⟨i, k⟩ := x
      have hu := W.un i k List.mem_cons_self
      have := hall i hu.1
      have hlt : i < listed.size := by rw [W.sz]; exact hu.1
      simp [Array.getD, hlt] at this hu
      rw [this] at hu; exact absurd hu.2 (by simp)
  have hfin : ∀ (c : List Item) (listed : Array Bool) (E : Env) (G : Prom) (h : Hp) (w : World) (a : Act), WF ops tbl c listed → J P r N ops D (PanEnv Ep Q) f L c E G h → Agree N E a → Agree N Ep a → a.defers = D → Fol h0 w0 (h ++ f) w →
      Region.ready .any ops listed = [] → ∃ E' h', Q .normal E' a.defers h' ∧ Agree N E' a ∧ Fol h0 w0 h' w := by
    intro c listed E G h w a W hj ha hEa hda hf hready
    rw [hend c listed W hready] at hj
    obtain ⟨hh, hp, hq⟩ := hj
    exact ⟨E, hh, by rw [hda]; exact hq, ha, hf.perm hp.symm⟩
  intro fuel
  induction fuel with
  | zero =>
    intro c listed E G h w a W hc hj hw hIv ha hEa hda hf
    have hready : Region.ready .any ops listed = [] := by
      cases hr : Region.ready .any ops listed with
      | nil => rfl
      | cons i l =>
        exfalso
        obtain ⟨h1, o, ho, _⟩ := mem_ready.1 (show i ∈ Region.ready .any ops listed by rw [hr]; exact List.mem_cons_self)
        obtain ⟨k, hk, hm⟩ := W.al i (Array.getElem?_eq_some_iff.1 ho).1 h1
        have : (i, k) ∈ c.filter fun x => x.2 != .P := List.mem_filter.2 ⟨hm, by simpa using hk⟩
        have hl : (c.filter fun x => x.2 != .P).length = 0 := by omega
        rw [List.length_eq_zero_iff.1 hl] at this
        cases this
    exact ⟨hready, hfin c listed E G h w a W hj ha hEa hda hf hready⟩
  | succ fuel ih =>
    intro c listed E G h w a W hc hj hw hIv ha hEa hda hf
    refine ⟨fun hready => hfin c listed E G h w a W hj ha hEa hda hf hready, fun i hi => ?_⟩
    obtain ⟨h1, o, ho, hpre⟩ := mem_ready.1 hi
    have hr : ∀ z ∈ direct o, listed.getD z false = true := by
      intro z hz
      obtain ⟨e, he, rfl⟩ := List.mem_map.1 hz
      obtain ⟨he1, he2⟩ := List.mem_filter.1 he
      exact hpre e (by simpa using he1) he2
    obtain ⟨k, hk, hm⟩ := W.al i (Array.getElem?_eq_some_iff.1 ho).1 h1
    have hd := hdst' i o ho
    -- the step itself, once it stands in front
    have go : ∀ (c' : List Item) (G' : Prom), J P r N ops D (PanEnv Ep Q) f L ((i, k) :: c') E G' h → List.Sublist c' c → (∀ j kj, (j, kj) ∈ c' ↔ (j, kj) ∈ c ∧ j ≠ i) →
        (k = .A → ∀ p, G' i = some p → AL P o p.env p.val p.obj) →
        wpOpIn (fen r) 0 P ops (fun e a' w' => ∃ E' h', Q e E' a'.defers h' ∧ Agree N E' a' ∧ Fol h0 w0 h' w') i (wpAnyIn (fen r) 0 P .any ops (fun e a' w' => ∃ E' h', Q e E' a'.defers h' ∧ Agree N E' a' ∧ Fol h0 w0 h' w') fuel (listed.setIfInBounds i true)) a w := by
      intro c' G' hj' hs hmem hal
      obtain ⟨o', ho', _, hst⟩ := hj'
      rw [ho] at ho'; cases ho'
      refine Jst.exec (Ep := Ep) ho hd hk hal hw hIv ha hda (hEp i o ho) hEa ?_ ?_ hst
      · intro E' G2 h' a' w' _ _ ha' hEa' hda' hf' iv' hK
        refine ih c' _ E' G2 h' w' a' (W.step ho hr hs hmem) ?_ hK hf'.own iv' ha' hEa' hda' (hf.trans hf')
        have hlt : ((i, k) :: c').length ≤ _ := Nat.le_refl _
        have hsub : List.Sublist (c'.filter fun x => x.2 != .P) (c.filter fun x => x.2 != .P) := hs.filter _
        have hne : (c'.filter fun x => x.2 != .P).length ≠ (c.filter fun x => x.2 != .P).length := by
          intro e
          have e2 := hsub.eq_of_length e
          have : (i, k) ∈ c'.filter fun x => x.2 != .P := by rw [e2]; exact List.mem_filter.2 ⟨hm, by simpa using hk⟩
          exact ((hmem i k).1 (List.mem_filter.1 this).1).2 rfl
        have := hsub.length_le
        omega
      · intro ch h' w' hq hf'
        exact ⟨Ep, h', by rw [hda]; exact hq, hEa, hf.trans hf'⟩
    by_cases hkA : k = .A
    · subst hkA
      have hmP := W.ap i hm
      obtain ⟨p, q, rfl⟩ := List.append_of_mem hmP
      have hnd := wf_nodup W.pr
      have hnp : (i, Kd.P) ∉ p := fun hmm => by
        rw [List.nodup_append] at hnd
        exact hnd.2.2 _ hmm _ List.mem_cons_self rfl
      have hj1 := J.moveFront ho hd p (W.front ht ho hr (List.Sublist.refl _) hnp) (fun e => by cases e) hj
      obtain ⟨o', ho', _, hg, mk, obj, hal, hj2⟩ := hj1
      rw [ho] at ho'; cases ho'
      have hmA : (i, Kd.A) ∈ p ++ q := by
        rcases List.mem_append.1 hm with hm | hm
        · exact List.mem_append_left _ hm
        · rcases List.mem_cons.1 hm with e | hm
          · cases e
          · exact List.mem_append_right _ hm
      have hs1 : List.Sublist (p ++ q) (p ++ (i, Kd.P) :: q) := (List.Sublist.refl p).append (List.sublist_cons_self _ _)
      have hmP2 : ∀ kk, (i, kk) ∈ p ++ q → kk = .A := by
        intro kk hkk
        obtain ⟨p2, q2, e2⟩ := List.append_of_mem hmA
        by_cases hkk2 : kk = .A
        · exact hkk2
        · exfalso
          have hmem2 : (i, kk) ∈ p2 ++ q2 := by
            rw [e2] at hkk
            rcases List.mem_append.1 hkk with h3 | h3
            · exact List.mem_append_left _ h3
            · rcases List.mem_cons.1 h3 with h3 | h3
              · cases h3; exact absurd rfl hkk2
              · exact List.mem_append_right _ h3
          have := one_np (ops := ops) (tbl := tbl) (x := i) (k := .A) (by rw [← e2]; exact pairs_sub hs1 W.pr) (by simp) hmem2
          obtain ⟨rfl, _, _⟩ := this
          rw [List.nodup_append] at hnd
          rcases List.mem_append.1 hkk with h3 | h3
          · exact hnp h3
          · exact (List.nodup_cons.1 hnd.2.1).1 h3
      obtain ⟨p2, q2, e2⟩ := List.append_of_mem hmA
      rw [e2] at hj2
      have hs2 : List.Sublist (p2 ++ (i, Kd.A) :: q2) (p ++ (i, Kd.P) :: q) := by rw [← e2]; exact hs1
      have hnp2 : (i, Kd.P) ∉ p2 := fun hmm => by
        have := hmP2 .P (by rw [e2]; exact List.mem_append_left _ hmm)
        cases this
      have hj3 := J.moveFront ho hd p2 (W.front ht ho hr hs2 hnp2) (fun _ => ⟨hg, ⟨mk, obj, restr o E⟩, by simp [Prom.add], restr_eqOn o E⟩) hj2
      refine go (p2 ++ q2) _ hj3 (((List.Sublist.refl p2).append (List.sublist_cons_self _ _)).trans hs2) ?_ ?_
      · intro j kj
        constructor
        · intro hmm
          have hmm2 : (j, kj) ∈ p ++ q := by
            rw [e2]
            rcases List.mem_append.1 hmm with h3 | h3
            · exact List.mem_append_left _ h3
            · exact List.mem_append_right _ (List.mem_cons_of_mem _ h3)
          refine ⟨hs1.subset hmm2, ?_⟩
          rintro rfl
          have := hmP2 kj hmm2
          subst this
          have hnd2 : (p2 ++ (j, Kd.A) :: q2).Nodup := by rw [← e2]; exact hs1.nodup hnd
          rw [List.nodup_append] at hnd2
          rcases List.mem_append.1 hmm with h3 | h3
          · exact hnd2.2.2 _ h3 _ List.mem_cons_self rfl
          · exact (List.nodup_cons.1 hnd2.2.1).1 h3
        · rintro ⟨h3, hne⟩
          have h4 : (j, kj) ∈ p ++ q := by
            rcases List.mem_append.1 h3 with h5 | h5
            · exact List.mem_append_left _ h5
            · rcases List.mem_cons.1 h5 with h5 | h5
              · cases h5; exact absurd rfl hne
              · exact List.mem_append_right _ h5
          rw [e2] at h4
          rcases List.mem_append.1 h4 with h5 | h5
          · exact List.mem_append_left _ h5
          · rcases List.mem_cons.1 h5 with h5 | h5
            · cases h5; exact absurd rfl hne
            · exact List.mem_append_right _ h5
      · intro _ pr hpr
        simp [Prom.add] at hpr
        subst hpr
        exact hal.congr (restr_eqOn o E).symm
    · obtain ⟨p, q, rfl⟩ := List.append_of_mem hm
      have hone : ∀ kk, (i, kk) ∉ p ++ q := fun kk hkk => hkA (one_np W.pr hk hkk).2.1
      have hj1 := J.moveFront ho hd p (W.front ht ho hr (List.Sublist.refl _) (fun hmm => hone _ (List.mem_append_left _ hmm))) (fun e => absurd e hkA) hj
      refine go (p ++ q) G hj1 ((List.Sublist.refl p).append (List.sublist_cons_self _ _)) ?_ (fun e => absurd e hkA)
      intro j kj
      constructor
      · intro hmm
        refine ⟨((List.Sublist.refl p).append (List.sublist_cons_self _ _)).subset hmm, ?_⟩
        rintro rfl
        exact hone kj hmm
      · rintro ⟨h3, hne⟩
        rcases List.mem_append.1 h3 with h5 | h5
        · exact List.mem_append_left _ h5
        · rcases List.mem_cons.1 h5 with h5 | h5
          · cases h5; exact absurd rfl hne
          · exact List.mem_append_right _ h5
/-- **A region whose order is open: walked once, in a canonical order.** -/
theorem xc_drawL {id : Nat} {h' : Hp} (c : List Item) (f h : Hp) (hm : P.follows .mixedOrders = true) (hck : drawOk N ops c = true) (hp : List.Perm (h ++ f) h') (hIv : Holds L h) (H : J P r N ops D (PanEnv (mask ops E) Q) f L c E (fun _ => none) h) : XC P r N (.region id ops true) Q E D h' := by
  refine XC.perm hp ?_
  intro w a ho ha hda
  simp only [drawOk, Bool.and_eq_true] at hck
  obtain ⟨ht, hpr, hdst, hall, hit, hlen⟩ := hck
  refine wpIn_region_any hm ?_
  have hEp : ∀ (i : Nat) (o : Oper), ops[i]? = some o → ∀ t, o.dst = some t → mask ops E t = none := by
    intro i o hio t ht
    have : t ∈ dsts ops := List.mem_filterMap.2 ⟨o, by simpa using Array.mem_of_getElem? hio, ht⟩
    simp [mask, this]
  have hEa : Agree N (mask ops E) a := by
    refine ⟨ha.size, fun t v hv => ha.val t v ?_⟩
    unfold mask at hv
    split at hv
    · cases hv
    · exact hv
  refine draw_main (Ep := mask ops E) hEp (h0 := h ++ f) (w0 := w) ht hdst ops.size c _ E _ h _ a ⟨hpr, ?_, ?_, ?_, ?_, ?_, by simp, ?_⟩ (of_decide_eq_true hlen) H (ho.drew _) hIv ha hEa hda (Fol.refl (ho.drew _)).drew
  · intro i k hik
    have := List.all_eq_true.1 hit (i, k) hik
    simp only [Bool.and_eq_true, decide_eq_true_eq] at this
    exact ⟨this.1, by simp [Array.getD, this.1]⟩
  · intro i hi _
    have := List.all_eq_true.1 hall i (List.mem_range.2 hi)
    simp only [Bool.or_eq_true, List.contains_iff_mem] at this
    rcases this with ((h1 | h1) | h1) | h1
    · exact ⟨_, by simp, h1⟩
    · exact ⟨_, by simp, h1⟩
    · exact ⟨_, by simp, h1⟩
    · exact ⟨_, by simp, h1⟩
  · intro i hi
    have := List.all_eq_true.1 hit (i, .A) hi
    simp only [Bool.and_eq_true, Bool.or_eq_true, List.contains_iff_mem] at this
    rcases this.2.1 with h1 | h1
    · simp at h1
    · exact h1.2
  · intro i hi
    have := List.all_eq_true.1 hit (i, .P) hi
    simp only [Bool.and_eq_true, Bool.or_eq_true, List.contains_iff_mem] at this
    rcases this.2.2 with h1 | h1
    · simp at h1
    · exact h1
  · intro i o hi ho'
    have := List.all_eq_true.1 hit (i, .A) hi
    simp only [Bool.and_eq_true, Bool.or_eq_true, ho'] at this
    rcases this.2.1 with h1 | h1
    · simp at h1
    · simpa using h1.1
  · intro j o hj
    simp [Array.getD] at hj
end Go.H

/-
  Function values; ranges over functions.
-/
namespace Go.H
open Go
variable {P : Program} {r : Option Nat} {N : Nat} {Q : Post} {E : Env} {D : List Deferred} {h : Hp}
variable {K : Value → Hp → Prop} {T : List PanicEntry → Hp → Prop} {dst : Option Nat} {ty : TypeId} {pos : String} {af : Array Edge} {gd : Option (Nat × Bool)}
theorem XC.frame {c : Code} (g : Hp) (H : XC P r N c Q E D h) : XC P r N c (fun e E' D' h2 => ∃ h', h2 = h' ++ g ∧ Q e E' D' h') E D (h ++ g) := by
  intro w a ho ha hd
  refine wpIn_mono (H w a ho.left ha hd) ?_
  rintro e a' w' ⟨E', h', q, ha', hf⟩
  exact ⟨E', h' ++ g, ⟨h', rfl, q⟩, ha', Fol.frame ho hf⟩
/-- An operation that calls fv with such arguments. -/
def CallOp (o : Oper) (E : Env) (fv : Value) (args : List Value) : Prop :=
  ∃ c as at_, o.op = .call ⟨.value c, as, at_⟩ ∧ ev E c = some fv ∧ evs E as.toList = some args
/-- What a call of a function value does, whoever calls. -/
def AFn (P : Program) (fv : Value) (args : List Value) (h : Hp) (R : Ending → Hp → Prop) : Prop :=
  ∀ (r : Option Nat) (o : Oper) (E : Env) (K : Value → Hp → Prop) (T : List PanicEntry → Hp → Prop), CallOp o E fv args → (∀ e h', R e h' → Up K T e h') → XV P r o K T E h
theorem xv_fn {c : Operand} {as : Array Operand} {at_ : Array TypeId} {fv : Value} {args : List Value} (hc : ev E c = some fv) (ha : evs E as.toList = some args) (H : AFn P fv args h (Up K T)) : XV P r ⟨dst, .call ⟨.value c, as, at_⟩, ty, pos, af, gd⟩ K T E h :=
  H r _ E K T ⟨c, as, at_, rfl, hc, ha⟩ (fun _ _ q => q)
theorem AFn.mono {fv : Value} {args : List Value} {R R' : Ending → Hp → Prop} (H : AFn P fv args h R) (hr : ∀ e h', R e h' → R' e h') : AFn P fv args h R' :=
  fun r o E K T hc hk => H r o E K T hc fun e h' q => hk e h' (hr e h' q)
theorem afn_func {g : FuncId} {fi lb args : List Value} {R : Ending → Hp → Prop} (hb : HasBody P g) (H : ACalls P g ⟨fi ++ args ++ lb⟩ h R) : AFn P (.func (.func g) ⟨fi⟩ ⟨lb⟩) args h R := by
  rintro r ⟨dst, op, ty, pos, af, gd⟩ E K T ⟨c, as, at_, rfl, hc, ha⟩ hk
  exact xv_call hc ha hb rfl (H.mono hk)
theorem AFn.perm {fv : Value} {args : List Value} {R : Ending → Hp → Prop} {h' : Hp} (hp : List.Perm h h') (H : AFn P fv args h R) : AFn P fv args h' R :=
  fun r o E K T hc hk => XV.perm hp (H r o E K T hc hk)
theorem up_frame {g : Hp} {K : Value → Hp → Prop} {T : List PanicEntry → Hp → Prop} {R : Ending → Hp → Prop} (hk : ∀ e h2, (∃ h', h2 = h' ++ g ∧ R e h') → Up K T e h2) :
    ∀ e h', R e h' → Up (fun v h' => K v (h' ++ g)) (fun c h' => T c (h' ++ g)) e h' := by
  intro e h' q
  have := hk e (h' ++ g) ⟨h', rfl, q⟩
  cases e <;> exact this
theorem AFn.frame {fv : Value} {args : List Value} {R : Ending → Hp → Prop} (g : Hp) (H : AFn P fv args h R) : AFn P fv args (h ++ g) (fun e h2 => ∃ h', h2 = h' ++ g ∧ R e h') := by
  intro r o E K T hc hk
  refine (XV.frame g (H r o E (fun v h' => K v (h' ++ g)) (fun c h' => T c (h' ++ g)) hc (up_frame hk))).mono ?_ ?_
  · rintro v h2 ⟨h', rfl, k⟩; exact k
  · rintro v h2 ⟨h', rfl, k⟩; exact k
/-- The frame in front. -/
theorem AFn.frameL {fv : Value} {args : List Value} {R : Ending → Hp → Prop} (g : Hp) (H : AFn P fv args h R) : AFn P fv args (g ++ h) (fun e h2 => ∃ h', h2 = g ++ h' ∧ R e h') := by
  intro r o E K T hc hk
  have hp : ∀ h', List.Perm (h' ++ g) (g ++ h') := fun h' => List.perm_append_comm
  refine XV.perm (hp h) ((XV.frame g (H r o E (fun v h' => K v (g ++ h')) (fun c h' => T c (g ++ h')) hc ?_)).conv ?_ ?_)
  · intro e h' q
    have := hk e (g ++ h') ⟨h', rfl, q⟩
    cases e <;> exact this
  · rintro v h2 _ ⟨h', rfl, k⟩; exact ⟨g ++ h', (hp h').symm, k⟩
  · rintro v h2 ⟨h', rfl, k⟩; exact ⟨g ++ h', g ++ h', (hp h').symm, List.Sublist.refl _, k⟩
theorem ACalls.frameL {f : FuncId} {args : Array Value} {R : Ending → Hp → Prop} (g : Hp) (H : ACalls P f args h R) : ACalls P f args (g ++ h) (fun e h2 => ∃ h', h2 = g ++ h' ∧ R e h') := by
  intro w ho
  have hp : ∀ h', List.Perm (h' ++ g) (g ++ h') := fun h' => List.perm_append_comm
  have ho' : Own (h ++ g) w := ho.perm (hp h)
  refine (H w ho'.left).mono ?_
  rintro e w' ⟨h', q, hf⟩
  exact ⟨g ++ h', ⟨h', rfl, q⟩, ((Fol.frame ho' hf).perm (hp h').symm).permL (hp h).symm⟩
theorem ACalls.perm {f : FuncId} {args : Array Value} {R : Ending → Hp → Prop} {h' : Hp} (hp : List.Perm h h') (H : ACalls P f args h R) : ACalls P f args h' R := by
  intro w ho
  refine (H w (ho.perm hp)).mono ?_
  rintro e w' ⟨h2, q, hf⟩
  exact ⟨h2, q, hf.permL hp.symm⟩
/-- **An iterator's contract**: whoever is handed the elements 'all', one after the other, through y: y's word for each; the iterator ends when all have come, or y has said 'no more'. -/
def Iter {α : Type} (P : Program) (g : FuncId) (fi lb : List Value) (enc : α → List Value) (all : List α) (Rd : Hp → Prop) : Prop :=
  ∀ (y : Value) (J Jx : Nat → Hp → Prop) (h : Hp), (∀ k h', J k h' → Rd h') →
    (∀ k x, all[k]? = some x → ∀ h', J k h' → AFn P y (enc x) h' (fun e h2 => (e = .returned (.bool true) ∧ J (k + 1) h2) ∨ (e = .returned (.bool false) ∧ Jx (k + 1) h2))) →
    J 0 h → ACalls P g ⟨fi ++ [y] ++ lb⟩ h (fun e h' => (∃ v, e = .returned v) ∧ (J all.length h' ∨ ∃ k, k ≤ all.length ∧ Jx k h'))
def puts (E : Env) : List Nat → List Value → Env
  | p :: ps, v :: vs => puts (E.put (some p) v) ps vs
  | _, _ => E
theorem agree_puts : ∀ (ps : List Nat) (vs : List Value) (E : Env) (tm : Array Value), Agree N E { tmps := tm, defers := [] } → (∀ p ∈ ps, p < N) →
    Agree N (puts E ps vs) { tmps := (ps.zip vs).foldl (fun t (p, v) => t.setIfInBounds p v) tm, defers := [] }
  | [], _, _, _, ha, _ => by simpa [puts] using ha
  | _ :: _, [], _, _, ha, _ => by simpa [puts] using ha
  | p :: ps, v :: vs, E, tm, ha, hp => by
    have := agree_puts ps vs (E.put (some p) v) (tm.setIfInBounds p v) (ha.put (d := some p) (fun k hk => by cases hk; exact hp p List.mem_cons_self)) (fun q hq => hp q (List.mem_cons_of_mem _ hq))
    simpa [puts] using this
theorem fol_put {l : Nat} {o o' : Obj} {g : Hp} {w : World} (ho : Own ((l, o) :: g) w) : Fol ((l, o) :: g) w ((l, o') :: g) (w.putObj l o') := by
  have hm : (l, o) ∈ (l, o) :: g := List.mem_cons_self
  have hb := ho.has _ _ hm
  have hlt := (Array.getElem?_eq_some_iff.1 hb).1
  have := Fol.set (o' := o') (w' := w.putObj l o') ho hm (World.putObj_heap_same hlt) (fun k hk => World.putObj_heap_other hk) (by simp) rfl rfl rfl
  simpa [setH] using this
def markOf (k : Nat) : Deferred := { target := .collected k, args := #[] }
/-- **'for .. := range seq { body }'**, outside of any such loop. -/
theorem xc_range {α : Type} {g : Operand} {ps : Array Tmp} {assign body : Code} {gf : FuncId} {fi lb : List Value} (enc : α → List Value) (all : List α) (Rd : Hp → Prop)
    (hg : ev E g = some (.func (.func gf) ⟨fi⟩ ⟨lb⟩)) (hb : HasBody P gf) (hit : Iter P gf fi lb enc all Rd) (hps : ∀ x, (enc x).length = ps.size) (hpN : ∀ p ∈ ps.toList, p < N)
    (I : Nat → Hp → Prop) (Ix : Code → Nat → Hp → Prop) (hRd : ∀ k h', I k h' → ∀ x y, Rd (x :: y :: h')) (hRdp : ∀ h1 h2, List.Perm h1 h2 → Rd h1 → Rd h2) (h0 : I 0 h)
    (round : ∀ l k x, all[k]? = some x → ∀ h', I k h' →
      XC P (some l) N assign (fun e E1 D1 h1 => e = .normal ∧ XC P (some l) N body (fun e2 _ D2 h2 => D2 = [] ∧ (match e2 with
        | .normal => I (k + 1) h2
        | .ret => Ix .ret (k + 1) h2
        | .exit id => Ix (.exit id) (k + 1) h2
        | .goto t => Ix (.goto t) (k + 1) h2
        | _ => False)) E1 D1 h1) (puts E ps.toList (enc x)) [] h')
    (done : ∀ k h', I all.length h' → k ∉ keys h' → Q .normal E (markOf k :: D) ((k, .deferred (some [])) :: h'))
    (stop : ∀ k c j h', j ≤ all.length → Ix c j h' → k ∉ keys h' → XC P none N c Q E (markOf k :: D) ((k, .deferred (some [])) :: h')) : XC P none N (.rangeFunc g ps assign body) Q E D h := by
  intro w a ho ha hd
  refine wpIn_rangeFunc ?_
  intro fn _
  obtain ⟨rec, hrec⟩ : ∃ rec : LoopState → Option Code → Loop, rec = fun st pe => { state := st, pending := pe, fn, tmps := a.tmps, params := ps, assign, body, defers := w.heap.size } := ⟨_, rfl⟩
  have f1 := Fol.alloc ho (.deferred (some []))
  have f2 := Fol.alloc f1.own (.loop (rec .ready none))
  rw [World.size_alloc] at f2
  have f12 := f1.trans f2
  obtain ⟨w1, hw1⟩ : ∃ w1, (w.alloc (.deferred (some []))).alloc (.loop (rec .ready none)) = w1 := ⟨_, rfl⟩
  rw [hw1] at f12
  have hgv := ha.ev hg
  refine ⟨w.heap.size + 1, [markOf w.heap.size], w1, { target := .fn (.func gf) ⟨lb⟩, args := ⟨fi⟩ ++ #[.func (.yield (w.heap.size + 1)) #[] #[]] }, w1, gf,
    ⟨fi ++ [.func (.yield (w.heap.size + 1)) #[] #[]] ++ lb⟩, w1, ?_, ?_, fun _ _ => trivial, ?_, fun hh => by simp [fen, Fence.wide] at hh, callsIn_fen.2 ?_⟩
  · rw [← hw1, hrec]; exact run_enterLoop_outer _ _ _ _ _
  · simp [resolve, Deferred.ofValue, hgv]; rfl
  · simpa [invoke] using hb _ w1
  obtain ⟨Dk, hDk⟩ : ∃ k, k = w.heap.size := ⟨_, rfl⟩
  obtain ⟨l, hl⟩ : ∃ l, l = w.heap.size + 1 := ⟨_, rfl⟩
  rw [← hl, ← hDk] at f12
  rw [← hl]
  let base : LoopState → Option Code → Hp → Hp := fun st pe h' => (l, .loop (rec st pe)) :: (Dk, .deferred (some [])) :: h'
  have hcall := hit (.func (.yield l) #[] #[]) (fun k h' => ∃ h2, List.Perm h' (base .ready none h2) ∧ I k h2) (fun k h' => ∃ c h2, List.Perm h' (base .done (some c) h2) ∧ Ix c k h2) (base .ready none h)
    (fun k h' ⟨h2, hp, hi⟩ => hRdp _ _ hp.symm (hRd k h2 hi _ _)) ?_ ⟨h, List.Perm.refl _, h0⟩
  · refine (hcall w1 f12.own).mono ?_
    rintro e w2 ⟨h2, ⟨⟨v, rfl⟩, q⟩, hf2⟩
    have hf3 := f12.trans hf2
    rcases q with ⟨h3, hp, hi⟩ | ⟨j, hj, c, h3, hp, hi⟩
    · have ho3 := hf3.own.perm hp.symm
      have hl3 := ho3.has l _ List.mem_cons_self
      have hend := run_endLoop (P := P) hl3 (by rw [hrec]; simp)
      have hf4 := (hf3.perm hp.symm).trans (fol_put (o' := .loop { rec .ready none with state := .exhausted }) ho3)
      refine ⟨none, _, hend.trans (congrArg (fun p => Result.ok p _) (show (rec .ready none).pending = none by rw [hrec])), E, (Dk, .deferred (some [])) :: h3, ?_, ⟨ha.size, ha.val⟩, hf4.sub (List.sublist_cons_self _ _)⟩
      have hnd := ho3.nd
      simp only [base, keys, List.map_cons, List.nodup_cons] at hnd
      have := done Dk h3 hi (fun hm => hnd.2.1 hm)
      show Q .normal E ([markOf w.heap.size] ++ a.defers) _
      rw [hd, ← hDk]
      exact this
    · have ho3 := hf3.own.perm hp.symm
      have hl3 := ho3.has l _ List.mem_cons_self
      have hend := run_endLoop (P := P) hl3 (by rw [hrec]; simp)
      have hf4 := (hf3.perm hp.symm).trans (fol_put (o' := .loop { rec .done (some c) with state := .exhausted }) ho3)
      have hf5 := hf4.sub (List.sublist_cons_self _ _)
      have hnd := ho3.nd
      simp only [base, keys, List.map_cons, List.nodup_cons] at hnd
      refine ⟨some c, _, hend.trans (congrArg (fun p => Result.ok p _) (show (rec .done (some c)).pending = some c by rw [hrec])), ?_⟩
      have hst := stop Dk c j h3 hj hi (fun hm => hnd.2.1 hm) _ { a with defers := [markOf w.heap.size] ++ a.defers } hf5.own ⟨ha.size, ha.val⟩ (by show [markOf w.heap.size] ++ a.defers = _; rw [hd, ← hDk]; rfl)
      refine wpIn_mono hst ?_
      rintro e a' w' ⟨E', h', q, x, f⟩
      exact ⟨E', h', q, x, hf5.trans f⟩
  · -- one round
    rintro k x hx h' ⟨h2, hp, hi⟩
    refine AFn.perm hp.symm ?_
    rintro r2 ⟨dst, op, ty, pos, af, gd⟩ E2 K T ⟨c, as, at_, rfl, hc, hargs⟩ hk w' a' ho' ha' next QQ hn hq
    obtain ⟨ρ, he, hρ⟩ := ops_rho (by simp [plainOp]) ha'
    have hm := evs_arr he hargs
    have hl1 := ho'.has l _ List.mem_cons_self
    have hy := run_yield (P := P) (args := ⟨enc x⟩) hl1 (by rw [hrec]; simpa using hps x)
    have hres := resolve_value (P := P) (args := as) (at_ := at_) (t := ty) (w := w') (he _ _ hc)
    refine ⟨fun _ _ => trivial, ?_⟩
    rw [Oper.semAt_eq _ _ _ (by simp), ← hρ]
    have hex : (execOp ρ ⟨dst, .call ⟨.value c, as, at_⟩, ty, pos, af, gd⟩).run P w' = .ok (.round l fn ((ps.zip (⟨enc x⟩ : Array Value)).foldl (fun tmps (t, a) => tmps.setIfInBounds t a) a.tmps) assign body) w' := by
      have : (execOp ρ ⟨dst, .call ⟨.value c, as, at_⟩, ty, pos, af, gd⟩).run P w' = (Instr.yield l ⟨enc x⟩).run P w' := by
        simp [execOp, hres, invoke, hm]
      rw [this, hy, hrec]
    rw [hex]
    refine ⟨fun hh => by simp [fen, Fence.wide] at hh, ?_⟩
    have hrnd := round l k x hx h2 hi
    -- the frame: the record, the block of the deferred calls
    have hpf : ∀ z y (g : Hp), List.Perm (g ++ [z, y]) (z :: y :: g) := fun z y g => List.perm_append_comm (l₁ := g) (l₂ := [z, y])
    have hown : Own (h2 ++ [(l, .loop (rec .ready none)), (Dk, .deferred (some []))]) w' := ho'.perm (hpf _ _ _)
    have hag : Agree N (puts E ps.toList (enc x)) { tmps := (ps.zip (⟨enc x⟩ : Array Value)).foldl (fun tmps (t, a) => tmps.setIfInBounds t a) a.tmps, defers := [] } := by
      have := agree_puts ps.toList (enc x) E a.tmps ⟨ha.size, ha.val⟩ hpN
      have e : (ps.zip (⟨enc x⟩ : Array Value)).foldl (fun tmps (t, a) => tmps.setIfInBounds t a) a.tmps = (ps.toList.zip (enc x)).foldl (fun t (p, v) => t.setIfInBounds p v) a.tmps := by
        rw [← Array.foldl_toList]; simp
      rw [e]; exact this
    refine roundIn_of_wpIn (F := fen r2) trivial ?_
    refine wpIn_mono (XC.frame [(l, .loop (rec .ready none)), (Dk, .deferred (some []))] hrnd w' _ hown hag rfl) ?_
    rintro e a1 w1' ⟨E1, h1, ⟨h1', rfl, rfl, hbody⟩, ha1, hf1⟩
    have ho1 : Own ((l, .loop (rec .ready none)) :: (Dk, .deferred (some [])) :: h1') w1' := hf1.own.perm (hpf _ _ _).symm
    have hl2 := ho1.has l _ List.mem_cons_self
    refine ⟨_, run_beginRound (P := P) hl2 (by rw [hrec]), ?_⟩
    have hf2 := fol_put (o' := .loop { rec .ready none with state := .busy }) ho1
    have ho2 : Own (h1' ++ [(l, .loop { rec .ready none with state := .busy }), (Dk, .deferred (some []))]) (w1'.putObj l (.loop { rec .ready none with state := .busy })) := hf2.own.perm (hpf _ _ _)
    refine wpIn_mono (XC.frame [(l, .loop { rec .ready none with state := .busy }), (Dk, .deferred (some []))] hbody _ a1 ho2 ha1 rfl) ?_
    rintro e a3 w3 ⟨E3, h3, ⟨h3', rfl, hd3, hpost⟩, ha3, hf3⟩
    have ho3 : Own ((l, .loop { rec .ready none with state := .busy }) :: (Dk, .deferred (some [])) :: h3') w3 := hf3.own.perm (hpf _ _ _).symm
    have hl3 := ho3.has l _ List.mem_cons_self
    have hall : Fol ((l, .loop (rec .ready none)) :: (Dk, .deferred (some [])) :: h2) w' ((l, .loop { rec .ready none with state := .busy }) :: (Dk, .deferred (some [])) :: h3') w3 :=
      (((hf1.permL (hpf _ _ _).symm).perm (hpf _ _ _).symm).trans hf2).trans ((hf3.permL (hpf _ _ _).symm).perm (hpf _ _ _).symm)
    have fin : ∀ (jump : Option Code), Fol ((l, .loop (rec .ready none)) :: (Dk, .deferred (some [])) :: h2) w' ((l, .loop (rec (if jump.isNone then .ready else .done) jump)) :: (Dk, .deferred (some [])) :: h3') (w3.putObj l (.loop (rec (if jump.isNone then .ready else .done) jump))) ∧
        (Instr.endRound l jump).run P w3 = .ok (.bool jump.isNone) (w3.putObj l (.loop (rec (if jump.isNone then .ready else .done) jump))) := by
      intro jump
      refine ⟨hall.trans (fol_put ho3), ?_⟩
      have := run_endRound (P := P) jump hl3
      rw [hrec] at this ⊢
      exact this
    cases e with
    | normal =>
      obtain ⟨h4, h5⟩ := fin none
      refine ⟨_, _, h5, ?_⟩
      have := hk _ _ (.inl ⟨rfl, h3', List.Perm.refl _, hpost⟩)
      exact hn _ _ _ this h4
    | ret =>
      obtain ⟨h4, h5⟩ := fin (some .ret)
      refine ⟨_, _, h5, ?_⟩
      have := hk _ _ (.inr ⟨rfl, .ret, h3', List.Perm.refl _, hpost⟩)
      exact hn _ _ _ this h4
    | exit id =>
      obtain ⟨h4, h5⟩ := fin (some (.exit id))
      refine ⟨_, _, h5, ?_⟩
      have := hk _ _ (.inr ⟨rfl, .exit id, h3', List.Perm.refl _, hpost⟩)
      exact hn _ _ _ this h4
    | goto t =>
      obtain ⟨h4, h5⟩ := fin (some (.goto t))
      refine ⟨_, _, h5, ?_⟩
      have := hk _ _ (.inr ⟨rfl, .goto t, h3', List.Perm.refl _, hpost⟩)
      exact hn _ _ _ this h4
    | panic ch => exact hpost.elim
    | outgrown => exact hpost.elim
end Go.H

/-
  Rules on operations: literals, appends, maps, interfaces, panics.
-/
namespace Go.H
open Go
variable {P : Program} {r : Option Nat} {N : Nat} {Q : Post} {E : Env} {D : List Deferred} {h h' : Hp}
variable {K : Value → Hp → Prop} {T : List PanicEntry → Hp → Prop} {dst : Option Nat} {ty : TypeId} {pos : String} {af : Array Edge} {gd : Option (Nat × Bool)}
/-! ### Literals -/
def putL : List Value → Nat → List Value → List Value
  | l, _, [] => l
  | l, o, v :: vs => putL (l.set o v) (o + 1) vs
def bld (z : List Value) (pl : Nat → Option (Nat × Nat)) : List (Nat × Value) → Option (List Value)
  | [] => some z
  | (i, v) :: rest => match pl i with
    | none => none
    | some (off, size) => if v.cells.toList.length = size ∧ off + size ≤ z.length then bld (putL z off v.cells.toList) pl rest else none
theorem foldl_putL : ∀ (vs : List Value) (j off : Nat) (cs : Array Value), (vs.zipIdx j).foldl (fun cs (c, j) => cs.setIfInBounds (off + j) c) cs = ⟨putL cs.toList (off + j) vs⟩
  | [], j, off, cs => rfl
  | v :: vs, j, off, cs => by
    simp only [List.zipIdx_cons, List.foldl_cons, putL]
    rw [foldl_putL vs (j + 1) off]
    simp [Nat.add_assoc]
theorem bld_fill (pl : Nat → Option (Nat × Nat)) : ∀ (parts : List (Nat × Value)) (z l : List Value), bld z pl parts = some l → Instr.fill pl ⟨z⟩ parts = some ⟨l⟩
  | [], z, l, hh => by cases hh; rfl
  | (i, v) :: rest, z, l, hh => by
    simp only [bld] at hh
    simp only [Instr.fill]
    cases hp : pl i with
    | none => simp [hp] at hh
    | some p =>
      obtain ⟨off, size⟩ := p
      simp only [hp] at hh ⊢
      split at hh
      · rename_i hc
        have h1 : v.cells.size = size := by simpa using hc.1
        have hne : ¬ (decide (v.cells.size ≠ size) || decide (off + v.cells.size > z.toArray.size)) = true := by simp [h1]; omega
        have e : (v.cells.zipIdx.foldl (fun cs (c, j) => cs.setIfInBounds (off + j) c) (⟨z⟩ : Array Value)) = ⟨putL z off v.cells.toList⟩ := by
          have := foldl_putL v.cells.toList 0 off ⟨z⟩
          simp only [Nat.add_zero] at this
          rw [← this, ← Array.foldl_toList]
          simp
        rw [if_neg hne, e]
        exact bld_fill pl rest _ l hh
      · cases hh
/-- What a literal of a type is made of: its zero, each part's place. -/
def BtOk (P : Program) (t : TypeId) (z : List Value) (pl : Nat → Option (Nat × Nat)) : Prop := ∀ parts, P.built t parts = Instr.fill pl ⟨z⟩ parts
def evps (E : Env) : List (Nat × Operand) → Option (List (Nat × Value))
  | [] => some []
  | (i, x) :: xs => match ev E x, evps E xs with
    | some v, some vs => some ((i, v) :: vs)
    | _, _ => none
theorem evps_map {ρ : Operand → Value} (he : ∀ x v, ev E x = some v → ρ x = v) : ∀ (l : List (Nat × Operand)) (vs : List (Nat × Value)), evps E l = some vs → (l.map fun (i, x) => (i, ρ x)) = vs
  | [], _, hh => by cases hh; rfl
  | (i, x) :: xs, _, hh => by
    simp only [evps] at hh
    cases h1 : ev E x with
    | none => simp [h1] at hh
    | some v =>
      cases h2 : evps E xs with
      | none => simp [h1, h2] at hh
      | some vs => simp [h1, h2] at hh; subst hh; simp [he _ _ h1, evps_map he xs vs h2]
theorem xv_build {t : TypeId} {ps : Array (Nat × Operand)} {vs : List (Nat × Value)} {z l : List Value} {pl : Nat → Option (Nat × Nat)} (hb : BtOk P t z pl) (hv : evps E ps.toList = some vs) (hl : bld z pl vs = some l)
    (H : K (.agg ⟨l⟩) h) : XV P r ⟨dst, .build t ps, ty, pos, af, gd⟩ K T E h :=
  xv_of_run (by simp [plainOp]) fun w ρ ho he => ⟨_, h, w, by
    have hm := evps_map he _ _ hv
    have hmm : (ps.map fun (i, x) => (i, ρ x)).toList = vs := by rw [← hm]; simp
    have := run_build (P := P) w t (ps.map fun (i, x) => (i, ρ x)) ⟨l⟩ (by rw [hmm, hb]; exact bld_fill pl vs z l hl)
    simp only [execOp, Sem.run_bind, this, Result.andThen_ok, Sem.run_pure], H, .refl ho⟩
def zeros (z : List Value) : Nat → List Value
  | 0 => []
  | n + 1 => z ++ zeros z n
theorem zeros_length (z : List Value) (n : Nat) : (zeros z n).length = n * z.length := by
  induction n with
  | zero => simp [zeros]
  | succ n ih => simp [zeros, ih, Nat.add_mul, Nat.add_comm]
theorem zeros_get (z : List Value) : ∀ (n i : Nat), i < n * z.length → (zeros z n)[i]? = z[i % z.length]?
  | 0, i, hi => by simp at hi
  | n + 1, i, hi => by
    simp only [zeros]
    by_cases h1 : i < z.length
    · rw [List.getElem?_append_left h1, Nat.mod_eq_of_lt h1]
    · rw [List.getElem?_append_right (by omega), zeros_get z n _ (by rw [Nat.add_mul] at hi; omega)]
      congr 1
      rw [Nat.mod_eq_sub_mod (a := i) (by omega)]
theorem zeros_arr (z : List Value) (n : Nat) (hz : 0 < z.length) : (Array.range (n * z.length)).map (fun i => (⟨z⟩ : Array Value)[i % (⟨z⟩ : Array Value).size]!) = ⟨zeros z n⟩ := by
  apply Array.ext'
  apply List.ext_getElem?
  intro i
  simp only [Array.toList_map, Array.toList_range]
  rw [List.getElem?_map]
  by_cases hi : i < n * z.length
  · rw [List.getElem?_range hi, zeros_get z n i hi]
    have hlt : i % z.length < z.length := Nat.mod_lt _ hz
    simp [hlt]
  · rw [List.getElem?_eq_none (by simpa using Nat.le_of_not_lt hi), List.getElem?_eq_none (by rw [zeros_length]; omega)]
    rfl
theorem run_buildSlice {t e : TypeId} {d : TD} {n : Nat} {parts : Array (Nat × Value)} {zl l : List Value} {w : World} (ht : SlT P t e) (hd : TyOk P e d) (hz : d.zero.cells.toList = zl) (hzs : zl.length = d.size) (h0 : 0 < d.size) (hn : n * d.size ≤ 16777216)
    (hl : bld (zeros zl n) (fun i => some (i * d.size, d.size)) parts.toList = some l) :
    (Instr.buildSlice t n parts).run P w = .ok (.slice (some ⟨w.heap.size, 0, none⟩) n n) (w.alloc (.cells ⟨l⟩ e)) := by
  have hfill := bld_fill _ _ _ _ hl
  have hzc : d.zero.cells = ⟨zl⟩ := by apply Array.ext'; simpa using hz
  have hna : ¬ (n * d.size > 2 ^ 24) := by omega
  unfold Instr.buildSlice
  by_cases hn0 : n = 0
  · subst hn0
    simp only [zeros] at hfill
    simp [run_underlying ht, hd.run_size, Array.range_zero', hfill, newRow]
  · have hne : ¬ (n * d.size = 0) := fun e => by rcases Nat.mul_eq_zero.1 e with h1 | h1 <;> omega
    have ha := zeros_arr zl n (by omega)
    rw [hzs] at ha
    have hna' : ¬ (16777216 < n * d.size) := by omega
    simp only [List.size_toArray] at ha
    simp [run_underlying ht, hd.run_size, hna', hne, hd.run_zero, hzc, newRow]
    simp only [hzs] at ha ⊢
    rw [show (Array.map (fun x => zl[x % d.size]?.getD default) (Array.range (n * d.size))) = ⟨zeros zl n⟩ from ?_]
    · rw [hfill]; simp
    · rw [← ha]
      apply Array.map_congr_left
      intro x _
      simp
end Go.H

/-
  Rules on operations: slices that grow, maps, interfaces, panics, allocations in drawn regions.
-/
namespace Go.H
open Go
variable {P : Program} {r : Option Nat} {N : Nat} {Q : Post} {E : Env} {D : List Deferred} {h h' : Hp}
variable {K : Value → Hp → Prop} {T : List PanicEntry → Hp → Prop} {dst : Option Nat} {ty : TypeId} {pos : String} {af : Array Edge} {gd : Option (Nat × Bool)}
theorem al_buildSlice {t e : TypeId} {d : TD} {n : Nat} {ps : Array (Nat × Operand)} {vs : List (Nat × Value)} {zl l : List Value} (ht : SlT P t e) (hd : TyOk P e d) (hz : d.zero.cells.toList = zl) (hzs : zl.length = d.size) (h0 : Nat.blt 0 d.size = true) (hn : Nat.ble (n * d.size) 16777216 = true)
    (hv : evps E ps.toList = some vs) (hl : bld (zeros zl n) (fun i => some (i * d.size, d.size)) vs = some l) :
    AL P ⟨dst, .buildSlice t n ps, ty, pos, af, gd⟩ E (fun b => .slice (some ⟨b, 0, none⟩) n n) (.cells ⟨l⟩ e) :=
  ⟨by simp [plainOp], fun w ρ he => by
    have hm := evps_map he _ _ hv
    have hmm : (ps.map fun (i, x) => (i, ρ x)).toList = vs := by rw [← hm]; simp
    have := run_buildSlice (P := P) (n := n) (parts := ps.map fun (i, x) => (i, ρ x)) (w := w) ht hd hz hzs (Nat.le_of_ble_eq_true h0) (Nat.le_of_ble_eq_true hn) (by rw [hmm]; exact hl)
    simp only [execOp, Sem.run_bind, this, Result.andThen_ok, Sem.run_pure]⟩
theorem al_alloc {t : TypeId} {d : TD} (ht : TyOk P t d) : AL P ⟨dst, .alloc t, ty, pos, af, gd⟩ E (fun b => .pointer (some ⟨b, 0, none⟩)) (.cells d.zero.cells t) :=
  ⟨by simp [plainOp], fun w ρ he => by simp [execOp, Instr.alloc, ht.run_zero, newVar, newRow]⟩
theorem AL.xv {o : Oper} {mk : Nat → Value} {obj : Obj} (H : AL P o E mk obj) (hk : ∀ b, b ∉ keys h → K (mk b) ((b, obj) :: h)) : XV P r o K T E h :=
  xv_of_run H.1 fun w ρ ho he => ⟨_, _, w.alloc obj, H.2 w ρ he, hk _ fun hc => Nat.lt_irrefl _ (ho.lt hc), .alloc ho _⟩
/-! ### Interfaces, panics -/
/-! ### Maps with integer keys -/
def mfind (k : Int) : List MapEntry → Nat → Option (Nat × Value)
  | [], _ => none
  | e :: es, i => match e.key with
    | .int .i64 j => if k = j then some (i, e.val) else mfind k es (i + 1)
    | _ => none
def mget (es : List MapEntry) (k : Int) : Option Value := (mfind k es 0).map (·.2)
def AllInt (es : List MapEntry) : Prop := ∀ e ∈ es, ∃ j, e.key = .int .i64 j
/-- What a store into a map leaves. -/
structure MSet (es : List MapEntry) (k : Int) (v : Value) (es' : List MapEntry) : Prop where
  ai : AllInt es'
  get : ∀ j, mget es' j = if j = k then some v else mget es j
end Go.H

