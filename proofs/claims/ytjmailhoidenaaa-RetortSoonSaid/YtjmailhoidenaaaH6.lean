/-
  Regions whose order Go leaves open: the theorem.
-/
import Derived.Test.YtjmailhoidenaaaH5
set_option linter.all false
namespace Go.H
open Go
variable {P : Program} {r : Option Nat} {N : Nat} {Q : Post} {E : Env} {D : List Deferred} {h : Hp}
variable {ops : Array Oper} {f : Hp} {L : List (Nat × (Obj → Prop))}
theorem Jst.info {k : Kd} {i : Nat} {o : Oper} {G : Prom} {K : Env → Prom → Hp → Prop} (H : Jst P r ops D Q f L k i o E G h K) :
    Jst P r ops D Q f L k i o E G h (fun E' G' h' => ExtE o E E' ∧ (G' = G ∨ ∃ pr, G' = G.add i pr) ∧ K E' G' h') := by
  cases k with
  | S => exact H.imp (fun ⟨a, b⟩ => ⟨a, .inr ⟨_, rfl⟩, .inl rfl, b⟩) (fun ⟨a, v, b, c⟩ => ⟨a, v, b, .inr ⟨_, rfl⟩, .inl rfl, c⟩)
  | R => exact H.imp (fun ⟨a, b⟩ => ⟨a, .inr ⟨_, rfl⟩, .inl rfl, b⟩) (fun ⟨a, v, b, c⟩ => ⟨a, v, b, .inr ⟨_, rfl⟩, .inl rfl, c⟩)
  | P => obtain ⟨a, mk, obj, b, c⟩ := H; exact ⟨a, mk, obj, b, .inl rfl, .inr ⟨_, rfl⟩, c⟩
  | A => obtain ⟨a, p, b, c, d⟩ := H; exact ⟨a, p, b, c, fun x hx => ⟨.inr ⟨_, rfl⟩, .inl rfl, d x hx⟩⟩
  | O => exact H.imp (fun ⟨a, b⟩ => ⟨a, .inr ⟨_, rfl⟩, .inl rfl, b⟩) (fun ⟨a, b⟩ => ⟨a, b.mono (fun v h2 ⟨h', p, iv, c⟩ => ⟨h', p, iv, .inr ⟨_, rfl⟩, .inl rfl, c⟩) (fun _ _ c => c)⟩)
theorem J.moveFront {x : Nat} {k : Kd} {ox : Oper} (hx : ops[x]? = some ox) (hd : dstOk N ox.dst = true) {q : List Item} : ∀ (p : List Item) {E : Env} {G : Prom} {h : Hp},
    (∀ z kz, (z, kz) ∈ p → z ≠ x ∧ okSwap kz k = true ∧ ∀ oz, ops[z]? = some oz → oz.apart ops ox = true) →
    (k = .A → ox.guard = none ∧ ∃ pr, G x = some pr ∧ EqOn ox pr.env E) → J P r N ops D Q f L (p ++ (x, k) :: q) E G h → J P r N ops D Q f L ((x, k) :: (p ++ q)) E G h
  | [], _, _, _, _, _, H => H
  | (z, kz) :: p, E, G, h, hp, hI, H => by
    obtain ⟨oz, hoz, hdz, H⟩ := H
    obtain ⟨hne, hok, hap⟩ := hp z kz List.mem_cons_self
    have hap := hap oz hoz
    have H2 : Jst P r ops D Q f L kz z oz E G h (fun E' G' h' => Jst P r ops D Q f L k x ox E' G' h' (J P r N ops D Q f L (p ++ q))) := by
      refine H.info.mono ?_
      rintro E' G' h' ⟨e, g, H⟩
      have H' := J.moveFront hx hd p (fun z' kz' hm => hp z' kz' (List.mem_cons_of_mem _ hm)) (fun hk => by
        obtain ⟨hg, pr, h1, h2⟩ := hI hk
        refine ⟨hg, pr, ?_, h2.trans ?_⟩
        · rcases g with rfl | ⟨pr', rfl⟩
          · exact h1
          · simp only [Prom.add]; rw [if_neg (fun e => hne e.symm)]; exact h1
        · rcases e with rfl | ⟨u, rfl⟩
          · exact fun _ _ => rfl
          · exact eqOn_put hap u) H
      obtain ⟨o', ho', _, H'⟩ := H'
      rw [hx] at ho'; cases ho'
      exact H'
    refine ⟨ox, hx, hd, (Jst.swap (K := J P r N ops D Q f L (p ++ q)) hap hok hne hI (fun _ _ _ _ hp' q' => J.perm _ hp' q') H2).mono ?_⟩
    exact fun E' G' h' H' => ⟨oz, hoz, hdz, H'⟩
/-- One step of the canonical order, carried out. -/
theorem Jst.exec {Ep : Env} {k : Kd} {i : Nat} {o : Oper} {G : Prom} {K : Env → Prom → Hp → Prop} {w : World} {a : Act} {QQ : Exit → Act → World → Prop} {next : Act → World → Prop} (ho : ops[i]? = some o) (hd : dstOk N o.dst = true) (hk : k ≠ .P)
    (hG : k = .A → ∀ p, G i = some p → AL P o p.env p.val p.obj) (hw : Own (h ++ f) w) (hIv : Holds L h) (ha : Agree N E a) (hda : a.defers = D) (hEp : ∀ t, o.dst = some t → Ep t = none) (hEa : Agree N Ep a)
    (hn : ∀ E' G' h' a' w', (G' = G) → ExtE o E E' → Agree N E' a' → Agree N Ep a' → a'.defers = D → Fol (h ++ f) w (h' ++ f) w' → Holds L h' → K E' G' h' → next a' w') (hq : ∀ ch h' w', Q (.panic ch) emp D h' → Fol (h ++ f) w h' w' → QQ (.panic ch) a w')
    (H : Jst P r ops D Q f L k i o E G h K) : wpOpIn (fen r) 0 P ops QQ i next a w := by
  have hput : ∀ v, (a.put o.dst v).defers = D := fun v => by cases o.dst <;> exact hda
  have hput2 : ∀ v, Agree N Ep (a.put o.dst v) := fun v => by
    have h1 := (hEa.put (v := v) (dstOk_lt hd))
    refine ⟨h1.size, fun t u hu => h1.val t u ?_⟩
    rw [put_other (fun e => by rw [hEp t e] at hu; cases hu)]; exact hu
  have hskip : Skips ops o E → K (E.put o.dst undef) G h → wpOpIn (fen r) 0 P ops QQ i next a w := by
    rintro ⟨j, t, u, hg, hgv, hne⟩ hK
    unfold wpOpIn
    simp only [ho]
    have hw' : ¬ Region.wanted o (yielded ops a.tmps) = true := by
      simp only [Region.wanted, hg, gv_yielded ha hgv]
      cases u <;> cases t <;> simp_all
    rw [if_neg hw']
    exact ⟨fun _ _ => trivial, hn _ _ _ _ _ rfl (.inr ⟨_, rfl⟩) (ha.put (dstOk_lt hd)) (hput2 _) (hput _) (.refl hw) hIv hK⟩
  have hrun : Runs ops o E → (o.wpIn (fen r) 0 P a w next QQ) → wpOpIn (fen r) 0 P ops QQ i next a w := by
    intro hr hh
    unfold wpOpIn
    simp only [ho]
    have hw' : Region.wanted o (yielded ops a.tmps) = true := by
      rcases hr with hr | ⟨j, t, hg, hgv⟩
      · simp [Region.wanted, hr]
      · simp [Region.wanted, hg, gv_yielded ha hgv]
    rw [if_pos hw']
    exact hh
  have hops : OpsAt E o a := fun x _ v hv => ha.ev hv
  cases k with
  | P => exact absurd rfl hk
  | S =>
    rcases H with ⟨hs, hK⟩ | ⟨hr, v, hv, hK⟩
    · exact hskip hs hK
    · refine hrun hr (hv h hIv w a hw hops next QQ ?_ (fun _ _ _ k _ => k.elim))
      rintro v' h' w' ⟨rfl, e⟩ hf
      rw [e] at hf
      exact hn _ _ h _ _ rfl (.inr ⟨_, rfl⟩) (ha.put (dstOk_lt hd)) (hput2 _) (hput _) hf hIv hK
  | R =>
    rcases H with ⟨hs, hK⟩ | ⟨hr, v, hv, hK⟩
    · exact hskip hs hK
    · refine hrun hr (hv w a hw hops next QQ ?_ (fun _ _ _ k _ => k.elim))
      rintro v' h' w' ⟨rfl, e⟩ hf
      rw [e] at hf
      exact hn _ _ h _ _ rfl (.inr ⟨_, rfl⟩) (ha.put (dstOk_lt hd)) (hput2 _) (hput _) hf hIv hK
  | A =>
    obtain ⟨hg, p, hp, he, hK⟩ := H
    have hal := (hG rfl p hp).congr he
    obtain ⟨ρ, hρ1, hρ2⟩ := ops_rho hal.1 hops
    refine hrun (.inl hg) ⟨fun _ _ => trivial, ?_⟩
    rw [Oper.semAt_eq _ _ _ hal.1.1, ← hρ2, hal.2 w ρ hρ1]
    exact hn _ _ ((w.heap.size, p.obj) :: h) _ _ rfl (.inr ⟨_, rfl⟩) (ha.put (dstOk_lt hd)) (hput2 _) (hput _) (Fol.alloc hw _) (hIv.cons _) (hK _ fun hc => Nat.lt_irrefl _ (hw.lt hc))
  | O =>
    rcases H with ⟨hs, hK⟩ | ⟨hr, hx⟩
    · exact hskip hs hK
    · refine hrun hr (hx w a hw hops next QQ ?_ ?_)
      · rintro v h2 w' ⟨h', hp, iv, hK⟩ hf
        exact hn _ _ h' _ _ rfl (.inr ⟨_, rfl⟩) (ha.put (dstOk_lt hd)) (hput2 _) (hput _) (hf.perm hp) iv hK
      · intro ch h2 w' hq' hf
        exact hq ch h2 w' hq' hf
/-! ### What is checked of a region and its canonical order -/
def direct (o : Oper) : List Nat := (o.after.toList.filter (Region.binds .any)).map (·.on)
def clos (ops : Array Oper) : List (List Nat) :=
  ops.toList.foldl (fun acc o => acc ++ [(direct o).foldl (fun s j => s ++ [j] ++ (acc.getD j []).filter fun z => !s.contains z) []]) []
def tblOk (ops : Array Oper) (tbl : List (List Nat)) : Bool :=
  (List.range ops.size).all fun y => match ops[y]? with
    | none => false
    | some o => ((tbl.getD y []).all fun x => (direct o).contains x || (direct o).any fun z => (tbl.getD z []).contains x) && (direct o).all (· < y)
def pairsOk (ops : Array Oper) (tbl : List (List Nat)) : List Item → Bool
  | [] => true
  | (x, k) :: l => (l.all fun (y, ky) => (x == y && (k == .P && ky == .A)) || (x != y && ((tbl.getD y []).contains x || (okSwap k ky && match ops[x]?, ops[y]? with | some ox, some oy => ox.apart ops oy | _, _ => false)))) && pairsOk ops tbl l
def drawOk (N : Nat) (ops : Array Oper) (c : List Item) : Bool :=
  tblOk ops (clos ops) && (pairsOk ops (clos ops) c && (ops.toList.all (fun o => dstOk N o.dst) &&
  (((List.range ops.size).all fun i => c.contains (i, .S) || c.contains (i, .R) || c.contains (i, .O) || c.contains (i, .A)) &&
  ((c.all fun (i, k) => decide (i < ops.size) && ((k != .A || ((match ops[i]? with | some o => o.guard.isNone | none => false) && c.contains (i, .P))) && (k != .P || c.contains (i, .A)))) &&
  decide ((c.filter fun x => x.2 != .P).length ≤ ops.size)))))
theorem tbl_sound {tbl : List (List Nat)} {listed : Array Bool} (ht : tblOk ops tbl = true) (hdc : ∀ j o, listed.getD j false = true → ops[j]? = some o → ∀ x ∈ direct o, listed.getD x false = true) :
    ∀ (y : Nat) (o : Oper), ops[y]? = some o → (∀ x ∈ direct o, listed.getD x false = true) → ∀ x ∈ tbl.getD y [], listed.getD x false = true := by
  intro y
  induction y using Nat.strongRecOn with
  | _ y ih =>
    intro o ho hr x hx
    have hlt : y < ops.size := (Array.getElem?_eq_some_iff.1 ho).1
    have := List.all_eq_true.1 ht y (List.mem_range.2 hlt)
    simp only [ho, Bool.and_eq_true, List.all_eq_true, Bool.or_eq_true, List.contains_iff_mem, List.any_eq_true, decide_eq_true_eq] at this
    rcases this.1 x hx with h1 | ⟨z, hz, hxz⟩
    · exact hr x h1
    · have hzy := this.2 z hz
      obtain ⟨oz, hoz⟩ : ∃ oz, ops[z]? = some oz := ⟨_, Array.getElem?_eq_getElem (by omega)⟩
      exact ih z hzy oz hoz (hdc z oz (hr z hz) hoz) x hxz
theorem pairs_sub {tbl : List (List Nat)} {c c' : List Item} (hs : List.Sublist c' c) (hp : pairsOk ops tbl c = true) : pairsOk ops tbl c' = true := by
  induction hs with
  | slnil => rfl
  | @cons l1 l2 a _ ih => obtain ⟨x, k⟩ := a; simp only [pairsOk, Bool.and_eq_true] at hp; exact ih hp.2
  | @cons_cons l1 l2 a hs ih =>
    obtain ⟨x, k⟩ := a
    simp only [pairsOk, Bool.and_eq_true] at hp ⊢
    exact ⟨List.all_eq_true.2 fun z hz => List.all_eq_true.1 hp.1 z (hs.subset hz), ih hp.2⟩
theorem pairs_at {tbl : List (List Nat)} {x : Nat} {k : Kd} {q : List Item} : ∀ {p : List Item}, pairsOk ops tbl (p ++ (x, k) :: q) = true → ∀ z kz, (z, kz) ∈ p → 
    (z = x ∧ kz = .P ∧ k = .A) ∨ (z ≠ x ∧ (z ∈ tbl.getD x [] ∨ (okSwap kz k = true ∧ ∃ oz ox, ops[z]? = some oz ∧ ops[x]? = some ox ∧ oz.apart ops ox = true)))
  | [], _, _, _, hm => by cases hm
  | (y, ky) :: p, hp, z, kz, hm => by
    simp only [List.cons_append, pairsOk, Bool.and_eq_true] at hp
    rcases List.mem_cons.1 hm with e | hm
    · cases e
      have := List.all_eq_true.1 hp.1 (x, k) (by simp)
      simp only [Bool.or_eq_true, Bool.and_eq_true, beq_iff_eq, bne_iff_ne, ne_eq, List.contains_iff_mem] at this
      rcases this with ⟨e1, e2, e3⟩ | ⟨e1, e2 | ⟨e2, e3⟩⟩
      · exact .inl ⟨e1, e2, e3⟩
      · exact .inr ⟨e1, .inl e2⟩
      · refine .inr ⟨e1, .inr ⟨e2, ?_⟩⟩
        cases h1 : ops[y]? with
        | none => simp [h1] at e3
        | some oz =>
          cases h2 : ops[x]? with
          | none => simp [h1, h2] at e3
          | some ox => simp [h1, h2] at e3; exact ⟨oz, ox, rfl, rfl, e3⟩
    · exact pairs_at hp.2 z kz hm
structure WF (ops : Array Oper) (tbl : List (List Nat)) (c : List Item) (listed : Array Bool) : Prop where
  pr : pairsOk ops tbl c = true
  un : ∀ i k, (i, k) ∈ c → i < ops.size ∧ listed.getD i true = false
  al : ∀ i, i < ops.size → listed.getD i true = false → ∃ k, k ≠ Kd.P ∧ (i, k) ∈ c
  ap : ∀ i, (i, Kd.A) ∈ c → (i, Kd.P) ∈ c
  pa : ∀ i, (i, Kd.P) ∈ c → (i, Kd.A) ∈ c
  gd : ∀ i o, (i, Kd.A) ∈ c → ops[i]? = some o → o.guard = none
  sz : listed.size = ops.size
  dc : ∀ j o, listed.getD j false = true → ops[j]? = some o → ∀ x ∈ direct o, listed.getD x false = true
theorem WF.front {tbl : List (List Nat)} {c : List Item} {listed : Array Bool} (W : WF ops tbl c listed) (ht : tblOk ops tbl = true) {x : Nat} {k : Kd} {ox : Oper} (hox : ops[x]? = some ox) (hr : ∀ z ∈ direct ox, listed.getD z false = true)
    {p q : List Item} (hs : List.Sublist (p ++ (x, k) :: q) c) (hnp : (x, Kd.P) ∉ p) : ∀ z kz, (z, kz) ∈ p → z ≠ x ∧ okSwap kz k = true ∧ ∀ oz, ops[z]? = some oz → oz.apart ops ox = true := by
  intro z kz hm
  rcases pairs_at (pairs_sub hs W.pr) z kz hm with ⟨rfl, rfl, _⟩ | ⟨h1, h2 | ⟨h2, oz, ox', e1, e2, e3⟩⟩
  · exact absurd hm hnp
  · have hl := tbl_sound ht W.dc x ox hox hr z h2
    have hu := W.un z kz (hs.subset (List.mem_append_left _ hm))
    have hlt : z < listed.size := by rw [W.sz]; exact hu.1
    simp [Array.getD, hlt] at hl hu
    rw [hl] at hu; exact absurd hu.2 (by simp)
  · rw [hox] at e2; cases e2
    exact ⟨h1, h2, fun oz' ho' => by rw [e1] at ho'; cases ho'; exact e3⟩
theorem wf_nodup {tbl : List (List Nat)} : ∀ {c : List Item}, pairsOk ops tbl c = true → c.Nodup
  | [], _ => List.nodup_nil
  | (x, k) :: l, hp => by
    simp only [pairsOk, Bool.and_eq_true] at hp
    refine List.nodup_cons.2 ⟨fun hm => ?_, wf_nodup hp.2⟩
    have := List.all_eq_true.1 hp.1 (x, k) hm
    cases k <;> simp at this
theorem getD_set {l : Array Bool} {i j : Nat} {d : Bool} (hi : i < l.size) : (l.setIfInBounds i true).getD j d = if i = j then true else l.getD j d := by
  simp only [Array.getD_eq_getD_getElem?, Array.getElem?_setIfInBounds]
  split
  · rename_i e; subst e; simp [hi]
  · rfl
/-- The items of one index gone. -/
theorem WF.step {tbl : List (List Nat)} {c c' : List Item} {listed : Array Bool} (W : WF ops tbl c listed) {x : Nat} {ox : Oper} (hox : ops[x]? = some ox) (hr : ∀ z ∈ direct ox, listed.getD z false = true)
    (hs : List.Sublist c' c) (hm : ∀ i k, (i, k) ∈ c' ↔ (i, k) ∈ c ∧ i ≠ x) : WF ops tbl c' (listed.setIfInBounds x true) := by
  have hx : x < listed.size := by rw [W.sz]; exact (Array.getElem?_eq_some_iff.1 hox).1
  refine ⟨pairs_sub hs W.pr, fun i k hik => ?_, fun i hi hl => ?_, fun i hi => ?_, fun i hi => ?_, fun i o hi => W.gd i o ((hm _ _).1 hi).1, by simp [W.sz], fun j o hj ho z hz => ?_⟩
  · obtain ⟨h1, h2⟩ := (hm i k).1 hik
    refine ⟨(W.un i k h1).1, ?_⟩
    rw [getD_set hx, if_neg (fun e => h2 e.symm)]
    exact (W.un i k h1).2
  · rw [getD_set hx] at hl
    split at hl
    · cases hl
    · rename_i hne
      obtain ⟨k, h1, h2⟩ := W.al i hi hl
      exact ⟨k, h1, (hm i k).2 ⟨h2, fun e => hne e.symm⟩⟩
  · obtain ⟨h1, h2⟩ := (hm _ _).1 hi; exact (hm _ _).2 ⟨W.ap i h1, h2⟩
  · obtain ⟨h1, h2⟩ := (hm _ _).1 hi; exact (hm _ _).2 ⟨W.pa i h1, h2⟩
  · rw [getD_set hx] at hj ⊢
    split at hj
    · rename_i e
      subst e
      rw [hox] at ho; cases ho
      split
      · rfl
      · exact hr z hz
    · split
      · rfl
      · exact W.dc j o hj ho z hz
theorem one_np {tbl : List (List Nat)} {x : Nat} {k k' : Kd} {p q : List Item} (hp : pairsOk ops tbl (p ++ (x, k) :: q) = true) (hk : k ≠ .P) (hm : (x, k') ∈ p ++ q) : k' = .P ∧ k = .A ∧ (x, k') ∈ p := by
  rcases List.mem_append.1 hm with hm | hm
  · rcases pairs_at hp x k' hm with ⟨_, h1, h2⟩ | ⟨h1, _⟩
    · exact ⟨h1, h2, hm⟩
    · exact absurd rfl h1
  · exfalso
    have hp2 : pairsOk ops tbl ((x, k) :: q) = true := pairs_sub (List.sublist_append_right _ _) hp
    simp only [pairsOk, Bool.and_eq_true] at hp2
    have := List.all_eq_true.1 hp2.1 (x, k') hm
    simp [hk] at this
def dsts (ops : Array Oper) : List Nat := ops.toList.filterMap (·.dst)
/-- The slots that the region does not write. -/
def mask (ops : Array Oper) (E : Env) : Env := fun t => if (dsts ops).contains t then none else E t
def PanEnv (Ep : Env) (Q : Post) : Post
  | .panic ch, _, D, h => Q (.panic ch) Ep D h
  | e, E, D, h => Q e E D h
theorem jp_p {Ep : Env} {ch : List PanicEntry} (H : Q (.panic ch) Ep D h) : PanEnv Ep Q (.panic ch) E D h := H
theorem draw_main {Ep : Env} (hEp : ∀ (i : Nat) (o : Oper), ops[i]? = some o → ∀ t, o.dst = some t → Ep t = none) {tbl : List (List Nat)} {h0 : Hp} {w0 : World} (ht : tblOk ops tbl = true) (hdst : ops.toList.all (fun o : Oper => dstOk N o.dst) = true) :
    ∀ (fuel : Nat) (c : List Item) (listed : Array Bool) (E : Env) (G : Prom) (h : Hp) (w : World) (a : Act), WF ops tbl c listed → (c.filter fun x => x.2 != .P).length ≤ fuel → J P r N ops D (PanEnv Ep Q) f L c E G h →
      Own (h ++ f) w → Holds L h → Agree N E a → Agree N Ep a → a.defers = D → Fol h0 w0 (h ++ f) w →
      wpAnyIn (fen r) 0 P .any ops (fun e a' w' => ∃ E' h', Q e E' a'.defers h' ∧ Agree N E' a' ∧ Fol h0 w0 h' w') fuel listed a w := by
  have hdst' : ∀ (i : Nat) (o : Oper), ops[i]? = some o → dstOk N o.dst = true := fun i o ho => List.all_eq_true.1 hdst o (by simpa using Array.mem_of_getElem? ho)
  -- where nothing is ready all is done
  have hend : ∀ (c : List Item) (listed : Array Bool), WF ops tbl c listed → Region.ready .any ops listed = [] → c = [] := by
    intro c listed W hready
    have hall : ∀ j, j < ops.size → listed.getD j false = true := by
      intro j
      induction j using Nat.strongRecOn with
      | _ j ih =>
        intro hj
        refine Classical.byContradiction fun hn => ?_
        have hlt : j < listed.size := by rw [W.sz]; exact hj
        obtain ⟨o, ho⟩ : ∃ o, ops[j]? = some o := ⟨_, Array.getElem?_eq_getElem hj⟩
        have hmem : j ∈ Region.ready .any ops listed := by
          refine mem_ready.2 ⟨?_, o, ho, fun e he hb => ?_⟩
          · simp [Array.getD, hlt] at hn ⊢; exact hn
          · have hd : e.on ∈ direct o := List.mem_map.2 ⟨e, List.mem_filter.2 ⟨by simpa using he, hb⟩, rfl⟩
            have := List.all_eq_true.1 ht j (List.mem_range.2 hj)
            simp only [ho, Bool.and_eq_true, List.all_eq_true, decide_eq_true_eq] at this
            have hlt2 := this.2 _ hd
            exact ih _ hlt2 (by omega)
        rw [hready] at hmem; cases hmem
    cases c with
    | nil => rfl
    | cons x c =>
      obtain ⟨i, k⟩ := x
      have hu := W.un i k List.mem_cons_self
      have := hall i hu.1
      have hlt : i < listed.size := by rw [W.sz]; exact hu.1
      simp [Array.getD, hlt] at this hu
      rw [this] at hu; exact absurd hu.2 (by simp)
  have hfin : ∀ (c : List Item) (listed : Array Bool) (E : Env) (G : Prom) (h : Hp) (w : World) (a : Act), WF ops tbl c listed → J P r N ops D (PanEnv Ep Q) f L c E G h → Agree N E a → Agree N Ep a → a.defers = D → Fol h0 w0 (h ++ f) w →
      Region.ready .any ops listed = [] → ∃ E' h', Q .normal E' a.defers h' ∧ Agree N E' a ∧ Fol h0 w0 h' w := by
    intro c listed E G h w a W hj ha hEa hda hf hready
    rw [hend c listed W hready] at hj
    obtain ⟨hh, hp, hq⟩ := hj
    exact ⟨E, hh, by rw [hda]; exact hq, ha, hf.perm hp.symm⟩
  intro fuel
  induction fuel with
  | zero =>
    intro c listed E G h w a W hc hj hw hIv ha hEa hda hf
    have hready : Region.ready .any ops listed = [] := by
      cases hr : Region.ready .any ops listed with
      | nil => rfl
      | cons i l =>
        exfalso
        obtain ⟨h1, o, ho, _⟩ := mem_ready.1 (show i ∈ Region.ready .any ops listed by rw [hr]; exact List.mem_cons_self)
        obtain ⟨k, hk, hm⟩ := W.al i (Array.getElem?_eq_some_iff.1 ho).1 h1
        have : (i, k) ∈ c.filter fun x => x.2 != .P := List.mem_filter.2 ⟨hm, by simpa using hk⟩
        have hl : (c.filter fun x => x.2 != .P).length = 0 := by omega
        rw [List.length_eq_zero_iff.1 hl] at this
        cases this
    exact ⟨hready, hfin c listed E G h w a W hj ha hEa hda hf hready⟩
  | succ fuel ih =>
    intro c listed E G h w a W hc hj hw hIv ha hEa hda hf
    refine ⟨fun hready => hfin c listed E G h w a W hj ha hEa hda hf hready, fun i hi => ?_⟩
    obtain ⟨h1, o, ho, hpre⟩ := mem_ready.1 hi
    have hr : ∀ z ∈ direct o, listed.getD z false = true := by
      intro z hz
      obtain ⟨e, he, rfl⟩ := List.mem_map.1 hz
      obtain ⟨he1, he2⟩ := List.mem_filter.1 he
      exact hpre e (by simpa using he1) he2
    obtain ⟨k, hk, hm⟩ := W.al i (Array.getElem?_eq_some_iff.1 ho).1 h1
    have hd := hdst' i o ho
    -- the step itself, once it stands in front
    have go : ∀ (c' : List Item) (G' : Prom), J P r N ops D (PanEnv Ep Q) f L ((i, k) :: c') E G' h → List.Sublist c' c → (∀ j kj, (j, kj) ∈ c' ↔ (j, kj) ∈ c ∧ j ≠ i) →
        (k = .A → ∀ p, G' i = some p → AL P o p.env p.val p.obj) →
        wpOpIn (fen r) 0 P ops (fun e a' w' => ∃ E' h', Q e E' a'.defers h' ∧ Agree N E' a' ∧ Fol h0 w0 h' w') i (wpAnyIn (fen r) 0 P .any ops (fun e a' w' => ∃ E' h', Q e E' a'.defers h' ∧ Agree N E' a' ∧ Fol h0 w0 h' w') fuel (listed.setIfInBounds i true)) a w := by
      intro c' G' hj' hs hmem hal
      obtain ⟨o', ho', _, hst⟩ := hj'
      rw [ho] at ho'; cases ho'
      refine Jst.exec (Ep := Ep) ho hd hk hal hw hIv ha hda (hEp i o ho) hEa ?_ ?_ hst
      · intro E' G2 h' a' w' _ _ ha' hEa' hda' hf' iv' hK
        refine ih c' _ E' G2 h' w' a' (W.step ho hr hs hmem) ?_ hK hf'.own iv' ha' hEa' hda' (hf.trans hf')
        have hlt : ((i, k) :: c').length ≤ _ := Nat.le_refl _
        have hsub : List.Sublist (c'.filter fun x => x.2 != .P) (c.filter fun x => x.2 != .P) := hs.filter _
        have hne : (c'.filter fun x => x.2 != .P).length ≠ (c.filter fun x => x.2 != .P).length := by
          intro e
          have e2 := hsub.eq_of_length e
          have : (i, k) ∈ c'.filter fun x => x.2 != .P := by rw [e2]; exact List.mem_filter.2 ⟨hm, by simpa using hk⟩
          exact ((hmem i k).1 (List.mem_filter.1 this).1).2 rfl
        have := hsub.length_le
        omega
      · intro ch h' w' hq hf'
        exact ⟨Ep, h', by rw [hda]; exact hq, hEa, hf.trans hf'⟩
    by_cases hkA : k = .A
    · subst hkA
      have hmP := W.ap i hm
      obtain ⟨p, q, rfl⟩ := List.append_of_mem hmP
      have hnd := wf_nodup W.pr
      have hnp : (i, Kd.P) ∉ p := fun hmm => by
        rw [List.nodup_append] at hnd
        exact hnd.2.2 _ hmm _ List.mem_cons_self rfl
      have hj1 := J.moveFront ho hd p (W.front ht ho hr (List.Sublist.refl _) hnp) (fun e => by cases e) hj
      obtain ⟨o', ho', _, hg, mk, obj, hal, hj2⟩ := hj1
      rw [ho] at ho'; cases ho'
      have hmA : (i, Kd.A) ∈ p ++ q := by
        rcases List.mem_append.1 hm with hm | hm
        · exact List.mem_append_left _ hm
        · rcases List.mem_cons.1 hm with e | hm
          · cases e
          · exact List.mem_append_right _ hm
      have hs1 : List.Sublist (p ++ q) (p ++ (i, Kd.P) :: q) := (List.Sublist.refl p).append (List.sublist_cons_self _ _)
      have hmP2 : ∀ kk, (i, kk) ∈ p ++ q → kk = .A := by
        intro kk hkk
        obtain ⟨p2, q2, e2⟩ := List.append_of_mem hmA
        by_cases hkk2 : kk = .A
        · exact hkk2
        · exfalso
          have hmem2 : (i, kk) ∈ p2 ++ q2 := by
            rw [e2] at hkk
            rcases List.mem_append.1 hkk with h3 | h3
            · exact List.mem_append_left _ h3
            · rcases List.mem_cons.1 h3 with h3 | h3
              · cases h3; exact absurd rfl hkk2
              · exact List.mem_append_right _ h3
          have := one_np (ops := ops) (tbl := tbl) (x := i) (k := .A) (by rw [← e2]; exact pairs_sub hs1 W.pr) (by simp) hmem2
          obtain ⟨rfl, _, _⟩ := this
          rw [List.nodup_append] at hnd
          rcases List.mem_append.1 hkk with h3 | h3
          · exact hnp h3
          · exact (List.nodup_cons.1 hnd.2.1).1 h3
      obtain ⟨p2, q2, e2⟩ := List.append_of_mem hmA
      rw [e2] at hj2
      have hs2 : List.Sublist (p2 ++ (i, Kd.A) :: q2) (p ++ (i, Kd.P) :: q) := by rw [← e2]; exact hs1
      have hnp2 : (i, Kd.P) ∉ p2 := fun hmm => by
        have := hmP2 .P (by rw [e2]; exact List.mem_append_left _ hmm)
        cases this
      have hj3 := J.moveFront ho hd p2 (W.front ht ho hr hs2 hnp2) (fun _ => ⟨hg, ⟨mk, obj, restr o E⟩, by simp [Prom.add], restr_eqOn o E⟩) hj2
      refine go (p2 ++ q2) _ hj3 (((List.Sublist.refl p2).append (List.sublist_cons_self _ _)).trans hs2) ?_ ?_
      · intro j kj
        constructor
        · intro hmm
          have hmm2 : (j, kj) ∈ p ++ q := by
            rw [e2]
            rcases List.mem_append.1 hmm with h3 | h3
            · exact List.mem_append_left _ h3
            · exact List.mem_append_right _ (List.mem_cons_of_mem _ h3)
          refine ⟨hs1.subset hmm2, ?_⟩
          rintro rfl
          have := hmP2 kj hmm2
          subst this
          have hnd2 : (p2 ++ (j, Kd.A) :: q2).Nodup := by rw [← e2]; exact hs1.nodup hnd
          rw [List.nodup_append] at hnd2
          rcases List.mem_append.1 hmm with h3 | h3
          · exact hnd2.2.2 _ h3 _ List.mem_cons_self rfl
          · exact (List.nodup_cons.1 hnd2.2.1).1 h3
        · rintro ⟨h3, hne⟩
          have h4 : (j, kj) ∈ p ++ q := by
            rcases List.mem_append.1 h3 with h5 | h5
            · exact List.mem_append_left _ h5
            · rcases List.mem_cons.1 h5 with h5 | h5
              · cases h5; exact absurd rfl hne
              · exact List.mem_append_right _ h5
          rw [e2] at h4
          rcases List.mem_append.1 h4 with h5 | h5
          · exact List.mem_append_left _ h5
          · rcases List.mem_cons.1 h5 with h5 | h5
            · cases h5; exact absurd rfl hne
            · exact List.mem_append_right _ h5
      · intro _ pr hpr
        simp [Prom.add] at hpr
        subst hpr
        exact hal.congr (restr_eqOn o E).symm
    · obtain ⟨p, q, rfl⟩ := List.append_of_mem hm
      have hone : ∀ kk, (i, kk) ∉ p ++ q := fun kk hkk => hkA (one_np W.pr hk hkk).2.1
      have hj1 := J.moveFront ho hd p (W.front ht ho hr (List.Sublist.refl _) (fun hmm => hone _ (List.mem_append_left _ hmm))) (fun e => absurd e hkA) hj
      refine go (p ++ q) G hj1 ((List.Sublist.refl p).append (List.sublist_cons_self _ _)) ?_ (fun e => absurd e hkA)
      intro j kj
      constructor
      · intro hmm
        refine ⟨((List.Sublist.refl p).append (List.sublist_cons_self _ _)).subset hmm, ?_⟩
        rintro rfl
        exact hone kj hmm
      · rintro ⟨h3, hne⟩
        rcases List.mem_append.1 h3 with h5 | h5
        · exact List.mem_append_left _ h5
        · rcases List.mem_cons.1 h5 with h5 | h5
          · cases h5; exact absurd rfl hne
          · exact List.mem_append_right _ h5
/-- **A region whose order is open: walked once, in a canonical order.** -/
theorem xc_drawL {id : Nat} {h' : Hp} (c : List Item) (f h : Hp) (hm : P.follows .mixedOrders = true) (hck : drawOk N ops c = true) (hp : List.Perm (h ++ f) h') (hIv : Holds L h) (H : J P r N ops D (PanEnv (mask ops E) Q) f L c E (fun _ => none) h) : XC P r N (.region id ops true) Q E D h' := by
  refine XC.perm hp ?_
  intro w a ho ha hda
  simp only [drawOk, Bool.and_eq_true] at hck
  obtain ⟨ht, hpr, hdst, hall, hit, hlen⟩ := hck
  refine wpIn_region_any hm ?_
  have hEp : ∀ (i : Nat) (o : Oper), ops[i]? = some o → ∀ t, o.dst = some t → mask ops E t = none := by
    intro i o hio t ht
    have : t ∈ dsts ops := List.mem_filterMap.2 ⟨o, by simpa using Array.mem_of_getElem? hio, ht⟩
    simp [mask, this]
  have hEa : Agree N (mask ops E) a := by
    refine ⟨ha.size, fun t v hv => ha.val t v ?_⟩
    unfold mask at hv
    split at hv
    · cases hv
    · exact hv
  refine draw_main (Ep := mask ops E) hEp (h0 := h ++ f) (w0 := w) ht hdst ops.size c _ E _ h _ a ⟨hpr, ?_, ?_, ?_, ?_, ?_, by simp, ?_⟩ (of_decide_eq_true hlen) H (ho.drew _) hIv ha hEa hda (Fol.refl (ho.drew _)).drew
  · intro i k hik
    have := List.all_eq_true.1 hit (i, k) hik
    simp only [Bool.and_eq_true, decide_eq_true_eq] at this
    exact ⟨this.1, by simp [Array.getD, this.1]⟩
  · intro i hi _
    have := List.all_eq_true.1 hall i (List.mem_range.2 hi)
    simp only [Bool.or_eq_true, List.contains_iff_mem] at this
    rcases this with ((h1 | h1) | h1) | h1
    · exact ⟨_, by simp, h1⟩
    · exact ⟨_, by simp, h1⟩
    · exact ⟨_, by simp, h1⟩
    · exact ⟨_, by simp, h1⟩
  · intro i hi
    have := List.all_eq_true.1 hit (i, .A) hi
    simp only [Bool.and_eq_true, Bool.or_eq_true, List.contains_iff_mem] at this
    rcases this.2.1 with h1 | h1
    · simp at h1
    · exact h1.2
  · intro i hi
    have := List.all_eq_true.1 hit (i, .P) hi
    simp only [Bool.and_eq_true, Bool.or_eq_true, List.contains_iff_mem] at this
    rcases this.2.2 with h1 | h1
    · simp at h1
    · exact h1
  · intro i o hi ho'
    have := List.all_eq_true.1 hit (i, .A) hi
    simp only [Bool.and_eq_true, Bool.or_eq_true, ho'] at this
    rcases this.2.1 with h1 | h1
    · simp at h1
    · simpa using h1.1
  · intro j o hj
    simp [Array.getD] at hj
end Go.H
