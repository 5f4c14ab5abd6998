/-
  Regions whose order is open, once more: each stable read names the blocks that it relies on, and an effect keeps those of the reads that are not ahead of it.
-/
import Derived.Test.YtpefpafijadfmaaP2
import Derived.Test.YtpefpafijadfmaaHT
import Derived.Test.YtpefpafijadfmaaW24
import Derived.Test.YtpefpafijadfmaaW10
set_option linter.all false
namespace Go.H
open Go
variable {P : Program} {r : Option Nat} {N : Nat} {Q : Post} {E : Env} {D : List Deferred} {h : Hp}
variable {K : Value → Hp → Prop} {T : List PanicEntry → Hp → Prop}
abbrev LsT := List (Nat × List (Nat × (Obj → Prop)))
def lof : LsT → Nat → List (Nat × (Obj → Prop))
  | [], _ => []
  | (x, p) :: l, i => if x = i then p else lof l i
theorem lof_mem : ∀ (Ls : LsT) (i : Nat), lof Ls i = [] ∨ (i, lof Ls i) ∈ Ls
  | [], _ => .inl rfl
  | (x, p) :: l, i => by
    unfold lof
    split
    · rename_i e; subst e; exact .inr List.mem_cons_self
    · exact (lof_mem l i).imp id fun hm => List.mem_cons_of_mem _ hm
def Keep (tbl : List (List Nat)) (Ls : LsT) (y : Nat) (h : Hp) : Prop := ∀ x p, (x, p) ∈ Ls → x ∈ tbl.getD y [] ∨ Holds p h
theorem Keep.cons {tbl : List (List Nat)} {Ls : LsT} {y : Nat} {h : Hp} (z : Nat × Obj) (H : Keep tbl Ls y h) : Keep tbl Ls y (z :: h) := fun x p hm => (H x p hm).imp id fun a => a.cons z
section
variable (P : Program) (r : Option Nat) (N : Nat) (ops : Array Oper) (D : List Deferred) (Q : Post) (f : Hp) (tbl : List (List Nat)) (Ls : LsT)
def JstX (k : Kd) (i : Nat) (o : Oper) (E : Env) (G : Prom) (h : Hp) (K : Env → Prom → Hp → Prop) : Prop :=
  match k with
  | .S => (Skips ops o E ∧ K (E.put o.dst undef) G h) ∨ (Runs ops o E ∧ ∃ v, (∀ hh, Holds (lof Ls i) hh → QV P r o E (hh ++ f) v) ∧ K (E.put o.dst v) G h)
  | .R => (Skips ops o E ∧ K (E.put o.dst undef) G h) ∨ (Runs ops o E ∧ ∃ v, QV P r o E (h ++ f) v ∧ K (E.put o.dst v) G h)
  | .P => o.guard = none ∧ ∃ mk obj, AL P o E mk obj ∧ K E (G.add i ⟨mk, obj, restr o E⟩) h
  | .A => o.guard = none ∧ ∃ p, G i = some p ∧ EqOn o p.env E ∧ ∀ b, b ∉ keys (h ++ f) → K (E.put o.dst (p.val b)) G ((b, p.obj) :: h)
  | .O => (Skips ops o E ∧ K (E.put o.dst undef) G h) ∨ (Runs ops o E ∧ XV P r o (fun v h'' => ∃ h', List.Perm (h' ++ f) h'' ∧ Keep tbl Ls i h' ∧ K (E.put o.dst v) G h') (fun ch h'' => Q (.panic ch) emp D h'') E (h ++ f))
def JX : List Item → Env → Prom → Hp → Prop
  | [], E, _, h => ∃ hh, List.Perm (h ++ f) hh ∧ Q .normal E D hh
  | (i, k) :: l, E, G, h => ∃ o, ops[i]? = some o ∧ dstOk N o.dst = true ∧ JstX P r ops D Q f tbl Ls k i o E G h (JX l)
end
variable {ops : Array Oper} {f : Hp} {tbl : List (List Nat)} {Ls : LsT}
theorem JstX.mono {k : Kd} {i : Nat} {o : Oper} {G : Prom} {K K' : Env → Prom → Hp → Prop} (hk : ∀ E G h, K E G h → K' E G h) (H : JstX P r ops D Q f tbl Ls k i o E G h K) : JstX P r ops D Q f tbl Ls k i o E G h K' := by
  cases k with
  | S => exact H.imp (fun ⟨a, b⟩ => ⟨a, hk _ _ _ b⟩) (fun ⟨a, v, b, c⟩ => ⟨a, v, b, hk _ _ _ c⟩)
  | R => exact H.imp (fun ⟨a, b⟩ => ⟨a, hk _ _ _ b⟩) (fun ⟨a, v, b, c⟩ => ⟨a, v, b, hk _ _ _ c⟩)
  | P => obtain ⟨a, mk, obj, b, c⟩ := H; exact ⟨a, mk, obj, b, hk _ _ _ c⟩
  | A => obtain ⟨a, p, b, c, d⟩ := H; exact ⟨a, p, b, c, fun x hx => hk _ _ _ (d x hx)⟩
  | O => exact H.imp (fun ⟨a, b⟩ => ⟨a, hk _ _ _ b⟩) (fun ⟨a, b⟩ => ⟨a, b.mono (fun v h2 ⟨h', p, iv, c⟩ => ⟨h', p, iv, hk _ _ _ c⟩) (fun _ _ c => c)⟩)
/-- The order of the list of blocks is nothing. -/
theorem JstX.perm {k : Kd} {i : Nat} {o : Oper} {G : Prom} {K : Env → Prom → Hp → Prop} {h' : Hp} (hp : List.Perm h h') (hk : ∀ E G h h', List.Perm h h' → K E G h → K E G h') (H : JstX P r ops D Q f tbl Ls k i o E G h K) : JstX P r ops D Q f tbl Ls k i o E G h' K := by
  have hpf : List.Perm (h ++ f) (h' ++ f) := hp.append_right f
  cases k with
  | S => exact H.imp (fun ⟨a, b⟩ => ⟨a, hk _ _ _ _ hp b⟩) (fun ⟨a, v, b, c⟩ => ⟨a, v, b, hk _ _ _ _ hp c⟩)
  | R => exact H.imp (fun ⟨a, b⟩ => ⟨a, hk _ _ _ _ hp b⟩) (fun ⟨a, v, b, c⟩ => ⟨a, v, b.perm hpf, hk _ _ _ _ hp c⟩)
  | P => obtain ⟨a, mk, obj, b, c⟩ := H; exact ⟨a, mk, obj, b, hk _ _ _ _ hp c⟩
  | A =>
    obtain ⟨a, p, b, c, d⟩ := H
    refine ⟨a, p, b, c, fun x hx => hk _ _ _ _ (hp.cons _) (d x fun hm => hx ?_)⟩
    exact ((hpf.map Prod.fst).mem_iff).1 hm
  | O => exact H.imp (fun ⟨a, b⟩ => ⟨a, hk _ _ _ _ hp b⟩) (fun ⟨a, b⟩ => ⟨a, XV.perm hpf b⟩)
theorem JX.perm : ∀ (l : List Item) {E : Env} {G : Prom} {h h' : Hp}, List.Perm h h' → JX P r N ops D Q f tbl Ls l E G h → JX P r N ops D Q f tbl Ls l E G h'
  | [], _, _, _, _, hp, ⟨hh, p, q⟩ => ⟨hh, ((hp.append_right f).symm.trans p), q⟩
  | (i, k) :: l, E, G, h, h', hp, ⟨o, ho, hd, H⟩ => ⟨o, ho, hd, JstX.perm hp (fun _ _ _ _ p q => JX.perm l p q) H⟩
/-- y does not look at x's slot: its step may come first. -/
theorem JstX.pull {x y : Oper} {k : Kd} {i : Nat} {v : Value} {G : Prom} {K : Env → Prom → Hp → Prop} (ha : x.apart ops y = true) (H : JstX P r ops D Q f tbl Ls k i y (E.put x.dst v) G h K) :
    JstX P r ops D Q f tbl Ls k i y E G h (fun E' G' h' => ExtE y E E' ∧ (k ≠ .O → h' = h ∨ ∃ z, h' = z :: h) ∧ K (E'.put x.dst v) G' h') := by
  have hs := Oper.apart_spec ha
  have e1 : EqOn y (E.put x.dst v) E := (eqOn_put ha v).symm
  have hc : ∀ u, (E.put x.dst v).put y.dst u = (E.put y.dst u).put x.dst v := fun u => put_comm hs.2.1
  cases k with
  | S =>
    rcases H with ⟨a, b⟩ | ⟨a, u, b, c⟩
    · exact .inl ⟨(skips_put hs.1).1 a, .inr ⟨_, rfl⟩, fun _ => .inl rfl, by rw [← hc]; exact b⟩
    · exact .inr ⟨(runs_put hs.1).1 a, u, fun hh iv => (b hh iv).congr e1, .inr ⟨_, rfl⟩, fun _ => .inl rfl, by rw [← hc]; exact c⟩
  | R =>
    rcases H with ⟨a, b⟩ | ⟨a, u, b, c⟩
    · exact .inl ⟨(skips_put hs.1).1 a, .inr ⟨_, rfl⟩, fun _ => .inl rfl, by rw [← hc]; exact b⟩
    · exact .inr ⟨(runs_put hs.1).1 a, u, b.congr e1, .inr ⟨_, rfl⟩, fun _ => .inl rfl, by rw [← hc]; exact c⟩
  | P =>
    obtain ⟨a, mk, obj, b, c⟩ := H
    refine ⟨a, mk, obj, b.congr e1, .inl rfl, fun _ => .inl rfl, ?_⟩
    rw [← restr_congr e1]; exact c
  | A =>
    obtain ⟨a, p, b, c, d⟩ := H
    exact ⟨a, p, b, c.trans e1, fun z hz => ⟨.inr ⟨_, rfl⟩, fun _ => .inr ⟨_, rfl⟩, by rw [← hc]; exact d z hz⟩⟩
  | O =>
    rcases H with ⟨a, b⟩ | ⟨a, b⟩
    · exact .inl ⟨(skips_put hs.1).1 a, .inr ⟨_, rfl⟩, fun hh => absurd rfl hh, by rw [← hc]; exact b⟩
    · refine .inr ⟨(runs_put hs.1).1 a, (b.congr e1).mono ?_ (fun _ _ c => c)⟩
      rintro u h2 ⟨h', p, iv, c⟩
      exact ⟨h', p, iv, .inr ⟨_, rfl⟩, fun hh => absurd rfl hh, by rw [← hc]; exact c⟩
theorem JstX.pullG {x y : Oper} {k : Kd} {i j : Nat} {pr : Pr} {G : Prom} {K : Env → Prom → Hp → Prop} (hne : j ≠ i) (H : JstX P r ops D Q f tbl Ls k i y E (G.add j pr) h K) :
    JstX P r ops D Q f tbl Ls k i y E G h (fun E' G' h' => ExtE y E E' ∧ K E' (G'.add j pr) h') := by
  cases k with
  | S =>
    rcases H with ⟨a, b⟩ | ⟨a, u, b, c⟩
    · exact .inl ⟨a, .inr ⟨_, rfl⟩, b⟩
    · exact .inr ⟨a, u, b, .inr ⟨_, rfl⟩, c⟩
  | R =>
    rcases H with ⟨a, b⟩ | ⟨a, u, b, c⟩
    · exact .inl ⟨a, .inr ⟨_, rfl⟩, b⟩
    · exact .inr ⟨a, u, b, .inr ⟨_, rfl⟩, c⟩
  | P =>
    obtain ⟨a, mk, obj, b, c⟩ := H
    exact ⟨a, mk, obj, b, .inl rfl, by rw [add_comm' hne.symm]; exact c⟩
  | A =>
    obtain ⟨a, p, b, c, d⟩ := H
    refine ⟨a, p, ?_, c, fun z hz => ⟨.inr ⟨_, rfl⟩, d z hz⟩⟩
    simp only [Prom.add] at b
    rwa [if_neg (fun e => hne e.symm)] at b
  | O =>
    rcases H with ⟨a, b⟩ | ⟨a, b⟩
    · exact .inl ⟨a, .inr ⟨_, rfl⟩, b⟩
    · exact .inr ⟨a, b.mono (fun u h2 ⟨h', p, iv, c⟩ => ⟨h', p, iv, .inr ⟨_, rfl⟩, c⟩) (fun _ _ c => c)⟩
theorem JstX.swap {x y : Oper} {kx ky : Kd} {ix iy : Nat} {G : Prom} {K : Env → Prom → Hp → Prop} (ha : x.apart ops y = true) (hok : okSwap kx ky = true) (hne : ix ≠ iy)
    (hI : ky = .A → y.guard = none ∧ ∃ p, G iy = some p ∧ EqOn y p.env E) (hK : ∀ E G h h', List.Perm h h' → K E G h → K E G h')
    (H : JstX P r ops D Q f tbl Ls kx ix x E G h (fun E' G' h' => JstX P r ops D Q f tbl Ls ky iy y E' G' h' K)) : JstX P r ops D Q f tbl Ls ky iy y E G h (fun E' G' h' => JstX P r ops D Q f tbl Ls kx ix x E' G' h' K) := by
  have hs := Oper.apart_spec ha
  cases kx with
  | S =>
    rcases H with ⟨a, b⟩ | ⟨a, v, q, b⟩
    · exact (b.pull ha).mono fun E' G' h' ⟨e, _, c⟩ => .inl ⟨e.skips ha a, c⟩
    · exact (b.pull ha).mono fun E' G' h' ⟨e, _, c⟩ => .inr ⟨e.runs ha a, v, fun hh iv => (q hh iv).congr (e.eqOn ha), c⟩
  | R =>
    have hky : ky ≠ .O := by rintro rfl; simp [okSwap] at hok
    rcases H with ⟨a, b⟩ | ⟨a, v, q, b⟩
    · exact (b.pull ha).mono fun E' G' h' ⟨e, _, c⟩ => .inl ⟨e.skips ha a, c⟩
    · refine (b.pull ha).mono fun E' G' h' ⟨e, eh, c⟩ => .inr ⟨e.runs ha a, v, ?_, c⟩
      rcases eh hky with rfl | ⟨z, rfl⟩
      · exact q.congr (e.eqOn ha)
      · exact (q.congr (e.eqOn ha)).cons z
  | P =>
    obtain ⟨a, mk, obj, b, c⟩ := H
    refine (JstX.pullG (x := x) hne c).mono fun E' G' h' ⟨e, d⟩ => ⟨a, mk, obj, b.congr (e.eqOn ha), ?_⟩
    rw [← restr_congr (e.eqOn ha)]; exact d
  | A =>
    have hky : ky = .A := by cases ky <;> simp [okSwap] at hok; rfl
    subst hky
    obtain ⟨hg, q, hq, hqe⟩ := hI rfl
    obtain ⟨a, p, hp, hpe, H⟩ := H
    refine ⟨hg, q, hq, hqe, fun c hc => ⟨a, p, hp, hpe.trans (apart_eqOn ha E _), fun b hb => ?_⟩⟩
    have hb' : b ∉ keys (h ++ f) := fun hm => hb (List.mem_cons_of_mem _ hm)
    obtain ⟨_, q', hq', _, H⟩ := H b hb'
    rw [hq] at hq'; cases hq'
    have hcb : c ∉ keys ((b, p.obj) :: h ++ f) := by
      intro hm
      rcases List.mem_cons.1 hm with e | hm
      · exact hb (by rw [show b = c from e.symm]; exact List.mem_cons_self)
      · exact hc hm
    have := H c hcb
    rw [put_comm hs.2.1] at this
    exact hK _ _ _ _ (List.Perm.swap _ _ _) this
  | O =>
    have hky : ky = .A := by cases ky <;> simp [okSwap] at hok; rfl
    subst hky
    obtain ⟨hg, q, hq, hqe⟩ := hI rfl
    refine ⟨hg, q, hq, hqe, fun b hb => ?_⟩
    rcases H with ⟨a, H⟩ | ⟨a, H⟩
    · obtain ⟨_, q', hq', _, H⟩ := H
      rw [hq] at hq'; cases hq'
      exact .inl ⟨(skips_put hs.2.2).2 a, by rw [← put_comm hs.2.1]; exact H b hb⟩
    · refine .inr ⟨(runs_put hs.2.2).2 a, ?_⟩
      have h1 := XV.frame [(b, q.obj)] H
      have hp : List.Perm ((h ++ f) ++ [(b, q.obj)]) ((b, q.obj) :: h ++ f) := List.perm_append_comm (l₁ := h ++ f) (l₂ := [(b, q.obj)])
      refine XV.congr (apart_eqOn ha E _) ((XV.perm hp h1).conv ?_ ?_)
      · rintro v h2 hnd ⟨h'', rfl, h', hp', iv, hj⟩
        obtain ⟨_, q', hq', _, hj⟩ := hj
        rw [hq] at hq'; cases hq'
        have hbn : b ∉ keys (h' ++ f) := by
          intro hm
          rw [keys_append, List.nodup_append] at hnd
          exact hnd.2.2 b (((hp'.map Prod.fst).mem_iff).1 hm) b (by simp [keys]) rfl
        refine ⟨h'' ++ [(b, q.obj)], List.Perm.refl _, (b, q.obj) :: h', ?_, iv.cons _, ?_⟩
        · exact (hp'.cons _).trans (List.perm_append_comm (l₁ := [(b, q.obj)]) (l₂ := h''))
        · rw [← put_comm hs.2.1]; exact hj b hbn
      · rintro c h2 ⟨h'', rfl, hq'⟩
        exact ⟨h'' ++ [(b, q.obj)], h'', List.Perm.refl _, List.sublist_append_left _ _, hq'⟩
theorem JstX.info {k : Kd} {i : Nat} {o : Oper} {G : Prom} {K : Env → Prom → Hp → Prop} (H : JstX P r ops D Q f tbl Ls k i o E G h K) :
    JstX P r ops D Q f tbl Ls k i o E G h (fun E' G' h' => ExtE o E E' ∧ (G' = G ∨ ∃ pr, G' = G.add i pr) ∧ K E' G' h') := by
  cases k with
  | S => exact H.imp (fun ⟨a, b⟩ => ⟨a, .inr ⟨_, rfl⟩, .inl rfl, b⟩) (fun ⟨a, v, b, c⟩ => ⟨a, v, b, .inr ⟨_, rfl⟩, .inl rfl, c⟩)
  | R => exact H.imp (fun ⟨a, b⟩ => ⟨a, .inr ⟨_, rfl⟩, .inl rfl, b⟩) (fun ⟨a, v, b, c⟩ => ⟨a, v, b, .inr ⟨_, rfl⟩, .inl rfl, c⟩)
  | P => obtain ⟨a, mk, obj, b, c⟩ := H; exact ⟨a, mk, obj, b, .inl rfl, .inr ⟨_, rfl⟩, c⟩
  | A => obtain ⟨a, p, b, c, d⟩ := H; exact ⟨a, p, b, c, fun x hx => ⟨.inr ⟨_, rfl⟩, .inl rfl, d x hx⟩⟩
  | O => exact H.imp (fun ⟨a, b⟩ => ⟨a, .inr ⟨_, rfl⟩, .inl rfl, b⟩) (fun ⟨a, b⟩ => ⟨a, b.mono (fun v h2 ⟨h', p, iv, c⟩ => ⟨h', p, iv, .inr ⟨_, rfl⟩, .inl rfl, c⟩) (fun _ _ c => c)⟩)
theorem JX.moveFront {x : Nat} {k : Kd} {ox : Oper} (hx : ops[x]? = some ox) (hd : dstOk N ox.dst = true) {q : List Item} : ∀ (p : List Item) {E : Env} {G : Prom} {h : Hp},
    (∀ z kz, (z, kz) ∈ p → z ≠ x ∧ okSwap kz k = true ∧ ∀ oz, ops[z]? = some oz → oz.apart ops ox = true) →
    (k = .A → ox.guard = none ∧ ∃ pr, G x = some pr ∧ EqOn ox pr.env E) → JX P r N ops D Q f tbl Ls (p ++ (x, k) :: q) E G h → JX P r N ops D Q f tbl Ls ((x, k) :: (p ++ q)) E G h
  | [], _, _, _, _, _, H => H
  | (z, kz) :: p, E, G, h, hp, hI, H => by
    obtain ⟨oz, hoz, hdz, H⟩ := H
    obtain ⟨hne, hok, hap⟩ := hp z kz List.mem_cons_self
    have hap := hap oz hoz
    have H2 : JstX P r ops D Q f tbl Ls kz z oz E G h (fun E' G' h' => JstX P r ops D Q f tbl Ls k x ox E' G' h' (JX P r N ops D Q f tbl Ls (p ++ q))) := by
      refine H.info.mono ?_
      rintro E' G' h' ⟨e, g, H⟩
      have H' := JX.moveFront hx hd p (fun z' kz' hm => hp z' kz' (List.mem_cons_of_mem _ hm)) (fun hk => by
        obtain ⟨hg, pr, h1, h2⟩ := hI hk
        refine ⟨hg, pr, ?_, h2.trans ?_⟩
        · rcases g with rfl | ⟨pr', rfl⟩
          · exact h1
          · simp only [Prom.add]; rw [if_neg (fun e => hne e.symm)]; exact h1
        · rcases e with rfl | ⟨u, rfl⟩
          · exact fun _ _ => rfl
          · exact eqOn_put hap u) H
      obtain ⟨o', ho', _, H'⟩ := H'
      rw [hx] at ho'; cases ho'
      exact H'
    refine ⟨ox, hx, hd, (JstX.swap (K := JX P r N ops D Q f tbl Ls (p ++ q)) hap hok hne hI (fun _ _ _ _ hp' q' => JX.perm _ hp' q') H2).mono ?_⟩
    exact fun E' G' h' H' => ⟨oz, hoz, hdz, H'⟩
/-- One step of the canonical order, carried out. -/
theorem JstX.exec {Ep : Env} {k : Kd} {i : Nat} {o : Oper} {G : Prom} {K : Env → Prom → Hp → Prop} {w : World} {a : Act} {QQ : Exit → Act → World → Prop} {next : Act → World → Prop} (ho : ops[i]? = some o) (hd : dstOk N o.dst = true) (hk : k ≠ .P)
    (hG : k = .A → ∀ p, G i = some p → AL P o p.env p.val p.obj) (hw : Own (h ++ f) w) (hIv : k = .S → Holds (lof Ls i) h) (ha : Agree N E a) (hda : a.defers = D) (hEp : ∀ t, o.dst = some t → Ep t = none) (hEa : Agree N Ep a)
    (hn : ∀ E' G' h' a' w', (G' = G) → ExtE o E E' → Agree N E' a' → Agree N Ep a' → a'.defers = D → Fol (h ++ f) w (h' ++ f) w' → ((∀ p, Holds p h → Holds p h') ∨ Keep tbl Ls i h') → K E' G' h' → next a' w') (hq : ∀ ch h' w', Q (.panic ch) emp D h' → Fol (h ++ f) w h' w' → QQ (.panic ch) a w')
    (H : JstX P r ops D Q f tbl Ls k i o E G h K) : wpOpIn (fen r) 0 P ops QQ i next a w := by
  have hput : ∀ v, (a.put o.dst v).defers = D := fun v => by cases o.dst <;> exact hda
  have hput2 : ∀ v, Agree N Ep (a.put o.dst v) := fun v => by
    have h1 := (hEa.put (v := v) (dstOk_lt hd))
    refine ⟨h1.size, fun t u hu => h1.val t u ?_⟩
    rw [put_other (fun e => by rw [hEp t e] at hu; cases hu)]; exact hu
  have hskip : Skips ops o E → K (E.put o.dst undef) G h → wpOpIn (fen r) 0 P ops QQ i next a w := by
    rintro ⟨j, t, v, hg, hgv, hne⟩ hK
    unfold wpOpIn
    simp only [ho]
    have hw' : ¬ Region.wanted o (yielded ops a.tmps) = true := by
      simp only [Region.wanted, hg]
      unfold gv at hgv
      unfold yielded
      cases hdj : (ops[j]?).bind (·.dst) with
      | none => rw [hdj] at hgv; cases hgv
      | some d =>
        rw [hdj] at hgv
        have := ha.val d _ hgv
        cases v <;> simp_all [isb]
    rw [if_neg hw']
    exact ⟨fun _ _ => trivial, hn _ _ _ _ _ rfl (.inr ⟨_, rfl⟩) (ha.put (dstOk_lt hd)) (hput2 _) (hput _) (.refl hw) (.inl fun _ q => q) hK⟩
  have hrun : Runs ops o E → (o.wpIn (fen r) 0 P a w next QQ) → wpOpIn (fen r) 0 P ops QQ i next a w := by
    intro hr hh
    unfold wpOpIn
    simp only [ho]
    have hw' : Region.wanted o (yielded ops a.tmps) = true := by
      rcases hr with hr | ⟨j, t, hg, hgv⟩
      · simp [Region.wanted, hr]
      · simp [Region.wanted, hg, gv_yielded ha hgv]
    rw [if_pos hw']
    exact hh
  have hops : OpsAt E o a := fun x _ v hv => ha.ev hv
  cases k with
  | P => exact absurd rfl hk
  | S =>
    rcases H with ⟨hs, hK⟩ | ⟨hr, v, hv, hK⟩
    · exact hskip hs hK
    · refine hrun hr (hv h (hIv rfl) w a hw hops next QQ ?_ (fun _ _ _ k _ => k.elim))
      rintro v' h' w' ⟨rfl, e⟩ hf
      rw [e] at hf
      exact hn _ _ h _ _ rfl (.inr ⟨_, rfl⟩) (ha.put (dstOk_lt hd)) (hput2 _) (hput _) hf (.inl fun _ q => q) hK
  | R =>
    rcases H with ⟨hs, hK⟩ | ⟨hr, v, hv, hK⟩
    · exact hskip hs hK
    · refine hrun hr (hv w a hw hops next QQ ?_ (fun _ _ _ k _ => k.elim))
      rintro v' h' w' ⟨rfl, e⟩ hf
      rw [e] at hf
      exact hn _ _ h _ _ rfl (.inr ⟨_, rfl⟩) (ha.put (dstOk_lt hd)) (hput2 _) (hput _) hf (.inl fun _ q => q) hK
  | A =>
    obtain ⟨hg, p, hp, he, hK⟩ := H
    have hal := (hG rfl p hp).congr he
    obtain ⟨ρ, hρ1, hρ2⟩ := ops_rho hal.1 hops
    refine hrun (.inl hg) ⟨fun _ _ => trivial, ?_⟩
    rw [Oper.semAt_eq _ _ _ hal.1.1, ← hρ2, hal.2 w ρ hρ1]
    exact hn _ _ ((w.heap.size, p.obj) :: h) _ _ rfl (.inr ⟨_, rfl⟩) (ha.put (dstOk_lt hd)) (hput2 _) (hput _) (Fol.alloc hw _) (.inl fun _ q => q.cons _) (hK _ fun hc => Nat.lt_irrefl _ (hw.lt hc))
  | O =>
    rcases H with ⟨hs, hK⟩ | ⟨hr, hx⟩
    · exact hskip hs hK
    · refine hrun hr (hx w a hw hops next QQ ?_ ?_)
      · rintro v h2 w' ⟨h', hp, iv, hK⟩ hf
        exact hn _ _ h' _ _ rfl (.inr ⟨_, rfl⟩) (ha.put (dstOk_lt hd)) (hput2 _) (hput _) (hf.perm hp) (.inr iv) hK
      · intro ch h2 w' hq' hf
        exact hq ch h2 w' hq' hf
theorem drawX_main {Ep : Env} (hEp : ∀ (i : Nat) (o : Oper), ops[i]? = some o → ∀ t, o.dst = some t → Ep t = none) {tbl : List (List Nat)} {h0 : Hp} {w0 : World} (ht : tblOk ops tbl = true) (hdst : ops.toList.all (fun o : Oper => dstOk N o.dst) = true) :
    ∀ (fuel : Nat) (c : List Item) (listed : Array Bool) (E : Env) (G : Prom) (h : Hp) (w : World) (a : Act), WF ops tbl c listed → (c.filter fun x => x.2 != .P).length ≤ fuel → JX P r N ops D (PanEnv Ep Q) f tbl Ls c E G h →
      Own (h ++ f) w → (∀ x p, (x, p) ∈ Ls → listed.getD x true = false → Holds p h) → Agree N E a → Agree N Ep a → a.defers = D → Fol h0 w0 (h ++ f) w →
      wpAnyIn (fen r) 0 P .any ops (fun e a' w' => ∃ E' h', Q e E' a'.defers h' ∧ Agree N E' a' ∧ Fol h0 w0 h' w') fuel listed a w := by
  have hdst' : ∀ (i : Nat) (o : Oper), ops[i]? = some o → dstOk N o.dst = true := fun i o ho => List.all_eq_true.1 hdst o (by simpa using Array.mem_of_getElem? ho)
  -- where nothing is ready all is done
  have hend : ∀ (c : List Item) (listed : Array Bool), WF ops tbl c listed → Region.ready .any ops listed = [] → c = [] := by
    intro c listed W hready
    have hall : ∀ j, j < ops.size → listed.getD j false = true := by
      intro j
      induction j using Nat.strongRecOn with
      | _ j ih =>
        intro hj
        refine Classical.byContradiction fun hn => ?_
        have hlt : j < listed.size := by rw [W.sz]; exact hj
        obtain ⟨o, ho⟩ : ∃ o, ops[j]? = some o := ⟨_, Array.getElem?_eq_getElem hj⟩
        have hmem : j ∈ Region.ready .any ops listed := by
          refine mem_ready.2 ⟨?_, o, ho, fun e he hb => ?_⟩
          · simp [Array.getD, hlt] at hn ⊢; exact hn
          · have hd : e.on ∈ direct o := List.mem_map.2 ⟨e, List.mem_filter.2 ⟨by simpa using he, hb⟩, rfl⟩
            have := List.all_eq_true.1 ht j (List.mem_range.2 hj)
            simp only [ho, Bool.and_eq_true, List.all_eq_true, decide_eq_true_eq] at this
            have hlt2 := this.2 _ hd
            exact ih _ hlt2 (by omega)
        rw [hready] at hmem; cases hmem
    cases c with
    | nil => rfl
    | cons x c =>
      obtain ⟨i, k⟩ := x
      have hu := W.un i k List.mem_cons_self
      have := hall i hu.1
      have hlt : i < listed.size := by rw [W.sz]; exact hu.1
      simp [Array.getD, hlt] at this hu
      rw [this] at hu; exact absurd hu.2 (by simp)
  have hfin : ∀ (c : List Item) (listed : Array Bool) (E : Env) (G : Prom) (h : Hp) (w : World) (a : Act), WF ops tbl c listed → JX P r N ops D (PanEnv Ep Q) f tbl Ls c E G h → Agree N E a → Agree N Ep a → a.defers = D → Fol h0 w0 (h ++ f) w →
      Region.ready .any ops listed = [] → ∃ E' h', Q .normal E' a.defers h' ∧ Agree N E' a ∧ Fol h0 w0 h' w := by
    intro c listed E G h w a W hj ha hEa hda hf hready
    rw [hend c listed W hready] at hj
    obtain ⟨hh, hp, hq⟩ := hj
    exact ⟨E, hh, by rw [hda]; exact hq, ha, hf.perm hp.symm⟩
  intro fuel
  induction fuel with
  | zero =>
    intro c listed E G h w a W hc hj hw hIv ha hEa hda hf
    have hready : Region.ready .any ops listed = [] := by
      cases hr : Region.ready .any ops listed with
      | nil => rfl
      | cons i l =>
        exfalso
        obtain ⟨h1, o, ho, _⟩ := mem_ready.1 (show i ∈ Region.ready .any ops listed by rw [hr]; exact List.mem_cons_self)
        obtain ⟨k, hk, hm⟩ := W.al i (Array.getElem?_eq_some_iff.1 ho).1 h1
        have : (i, k) ∈ c.filter fun x => x.2 != .P := List.mem_filter.2 ⟨hm, by simpa using hk⟩
        have hl : (c.filter fun x => x.2 != .P).length = 0 := by omega
        rw [List.length_eq_zero_iff.1 hl] at this
        cases this
    exact ⟨hready, hfin c listed E G h w a W hj ha hEa hda hf hready⟩
  | succ fuel ih =>
    intro c listed E G h w a W hc hj hw hIv ha hEa hda hf
    refine ⟨fun hready => hfin c listed E G h w a W hj ha hEa hda hf hready, fun i hi => ?_⟩
    obtain ⟨h1, o, ho, hpre⟩ := mem_ready.1 hi
    have hr : ∀ z ∈ direct o, listed.getD z false = true := by
      intro z hz
      obtain ⟨e, he, rfl⟩ := List.mem_map.1 hz
      obtain ⟨he1, he2⟩ := List.mem_filter.1 he
      exact hpre e (by simpa using he1) he2
    obtain ⟨k, hk, hm⟩ := W.al i (Array.getElem?_eq_some_iff.1 ho).1 h1
    have hd := hdst' i o ho
    -- the step itself, once it stands in front
    have go : ∀ (c' : List Item) (G' : Prom), JX P r N ops D (PanEnv Ep Q) f tbl Ls ((i, k) :: c') E G' h → List.Sublist c' c → (∀ j kj, (j, kj) ∈ c' ↔ (j, kj) ∈ c ∧ j ≠ i) →
        (k = .A → ∀ p, G' i = some p → AL P o p.env p.val p.obj) →
        wpOpIn (fen r) 0 P ops (fun e a' w' => ∃ E' h', Q e E' a'.defers h' ∧ Agree N E' a' ∧ Fol h0 w0 h' w') i (wpAnyIn (fen r) 0 P .any ops (fun e a' w' => ∃ E' h', Q e E' a'.defers h' ∧ Agree N E' a' ∧ Fol h0 w0 h' w') fuel (listed.setIfInBounds i true)) a w := by
      intro c' G' hj' hs hmem hal
      obtain ⟨o', ho', _, hst⟩ := hj'
      rw [ho] at ho'; cases ho'
      refine JstX.exec (Ep := Ep) ho hd hk hal hw (fun _ => by
        rcases lof_mem Ls i with e9 | e9
        · rw [e9]; exact .nil
        · exact hIv i _ e9 (by
            have hlt := (Array.getElem?_eq_some_iff.1 ho).1
            have hls : i < listed.size := by rw [W.sz]; exact hlt
            simp [Array.getD, hls] at h1 ⊢; exact h1)) ha hda (hEp i o ho) hEa ?_ ?_ hst
      · intro E' G2 h' a' w' _ _ ha' hEa' hda' hf' iv' hK
        refine ih c' _ E' G2 h' w' a' (W.step ho hr hs hmem) ?_ hK hf'.own (fun x p hxp hl9 => by
          have hls : i < listed.size := by rw [W.sz]; exact (Array.getElem?_eq_some_iff.1 ho).1
          rw [getD_set hls] at hl9
          split at hl9
          · cases hl9
          · rename_i hne9
            rcases iv' with q9 | q9
            · exact q9 p (hIv x p hxp hl9)
            · rcases q9 x p hxp with q8 | q8
              · have q7 := tbl_sound ht W.dc i o ho hr x q8
                exfalso
                by_cases hx9 : x < listed.size
                · simp [Array.getD, hx9] at hl9 q7; rw [hl9] at q7; cases q7
                · simp [Array.getD, hx9] at q7
              · exact q8) ha' hEa' hda' (hf.trans hf')
        have hlt : ((i, k) :: c').length ≤ _ := Nat.le_refl _
        have hsub : List.Sublist (c'.filter fun x => x.2 != .P) (c.filter fun x => x.2 != .P) := hs.filter _
        have hne : (c'.filter fun x => x.2 != .P).length ≠ (c.filter fun x => x.2 != .P).length := by
          intro e
          have e2 := hsub.eq_of_length e
          have : (i, k) ∈ c'.filter fun x => x.2 != .P := by rw [e2]; exact List.mem_filter.2 ⟨hm, by simpa using hk⟩
          exact ((hmem i k).1 (List.mem_filter.1 this).1).2 rfl
        have := hsub.length_le
        omega
      · intro ch h' w' hq hf'
        exact ⟨Ep, h', by rw [hda]; exact hq, hEa, hf.trans hf'⟩
    by_cases hkA : k = .A
    · subst hkA
      have hmP := W.ap i hm
      obtain ⟨p, q, rfl⟩ := List.append_of_mem hmP
      have hnd := wf_nodup W.pr
      have hnp : (i, Kd.P) ∉ p := fun hmm => by
        rw [List.nodup_append] at hnd
        exact hnd.2.2 _ hmm _ List.mem_cons_self rfl
      have hj1 := JX.moveFront ho hd p (W.front ht ho hr (List.Sublist.refl _) hnp) (fun e => by cases e) hj
      obtain ⟨o', ho', _, hg, mk, obj, hal, hj2⟩ := hj1
      rw [ho] at ho'; cases ho'
      have hmA : (i, Kd.A) ∈ p ++ q := by
        rcases List.mem_append.1 hm with hm | hm
        · exact List.mem_append_left _ hm
        · rcases List.mem_cons.1 hm with e | hm
          · cases e
          · exact List.mem_append_right _ hm
      have hs1 : List.Sublist (p ++ q) (p ++ (i, Kd.P) :: q) := (List.Sublist.refl p).append (List.sublist_cons_self _ _)
      have hmP2 : ∀ kk, (i, kk) ∈ p ++ q → kk = .A := by
        intro kk hkk
        obtain ⟨p2, q2, e2⟩ := List.append_of_mem hmA
        by_cases hkk2 : kk = .A
        · exact hkk2
        · exfalso
          have hmem2 : (i, kk) ∈ p2 ++ q2 := by
            rw [e2] at hkk
            rcases List.mem_append.1 hkk with h3 | h3
            · exact List.mem_append_left _ h3
            · rcases List.mem_cons.1 h3 with h3 | h3
              · cases h3; exact absurd rfl hkk2
              · exact List.mem_append_right _ h3
          have := one_np (ops := ops) (tbl := tbl) (x := i) (k := .A) (by rw [← e2]; exact pairs_sub hs1 W.pr) (by simp) hmem2
          obtain ⟨rfl, _, _⟩ := this
          rw [List.nodup_append] at hnd
          rcases List.mem_append.1 hkk with h3 | h3
          · exact hnp h3
          · exact (List.nodup_cons.1 hnd.2.1).1 h3
      obtain ⟨p2, q2, e2⟩ := List.append_of_mem hmA
      rw [e2] at hj2
      have hs2 : List.Sublist (p2 ++ (i, Kd.A) :: q2) (p ++ (i, Kd.P) :: q) := by rw [← e2]; exact hs1
      have hnp2 : (i, Kd.P) ∉ p2 := fun hmm => by
        have := hmP2 .P (by rw [e2]; exact List.mem_append_left _ hmm)
        cases this
      have hj3 := JX.moveFront ho hd p2 (W.front ht ho hr hs2 hnp2) (fun _ => ⟨hg, ⟨mk, obj, restr o E⟩, by simp [Prom.add], restr_eqOn o E⟩) hj2
      refine go (p2 ++ q2) _ hj3 (((List.Sublist.refl p2).append (List.sublist_cons_self _ _)).trans hs2) ?_ ?_
      · intro j kj
        constructor
        · intro hmm
          have hmm2 : (j, kj) ∈ p ++ q := by
            rw [e2]
            rcases List.mem_append.1 hmm with h3 | h3
            · exact List.mem_append_left _ h3
            · exact List.mem_append_right _ (List.mem_cons_of_mem _ h3)
          refine ⟨hs1.subset hmm2, ?_⟩
          rintro rfl
          have := hmP2 kj hmm2
          subst this
          have hnd2 : (p2 ++ (j, Kd.A) :: q2).Nodup := by rw [← e2]; exact hs1.nodup hnd
          rw [List.nodup_append] at hnd2
          rcases List.mem_append.1 hmm with h3 | h3
          · exact hnd2.2.2 _ h3 _ List.mem_cons_self rfl
          · exact (List.nodup_cons.1 hnd2.2.1).1 h3
        · rintro ⟨h3, hne⟩
          have h4 : (j, kj) ∈ p ++ q := by
            rcases List.mem_append.1 h3 with h5 | h5
            · exact List.mem_append_left _ h5
            · rcases List.mem_cons.1 h5 with h5 | h5
              · cases h5; exact absurd rfl hne
              · exact List.mem_append_right _ h5
          rw [e2] at h4
          rcases List.mem_append.1 h4 with h5 | h5
          · exact List.mem_append_left _ h5
          · rcases List.mem_cons.1 h5 with h5 | h5
            · cases h5; exact absurd rfl hne
            · exact List.mem_append_right _ h5
      · intro _ pr hpr
        simp [Prom.add] at hpr
        subst hpr
        exact hal.congr (restr_eqOn o E).symm
    · obtain ⟨p, q, rfl⟩ := List.append_of_mem hm
      have hone : ∀ kk, (i, kk) ∉ p ++ q := fun kk hkk => hkA (one_np W.pr hk hkk).2.1
      have hj1 := JX.moveFront ho hd p (W.front ht ho hr (List.Sublist.refl _) (fun hmm => hone _ (List.mem_append_left _ hmm))) (fun e => absurd e hkA) hj
      refine go (p ++ q) G hj1 ((List.Sublist.refl p).append (List.sublist_cons_self _ _)) ?_ (fun e => absurd e hkA)
      intro j kj
      constructor
      · intro hmm
        refine ⟨((List.Sublist.refl p).append (List.sublist_cons_self _ _)).subset hmm, ?_⟩
        rintro rfl
        exact hone kj hmm
      · rintro ⟨h3, hne⟩
        rcases List.mem_append.1 h3 with h5 | h5
        · exact List.mem_append_left _ h5
        · rcases List.mem_cons.1 h5 with h5 | h5
          · cases h5; exact absurd rfl hne
          · exact List.mem_append_right _ h5
/-- **A region whose order is open: walked once, in a canonical order.** -/
theorem xc_drawX {id : Nat} {h' : Hp} (c : List Item) (f h : Hp) (hm : P.follows .mixedOrders = true) (hck : drawOk N ops c = true) (hp : List.Perm (h ++ f) h') (hIv : ∀ x p, (x, p) ∈ Ls → Holds p h) (H : JX P r N ops D (PanEnv (mask ops E) Q) f (clos ops) Ls c E (fun _ => none) h) : XC P r N (.region id ops true) Q E D h' := by
  refine XC.perm hp ?_
  intro w a ho ha hda
  simp only [drawOk, Bool.and_eq_true] at hck
  obtain ⟨ht, hpr, hdst, hall, hit, hlen⟩ := hck
  refine wpIn_region_any hm ?_
  have hEp : ∀ (i : Nat) (o : Oper), ops[i]? = some o → ∀ t, o.dst = some t → mask ops E t = none := by
    intro i o hio t ht
    have : t ∈ dsts ops := List.mem_filterMap.2 ⟨o, by simpa using Array.mem_of_getElem? hio, ht⟩
    simp [mask, this]
  have hEa : Agree N (mask ops E) a := by
    refine ⟨ha.size, fun t v hv => ha.val t v ?_⟩
    unfold mask at hv
    split at hv
    · cases hv
    · exact hv
  refine drawX_main (Ep := mask ops E) hEp (h0 := h ++ f) (w0 := w) ht hdst ops.size c _ E _ h _ a ⟨hpr, ?_, ?_, ?_, ?_, ?_, by simp, ?_⟩ (of_decide_eq_true hlen) H (ho.drew _) (fun x p hm _ => hIv x p hm) ha hEa hda (Fol.refl (ho.drew _)).drew
  · intro i k hik
    have := List.all_eq_true.1 hit (i, k) hik
    simp only [Bool.and_eq_true, decide_eq_true_eq] at this
    exact ⟨this.1, by simp [Array.getD, this.1]⟩
  · intro i hi _
    have := List.all_eq_true.1 hall i (List.mem_range.2 hi)
    simp only [Bool.or_eq_true, List.contains_iff_mem] at this
    rcases this with ((h1 | h1) | h1) | h1
    · exact ⟨_, by simp, h1⟩
    · exact ⟨_, by simp, h1⟩
    · exact ⟨_, by simp, h1⟩
    · exact ⟨_, by simp, h1⟩
  · intro i hi
    have := List.all_eq_true.1 hit (i, .A) hi
    simp only [Bool.and_eq_true, Bool.or_eq_true, List.contains_iff_mem] at this
    rcases this.2.1 with h1 | h1
    · simp at h1
    · exact h1.2
  · intro i hi
    have := List.all_eq_true.1 hit (i, .P) hi
    simp only [Bool.and_eq_true, Bool.or_eq_true, List.contains_iff_mem] at this
    rcases this.2.2 with h1 | h1
    · simp at h1
    · exact h1
  · intro i o hi ho'
    have := List.all_eq_true.1 hit (i, .A) hi
    simp only [Bool.and_eq_true, Bool.or_eq_true, ho'] at this
    rcases this.2.1 with h1 | h1
    · simp at h1
    · simpa using h1.1
  · intro j o hj
    simp [Array.getD] at hj
end Go.H
namespace Go.H
open Go
section
variable {P : Program} {r : Option Nat} {N : Nat} {Q : Post} {E : Env} {D : List Deferred} {h : Hp} {ops : Array Oper} {tbl : List (List Nat)} {Ls : LsT} {G : Prom} {l : List Item}
theorem jx_S {i : Nat} {o : Oper} {v : Value} (hi : ops[i]? = some o) (hd : dstOk N o.dst = true) (hr : Runs ops o E) (H : XV P r o (fun v' h' => v' = v ∧ h' = []) (fun _ _ => False) E []) (H2 : JX P r N ops D Q [] tbl Ls l (E.put o.dst v) G h) : JX P r N ops D Q [] tbl Ls ((i, .S) :: l) E G h :=
  ⟨o, hi, hd, .inr ⟨hr, v, fun hh _ => qv_ext H hh, H2⟩⟩
theorem jx_I {i : Nat} {o : Oper} {v : Value} (hi : ops[i]? = some o) (hd : dstOk N o.dst = true) (hr : Runs ops o E) (H : ∀ hh, Holds (lof Ls i) hh → XV P r o (fun v' h' => v' = v ∧ h' = hh) (fun _ _ => False) E hh) (H2 : JX P r N ops D Q [] tbl Ls l (E.put o.dst v) G h) : JX P r N ops D Q [] tbl Ls ((i, .S) :: l) E G h :=
  ⟨o, hi, hd, .inr ⟨hr, v, fun hh hv => by rw [List.append_nil]; exact H hh hv, H2⟩⟩
theorem jx_R {i : Nat} {o : Oper} {v : Value} (hi : ops[i]? = some o) (hd : dstOk N o.dst = true) (hr : Runs ops o E) (H : XV P r o (fun v' h' => v' = v ∧ h' = h) (fun _ _ => False) E h) (H2 : JX P r N ops D Q [] tbl Ls l (E.put o.dst v) G h) : JX P r N ops D Q [] tbl Ls ((i, .R) :: l) E G h :=
  ⟨o, hi, hd, .inr ⟨hr, v, by rw [List.append_nil]; exact H, H2⟩⟩
theorem jx_P {i : Nat} {o : Oper} {mk : Nat → Value} {obj : Obj} (hi : ops[i]? = some o) (hd : dstOk N o.dst = true) (hg : o.guard = none) (H : AL P o E mk obj) (H2 : JX P r N ops D Q [] tbl Ls l E (G.add i ⟨mk, obj, restr o E⟩) h) : JX P r N ops D Q [] tbl Ls ((i, .P) :: l) E G h :=
  ⟨o, hi, hd, hg, mk, obj, H, H2⟩
theorem jx_A {i : Nat} {o : Oper} {mk : Nat → Value} {obj : Obj} {E0 : Env} {tl : List Nat} (hi : ops[i]? = some o) (hd : dstOk N o.dst = true) (hg : o.guard = none) (hG : G i = some ⟨mk, obj, restr o E0⟩) (ht : tmpsOf o.op.operands.toList = tl) (he : EqL tl E0 E)
    (H2 : ∀ b, b ∉ keys h → JX P r N ops D Q [] tbl Ls l (E.put o.dst (mk b)) G ((b, obj) :: h)) : JX P r N ops D Q [] tbl Ls ((i, .A) :: l) E G h :=
  ⟨o, hi, hd, hg, _, hG, (restr_eqOn o E0).trans (fun t hm => eqL_mem he t (by rw [← ht]; exact mem_tmpsOf (by simpa using hm))), fun b hb => H2 b (by rwa [List.append_nil] at hb)⟩
theorem jx_O {i : Nat} {o : Oper} (hi : ops[i]? = some o) (hd : dstOk N o.dst = true) (hr : Runs ops o E) (H : XV P r o (fun v h' => Keep tbl Ls i h' ∧ JX P r N ops D Q [] tbl Ls l (E.put o.dst v) G h') (fun ch h'' => Q (.panic ch) emp D h'') E h) : JX P r N ops D Q [] tbl Ls ((i, .O) :: l) E G h :=
  ⟨o, hi, hd, .inr ⟨hr, by rw [List.append_nil]; exact H.mono (fun v h' k => ⟨h', by simp, k.1, k.2⟩) (fun _ _ k => k)⟩⟩
theorem jx_endp {Ep : Env} {h2 : Hp} (hp : List.Perm h h2) (H : Q .normal E D h2) : JX P r N ops D (PanEnv Ep Q) [] tbl Ls [] E G h := ⟨h2, by simpa using hp, H⟩
theorem xc_drawX0 {id : Nat} (Ls : LsT) (c : List Item) (hm : P.follows .mixedOrders = true) (hck : drawOk N ops c = true) (hIv : ∀ x p, (x, p) ∈ Ls → Holds p h) (H : JX P r N ops D (PanEnv (mask ops E) Q) [] (clos ops) Ls c E (fun _ => none) h) : XC P r N (.region id ops true) Q E D h :=
  xc_drawX c [] h hm hck (by simp) hIv H
/-- What is kept, one read after the other. -/
theorem kp_nil {tbl : List (List Nat)} {y : Nat} {h : Hp} : Keep tbl [] y h := fun _ _ hm => (List.not_mem_nil hm).elim
theorem kp_go {tbl : List (List Nat)} {y x : Nat} {p : List (Nat × (Obj → Prop))} {Ls : LsT} {h : Hp} (h1 : (tbl.getD y []).contains x = true) (H : Keep tbl Ls y h) : Keep tbl ((x, p) :: Ls) y h := fun x' p' hm => by
  rcases List.mem_cons.1 hm with e | hm
  · cases e; exact .inl (by simpa using h1)
  · exact H x' p' hm
theorem kp_in {tbl : List (List Nat)} {y x : Nat} {p : List (Nat × (Obj → Prop))} {Ls : LsT} {h : Hp} (h1 : Holds p h) (H : Keep tbl Ls y h) : Keep tbl ((x, p) :: Ls) y h := fun x' p' hm => by
  rcases List.mem_cons.1 hm with e | hm
  · cases e; exact .inr h1
  · exact H x' p' hm
theorem iv_nil {h : Hp} : ∀ x p, (x, p) ∈ ([] : LsT) → Holds p h := fun _ _ hm => (List.not_mem_nil hm).elim
theorem iv_cons {x : Nat} {p : List (Nat × (Obj → Prop))} {Ls : LsT} {h : Hp} (h1 : Holds p h) (H : ∀ x p, (x, p) ∈ Ls → Holds p h) : ∀ x' p', (x', p') ∈ ((x, p) :: Ls) → Holds p' h := fun x' p' hm => by
  rcases List.mem_cons.1 hm with e | hm
  · cases e; exact h1
  · exact H x' p' hm
end
end Go.H

/-
  Walks.
-/
namespace Go.Proofs.Ytpefpafijadfmaa
open Go Go.H
set_option maxRecDepth 100000
set_option maxHeartbeats 8000000
set_option linter.all false
theorem cloneI_c {l : List Int} {a : Option Addr} {c : Nat} {h : Hp} {R : Ending → Hp → Prop} (hl : SlV h 1 eI a l) (hlen : l.length ≤ 1000) (H : ∀ V, Vec.ok V 1 l.length (l.flatMap eI) → R (.returned (V.val l.length)) (V.hp 3 (l.flatMap eI) ++ h)) : ACalls Try.prog 48 ⟨[.slice a l.length c]⟩ h R := by
  refine calls_of_xc (N := 8) Try.func48 rfl (by rfl) ?_
  refine xc_seq (xc_region ?_)
  refine xr_op rfl rfl (xv_assign rfl ?_)
  refine xr_end rfl ?_
  refine th_n ?_
  refine xc_seq ?_
  refine xc_seq (xc_region ?_)
  cases a
  · refine xr_op rfl rfl (xv_move rfl ?_)
    refine xr_op rfl rfl (xv_eqNilS (b := true) sl38 rfl rfl rfl ?_)
    refine xr_end rfl ?_
    refine th_n ?_
    refine xc_true rfl ?_
    refine xc_seq (xc_region ?_)
    have hl0 := slv_none hl
    subst hl0
    refine xr_op rfl rfl (xv_assign rfl ?_)
    refine xr_end rfl ?_
    refine th_n ?_
    refine xc_ret ?_
    refine th_r ?_
    refine body_ret (h' := h) rfl (ro_tmp rfl ro_nil) (by (first|((repeat first|exact s_0|exact s_1|exact s_3|refine s_4 ?_|refine s_5 ?_|refine s_6 ?_|refine s_7 ?_);done)|((repeat first|exact s_0|exact s_1|exact s_3|refine s_4 ?_|refine s_5 ?_|refine s_6 ?_|refine s_8 ?_);done))) ?_
    first | exact H .nil ⟨rfl, rfl⟩ | exact H V hV
  · refine xr_op rfl rfl (xv_move rfl ?_)
    refine xr_op rfl rfl (xv_eqNilS (b := false) sl38 rfl rfl rfl ?_)
    refine xr_end rfl ?_
    refine th_n ?_
    refine xc_false rfl ?_
    refine xc_skip ?_
    refine th_n ?_
    refine xc_seq (xc_region ?_)
    refine xr_op rfl rfl ((al_buildSlice sl38 ty3 rfl rfl rfl rfl rfl (by ((try apply evl_some rfl);(repeat (first|exact (rfl : _ = [])|apply evl_cons rfl (by (first|exact v_1|exact v_2|exact v_3|exact v_4|exact v_5|exact v_6|exact v_7|exact v_8|exact v_9|exact rfl))|exact rfl))))).xv (fun b1 hb1 => ?_))
    refine xr_op rfl rfl (xv_move rfl ?_)
    refine xr_op rfl rfl (xv_copy (enc := eI) (xs := l) sl38 ty3 rfl rfl rfl rfl hl eI_len eI_1 (by (first | omega | (dsimp only at *; omega) | (simp at *; omega))) (by (first | omega | (dsimp only at *; omega) | (simp at *; omega))) (fun V hV => ?_))
    refine xr_op rfl rfl (xv_assign rfl ?_)
    refine xr_end rfl ?_
    refine th_n ?_
    refine xc_ret ?_
    refine body_ret (h' := (V.hp 3 (l.flatMap eI) ++ h)) rfl (ro_tmp rfl ro_nil) (by (first|((repeat first|exact s_0|exact s_1|exact s_3|refine s_4 ?_|refine s_5 ?_|refine s_6 ?_|refine s_7 ?_);done)|((repeat first|exact s_0|exact s_1|exact s_3|refine s_4 ?_|refine s_5 ?_|refine s_6 ?_|refine s_8 ?_);done))) ?_
    first | exact H .nil ⟨rfl, rfl⟩ | exact H V hV

end Go.Proofs.Ytpefpafijadfmaa

/-
  Whether a draw can have so much of each coal: any coals together need no more than all layers can give of them.
-/
set_option linter.all false
namespace Go.Proofs.Ytpefpafijadfmaa
open Go Go.H
def eR (x : List Int × Int) : List Value := [I x.2]
def eM (x : List Int × Int) : List Value := (List.range 6).map fun i => I (x.1.getD i 0)
theorem eR_len (x : List Int × Int) : (eR x).length = 1 := rfl
theorem eM_len (x : List Int × Int) : (eM x).length = 6 := by simp [eM]
theorem eM_eq {x : List Int × Int} (h : x.1.length = 6) : eM x = x.1.flatMap eI := by
  refine List.ext_getElem? fun i => ?_
  by_cases hi : i < 6
  · obtain ⟨v, hv⟩ : ∃ v, x.1[i]? = some v := ⟨_, List.getElem?_eq_getElem (by omega)⟩
    have := ints_get hv
    rw [Nat.zero_add, Nat.mul_one] at this
    rw [this]
    simp [eM, hi, List.getD_eq_getElem?_getD, hv]
  · rw [List.getElem?_eq_none (by rw [eM_len]; omega), List.getElem?_eq_none (by rw [ints_len]; omega)]
theorem eM_get {x : List Int × Int} {c : Nat} (h : c < 6) : (eM x)[c]? = some (I (x.1.getD c 0)) := by simp [eM, h]
def lyr (l : List (List Int × Int)) (k : Nat) : List Int × Int := l.getD k ([], 0)
theorem lyr_at {l : List (List Int × Int)} {k : Nat} {x : List Int × Int} (h : l[k]? = some x) : lyr l k = x := by unfold lyr; rw [List.getD_eq_getElem?_getD, h]; rfl
def mnS (l : List (List Int × Int)) (own : List Int) : Nat → Int
  | 0 => 0
  | k + 1 => mnS l own k + min (lyr l k).2 (own.getD k 0)
def ownN (l : List (List Int × Int)) (c : Nat) (own : List Int) (k : Nat) : List Int := (List.range own.length).map fun j => if j < k then own.getD j 0 + (lyr l j).1.getD c 0 else own.getD j 0
theorem ownN_len (l : List (List Int × Int)) (c : Nat) (own : List Int) (k : Nat) : (ownN l c own k).length = own.length := by simp [ownN]
theorem ownN_0 (l : List (List Int × Int)) (c : Nat) (own : List Int) : ownN l c own 0 = own := by
  refine List.ext_getElem? fun i => ?_
  by_cases hi : i < own.length
  · simp [ownN, hi, List.getD_eq_getElem?_getD]
  · rw [List.getElem?_eq_none (by rw [ownN_len]; omega), List.getElem?_eq_none (by omega)]
theorem ownN_get {l : List (List Int × Int)} {c : Nat} {own : List Int} {k : Nat} (h : k < own.length) : (ownN l c own k)[k]? = some (own.getD k 0) := by simp [ownN, h]
theorem ownN_set {l : List (List Int × Int)} {c : Nat} {own : List Int} {k : Nat} (h : k < own.length) : (ownN l c own k).set k (own.getD k 0 + (lyr l k).1.getD c 0) = ownN l c own (k + 1) := by
  refine List.ext_getElem? fun i => ?_
  rw [List.getElem?_set]
  by_cases hi : i < own.length
  · by_cases hk : k = i
    · subst hk; rw [if_pos rfl, if_pos (by rw [ownN_len]; omega)]; simp [ownN, hi]
    · rw [if_neg hk]
      simp only [ownN, List.getElem?_map, List.getElem?_range hi, Option.map_some]
      congr 1
      by_cases hq : i < k
      · rw [if_pos hq, if_pos (by omega)]
      · rw [if_neg hq, if_neg (by omega)]
  · have : ¬ k = i := by omega
    rw [if_neg this, List.getElem?_eq_none (by rw [ownN_len]; omega), List.getElem?_eq_none (by rw [ownN_len]; omega)]
def fitsF (l : List (List Int × Int)) : List Int → Nat → Int → List Int → Bool
  | [], _, need, own => decide (need ≤ mnS l own l.length)
  | t :: r, c, need, own => fitsF l r (c + 1) need own && fitsF l r (c + 1) (need + t) (ownN l c own l.length)
def allT (l : List (List Int × Int)) : Int := (l.map Prod.snd).sum
theorem allT_take {l : List (List Int × Int)} {k : Nat} {x : List Int × Int} (h : l[k]? = some x) : allT (l.take (k + 1)) = allT (l.take k) + x.2 := by
  unfold allT; rw [List.take_add_one, h, List.map_append, List.sum_append_int]; simp
def canB (l : List (List Int × Int)) (ts : List Int) : Bool := if ∀ t ∈ ts, 0 ≤ t ∧ t ≤ allT l then decide (sumI ts = allT l) && fitsF l ts 0 0 (List.replicate l.length 0) else false
def canA (y : Yard) (draw : Int) (ts : List Int) : Bool × Int :=
  if GoodYard y then (match vecsR y with
    | none => (false, 10)
    | some vs => if (0 ≤ draw ∧ draw ≤ (vs.length : Int) - 1) ∧ ts.length = y.coals.length then (canB (partsL y [vs.getD draw.toNat []]) ts, 0) else (false, 2)) else (false, 1)
section
variable {y : Yard} {draw : Int} {ts : List Int} {vs : List (List Int)} {v : List Int}
theorem canA_1 (h : ¬ GoodYard y) : canA y draw ts = (false, 1) := by unfold canA; exact if_neg h
theorem canA_10 (h : GoodYard y) (h2 : vecsR y = none) : canA y draw ts = (false, 10) := by unfold canA; rw [if_pos h, h2]
theorem canA_2 (h : GoodYard y) (h2 : vecsR y = some vs) (h3 : ¬ ((0 ≤ draw ∧ draw ≤ (vs.length : Int) - 1) ∧ ts.length = y.coals.length)) : canA y draw ts = (false, 2) := by unfold canA; rw [if_pos h, h2]; exact if_neg h3
theorem canA_0 (h : GoodYard y) (h2 : vecsR y = some vs) (h3 : 0 ≤ draw ∧ draw ≤ (vs.length : Int) - 1) (h4 : ts.length = y.coals.length) (hv : vs[draw.toNat]? = some v) : canA y draw ts = (canB (partsL y [v]) ts, 0) := by
  unfold canA; rw [if_pos h, h2]
  refine (if_pos ⟨h3, h4⟩).trans ?_
  rw [List.getD_eq_getElem?_getD, hv]; rfl
end
theorem canB_out {l : List (List Int × Int)} {ts : List Int} {k : Nat} {t : Int} (h : ts[k]? = some t) (h2 : ¬ (0 ≤ t ∧ t ≤ allT l)) : canB l ts = false := by
  unfold canB; exact if_neg fun hq => h2 (hq t (List.mem_of_getElem? h))
theorem canB_in {l : List (List Int × Int)} {ts : List Int} (h : ∀ t ∈ ts, 0 ≤ t ∧ t ≤ allT l) : canB l ts = (decide (sumI ts = allT l) && fitsF l ts 0 0 (List.replicate l.length 0)) := by
  unfold canB; exact if_pos h
/-! ### What the closure holds -/
structure FitsC (core : Hp) (l : List (List Int × Int)) (ts : List Int) (bt br bm bf : Nat) (ta : Option Addr) (tc : Nat) (ra : Option Addr) (rc : Nat) (ma : Option Addr) (mc : Nat) : Prop where
  t : (bt, .cells ⟨[.slice ta ts.length tc]⟩ 38 (0, 0)) ∈ core
  r : (br, .cells ⟨[.slice ra l.length rc]⟩ 38 (0, 0)) ∈ core
  m : (bm, .cells ⟨[.slice ma l.length mc]⟩ 100 (0, 0)) ∈ core
  f : (bf, .cells ⟨[.func (.func 47) ⟨[]⟩ ⟨[.pointer (some ⟨bt, 0, none⟩), .pointer (some ⟨br, 0, none⟩), .pointer (some ⟨bm, 0, none⟩), .pointer (some ⟨bf, 0, none⟩)]⟩]⟩ 101 (0, 0)) ∈ core
  tv : SlV core 1 eI ta ts
  rs : SlV core 1 eR ra l
  ms : SlV core 6 eM ma l
  ok : ∀ x ∈ l, x.1.length = 6 ∧ (∀ z ∈ x.1, 0 ≤ z ∧ z ≤ 33554432) ∧ 0 < x.2 ∧ x.2 ≤ 33554432
  few : l.length ≤ 32
  len : ts.length ≤ 6
  tb : ∀ t ∈ ts, 0 ≤ t ∧ t ≤ 1073741824
theorem FitsC.sub {core g : Hp} {l : List (List Int × Int)} {ts : List Int} {bt br bm bf : Nat} {ta : Option Addr} {tc : Nat} {ra : Option Addr} {rc : Nat} {ma : Option Addr} {mc : Nat} (H : FitsC core l ts bt br bm bf ta tc ra rc ma mc) (hs : core ⊆ g) : FitsC g l ts bt br bm bf ta tc ra rc ma mc :=
  ⟨hs H.t, hs H.r, hs H.m, hs H.f, H.tv.sub hs, H.rs.sub hs, H.ms.sub hs, H.ok, H.few, H.len, H.tb⟩
theorem getL {α : Type} {l sp : List α} {k : Nat} {v : α} (h : l[k]? = some v) : (l ++ sp)[k]? = some v := by
  rw [List.getElem?_append_left (List.getElem?_eq_some_iff.1 h).1]; exact h
theorem permC {M U R : Hp} {y x d p q a b c : Nat × Obj} : List.Perm (M ++ (y :: (U ++ (x :: d :: p :: q :: a :: b :: c :: R)))) (y :: x :: d :: p :: q :: a :: b :: c :: (U ++ (M ++ R))) := by
  classical
  refine List.perm_iff_count.2 fun z => ?_
  simp only [List.count_append, List.count_cons, List.count_nil]; omega
theorem list6 {α : Type} {l : List α} (h : l.length = 6) : ∃ a b c d e f, l = [a, b, c, d, e, f] := by
  match l, h with
  | [a, b, c, d, e, f], _ => exact ⟨a, b, c, d, e, f, rfl⟩
theorem bld6 {l : List Int} (h : l.length = 6) : bld (zeros [I 0, I 0, I 0, I 0, I 0, I 0] 1) (fun i => some (i * 6, 6)) [(0, .agg ⟨l.flatMap eI⟩)] = some (l.flatMap eI) := by
  obtain ⟨a, b, c, d, e, f, rfl⟩ := list6 h; rfl
theorem eM_take {l : List (List Int × Int)} {k : Nat} {x : List Int × Int} (h : l[k]? = some x) (h6 : x.1.length = 6) : (l.take (k + 1)).flatMap eM = (l.take k).flatMap eM ++ x.1.flatMap eI := by
  rw [List.take_add_one, h, List.flatMap_append, ← eM_eq h6]; simp
theorem eR_take {l : List (List Int × Int)} {k : Nat} {x : List Int × Int} (h : l[k]? = some x) : (l.take (k + 1)).flatMap eR = (l.take k).flatMap eR ++ [I x.2] := by
  rw [List.take_add_one, h, List.flatMap_append]; simp [eR]
theorem allT_bd {B : Int} {l : List (List Int × Int)} (h : ∀ x ∈ l, 0 ≤ x.2 ∧ x.2 ≤ B) : 0 ≤ allT l ∧ allT l ≤ (l.length : Int) * B := by
  have := sumI_bd (l := l.map Prod.snd) (B := B) (fun x hx => by obtain ⟨z, hz, rfl⟩ := List.mem_map.1 hx; exact h z hz)
  rwa [List.length_map] at this
/-- One number of a vector of numbers is another now. -/
theorem vec_updI {V : Vec} {n : Nat} {xs ys : List Int} {t : TypeId} (hV : V.ok 1 n (xs.flatMap eI)) (h0 : 0 < n) (hl : ys.length = xs.length) : ∃ b sp, V.ad = some ⟨b, 0, none⟩ ∧ (b, Obj.cells ⟨xs.flatMap eI ++ sp⟩ t (0, 0)) ∈ V.hp t (xs.flatMap eI) ∧
    Upd (V.hp t (xs.flatMap eI)) b (.cells ⟨xs.flatMap eI ++ sp⟩ t (0, 0)) (.cells ⟨ys.flatMap eI ++ sp⟩ t (0, 0)) (V.hp t (ys.flatMap eI)) ∧ V.ok 1 n (ys.flatMap eI) := by
  cases V with
  | nil => exact absurd hV.2 (by omega)
  | «at» b cap sp =>
    obtain ⟨h1, h2, h3⟩ := hV
    refine ⟨b, sp, rfl, List.mem_cons_self, .here, ?_, h2, ?_⟩
    · rw [ints_len] at h1 ⊢; rw [hl]; exact h1
    · rw [List.length_append, ints_len] at h3 ⊢; rw [hl]; exact h3
theorem mnS_bd {l : List (List Int × Int)} {own : List Int} (hl : ∀ x ∈ l, 0 ≤ x.2 ∧ x.2 ≤ 33554432) (ho : ∀ x ∈ own, 0 ≤ x) : ∀ k, 0 ≤ mnS l own k ∧ mnS l own k ≤ 33554432 * (k : Int)
  | 0 => by simp [mnS]
  | k + 1 => by
    have ih := mnS_bd hl ho k
    have h1 : 0 ≤ (lyr l k).2 ∧ (lyr l k).2 ≤ 33554432 := by
      unfold lyr
      rw [List.getD_eq_getElem?_getD]
      cases hg : l[k]? with
      | none => simp
      | some x => simpa using hl x (List.mem_of_getElem? hg)
    have h2 : 0 ≤ own.getD k 0 := by
      rw [List.getD_eq_getElem?_getD]
      cases hg : own[k]? with
      | none => simp
      | some x => simpa using ho x (List.mem_of_getElem? hg)
    rw [mnS]; omega
theorem ownN_bd {l : List (List Int × Int)} {own : List Int} {c k : Nat} {B : Int} (hl : ∀ x ∈ l, ∀ z ∈ x.1, 0 ≤ z ∧ z ≤ 33554432) (ho : ∀ x ∈ own, 0 ≤ x ∧ x ≤ B) : ∀ x ∈ ownN l c own k, 0 ≤ x ∧ x ≤ B + 33554432 := fun x hx => by
  obtain ⟨j, hj, rfl⟩ := List.mem_map.1 hx
  rw [List.mem_range] at hj
  have h1 : 0 ≤ (lyr l j).1.getD c 0 ∧ (lyr l j).1.getD c 0 ≤ 33554432 := by
    refine getD_bd (by decide) (fun z hz => ?_) c
    unfold lyr at hz
    rw [List.getD_eq_getElem?_getD] at hz
    cases hg : l[j]? with
    | none => rw [hg] at hz; simp at hz
    | some x => rw [hg] at hz; exact hl x (List.mem_of_getElem? hg) z (by simpa using hz)
  have h2 : 0 ≤ own.getD j 0 ∧ own.getD j 0 ≤ B := by
    rw [List.getD_eq_getElem?_getD, List.getElem?_eq_getElem hj]; exact ho _ (List.getElem_mem hj)
  split <;> omega
end Go.Proofs.Ytpefpafijadfmaa

/-
  Walks.
-/
namespace Go.Proofs.Ytpefpafijadfmaa
open Go Go.H
set_option maxRecDepth 100000
set_option maxHeartbeats 8000000
set_option linter.all false
def FitsOk (d : Nat) : Prop := ∀ {core h : Hp} {l : List (List Int × Int)} {ts : List Int} {bt br bm bf : Nat} {ta : Option Addr} {tc : Nat} {ra : Option Addr} {rc : Nat} {ma : Option Addr} {mc : Nat} {coal n : Nat} {ci need : Int} {own : List Int} {oa : Option Addr} {oc : Nat} {R : Ending → Hp → Prop},
  FitsC core l ts bt br bm bf ta tc ra rc ma mc → core ⊆ h → ts.length - coal = d → coal ≤ ts.length → ci = coal → n = own.length → own.length = l.length → (∀ x ∈ own, 0 ≤ x ∧ x ≤ 33554432 * (coal : Int)) → (0 ≤ need ∧ need ≤ 1073741824 * (coal : Int)) → SlV h 1 eI oa own →
  (fitsF l (ts.drop coal) coal need own = true → R (.returned (.bool true)) h) → (fitsF l (ts.drop coal) coal need own = false → R (.returned (.bool false)) h) →
  ACalls Try.prog 47 ⟨[I ci, I need, .slice oa n oc, .pointer (some ⟨bt, 0, none⟩), .pointer (some ⟨br, 0, none⟩), .pointer (some ⟨bm, 0, none⟩), .pointer (some ⟨bf, 0, none⟩)]⟩ h R
theorem cloneN_c {l : List Int} {a : Option Addr} {n c : Nat} {h : Hp} {R : Ending → Hp → Prop} (hn : n = l.length) (hl : SlV h 1 eI a l) (hlen : l.length ≤ 1000) (H : ∀ V, Vec.ok V 1 n (l.flatMap eI) → R (.returned (.slice V.ad n V.cp)) (V.hp 3 (l.flatMap eI) ++ h)) : ACalls Try.prog 48 ⟨[.slice a n c]⟩ h R := by
  subst hn; exact cloneI_c hl hlen fun V hV => by rw [Vec.val_ad hV]; exact H V hV

theorem fits_step {d : Nat} (ih : ∀ j, j < d → FitsOk j) : FitsOk d := by
  intro core h l ts bt br bm bf ta tc ra rc ma mc coal n ci need own oa oc R hC hcs hd hcl hci hnn hol hob hnb hso H1 H2
  subst hci hnn
  refine calls_of_xc (N := 78) Try.func47 rfl (by rfl) ?_
  have mT := hcs hC.t
  have mR := hcs hC.r
  have mM := hcs hC.m
  have mF := hcs hC.f
  have hfew := hC.few
  have hts6 := hC.len
  refine xc_seq (xc_region ?_)
  refine xr_op rfl rfl (xv_assign rfl ?_)
  refine xr_end rfl ?_
  refine th_n ?_
  refine xc_seq ?_
  refine xc_seq (xc_region ?_)
  refine xr_op rfl rfl (xv_move rfl ?_)
  refine xr_op rfl rfl (xv_load1 ty38 rfl rfl (by ((repeat first|exact z_0|assumption|refine z_1 ?_|(refine z_l ?_;(repeat first|exact z_0|assumption|refine z_1 ?_);done)|refine z_r ?_);done)) (by rfl) ?_)
  refine xr_op rfl rfl (xv_len sl38 rfl ?_)
  refine xr_op rfl rfl (xv_eql2 rfl rfl (fun q1 => ?_) (fun q1 => ?_))
  · refine xr_end rfl ?_
    refine th_n ?_
    refine xc_true rfl ?_
    refine xc_seq (xc_region ?_)
    refine xr_op rfl rfl (xv_assign rfl ?_)
    refine xr_end rfl ?_
    refine th_n ?_
    refine xc_seq ?_
    refine xc_seq (xc_region ?_)
    refine xr_op rfl rfl (xv_load1 ty38 rfl rfl (by ((repeat first|exact z_0|assumption|refine z_1 ?_|(refine z_l ?_;(repeat first|exact z_0|assumption|refine z_1 ?_);done)|refine z_r ?_);done)) (by rfl) ?_)
    refine xr_op rfl rfl (xv_len sl38 rfl ?_)
    refine xr_op rfl rfl (xv_move rfl ?_)
    refine xr_end rfl ?_
    refine th_n ?_
    refine xc_block ?_
    refine xc_loop (σ := Nat) (fun k => k ≤ own.length) (fun k => ((((((((((emp.put (some 0) (I coal)).put (some 1) (I need)).put (some 2) (.slice oa own.length oc)).put (some 3) (.pointer (some ⟨bt, 0, none⟩))).put (some 4) (.pointer (some ⟨br, 0, none⟩))).put (some 5) (.pointer (some ⟨bm, 0, none⟩))).put (some 6) (.pointer (some ⟨bf, 0, none⟩))).put (some 11) (I (mnS l own k))).put (some 20) (I l.length)).put (some 21) (I k))) (fun k => h) (fun k => own.length - k) 0 (Nat.zero_le _) (le_put (le_put (le_put (le_put (le_put (le_put (le_put (le_put (le_put (le_put (le_emp _) rfl) rfl) rfl) rfl) rfl) rfl) rfl) rfl) rfl) rfl) (by (first|((repeat first|exact s_0|exact s_1|exact s_3|refine s_4 ?_|refine s_5 ?_|refine s_6 ?_|refine s_7 ?_);done)|((repeat first|exact s_0|exact s_1|exact s_3|refine s_4 ?_|refine s_5 ?_|refine s_6 ?_|refine s_8 ?_);done))) ?_
    rintro k hk
    refine xc_seq (xc_region ?_)
    refine xr_op rfl rfl (xv_lss2 rfl rfl (fun q2 => ?_) (fun q2 => ?_))
    · refine xr_end rfl ?_
      refine th_n ?_
      refine xc_seq ?_
      refine xc_true rfl ?_
      refine xc_skip ?_
      refine th_n ?_
      refine xc_seq ?_
      refine xc_block ?_
      refine xc_seq (xc_region ?_)
      have hlto : k < own.length := by (first | omega | (dsimp only at *; omega) | (simp at *; omega))
      obtain ⟨bo, oo, lo, to, fzo, hao, hmo, hxo⟩ := (hso).at hlto
      obtain ⟨xo, hko⟩ : ∃ qq_, own[k]? = some qq_ := ⟨_, List.getElem?_eq_getElem hlto⟩
      have hltr : k < l.length := by omega
      obtain ⟨br, or, lr, tr, fzr, har, hmr, hxr⟩ := (hC.rs.sub hcs).at hltr
      obtain ⟨xr, hkr⟩ : ∃ qq_, l[k]? = some qq_ := ⟨_, List.getElem?_eq_getElem hltr⟩
      have hgo : own.getD k 0 = xo := by rw [List.getD_eq_getElem?_getD, hko]; rfl
      have hob1 := hob xo (List.mem_of_getElem? hko)
      have hrb1 := (hC.ok xr (List.mem_of_getElem? hkr)).2.2
      have hmb := mnS_bd (l := l) (own := own) (fun x hx => by have := (hC.ok x hx).2.2; omega) (fun x hx => (hob x hx).1) k
      refine xr_op rfl rfl (xv_move rfl ?_)
      refine xr_op rfl rfl (xv_assign rfl ?_)
      refine xr_end rfl ?_
      refine th_n ?_
      refine xc_draw0 [(0, .S), (1, .R), (2, .S), (3, .S), (4, .R), (5, .S), (6, .S), (7, .S), (8, .R), (9, .S), (10, .S), (11, .S)] mixed (by kernel_rfl) ?_
      refine js_S rfl rfl (.inl rfl) (xv_move rfl ⟨rfl, rfl⟩) ?_
      refine js_R0 rfl rfl (.inl rfl) (xv_load1 ty38 rfl rfl (by ((repeat first|exact z_0|assumption|refine z_1 ?_|(refine z_l ?_;(repeat first|exact z_0|assumption|refine z_1 ?_);done)|refine z_r ?_);done)) (by rfl) ⟨rfl, rfl⟩) ?_
      refine js_S rfl rfl (.inl rfl) (xv_move rfl ⟨rfl, rfl⟩) ?_
      refine js_S rfl rfl (.inl rfl) (xv_ia (sz := 1) (j := k) sl38 ty3 rfl (by rw [har]; rfl) rfl (by (first | assumption | with_reducible exact Int.toNat_natCast _ | with_reducible rfl | rfl)) (by (first | omega | (dsimp only at *; omega) | (simp at *; omega))) (by (first | omega | (dsimp only at *; omega) | (simp at *; omega))) ⟨rfl, rfl⟩) ?_
      refine js_R0 rfl rfl (.inl rfl) (xv_load1 ty3 rfl rfl (by ((repeat first|exact z_0|assumption|refine z_1 ?_|(refine z_l ?_;(repeat first|exact z_0|assumption|refine z_1 ?_);done)|refine z_r ?_);done)) (take_get (hxr (k) xr hkr) (j := 0) rfl) ⟨rfl, rfl⟩) ?_
      refine js_S rfl rfl (.inl rfl) (xv_move rfl ⟨rfl, rfl⟩) ?_
      refine js_S rfl rfl (.inl rfl) (xv_move rfl ⟨rfl, rfl⟩) ?_
      refine js_S rfl rfl (.inl rfl) (xv_ia (sz := 1) (j := k) sl38 ty3 rfl (by rw [hao]; rfl) rfl (by (first | assumption | with_reducible exact Int.toNat_natCast _ | with_reducible rfl | rfl)) (by (first | omega | (dsimp only at *; omega) | (simp at *; omega))) (by (first | omega | (dsimp only at *; omega) | (simp at *; omega))) ⟨rfl, rfl⟩) ?_
      refine js_R0 rfl rfl (.inl rfl) (xv_load1 ty3 rfl rfl (by ((repeat first|exact z_0|assumption|refine z_1 ?_|(refine z_l ?_;(repeat first|exact z_0|assumption|refine z_1 ?_);done)|refine z_r ?_);done)) (take_get (hxo (k) xo hko) (j := 0) rfl) ⟨rfl, rfl⟩) ?_
      refine js_S rfl rfl (.inl rfl) (xv_min rfl rfl rfl ⟨rfl, rfl⟩) ?_
      refine js_S rfl rfl (.inl rfl) (xv_add rfl rfl (wrap_i64 (by (first | omega | (dsimp only at *; omega) | (simp at *; omega))) (by (first | omega | (dsimp only at *; omega) | (simp at *; omega)))) ⟨rfl, rfl⟩) ?_
      refine js_S rfl rfl (.inl rfl) (xv_assign rfl ⟨rfl, rfl⟩) ?_
      refine j_end0 ?_
      refine bk_n ?_
      refine th_n ?_
      refine xc_region ?_
      refine xr_op rfl rfl (xv_add rfl rfl (wrap_i64 (by (first | omega | (dsimp only at *; omega) | (simp at *; omega))) (by (first | omega | (dsimp only at *; omega) | (simp at *; omega)))) ?_)
      refine xr_op rfl rfl (xv_move rfl ?_)
      refine xr_end rfl ?_
      exact rnd (k + 1) (by (first | omega | (dsimp only at *; omega) | (simp at *; omega))) (by (first | omega | (dsimp only at *; omega) | (simp at *; omega))) (le_put (le_put (le_put (le_put (le_put (le_put (le_put (le_put (le_put (le_put (le_emp _) rfl) rfl) rfl) rfl) rfl) rfl) rfl) (by rw [mnS, lyr_at hkr, hgo]; rfl)) rfl) rfl) (by (first|((repeat first|exact s_0|exact s_1|exact s_3|refine s_4 ?_|refine s_5 ?_|refine s_6 ?_|refine s_7 ?_);done)|((repeat first|exact s_0|exact s_1|exact s_3|refine s_4 ?_|refine s_5 ?_|refine s_6 ?_|refine s_8 ?_);done)))
    · refine xr_end rfl ?_
      refine th_n ?_
      refine xc_seq ?_
      refine xc_false rfl ?_
      refine xc_exit ?_
      refine th_x ?_
      refine th_x ?_
      refine bk_same ?_
      refine th_n ?_
      refine xc_seq (xc_region ?_)
      obtain rfl : own.length = k := by (first | omega | (dsimp only at *; omega) | (simp at *; omega))
      rw [hol]
      refine xr_op rfl rfl (xv_move rfl ?_)
      refine xr_op rfl rfl (xv_move rfl ?_)
      refine xr_op rfl rfl (xv_leq2 rfl rfl (fun q3 => ?_) (fun q3 => ?_))
      · refine xr_op rfl rfl (xv_assign rfl ?_)
        refine xr_end rfl ?_
        refine th_n ?_
        refine xc_ret ?_
        refine th_r ?_
        refine body_ret (h' := h) rfl (ro_tmp rfl ro_nil) (by (first|((repeat first|exact s_0|exact s_1|exact s_3|refine s_4 ?_|refine s_5 ?_|refine s_6 ?_|refine s_7 ?_);done)|((repeat first|exact s_0|exact s_1|exact s_3|refine s_4 ?_|refine s_5 ?_|refine s_6 ?_|refine s_8 ?_);done))) ?_
        first | exact H1 (by rw [List.drop_of_length_le (by omega)]; exact decide_eq_true (by omega)) | exact H2 (by rw [List.drop_of_length_le (by omega)]; exact decide_eq_false (by omega))
      · refine xr_op rfl rfl (xv_assign rfl ?_)
        refine xr_end rfl ?_
        refine th_n ?_
        refine xc_ret ?_
        refine th_r ?_
        refine body_ret (h' := h) rfl (ro_tmp rfl ro_nil) (by (first|((repeat first|exact s_0|exact s_1|exact s_3|refine s_4 ?_|refine s_5 ?_|refine s_6 ?_|refine s_7 ?_);done)|((repeat first|exact s_0|exact s_1|exact s_3|refine s_4 ?_|refine s_5 ?_|refine s_6 ?_|refine s_8 ?_);done))) ?_
        first | exact H1 (by rw [List.drop_of_length_le (by omega)]; exact decide_eq_true (by omega)) | exact H2 (by rw [List.drop_of_length_le (by omega)]; exact decide_eq_false (by omega))
  · refine xr_end rfl ?_
    refine th_n ?_
    refine xc_false rfl ?_
    refine xc_skip ?_
    refine th_n ?_
    refine xc_seq (xc_region ?_)
    refine xr_op rfl rfl (xv_move rfl ?_)
    refine xr_op rfl rfl (xv_calls rfl hb48 (cloneN_c rfl hso (by omega) (fun V hV0 => up_ret ?_)))
    refine xr_op rfl rfl (xv_assign rfl ?_)
    refine xr_end rfl ?_
    refine th_n ?_
    refine xc_seq ?_
    refine xc_seq (xc_region ?_)
    refine xr_op rfl rfl (xv_move rfl ?_)
    refine xr_op rfl rfl (xv_len sl38 rfl ?_)
    refine xr_op rfl rfl (xv_move rfl ?_)
    refine xr_end rfl ?_
    refine th_n ?_
    refine xc_block ?_
    refine xc_loop (σ := Nat × Unit) (fun z => z.1 ≤ own.length ∧ V.ok 1 own.length ((ownN l coal own z.1).flatMap eI)) (fun z => ((((((((((emp.put (some 0) (I coal)).put (some 1) (I need)).put (some 2) (.slice oa own.length oc)).put (some 3) (.pointer (some ⟨bt, 0, none⟩))).put (some 4) (.pointer (some ⟨br, 0, none⟩))).put (some 5) (.pointer (some ⟨bm, 0, none⟩))).put (some 6) (.pointer (some ⟨bf, 0, none⟩))).put (some 13) (.slice V.ad own.length V.cp)).put (some 42) (I own.length)).put (some 43) (I z.1))) (fun z => (V.hp 3 ((ownN l coal own z.1).flatMap eI) ++ h)) (fun z => own.length - z.1) ((0, ()) : Nat × Unit) ⟨Nat.zero_le _, by dsimp only; rw [ownN_0]; exact hV0⟩ (le_put (le_put (le_put (le_put (le_put (le_put (le_put (le_put (le_put (le_put (le_emp _) rfl) rfl) rfl) rfl) rfl) rfl) rfl) rfl) rfl) rfl) (by dsimp only; rw [ownN_0]; (first|((repeat first|exact s_0|exact s_1|exact s_3|refine s_4 ?_|refine s_5 ?_|refine s_6 ?_|refine s_7 ?_);done)|((repeat first|exact s_0|exact s_1|exact s_3|refine s_4 ?_|refine s_5 ?_|refine s_6 ?_|refine s_8 ?_);done))) ?_
    rintro ⟨k, u9⟩ ⟨hk, hV⟩
    dsimp only at hk hV
    refine xc_seq (xc_region ?_)
    refine xr_op rfl rfl (xv_lss2 rfl rfl (fun q4 => ?_) (fun q4 => ?_))
    · refine xr_end rfl ?_
      refine th_n ?_
      refine xc_seq ?_
      refine xc_true rfl ?_
      refine xc_skip ?_
      refine th_n ?_
      refine xc_seq ?_
      refine xc_block ?_
      refine xc_seq (xc_region ?_)
      have hltr : k < l.length := by (first | omega | (dsimp only at *; omega) | (simp at *; omega))
      obtain ⟨br, or, lr, tr, fzr, har, hmr, hxr⟩ := (hC.ms.sub hcs).at hltr
      obtain ⟨xr, hkr⟩ : ∃ qq_, l[k]? = some qq_ := ⟨_, List.getElem?_eq_getElem hltr⟩
      have hc6 : coal < 6 := by (first | omega | (dsimp only at *; omega) | (simp at *; omega))
      have hkp : k < own.length := by (first | omega | (dsimp only at *; omega) | (simp at *; omega))
      have hgt := ownN_get (l := l) (c := coal) hkp
      have hob1 := getD_bd (B := 33554432 * (coal : Int)) (by omega) hob k
      have hrb1 := getD_bd (by decide) (hC.ok xr (List.mem_of_getElem? hkr)).2.1 coal
      obtain ⟨bv, sv, hva, hvm, hvu, hvo⟩ := vec_updI (t := 3) (ys := (ownN l coal own (k + 1))) hV (by omega) (by rw [ownN_len, ownN_len])
      have hvu2 := u_3 (f := h) hvu
      have hst := ownN_set (l := l) (c := coal) hkp
      rw [lyr_at hkr] at hst
      refine xr_op rfl rfl (xv_move rfl ?_)
      refine xr_op rfl rfl (xv_assign rfl ?_)
      refine xr_end rfl ?_
      refine th_n ?_
      refine xc_draw0 [(0, .S), (1, .S), (2, .S), (3, .R), (4, .R), (5, .S), (6, .S), (7, .S), (8, .S), (9, .R), (10, .S), (11, .S), (12, .O)] mixed (by kernel_rfl) ?_
      refine js_S rfl rfl (.inl rfl) (xv_move rfl ⟨rfl, rfl⟩) ?_
      refine js_S rfl rfl (.inl rfl) (xv_move rfl ⟨rfl, rfl⟩) ?_
      refine js_S rfl rfl (.inl rfl) (xv_ia (sz := 1) (j := k) sl38 ty3 rfl (by rw [hva]; rfl) rfl (by (first | assumption | with_reducible exact Int.toNat_natCast _ | with_reducible rfl | rfl)) (by (first | omega | (dsimp only at *; omega) | (simp at *; omega))) (by (first | omega | (dsimp only at *; omega) | (simp at *; omega))) ⟨rfl, rfl⟩) ?_
      refine js_R0 rfl rfl (.inl rfl) (xv_load1 ty3 rfl rfl (z_l hvm) (getL (ints_get hgt)) ⟨rfl, rfl⟩) ?_
      refine js_R0 rfl rfl (.inl rfl) (xv_load1 ty100 rfl rfl (by ((repeat first|exact z_0|assumption|refine z_1 ?_|(refine z_l ?_;(repeat first|exact z_0|assumption|refine z_1 ?_);done)|refine z_r ?_);done)) (by rfl) ⟨rfl, rfl⟩) ?_
      refine js_S rfl rfl (.inl rfl) (xv_move rfl ⟨rfl, rfl⟩) ?_
      refine js_S rfl rfl (.inl rfl) (xv_move rfl ⟨rfl, rfl⟩) ?_
      refine js_S rfl rfl (.inl rfl) (xv_ia (sz := 6) (j := k) sl100 ty80 rfl (by rw [har]; rfl) rfl (by (first | assumption | with_reducible exact Int.toNat_natCast _ | with_reducible rfl | rfl)) (by (first | omega | (dsimp only at *; omega) | (simp at *; omega))) (by (first | omega | (dsimp only at *; omega) | (simp at *; omega))) ⟨rfl, rfl⟩) ?_
      refine js_S rfl rfl (.inl rfl) (xv_iaA (sz := 1) (j := coal) Try.underlying80 ty3 rfl rfl rfl (by (first | assumption | with_reducible exact Int.toNat_natCast _ | with_reducible rfl | rfl)) (by (first | omega | (dsimp only at *; omega) | (simp at *; omega))) (by (first | omega | (dsimp only at *; omega) | (simp at *; omega))) ⟨rfl, rfl⟩) ?_
      refine js_R0 rfl rfl (.inl rfl) (xv_load1 ty3 rfl rfl (by ((repeat first|exact z_0|assumption|refine z_1 ?_|(refine z_l ?_;(repeat first|exact z_0|assumption|refine z_1 ?_);done)|refine z_r ?_);done)) (by rw [Nat.mul_one]; exact take_get (hxr k xr hkr) (eM_get hc6)) ⟨rfl, rfl⟩) ?_
      refine js_S rfl rfl (.inl rfl) (xv_add rfl rfl (wrap_i64 (by (first | omega | (dsimp only at *; omega) | (simp at *; omega))) (by (first | omega | (dsimp only at *; omega) | (simp at *; omega)))) ⟨rfl, rfl⟩) ?_
      refine js_S rfl rfl (.inl rfl) (xv_ia (sz := 1) (j := k) sl38 ty3 rfl (by rw [hva]; rfl) rfl (by (first | assumption | with_reducible exact Int.toNat_natCast _ | with_reducible rfl | rfl)) (by (first | omega | (dsimp only at *; omega) | (simp at *; omega))) (by (first | omega | (dsimp only at *; omega) | (simp at *; omega))) ⟨rfl, rfl⟩) ?_
      refine js_O0 rfl rfl (.inl rfl) (xv_s1 (l := (ownN l coal own k).flatMap eI ++ sv) (l' := (ownN l coal own (k + 1)).flatMap eI ++ sv) ty3 rfl rfl rfl hvu2 rfl (by rw [List.length_append, ints_len, ownN_len]; omega) (by rw [List.set_append_left _ _ (by rw [ints_len, ownN_len]; omega), ← hst]; exact congrArg (· ++ sv) (ints_setN (by rw [ownN_len]; omega))) ?_)
      refine j_end0 ?_
      refine bk_n ?_
      refine th_n ?_
      refine xc_region ?_
      refine xr_op rfl rfl (xv_add rfl rfl (wrap_i64 (by (first | omega | (dsimp only at *; omega) | (simp at *; omega))) (by (first | omega | (dsimp only at *; omega) | (simp at *; omega)))) ?_)
      refine xr_op rfl rfl (xv_move rfl ?_)
      refine xr_end rfl ?_
      exact rnd ((k + 1, ()) : Nat × Unit) ⟨by (first | omega | (dsimp only at *; omega) | (simp at *; omega)), hvo⟩ (by (first | omega | (dsimp only at *; omega) | (simp at *; omega))) (le_put (le_put (le_put (le_put (le_put (le_put (le_put (le_put (le_put (le_put (le_emp _) rfl) rfl) rfl) rfl) rfl) rfl) rfl) rfl) rfl) rfl) (by (first|((repeat first|exact s_0|exact s_1|exact s_3|refine s_4 ?_|refine s_5 ?_|refine s_6 ?_|refine s_7 ?_);done)|((repeat first|exact s_0|exact s_1|exact s_3|refine s_4 ?_|refine s_5 ?_|refine s_6 ?_|refine s_8 ?_);done)))
    · refine xr_end rfl ?_
      refine th_n ?_
      refine xc_seq ?_
      refine xc_false rfl ?_
      refine xc_exit ?_
      refine th_x ?_
      refine th_x ?_
      refine bk_same ?_
      refine th_n ?_
      refine xc_seq ?_
      refine xc_draw0 [(0, .R), (1, .S), (2, .S), (3, .S), (4, .S), (5, .O), (6, .S), (7, .R), (8, .S), (9, .S), (10, .S), (11, .R), (12, .S), (13, .S), (14, .R), (15, .S), (16, .S), (17, .O), (18, .S), (19, .S)] mixed (by kernel_rfl) ?_
      obtain rfl : own.length = k := by (first | omega | (dsimp only at *; omega) | (simp at *; omega))
      have hlt : coal < ts.length := by (first | omega | (dsimp only at *; omega) | (simp at *; omega))
      obtain ⟨t, ht⟩ : ∃ t, ts[coal]? = some t := ⟨_, List.getElem?_eq_getElem hlt⟩
      have htb := hC.tb t (List.mem_of_getElem? ht)
      have hdr : ts.drop coal = t :: ts.drop (coal + 1) := by rw [List.drop_eq_getElem_cons hlt, (List.getElem?_eq_some_iff.1 ht).2]
      have hon : ∀ x ∈ own, 0 ≤ x ∧ x ≤ 33554432 * ((coal + 1 : Nat) : Int) := fun x hx => by have := hob x hx; push_cast; omega
      have hon2 : ∀ x ∈ (ownN l coal own own.length), 0 ≤ x ∧ x ≤ 33554432 * ((coal + 1 : Nat) : Int) := fun x hx => by have := ownN_bd (l := l) (fun x hx => (hC.ok x hx).2.1) hob x hx; push_cast; omega
      refine js_R0 rfl rfl (.inl rfl) (xv_load1 ty101 rfl rfl (by ((repeat first|exact z_0|assumption|refine z_1 ?_|(refine z_l ?_;(repeat first|exact z_0|assumption|refine z_1 ?_);done)|refine z_r ?_);done)) (by rfl) ⟨rfl, rfl⟩) ?_
      refine js_S rfl rfl (.inl rfl) (xv_move rfl ⟨rfl, rfl⟩) ?_
      refine js_S rfl rfl (.inl rfl) (xv_add rfl rfl (wrap_i64 (by (first | omega | (dsimp only at *; omega) | (simp at *; omega))) (by (first | omega | (dsimp only at *; omega) | (simp at *; omega)))) ⟨rfl, rfl⟩) ?_
      refine js_S rfl rfl (.inl rfl) (xv_move rfl ⟨rfl, rfl⟩) ?_
      refine js_S rfl rfl (.inl rfl) (xv_move rfl ⟨rfl, rfl⟩) ?_
      refine js_O0 rfl rfl (.inl rfl) (xv_fn rfl rfl (afn_func (fi := []) hb47 (ih (ts.length - (coal + 1)) (by omega) (own := own) (hC.sub hcs) (by intro z hz; ((repeat first|exact z_0|assumption|refine z_1 ?_|(refine z_l ?_;(repeat first|exact z_0|assumption|refine z_1 ?_);done)|refine z_r ?_);done)) rfl (by omega) (by push_cast; omega) rfl hol hon (by push_cast; omega) (hso.sub (by intro z hz; ((repeat first|exact z_0|assumption|refine z_1 ?_|(refine z_l ?_;(repeat first|exact z_0|assumption|refine z_1 ?_);done)|refine z_r ?_);done))) (fun hq1 => up_ret ?_) (fun hq1 => up_ret ?_))))
      · refine js_S rfl rfl (.inl rfl) (xv_move rfl ⟨rfl, rfl⟩) ?_
        refine js_R0 rfl rfl (.inr ⟨_, _, rfl, rfl⟩) (xv_load1 ty101 rfl rfl (by ((repeat first|exact z_0|assumption|refine z_1 ?_|(refine z_l ?_;(repeat first|exact z_0|assumption|refine z_1 ?_);done)|refine z_r ?_);done)) (by rfl) ⟨rfl, rfl⟩) ?_
        refine js_S rfl rfl (.inr ⟨_, _, rfl, rfl⟩) (xv_move rfl ⟨rfl, rfl⟩) ?_
        refine js_S rfl rfl (.inr ⟨_, _, rfl, rfl⟩) (xv_add rfl rfl (wrap_i64 (by (first | omega | (dsimp only at *; omega) | (simp at *; omega))) (by (first | omega | (dsimp only at *; omega) | (simp at *; omega)))) ⟨rfl, rfl⟩) ?_
        refine js_S rfl rfl (.inr ⟨_, _, rfl, rfl⟩) (xv_move rfl ⟨rfl, rfl⟩) ?_
        have hlte : coal < ts.length := hlt
        obtain ⟨be, oe, le, te, fze, hae, hme, hxe⟩ := (hC.tv.sub hcs).at hlte
        obtain ⟨xe, hke⟩ : ∃ qq_, ts[coal]? = some qq_ := ⟨_, List.getElem?_eq_getElem hlte⟩
        obtain rfl : xe = t := Option.some.inj (hke.symm.trans ht)
        refine js_R0 rfl rfl (.inr ⟨_, _, rfl, rfl⟩) (xv_load1 ty38 rfl rfl (by ((repeat first|exact z_0|assumption|refine z_1 ?_|(refine z_l ?_;(repeat first|exact z_0|assumption|refine z_1 ?_);done)|refine z_r ?_);done)) (by rfl) ⟨rfl, rfl⟩) ?_
        refine js_S rfl rfl (.inr ⟨_, _, rfl, rfl⟩) (xv_move rfl ⟨rfl, rfl⟩) ?_
        refine js_S rfl rfl (.inr ⟨_, _, rfl, rfl⟩) (xv_ia (sz := 1) (j := coal) sl38 ty3 rfl (by rw [hae]; rfl) rfl (by (first | assumption | with_reducible exact Int.toNat_natCast _ | with_reducible rfl | rfl)) (by (first | omega | (dsimp only at *; omega) | (simp at *; omega))) (by (first | omega | (dsimp only at *; omega) | (simp at *; omega))) ⟨rfl, rfl⟩) ?_
        refine js_R0 rfl rfl (.inr ⟨_, _, rfl, rfl⟩) (xv_load1 ty3 rfl rfl (by ((repeat first|exact z_0|assumption|refine z_1 ?_|(refine z_l ?_;(repeat first|exact z_0|assumption|refine z_1 ?_);done)|refine z_r ?_);done)) (take_get (hxe (coal) xe hke) (j := 0) rfl) ⟨rfl, rfl⟩) ?_
        refine js_S rfl rfl (.inr ⟨_, _, rfl, rfl⟩) (xv_add rfl rfl (wrap_i64 (by (first | omega | (dsimp only at *; omega) | (simp at *; omega))) (by (first | omega | (dsimp only at *; omega) | (simp at *; omega)))) ⟨rfl, rfl⟩) ?_
        refine js_S rfl rfl (.inr ⟨_, _, rfl, rfl⟩) (xv_move rfl ⟨rfl, rfl⟩) ?_
        refine js_O0 rfl rfl (.inr ⟨_, _, rfl, rfl⟩) (xv_fn rfl rfl (afn_func (fi := []) hb47 (ih (ts.length - (coal + 1)) (by omega) (own := (ownN l coal own own.length)) (hC.sub hcs) (by intro z hz; ((repeat first|exact z_0|assumption|refine z_1 ?_|(refine z_l ?_;(repeat first|exact z_0|assumption|refine z_1 ?_);done)|refine z_r ?_);done)) rfl (by omega) (by push_cast; omega) (by rw [ownN_len]) (by rw [ownN_len]; exact hol) hon2 (by push_cast; omega) ((Vec.slvA (t := 3) eI_len (by rw [ownN_len]) hV).sub (by intro z hz; ((repeat first|exact z_0|assumption|refine z_1 ?_|(refine z_l ?_;(repeat first|exact z_0|assumption|refine z_1 ?_);done)|refine z_r ?_);done))) (fun hq2 => up_ret ?_) (fun hq2 => up_ret ?_))))
        · refine js_S rfl rfl (.inl rfl) (xv_pick rfl rfl ⟨rfl, rfl⟩) ?_
          refine js_S rfl rfl (.inl rfl) (xv_assign rfl ⟨rfl, rfl⟩) ?_
          refine j_end0 ?_
          refine th_n ?_
          refine xc_ret ?_
          refine body_ret (h' := h) rfl (ro_tmp rfl ro_nil) (by (first|((repeat first|exact s_0|exact s_1|exact s_3|refine s_4 ?_|refine s_5 ?_|refine s_6 ?_|refine s_7 ?_);done)|((repeat first|exact s_0|exact s_1|exact s_3|refine s_4 ?_|refine s_5 ?_|refine s_6 ?_|refine s_8 ?_);done))) ?_
          first | exact H1 (by rw [hdr, fitsF, hq1, ← hol, hq2]; rfl) | exact H2 (by rw [hdr, fitsF, hq1, ← hol, hq2]; rfl) | exact H2 (by rw [hdr, fitsF, hq1]; rfl)
        · refine js_S rfl rfl (.inl rfl) (xv_pick rfl rfl ⟨rfl, rfl⟩) ?_
          refine js_S rfl rfl (.inl rfl) (xv_assign rfl ⟨rfl, rfl⟩) ?_
          refine j_end0 ?_
          refine th_n ?_
          refine xc_ret ?_
          refine body_ret (h' := h) rfl (ro_tmp rfl ro_nil) (by (first|((repeat first|exact s_0|exact s_1|exact s_3|refine s_4 ?_|refine s_5 ?_|refine s_6 ?_|refine s_7 ?_);done)|((repeat first|exact s_0|exact s_1|exact s_3|refine s_4 ?_|refine s_5 ?_|refine s_6 ?_|refine s_8 ?_);done))) ?_
          first | exact H1 (by rw [hdr, fitsF, hq1, ← hol, hq2]; rfl) | exact H2 (by rw [hdr, fitsF, hq1, ← hol, hq2]; rfl) | exact H2 (by rw [hdr, fitsF, hq1]; rfl)
      · refine js_S rfl rfl (.inl rfl) (xv_move rfl ⟨rfl, rfl⟩) ?_
        refine js_Rs rfl rfl ⟨_, _, _, rfl, rfl, rfl⟩ ?_
        refine js_Ss rfl rfl ⟨_, _, _, rfl, rfl, rfl⟩ ?_
        refine js_Ss rfl rfl ⟨_, _, _, rfl, rfl, rfl⟩ ?_
        refine js_Ss rfl rfl ⟨_, _, _, rfl, rfl, rfl⟩ ?_
        refine js_Rs rfl rfl ⟨_, _, _, rfl, rfl, rfl⟩ ?_
        refine js_Ss rfl rfl ⟨_, _, _, rfl, rfl, rfl⟩ ?_
        refine js_Ss rfl rfl ⟨_, _, _, rfl, rfl, rfl⟩ ?_
        refine js_Rs rfl rfl ⟨_, _, _, rfl, rfl, rfl⟩ ?_
        refine js_Ss rfl rfl ⟨_, _, _, rfl, rfl, rfl⟩ ?_
        refine js_Ss rfl rfl ⟨_, _, _, rfl, rfl, rfl⟩ ?_
        refine js_Os rfl rfl ⟨_, _, _, rfl, rfl, rfl⟩ ?_
        refine js_S rfl rfl (.inl rfl) (xv_pick rfl rfl ⟨rfl, rfl⟩) ?_
        refine js_S rfl rfl (.inl rfl) (xv_assign rfl ⟨rfl, rfl⟩) ?_
        refine j_end0 ?_
        refine th_n ?_
        refine xc_ret ?_
        refine body_ret (h' := h) rfl (ro_tmp rfl ro_nil) (by (first|((repeat first|exact s_0|exact s_1|exact s_3|refine s_4 ?_|refine s_5 ?_|refine s_6 ?_|refine s_7 ?_);done)|((repeat first|exact s_0|exact s_1|exact s_3|refine s_4 ?_|refine s_5 ?_|refine s_6 ?_|refine s_8 ?_);done))) ?_
        first | exact H1 (by rw [hdr, fitsF, hq1, ← hol, hq2]; rfl) | exact H2 (by rw [hdr, fitsF, hq1, ← hol, hq2]; rfl) | exact H2 (by rw [hdr, fitsF, hq1]; rfl)

theorem fits_all (d : Nat) : FitsOk d := by
  induction d using Nat.strongRecOn with
  | _ d ih => exact fits_step ih
theorem fits0_c {core h : Hp} {l : List (List Int × Int)} {ts : List Int} {bt br bm bf : Nat} {ta : Option Addr} {tc : Nat} {ra : Option Addr} {rc : Nat} {ma : Option Addr} {mc n : Nat} {oa : Option Addr} {oc : Nat} {R : Ending → Hp → Prop} (hC : FitsC core l ts bt br bm bf ta tc ra rc ma mc) (hcs : core ⊆ h) (hn : n = l.length) (ho : SlV h 1 eI oa (List.replicate n 0))
    (H1 : fitsF l ts 0 0 (List.replicate l.length 0) = true → R (.returned (.bool true)) h) (H2 : fitsF l ts 0 0 (List.replicate l.length 0) = false → R (.returned (.bool false)) h) :
    ACalls Try.prog 47 ⟨[I 0, I 0, .slice oa n oc, .pointer (some ⟨bt, 0, none⟩), .pointer (some ⟨br, 0, none⟩), .pointer (some ⟨bm, 0, none⟩), .pointer (some ⟨bf, 0, none⟩)]⟩ h R := by
  subst hn
  exact fits_all _ (coal := 0) (own := List.replicate l.length 0) hC hcs rfl (Nat.zero_le _) rfl (by rw [List.length_replicate]) (by rw [List.length_replicate]) (fun z hz => by rw [List.eq_of_mem_replicate hz]; simp) (by simp) ho H1 H2

end Go.Proofs.Ytpefpafijadfmaa

/-
  Walks.
-/
namespace Go.Proofs.Ytpefpafijadfmaa
open Go Go.H
set_option maxRecDepth 100000
set_option maxHeartbeats 8000000
set_option linter.all false
theorem Can_c {y : Yard} {h : Hp} {R : Ending → Hp → Prop} (hy : YardV h y) (hs : Small y) {draw : Int} {ta : Option Addr} {tc : Nat} {ts : List Int} (ht : SlV h 1 eI ta ts) (H : R (.returned (.tuple ⟨[.bool (canA y draw ts).1, I (canA y draw ts).2]⟩)) h) : ACalls Try.prog 17 ⟨[.agg ⟨eYard y⟩, I draw, .slice ta ts.length tc]⟩ h R := by
  refine calls_of_xc (N := 94) Try.func17 rfl (by rfl) ?_
  obtain ⟨hs1, hs2⟩ := id hs
  refine xc_seq (xc_region ?_)
  refine xr_op rfl rfl (xv_box rfl (fun b3 hb3 => ?_))
  refine xr_op rfl rfl (xv_box rfl (fun b5 hb5 => ?_))
  refine xr_op rfl rfl (xv_assign rfl ?_)
  refine xr_op rfl rfl (xv_assign rfl ?_)
  refine xr_end rfl ?_
  refine th_n ?_
  refine xc_seq (xc_region ?_)
  refine xr_op rfl rfl (xv_loadA ty25 rfl rfl (by ((repeat first|exact z_0|assumption|refine z_1 ?_|(refine z_l ?_;(repeat first|exact z_0|assumption|refine z_1 ?_);done)|refine z_r ?_);done)) (by ((try apply evl_some rfl);(repeat (first|exact (rfl : _ = [])|apply evl_cons rfl (by (first|exact v_1|exact v_2|exact v_3|exact v_4|exact v_5|exact v_6|exact v_7|exact v_8|exact v_9|exact rfl))|exact rfl)))) (by rfl) ?_)
  refine xr_op rfl rfl (xv_calls rfl hb30 (newShed_c (hy.sub (by intro z hz; ((repeat first|exact z_0|assumption|refine z_1 ?_|(refine z_l ?_;(repeat first|exact z_0|assumption|refine z_1 ?_);done)|refine z_r ?_);done))) hs (fun hng => up_ret ?_) (fun hgy hpn => up_ret ?_) (fun vs b la lc bs da dc ds G hgy hvs hsh => up_ret ?_)))
  · refine xr_op rfl rfl (xv_move rfl ?_)
    refine xr_op rfl rfl (xv_extract rfl rfl ?_)
    refine xr_op rfl rfl (xv_extract rfl rfl ?_)
    refine xr_op rfl rfl (xv_assign rfl ?_)
    refine xr_op rfl rfl (xv_assign rfl ?_)
    refine xr_end rfl ?_
    refine th_n ?_
    refine xc_seq ?_
    refine xc_block ?_
    refine xc_seq (xc_region ?_)
    refine xr_op rfl rfl (xv_move rfl ?_)
    refine xr_op rfl rfl (xv_neqT rfl rfl (by decide) ?_)
    refine xr_op rfl rfl (xv_assign rfl ?_)
    refine xr_end rfl ?_
    refine th_n ?_
    refine xc_true rfl ?_
    refine xc_seq (xc_region ?_)
    refine xr_op rfl rfl (xv_move rfl ?_)
    refine xr_op rfl rfl (xv_assign rfl ?_)
    refine xr_op rfl rfl (xv_assign rfl ?_)
    refine xr_end rfl ?_
    refine th_n ?_
    refine xc_ret ?_
    refine bk_r ?_
    refine th_r ?_
    refine body_ret (h' := h) rfl (ro_tmp rfl (ro_tmp rfl ro_nil)) (by (first|((repeat first|exact s_0|exact s_1|exact s_3|refine s_4 ?_|refine s_5 ?_|refine s_6 ?_|refine s_7 ?_);done)|((repeat first|exact s_0|exact s_1|exact s_3|refine s_4 ?_|refine s_5 ?_|refine s_6 ?_|refine s_8 ?_);done))) ?_
    first | (rw [eans, hco] at H; exact H) | (rw [eans, hci, decide_eq_true hsq, hft] at H; exact H) | (rw [eans, hci, decide_eq_false hsq] at H; exact H) | (rw [canA_1 hng] at H; exact H) | (rw [canA_10 hgy hpn] at H; exact H) | (rw [canA_2 hgy hvs (by omega)] at H; exact H)
  · refine xr_op rfl rfl (xv_move rfl ?_)
    refine xr_op rfl rfl (xv_extract rfl rfl ?_)
    refine xr_op rfl rfl (xv_extract rfl rfl ?_)
    refine xr_op rfl rfl (xv_assign rfl ?_)
    refine xr_op rfl rfl (xv_assign rfl ?_)
    refine xr_end rfl ?_
    refine th_n ?_
    refine xc_seq ?_
    refine xc_block ?_
    refine xc_seq (xc_region ?_)
    refine xr_op rfl rfl (xv_move rfl ?_)
    refine xr_op rfl rfl (xv_neqT rfl rfl (by decide) ?_)
    refine xr_op rfl rfl (xv_assign rfl ?_)
    refine xr_end rfl ?_
    refine th_n ?_
    refine xc_true rfl ?_
    refine xc_seq (xc_region ?_)
    refine xr_op rfl rfl (xv_move rfl ?_)
    refine xr_op rfl rfl (xv_assign rfl ?_)
    refine xr_op rfl rfl (xv_assign rfl ?_)
    refine xr_end rfl ?_
    refine th_n ?_
    refine xc_ret ?_
    refine bk_r ?_
    refine th_r ?_
    refine body_ret (h' := h) rfl (ro_tmp rfl (ro_tmp rfl ro_nil)) (by (first|((repeat first|exact s_0|exact s_1|exact s_3|refine s_4 ?_|refine s_5 ?_|refine s_6 ?_|refine s_7 ?_);done)|((repeat first|exact s_0|exact s_1|exact s_3|refine s_4 ?_|refine s_5 ?_|refine s_6 ?_|refine s_8 ?_);done))) ?_
    first | (rw [eans, hco] at H; exact H) | (rw [eans, hci, decide_eq_true hsq, hft] at H; exact H) | (rw [eans, hci, decide_eq_false hsq] at H; exact H) | (rw [canA_1 hng] at H; exact H) | (rw [canA_10 hgy hpn] at H; exact H) | (rw [canA_2 hgy hvs (by omega)] at H; exact H)
  · refine xr_op rfl rfl (xv_move rfl ?_)
    refine xr_op rfl rfl (xv_extract rfl rfl ?_)
    refine xr_op rfl rfl (xv_extract rfl rfl ?_)
    refine xr_op rfl rfl (xv_assign rfl ?_)
    refine xr_op rfl rfl (xv_assign rfl ?_)
    refine xr_end rfl ?_
    refine th_n ?_
    refine xc_seq ?_
    refine xc_block ?_
    refine xc_seq (xc_region ?_)
    refine xr_op rfl rfl (xv_move rfl ?_)
    refine xr_op rfl rfl (xv_neqF rfl rfl rfl ?_)
    refine xr_op rfl rfl (xv_assign rfl ?_)
    refine xr_end rfl ?_
    refine th_n ?_
    refine xc_false rfl ?_
    refine xc_seq (xc_region ?_)
    have hcn := hsh.cnt
    have mtop := hsh.top
    have hm32 := hgy.2.2.2
    have hfw := hsh.inv.few
    refine xr_op rfl rfl (xv_move rfl ?_)
    refine xr_op rfl rfl (xv_move rfl ?_)
    refine xr_op rfl rfl (xv_nilp rfl ?_)
    refine xr_op rfl rfl (xv_faddr fl73_2 rfl ?_)
    refine xr_op rfl rfl (xv_load1 ty71 rfl rfl (by ((repeat first|exact z_0|assumption|refine z_1 ?_|(refine z_l ?_;(repeat first|exact z_0|assumption|refine z_1 ?_);done)|refine z_r ?_);done)) (by rfl) ?_)
    refine xr_op rfl rfl (xv_len sl71 rfl ?_)
    refine xr_op rfl rfl (xv_sub rfl rfl (wrap_i64 (by (first | omega | (dsimp only at *; omega) | (simp at *; omega))) (by (first | omega | (dsimp only at *; omega) | (simp at *; omega)))) ?_)
    refine xr_op rfl rfl (xv_calls rfl hb31 (within_c _ _ _ (fun hl1 hu2 => up_ret ?_) (fun hn3 => up_ret ?_)))
    · refine xr_op rfl rfl (xv_not rfl ?_)
      refine xr_op rfl rfl (xv_move rfl ?_)
      refine xr_gd rfl rfl rfl (xv_load1 ty38 rfl rfl (by ((repeat first|exact z_0|assumption|refine z_1 ?_|(refine z_l ?_;(repeat first|exact z_0|assumption|refine z_1 ?_);done)|refine z_r ?_);done)) (by rfl) ?_)
      refine xr_gd rfl rfl rfl (xv_len sl38 rfl ?_)
      refine xr_gd rfl rfl rfl (xv_faddr fl25_0 rfl ?_)
      refine xr_gd rfl rfl rfl (xv_load1 ty22 rfl rfl (by ((repeat first|exact z_0|assumption|refine z_1 ?_|(refine z_l ?_;(repeat first|exact z_0|assumption|refine z_1 ?_);done)|refine z_r ?_);done)) (by rfl) ?_)
      refine xr_gd rfl rfl rfl (xv_len sl22 rfl ?_)
      refine xr_gd rfl rfl rfl (xv_neq2 rfl rfl (fun q4 => ?_) (fun q4 => ?_))
      · refine xr_op rfl rfl (xv_pick rfl rfl ?_)
        refine xr_op rfl rfl (xv_assign rfl ?_)
        refine xr_end rfl ?_
        refine th_n ?_
        refine xc_true rfl ?_
        refine xc_seq (xc_region ?_)
        refine xr_op rfl rfl (xv_assign rfl ?_)
        refine xr_op rfl rfl (xv_assign rfl ?_)
        refine xr_end rfl ?_
        refine th_n ?_
        refine xc_ret ?_
        refine bk_r ?_
        refine th_r ?_
        refine body_ret (h' := h) rfl (ro_tmp rfl (ro_tmp rfl ro_nil)) (by (first|((repeat first|exact s_0|exact s_1|exact s_3|refine s_4 ?_|refine s_5 ?_|refine s_6 ?_|refine s_7 ?_);done)|((repeat first|exact s_0|exact s_1|exact s_3|refine s_4 ?_|refine s_5 ?_|refine s_6 ?_|refine s_8 ?_);done))) ?_
        first | (rw [eans, hco] at H; exact H) | (rw [eans, hci, decide_eq_true hsq, hft] at H; exact H) | (rw [eans, hci, decide_eq_false hsq] at H; exact H) | (rw [canA_1 hng] at H; exact H) | (rw [canA_10 hgy hpn] at H; exact H) | (rw [canA_2 hgy hvs (by omega)] at H; exact H)
      · refine xr_op rfl rfl (xv_pick rfl rfl ?_)
        refine xr_op rfl rfl (xv_assign rfl ?_)
        refine xr_end rfl ?_
        refine th_n ?_
        refine xc_false rfl ?_
        refine xc_skip ?_
        refine bk_n ?_
        refine th_n ?_
        refine xc_seq (xc_region ?_)
        have hdn : draw.toNat < ds.length := by (first | omega | (dsimp only at *; omega) | (simp at *; omega))
        have htl : ts.length = y.coals.length := by (first | omega | (dsimp only at *; omega) | (simp at *; omega))
        have hltw : draw.toNat < ds.length := hdn
        obtain ⟨bw, ow, lw, tw, fzw, haw, hmw, hxw⟩ := (hsh.draws).at hltw
        obtain ⟨xw, hkw⟩ : ∃ qq_, ds[draw.toNat]? = some qq_ := ⟨_, List.getElem?_eq_getElem hltw⟩
        subst haw
        obtain ⟨v, hv, hvm⟩ := hsh.part hkw
        have eans := canA_0 (ts := ts) hgy hvs (draw := draw) (by omega) htl hv
        have hcut := hsh.cut hgy draw.toNat 1
        rw [drop_one hv, drop_one hkw] at hcut
        have hcap := hsh.cap
        have hn6 := hgy.2.2.1.2
        have hpl := partsN_len y [v] (opn y.moves).1
        have hop := opn_le y.moves
        have hple : (partsL y [v]).length ≤ 32 := Nat.le_trans hpl (by omega)
        have hall := allT_bd (l := (partsL y [v])) (B := 1048576) (fun z hz => by obtain ⟨_, a, b, c⟩ := partsL_ok hgy hcut.bd hcut.few hz; rw [List.length_singleton] at c; exact ⟨by omega, by omega⟩)
        refine xr_op rfl rfl (xv_alloc ty38 (fun b10 hb10 => ?_))
        refine xr_end rfl ?_
        refine th_n ?_
        refine xc_seq (xc_region ?_)
        refine xr_op rfl rfl (xv_alloc ty100 (fun b11 hb11 => ?_))
        refine xr_end rfl ?_
        refine th_n ?_
        refine xc_seq (xc_region ?_)
        refine xr_op rfl rfl (xv_alloc ty3 (fun b12 hb12 => ?_))
        refine xr_op rfl rfl (xv_s1 ty3 rfl rfl rfl (by (first|(apply u_3;(repeat first|exact u_0|assumption|apply u_1|apply u_2);done)|((repeat first|exact u_0|assumption|apply u_1|apply u_2);done)|(apply u_3;apply u_3;(repeat first|exact u_0|assumption|apply u_1|apply u_2);done)|((repeat first|exact u_0|assumption|apply u_3|apply u_1);done))) (by (first | rfl | exact Vec.one _ _)) (by (first | decide | exact Nat.le_of_ble_eq_true rfl | (simp only [List.length_cons, List.length_nil]; omega) | (simp; done))) (by ((try apply evl_some rfl);(repeat (first|exact (rfl : _ = [])|apply evl_cons rfl (by (first|exact v_1|exact v_2|exact v_3|exact v_4|exact v_5|exact v_6|exact v_7|exact v_8|exact v_9|exact rfl))|exact rfl)))) ?_)
        refine xr_end rfl ?_
        refine th_n ?_
        refine xc_seq ?_
        refine xc_seq (xc_region ?_)
        refine xr_op rfl rfl (xv_move rfl ?_)
        refine xr_op rfl rfl (xv_move rfl ?_)
        refine xr_op rfl rfl (xv_nilp rfl ?_)
        refine xr_op rfl rfl (xv_faddr fl73_2 rfl ?_)
        refine xr_op rfl rfl (xv_load1 ty71 rfl rfl (by ((repeat first|exact z_0|assumption|refine z_1 ?_|(refine z_l ?_;(repeat first|exact z_0|assumption|refine z_1 ?_);done)|refine z_r ?_);done)) (by rfl) ?_)
        refine xr_op rfl rfl (xv_move rfl ?_)
        refine xr_op rfl rfl (xv_move rfl ?_)
        refine xr_op rfl rfl (xv_add rfl rfl (wrap_i64 (by (first | omega | (dsimp only at *; omega) | (simp at *; omega))) (by (first | omega | (dsimp only at *; omega) | (simp at *; omega)))) ?_)
        refine xr_op rfl rfl (xv_cut (m := 1) sl71 ty39 rfl rfl rfl (by (first | omega | (dsimp only at *; omega) | (simp at *; omega))) (by (first | omega | (dsimp only at *; omega) | (simp at *; omega))) (by (first | omega | (dsimp only at *; omega) | (simp at *; omega))) (by (first | omega | (dsimp only at *; omega) | (simp at *; omega))) (by (first | omega | (dsimp only at *; omega) | (simp at *; omega))) ?_)
        refine xr_op rfl rfl (xv_calls rfl hb32 (parts_c (fun p1 p2 => up_ret ?_)))
        refine xr_end rfl ?_
        refine th_n ?_
        refine xc_block ?_
        refine xc_range2 (γ := Vec × Vec) ePc (partsL y [v]) ((p2, .cells ⟨[.slice (some ⟨bw, ow + draw.toNat * 1, none⟩) 1 (dc - draw.toNat)]⟩ 71) :: (p1, .cells ⟨[.pointer (some ⟨b, 0, none⟩)]⟩ 66) :: G) rfl hb53 (partsIt (core := ((p2, .cells ⟨[.slice (some ⟨bw, ow + draw.toNat * 1, none⟩) 1 (dc - draw.toNat)]⟩ 71) :: (p1, .cells ⟨[.pointer (some ⟨b, 0, none⟩)]⟩ 66) :: G)) (by ((repeat first|exact z_0|assumption|refine z_1 ?_|(refine z_l ?_;(repeat first|exact z_0|assumption|refine z_1 ?_);done)|refine z_r ?_);done)) (by ((repeat first|exact z_0|assumption|refine z_1 ?_|(refine z_l ?_;(repeat first|exact z_0|assumption|refine z_1 ?_);done)|refine z_r ?_);done)) (hsh.sub (by intro z hz; ((repeat first|exact z_0|assumption|refine z_1 ?_|(refine z_l ?_;(repeat first|exact z_0|assumption|refine z_1 ?_);done)|refine z_r ?_);done))) (hcut.sub (by intro z hz; ((repeat first|exact z_0|assumption|refine z_1 ?_|(refine z_l ?_;(repeat first|exact z_0|assumption|refine z_1 ?_);done)|refine z_r ?_);done)))) (fun x => rfl) (by decide) (((emp.put (some 10) (.pointer (some ⟨b10, 0, none⟩))).put (some 11) (.pointer (some ⟨b11, 0, none⟩))).put (some 12) (.pointer (some ⟨b12, 0, none⟩))) (fun k g => g.1.ok 1 k (((partsL y [v]).take k).flatMap eR) ∧ g.2.ok 6 k (((partsL y [v]).take k).flatMap eM)) (fun k g => ((p2, .cells ⟨[.slice (some ⟨bw, ow + draw.toNat * 1, none⟩) 1 (dc - draw.toNat)]⟩ 71) :: (p1, .cells ⟨[.pointer (some ⟨b, 0, none⟩)]⟩ 66) :: (b12, .cells ⟨[I (allT ((partsL y [v]).take k))]⟩ 3) :: (b11, .cells ⟨[.slice g.2.ad k g.2.cp]⟩ 100) :: (b10, .cells ⟨[.slice g.1.ad k g.1.cp]⟩ 38) :: (g.1.hp 3 (((partsL y [v]).take k).flatMap eR) ++ (g.2.hp 80 (((partsL y [v]).take k).flatMap eM) ++ (G ++ (b5, .cells ⟨[.slice ta ts.length tc]⟩ 38) :: (b3, .cells ⟨eYard y⟩ 25) :: h))))) (fun _ _ _ => False) ((.nil, .nil) : Vec × Vec) (mon_bk (mon_th)) (le_put (le_put (le_put (le_emp _) rfl) rfl) rfl) ⟨⟨rfl, rfl⟩, ⟨rfl, rfl⟩⟩ (by (first|((repeat first|exact s_0|exact s_1|exact s_3|refine s_4 ?_|refine s_5 ?_|refine s_6 ?_|refine s_7 ?_);done)|((repeat first|exact s_0|exact s_1|exact s_3|refine s_4 ?_|refine s_5 ?_|refine s_6 ?_|refine s_8 ?_);done))) (fun k g z hz => by
          simp only [List.mem_cons] at hz
          rcases hz with rfl | rfl | hz
          · exact z_0
          · exact z_1 z_0
          · exact z_1 (z_1 (z_1 (z_1 (z_1 (z_r (z_r (z_l hz)))))))) ?_ (fun _ _ _ _ _ hf _ => hf.elim) ?_
        · intro ll k x ⟨U, M⟩ hkx ⟨hU, hM⟩
          dsimp only at hU hM
          have hkl := (List.getElem?_eq_some_iff.1 hkx).1
          obtain ⟨hx6, hxb, hx0, hx1⟩ := partsL_ok hgy hcut.bd hcut.few (List.mem_of_getElem? hkx)
          rw [List.length_singleton] at hx1
          have hbb := allT_bd (l := (partsL y [v]).take k) (B := 1048576) (fun z hz => by obtain ⟨_, a, b, c⟩ := partsL_ok hgy hcut.bd hcut.few (List.mem_of_mem_take hz); rw [List.length_singleton] at c; exact ⟨by omega, by omega⟩)
          rw [List.length_take] at hbb
          refine xc_seq (xc_region ?_)
          refine xr_op rfl rfl (xv_alloc ty80 (fun b13 hb13 => ?_))
          refine xr_op rfl rfl (xv_sAll ty80 rfl rfl (by (first|(apply u_3;(repeat first|exact u_0|assumption|apply u_1|apply u_2);done)|((repeat first|exact u_0|assumption|apply u_1|apply u_2);done)|(apply u_3;apply u_3;(repeat first|exact u_0|assumption|apply u_1|apply u_2);done)|((repeat first|exact u_0|assumption|apply u_3|apply u_1);done))) (by rw [ints_len]; exact hx6) rfl (flat_all eI_1 _) ?_)
          refine xr_end rfl ?_
          refine th_n ?_
          refine xc_region ?_
          refine xr_op rfl rfl (xv_assign rfl ?_)
          refine xr_end rfl ?_
          refine rndA_n ?_
          refine xc_block ?_
          refine xc_drawX0 [(4, [(b11, fun o => o = .cells ⟨[.slice M.ad k M.cp]⟩ 100 (0, 0))]), (5, [(b13, fun o => o = .cells ⟨x.1.flatMap eI⟩ 80 (0, 0))]), (8, [(b12, fun o => o = .cells ⟨[I (allT ((partsL y [v]).take k))]⟩ 3 (0, 0))])] [(0, .R), (1, .S), (4, .S), (5, .S), (8, .S), (9, .S), (10, .S), (2, .P), (6, .P), (2, .A), (3, .O), (6, .A), (7, .O), (11, .O), (12, .O), (13, .O)] mixed (by kernel_rfl) (iv_cons (holds1 (by ((repeat first|exact z_0|assumption|refine z_1 ?_|(refine z_l ?_;(repeat first|exact z_0|assumption|refine z_1 ?_);done)|refine z_r ?_);done)) rfl) (iv_cons (holds1 (by ((repeat first|exact z_0|assumption|refine z_1 ?_|(refine z_l ?_;(repeat first|exact z_0|assumption|refine z_1 ?_);done)|refine z_r ?_);done)) rfl) (iv_cons (holds1 (by ((repeat first|exact z_0|assumption|refine z_1 ?_|(refine z_l ?_;(repeat first|exact z_0|assumption|refine z_1 ?_);done)|refine z_r ?_);done)) rfl) iv_nil))) ?_
          refine jx_R rfl rfl (.inl rfl) (xv_load1 ty38 rfl rfl (by ((repeat first|exact z_0|assumption|refine z_1 ?_|(refine z_l ?_;(repeat first|exact z_0|assumption|refine z_1 ?_);done)|refine z_r ?_);done)) (by rfl) ⟨rfl, rfl⟩) ?_
          refine jx_S rfl rfl (.inl rfl) (xv_move rfl ⟨rfl, rfl⟩) ?_
          refine jx_I rfl rfl (.inl rfl) (fun hh hv => by have hv2 : Holds [(b11, fun o => o = .cells ⟨[.slice M.ad k M.cp]⟩ 100 (0, 0))] hh := hv; obtain ⟨o9, hm9, e9⟩ := hv2 _ _ List.mem_cons_self; subst e9; exact xv_load1 ty100 rfl rfl hm9 rfl ⟨rfl, rfl⟩) ?_
          refine jx_I rfl rfl (.inl rfl) (fun hh hv => by have hv2 : Holds [(b13, fun o => o = .cells ⟨x.1.flatMap eI⟩ 80 (0, 0))] hh := hv; obtain ⟨o9, hm9, e9⟩ := hv2 _ _ List.mem_cons_self; subst e9; exact xv_loadA ty80 rfl rfl hm9 (ints_all hx6) (by rw [ints_len]; exact hx6) ⟨rfl, rfl⟩) ?_
          refine jx_I rfl rfl (.inl rfl) (fun hh hv => by have hv2 : Holds [(b12, fun o => o = .cells ⟨[I (allT ((partsL y [v]).take k))]⟩ 3 (0, 0))] hh := hv; obtain ⟨o9, hm9, e9⟩ := hv2 _ _ List.mem_cons_self; subst e9; exact xv_load1 ty3 rfl rfl hm9 rfl ⟨rfl, rfl⟩) ?_
          refine jx_S rfl rfl (.inl rfl) (xv_move rfl ⟨rfl, rfl⟩) ?_
          refine jx_S rfl rfl (.inl rfl) (xv_add rfl rfl (wrap_i64 (by (first | omega | (dsimp only at *; omega) | (simp at *; omega))) (by (first | omega | (dsimp only at *; omega) | (simp at *; omega)))) ⟨rfl, rfl⟩) ?_
          refine jx_P rfl rfl rfl (al_buildSlice sl38 ty3 rfl rfl rfl rfl rfl (by ((try apply evl_some rfl);(repeat (first|exact (rfl : _ = [])|apply evl_cons rfl (by (first|exact v_1|exact v_2|exact v_3|exact v_4|exact v_5|exact v_6|exact v_7|exact v_8|exact v_9|exact rfl))|exact rfl))))) ?_
          refine jx_P rfl rfl rfl (al_buildSlice sl100 ty80 rfl rfl rfl rfl rfl (bld6 hx6)) ?_
          refine jx_A rfl rfl rfl rfl rfl ⟨rfl, trivial⟩ (fun b60 hb60 => ?_)
          skip
          refine jx_O rfl rfl (.inl rfl) (xv_append (V := U) (n := k) (xs := ((partsL y [v]).take k).flatMap eR) sl38 ty3 rfl (by rw [Vec.val_ad hU]; rfl) rfl hU (.there (.there (.there (.there (.there (.there (.there .here))))))) (by ((repeat first|exact z_0|assumption|refine z_1 ?_|(refine z_l ?_;(repeat first|exact z_0|assumption|refine z_1 ?_);done)|refine z_r ?_);done)) (by ((try apply evl_some rfl);(repeat (first|exact (rfl : _ = [])|apply evl_cons rfl (by (first|exact v_1|exact v_2|exact v_3|exact v_4|exact v_5|exact v_6|exact v_7|exact v_8|exact v_9|exact rfl))|exact rfl)))) rfl rfl (by (first | omega | (dsimp only at *; omega) | (simp at *; omega))) (by simp only []; (first | omega | (dsimp only at *; omega) | (simp at *; omega))) (by (first | omega | (dsimp only at *; omega) | (simp at *; omega))) (fun U2 hU2 => ?_))
          refine ⟨(kp_in (holds1 (by ((repeat first|exact z_0|assumption|refine z_1 ?_|(refine z_l ?_;(repeat first|exact z_0|assumption|refine z_1 ?_);done)|refine z_r ?_);done)) rfl) (kp_in (holds1 (by ((repeat first|exact z_0|assumption|refine z_1 ?_|(refine z_l ?_;(repeat first|exact z_0|assumption|refine z_1 ?_);done)|refine z_r ?_);done)) rfl) (kp_in (holds1 (by ((repeat first|exact z_0|assumption|refine z_1 ?_|(refine z_l ?_;(repeat first|exact z_0|assumption|refine z_1 ?_);done)|refine z_r ?_);done)) rfl) kp_nil))), ?_⟩
          refine jx_A rfl rfl rfl rfl rfl ⟨rfl, trivial⟩ (fun b64 hb64 => ?_)
          refine jx_O rfl rfl (.inl rfl) (xv_append (V := M) (n := k) (xs := ((partsL y [v]).take k).flatMap eM) sl100 ty80 rfl (by rw [Vec.val_ad hM]; rfl) rfl hM (.there (.skip (.there (.there (.there (.there (.there (.there (.there .here))))))))) (by ((repeat first|exact z_0|assumption|refine z_1 ?_|(refine z_l ?_;(repeat first|exact z_0|assumption|refine z_1 ?_);done)|refine z_r ?_);done)) (ints_all hx6) (by rw [ints_len]; exact hx6) (flat_all eI_1 _) (by (first | omega | (dsimp only at *; omega) | (simp at *; omega))) (by simp only []; (first | omega | (dsimp only at *; omega) | (simp at *; omega))) (by (first | omega | (dsimp only at *; omega) | (simp at *; omega))) (fun M2 hM2 => ?_))
          refine ⟨(kp_go (by kernel_rfl) (kp_go (by kernel_rfl) (kp_in (holds1 (by ((repeat first|exact z_0|assumption|refine z_1 ?_|(refine z_l ?_;(repeat first|exact z_0|assumption|refine z_1 ?_);done)|refine z_r ?_);done)) rfl) kp_nil))), ?_⟩
          rw [Vec.val_ad hU2]
          refine jx_O rfl rfl (.inl rfl) (xv_s1 ty38 rfl rfl rfl (by (first|(apply u_3;(repeat first|exact u_0|assumption|apply u_1|apply u_2);done)|((repeat first|exact u_0|assumption|apply u_1|apply u_2);done)|(apply u_3;apply u_3;(repeat first|exact u_0|assumption|apply u_1|apply u_2);done)|((repeat first|exact u_0|assumption|apply u_3|apply u_1);done))) (by (first | rfl | exact Vec.one _ _)) (by (first | decide | exact Nat.le_of_ble_eq_true rfl | (simp only [List.length_cons, List.length_nil]; omega) | (simp; done))) (by ((try apply evl_some rfl);(repeat (first|exact (rfl : _ = [])|apply evl_cons rfl (by (first|exact v_1|exact v_2|exact v_3|exact v_4|exact v_5|exact v_6|exact v_7|exact v_8|exact v_9|exact rfl))|exact rfl)))) ?_)
          refine ⟨(kp_go (by kernel_rfl) (kp_go (by kernel_rfl) (kp_in (holds1 (by ((repeat first|exact z_0|assumption|refine z_1 ?_|(refine z_l ?_;(repeat first|exact z_0|assumption|refine z_1 ?_);done)|refine z_r ?_);done)) rfl) kp_nil))), ?_⟩
          rw [Vec.val_ad hM2]
          refine jx_O rfl rfl (.inl rfl) (xv_s1 ty100 rfl rfl rfl (by (first|(apply u_3;(repeat first|exact u_0|assumption|apply u_1|apply u_2);done)|((repeat first|exact u_0|assumption|apply u_1|apply u_2);done)|(apply u_3;apply u_3;(repeat first|exact u_0|assumption|apply u_1|apply u_2);done)|((repeat first|exact u_0|assumption|apply u_3|apply u_1);done))) (by (first | rfl | exact Vec.one _ _)) (by (first | decide | exact Nat.le_of_ble_eq_true rfl | (simp only [List.length_cons, List.length_nil]; omega) | (simp; done))) (by ((try apply evl_some rfl);(repeat (first|exact (rfl : _ = [])|apply evl_cons rfl (by (first|exact v_1|exact v_2|exact v_3|exact v_4|exact v_5|exact v_6|exact v_7|exact v_8|exact v_9|exact rfl))|exact rfl)))) ?_)
          refine ⟨(kp_go (by kernel_rfl) (kp_go (by kernel_rfl) (kp_in (holds1 (by ((repeat first|exact z_0|assumption|refine z_1 ?_|(refine z_l ?_;(repeat first|exact z_0|assumption|refine z_1 ?_);done)|refine z_r ?_);done)) rfl) kp_nil))), ?_⟩
          refine jx_O rfl rfl (.inl rfl) (xv_s1 ty3 rfl rfl rfl (by (first|(apply u_3;(repeat first|exact u_0|assumption|apply u_1|apply u_2);done)|((repeat first|exact u_0|assumption|apply u_1|apply u_2);done)|(apply u_3;apply u_3;(repeat first|exact u_0|assumption|apply u_1|apply u_2);done)|((repeat first|exact u_0|assumption|apply u_3|apply u_1);done))) (by (first | rfl | exact Vec.one _ _)) (by (first | decide | exact Nat.le_of_ble_eq_true rfl | (simp only [List.length_cons, List.length_nil]; omega) | (simp; done))) (by ((try apply evl_some rfl);(repeat (first|exact (rfl : _ = [])|apply evl_cons rfl (by (first|exact v_1|exact v_2|exact v_3|exact v_4|exact v_5|exact v_6|exact v_7|exact v_8|exact v_9|exact rfl))|exact rfl)))) ?_)
          refine ⟨(kp_go (by kernel_rfl) (kp_go (by kernel_rfl) (kp_go (by kernel_rfl) kp_nil))), ?_⟩
          refine jx_endp permC ?_
          refine bk_n ?_
          exact rndQ_n ((U2, M2) : Vec × Vec) ⟨by dsimp only; rw [eR_take hkx]; exact hU2, by dsimp only; rw [eM_take hkx hx6]; exact hM2⟩ (by dsimp only; rw [eR_take hkx, eM_take hkx hx6, allT_take hkx]; (first|((repeat first|exact s_0|exact s_1|exact s_3|refine s_4 ?_|refine s_5 ?_|refine s_6 ?_|refine s_7 ?_);done)|((repeat first|exact s_0|exact s_1|exact s_3|refine s_4 ?_|refine s_5 ?_|refine s_6 ?_|refine s_8 ?_);done)))
        · intro kd g hi hkd
          obtain ⟨U, M⟩ := g
          dsimp only at hi
          obtain ⟨hU, hM⟩ := hi
          rw [List.take_length] at hU hM
          rw [List.take_length]
          rw [List.take_length] at hkd
          dsimp only
          refine bk_n ?_
          refine th_n ?_
          refine xc_seq (xc_region ?_)
          refine xr_op rfl rfl (xv_alloc ty101 (fun b15 hb15 => ?_))
          refine xr_end rfl ?_
          refine th_n ?_
          refine xc_seq (xc_region ?_)
          refine xr_op rfl rfl (xv_func rfl rfl ?_)
          refine xr_op rfl rfl (xv_s1 ty101 rfl rfl rfl (by (first|(apply u_3;(repeat first|exact u_0|assumption|apply u_1|apply u_2);done)|((repeat first|exact u_0|assumption|apply u_1|apply u_2);done)|(apply u_3;apply u_3;(repeat first|exact u_0|assumption|apply u_1|apply u_2);done)|((repeat first|exact u_0|assumption|apply u_3|apply u_1);done))) (by (first | rfl | exact Vec.one _ _)) (by (first | decide | exact Nat.le_of_ble_eq_true rfl | (simp only [List.length_cons, List.length_nil]; omega) | (simp; done))) (by ((try apply evl_some rfl);(repeat (first|exact (rfl : _ = [])|apply evl_cons rfl (by (first|exact v_1|exact v_2|exact v_3|exact v_4|exact v_5|exact v_6|exact v_7|exact v_8|exact v_9|exact rfl))|exact rfl)))) ?_)
          refine xr_end rfl ?_
          refine th_n ?_
          refine xc_seq (xc_region ?_)
          refine xr_op rfl rfl (xv_assign rfl ?_)
          refine xr_end rfl ?_
          refine th_n ?_
          refine xc_seq ?_
          refine xc_seq (xc_region ?_)
          refine xr_op rfl rfl (xv_load1 ty38 rfl rfl (by ((repeat first|exact z_0|assumption|refine z_1 ?_|(refine z_l ?_;(repeat first|exact z_0|assumption|refine z_1 ?_);done)|refine z_r ?_);done)) (by rfl) ?_)
          refine xr_op rfl rfl (xv_len sl38 rfl ?_)
          refine xr_op rfl rfl (xv_move rfl ?_)
          refine xr_end rfl ?_
          refine th_n ?_
          refine xc_block ?_
          refine xc_loop (σ := Nat) (fun k => k ≤ ts.length ∧ ∀ t ∈ ts.take k, 0 ≤ t ∧ t ≤ allT (partsL y [v])) (fun k => (((((((emp.put (some 12) (.pointer (some ⟨b12, 0, none⟩))).put (some 10) (.pointer (some ⟨b10, 0, none⟩))).put (some 15) (.pointer (some ⟨b15, 0, none⟩))).put (some 70) (.slice ta ts.length tc)).put (some 71) (I ts.length)).put (some 16) (I (sumI (ts.take k)))).put (some 72) (I k))) (fun k => ((b15, .cells ⟨[.func (.func 47) ⟨[]⟩ ⟨[.pointer (some ⟨b5, 0, none⟩), .pointer (some ⟨b10, 0, none⟩), .pointer (some ⟨b11, 0, none⟩), .pointer (some ⟨b15, 0, none⟩)]⟩]⟩ 101) :: (kd, .deferred (some [])) :: (b12, .cells ⟨[I (allT (partsL y [v]))]⟩ 3) :: (b11, .cells ⟨[.slice M.ad (partsL y [v]).length M.cp]⟩ 100) :: (b10, .cells ⟨[.slice U.ad (partsL y [v]).length U.cp]⟩ 38) :: (U.hp 3 ((partsL y [v]).flatMap eR) ++ (M.hp 80 ((partsL y [v]).flatMap eM) ++ (G ++ (b5, .cells ⟨[.slice ta ts.length tc]⟩ 38) :: (b3, .cells ⟨eYard y⟩ 25) :: h))))) (fun k => ts.length - k) 0 ⟨Nat.zero_le _, fun t ht => by simp at ht⟩ (le_put (le_put (le_put (le_put (le_put (le_put (le_put (le_emp _) rfl) rfl) rfl) rfl) rfl) rfl) rfl) (by (first|((repeat first|exact s_0|exact s_1|exact s_3|refine s_4 ?_|refine s_5 ?_|refine s_6 ?_|refine s_7 ?_);done)|((repeat first|exact s_0|exact s_1|exact s_3|refine s_4 ?_|refine s_5 ?_|refine s_6 ?_|refine s_8 ?_);done))) ?_
          rintro k ⟨hk, hal⟩
          refine xc_seq (xc_region ?_)
          refine xr_op rfl rfl (xv_lss2 rfl rfl (fun q8 => ?_) (fun q8 => ?_))
          · refine xr_end rfl ?_
            refine th_n ?_
            refine xc_seq ?_
            refine xc_true rfl ?_
            refine xc_skip ?_
            refine th_n ?_
            refine xc_seq ?_
            refine xc_block ?_
            refine xc_seq (xc_region ?_)
            have hlto : k < ts.length := by (first | omega | (dsimp only at *; omega) | (simp at *; omega))
            obtain ⟨bo, oo, lo, to, fzo, hao, hmo, hxo⟩ := (ht).at hlto
            obtain ⟨xo, hko⟩ : ∃ qq_, ts[k]? = some qq_ := ⟨_, List.getElem?_eq_getElem hlto⟩
            have hsb := sumI_bd (B := 33554432) (l := ts.take k) (fun t h9 => by have := hal t h9; omega)
            rw [List.length_take] at hsb
            refine xr_op rfl rfl (xv_ia (sz := 1) (j := k) sl38 ty3 rfl (by rw [hao]; rfl) rfl (by (first | assumption | with_reducible exact Int.toNat_natCast _ | with_reducible rfl | rfl)) (by (first | omega | (dsimp only at *; omega) | (simp at *; omega))) (by (first | omega | (dsimp only at *; omega) | (simp at *; omega))) ?_)
            refine xr_op rfl rfl (xv_load1 ty3 rfl rfl (by ((repeat first|exact z_0|assumption|refine z_1 ?_|(refine z_l ?_;(repeat first|exact z_0|assumption|refine z_1 ?_);done)|refine z_r ?_);done)) (take_get (hxo (k) xo hko) (j := 0) rfl) ?_)
            refine xr_op rfl rfl (xv_assign rfl ?_)
            refine xr_end rfl ?_
            refine th_n ?_
            refine xc_seq ?_
            refine xc_seq (xc_region ?_)
            refine xr_op rfl rfl (xv_move rfl ?_)
            refine xr_op rfl rfl (xv_load1 ty3 rfl rfl (by ((repeat first|exact z_0|assumption|refine z_1 ?_|(refine z_l ?_;(repeat first|exact z_0|assumption|refine z_1 ?_);done)|refine z_r ?_);done)) (by rfl) ?_)
            refine xr_op rfl rfl (xv_calls rfl hb31 (within_c _ _ _ (fun hl9 hu10 => up_ret ?_) (fun hn11 => up_ret ?_)))
            · refine xr_op rfl rfl (xv_not rfl ?_)
              refine xr_end rfl ?_
              refine th_n ?_
              refine xc_false rfl ?_
              refine xc_skip ?_
              refine th_n ?_
              refine xc_region ?_
              refine xr_op rfl rfl (xv_move rfl ?_)
              refine xr_op rfl rfl (xv_move rfl ?_)
              refine xr_op rfl rfl (xv_add rfl rfl (wrap_i64 (by (first | omega | (dsimp only at *; omega) | (simp at *; omega))) (by (first | omega | (dsimp only at *; omega) | (simp at *; omega)))) ?_)
              refine xr_op rfl rfl (xv_assign rfl ?_)
              refine xr_end rfl ?_
              refine bk_n ?_
              refine th_n ?_
              refine xc_region ?_
              refine xr_op rfl rfl (xv_add rfl rfl (wrap_i64 (by (first | omega | (dsimp only at *; omega) | (simp at *; omega))) (by (first | omega | (dsimp only at *; omega) | (simp at *; omega)))) ?_)
              refine xr_op rfl rfl (xv_move rfl ?_)
              refine xr_end rfl ?_
              exact rnd (k + 1) ⟨by (first | omega | (dsimp only at *; omega) | (simp at *; omega)), (take_all hko).2 ⟨hal, by (first | omega | (dsimp only at *; omega) | (simp at *; omega)), by (first | omega | (dsimp only at *; omega) | (simp at *; omega))⟩⟩ (by (first | omega | (dsimp only at *; omega) | (simp at *; omega))) (le_put (le_put (le_put (le_put (le_put (le_put (le_put (le_emp _) rfl) rfl) rfl) rfl) rfl) (by rw [sumI_take hko]; rfl)) rfl) (by (first|((repeat first|exact s_0|exact s_1|exact s_3|refine s_4 ?_|refine s_5 ?_|refine s_6 ?_|refine s_7 ?_);done)|((repeat first|exact s_0|exact s_1|exact s_3|refine s_4 ?_|refine s_5 ?_|refine s_6 ?_|refine s_8 ?_);done)))
            · refine xr_op rfl rfl (xv_not rfl ?_)
              refine xr_end rfl ?_
              refine th_n ?_
              refine xc_true rfl ?_
              refine xc_seq (xc_region ?_)
              have hco : canB (partsL y [v]) ts = false := canB_out hko (by (first | omega | (dsimp only at *; omega) | (simp at *; omega)))
              refine xr_op rfl rfl (xv_assign rfl ?_)
              refine xr_op rfl rfl (xv_assign rfl ?_)
              refine xr_end rfl ?_
              refine th_n ?_
              refine xc_ret ?_
              refine th_r ?_
              refine bk_r ?_
              refine th_r ?_
              refine th_r ?_
              refine bk_r ?_
              refine th_r ?_
              refine body_retM (h' := h) rfl (ro_tmp rfl (ro_tmp rfl ro_nil)) (by (first|((repeat first|exact s_0|exact s_1|exact s_3|refine s_4 ?_|refine s_5 ?_|refine s_6 ?_|refine s_7 ?_);done)|((repeat first|exact s_0|exact s_1|exact s_3|refine s_4 ?_|refine s_5 ?_|refine s_6 ?_|refine s_8 ?_);done))) (by ((repeat first|exact z_0|assumption|refine z_1 ?_|(refine z_l ?_;(repeat first|exact z_0|assumption|refine z_1 ?_);done)|refine z_r ?_);done)) (nkeys (by intro z hz; ((repeat first|exact z_0|assumption|refine z_1 ?_|(refine z_l ?_;(repeat first|exact z_0|assumption|refine z_1 ?_);done)|refine z_r ?_);done)) hkd) ?_
              first | (rw [eans, hco] at H; exact H) | (rw [eans, hci, decide_eq_true hsq, hft] at H; exact H) | (rw [eans, hci, decide_eq_false hsq] at H; exact H) | (rw [canA_1 hng] at H; exact H) | (rw [canA_10 hgy hpn] at H; exact H) | (rw [canA_2 hgy hvs (by omega)] at H; exact H)
          · refine xr_end rfl ?_
            refine th_n ?_
            refine xc_seq ?_
            refine xc_false rfl ?_
            refine xc_exit ?_
            refine th_x ?_
            refine th_x ?_
            refine bk_same ?_
            refine th_n ?_
            refine xc_seq ?_
            refine xc_draw [(0, .S), (1, .R), (2, .O), (3, .S), (4, .S), (5, .R), (6, .S), (7, .O), (8, .O), (9, .S), (10, .S), (11, .S)] [(b15, .cells ⟨[.func (.func 47) ⟨[]⟩ ⟨[.pointer (some ⟨b5, 0, none⟩), .pointer (some ⟨b10, 0, none⟩), .pointer (some ⟨b11, 0, none⟩), .pointer (some ⟨b15, 0, none⟩)]⟩]⟩ 101)] ((kd, .deferred (some [])) :: (b12, .cells ⟨[I (allT (partsL y [v]))]⟩ 3) :: (b11, .cells ⟨[.slice M.ad (partsL y [v]).length M.cp]⟩ 100) :: (b10, .cells ⟨[.slice U.ad (partsL y [v]).length U.cp]⟩ 38) :: (U.hp 3 ((partsL y [v]).flatMap eR) ++ (M.hp 80 ((partsL y [v]).flatMap eM) ++ (G ++ (b5, .cells ⟨[.slice ta ts.length tc]⟩ 38) :: (b3, .cells ⟨eYard y⟩ 25) :: h)))) mixed (by kernel_rfl) (List.perm_append_singleton _ _) ?_
            have hal2 : ∀ t ∈ ts, 0 ≤ t ∧ t ≤ allT (partsL y [v]) := by
              have e9 : k = ts.length := by (first | omega | (dsimp only at *; omega) | (simp at *; omega))
              rw [e9, List.take_length] at hal; exact hal
            have hci := canB_in hal2
            obtain rfl : ts.length = k := by (first | omega | (dsimp only at *; omega) | (simp at *; omega))
            rw [List.take_length]
            refine js_S rfl rfl (.inl rfl) (xv_move rfl ⟨rfl, rfl⟩) ?_
            refine js_R rfl rfl (.inl rfl) (xv_load1 ty3 rfl rfl (by ((repeat first|exact z_0|assumption|refine z_1 ?_|(refine z_l ?_;(repeat first|exact z_0|assumption|refine z_1 ?_);done)|refine z_r ?_);done)) (by rfl) ⟨rfl, rfl⟩) ?_
            refine js_O rfl rfl (.inl rfl) (xv_eql2 rfl rfl (fun hsq => ?_) (fun hsq => ?_))
            · refine jo_same ?_
              refine js_S rfl rfl (.inl rfl) (xv_move rfl ⟨rfl, rfl⟩) ?_
              refine js_S rfl rfl (.inr ⟨_, _, rfl, rfl⟩) (xv_load1 ty101 rfl rfl (by ((repeat first|exact z_0|assumption|refine z_1 ?_|(refine z_l ?_;(repeat first|exact z_0|assumption|refine z_1 ?_);done)|refine z_r ?_);done)) (by rfl) ⟨rfl, rfl⟩) ?_
              refine js_R rfl rfl (.inr ⟨_, _, rfl, rfl⟩) (xv_load1 ty38 rfl rfl (by ((repeat first|exact z_0|assumption|refine z_1 ?_|(refine z_l ?_;(repeat first|exact z_0|assumption|refine z_1 ?_);done)|refine z_r ?_);done)) (by rfl) ⟨rfl, rfl⟩) ?_
              refine js_S rfl rfl (.inr ⟨_, _, rfl, rfl⟩) (xv_len sl38 rfl ⟨rfl, rfl⟩) ?_
              refine js_O rfl rfl (.inr ⟨_, _, rfl, rfl⟩) (xv_make (n := (partsL y [v]).length) (l := (List.replicate (partsL y [v]).length 0).flatMap eI) sl38 ty3 rfl rfl (by (first | omega | (dsimp only at *; omega) | (simp at *; omega))) (by simp only []; (first | omega | (dsimp only at *; omega) | (simp at *; omega))) (by simp only []; (first | omega | (dsimp only at *; omega) | (simp at *; omega))) (make_ints _) (fun b91 hb91 => ?_))
              refine jo_atL ((b91, _) :: _) (List.Perm.refl _) .nil ?_
              have hFC : FitsC ((b15, .cells ⟨[.func (.func 47) ⟨[]⟩ ⟨[.pointer (some ⟨b5, 0, none⟩), .pointer (some ⟨b10, 0, none⟩), .pointer (some ⟨b11, 0, none⟩), .pointer (some ⟨b15, 0, none⟩)]⟩]⟩ 101) :: (kd, .deferred (some [])) :: (b12, .cells ⟨[I (allT (partsL y [v]))]⟩ 3) :: (b11, .cells ⟨[.slice M.ad (partsL y [v]).length M.cp]⟩ 100) :: (b10, .cells ⟨[.slice U.ad (partsL y [v]).length U.cp]⟩ 38) :: (U.hp 3 ((partsL y [v]).flatMap eR) ++ (M.hp 80 ((partsL y [v]).flatMap eM) ++ (G ++ (b5, .cells ⟨[.slice ta ts.length tc]⟩ 38) :: (b3, .cells ⟨eYard y⟩ 25) :: h)))) (partsL y [v]) ts b5 b10 b11 b15 ta tc U.ad U.cp M.ad M.cp := ⟨by ((repeat first|exact z_0|assumption|refine z_1 ?_|(refine z_l ?_;(repeat first|exact z_0|assumption|refine z_1 ?_);done)|refine z_r ?_);done), by ((repeat first|exact z_0|assumption|refine z_1 ?_|(refine z_l ?_;(repeat first|exact z_0|assumption|refine z_1 ?_);done)|refine z_r ?_);done), by ((repeat first|exact z_0|assumption|refine z_1 ?_|(refine z_l ?_;(repeat first|exact z_0|assumption|refine z_1 ?_);done)|refine z_r ?_);done), by ((repeat first|exact z_0|assumption|refine z_1 ?_|(refine z_l ?_;(repeat first|exact z_0|assumption|refine z_1 ?_);done)|refine z_r ?_);done), ht.sub (by intro z hz; ((repeat first|exact z_0|assumption|refine z_1 ?_|(refine z_l ?_;(repeat first|exact z_0|assumption|refine z_1 ?_);done)|refine z_r ?_);done)), (Vec.slvA (t := 3) eR_len rfl hU).sub (by intro z hz; ((repeat first|exact z_0|assumption|refine z_1 ?_|(refine z_l ?_;(repeat first|exact z_0|assumption|refine z_1 ?_);done)|refine z_r ?_);done)), (Vec.slvA (t := 80) eM_len rfl hM).sub (by intro z hz; ((repeat first|exact z_0|assumption|refine z_1 ?_|(refine z_l ?_;(repeat first|exact z_0|assumption|refine z_1 ?_);done)|refine z_r ?_);done)), fun x hx => by obtain ⟨a, b, c, d⟩ := partsL_ok hgy hcut.bd hcut.few hx; rw [List.length_singleton] at d; exact ⟨a, b, c, by omega⟩, hple, by omega, fun t h9 => by have := hal2 t h9; omega⟩
              refine js_O rfl rfl (.inr ⟨_, _, rfl, rfl⟩) (xv_fn rfl rfl (afn_func (fi := []) hb47 (fits0_c hFC (by intro z hz; rcases List.mem_cons.1 hz with rfl | hz; exact List.mem_append_right _ List.mem_cons_self; exact List.mem_append_left _ (List.mem_cons_of_mem _ hz)) rfl (slvL eI_len (List.mem_append_left _ List.mem_cons_self)) (fun hft => up_ret ?_) (fun hft => up_ret ?_))))
              · refine jo_same ?_
                refine js_S rfl rfl (.inl rfl) (xv_pick rfl rfl ⟨rfl, rfl⟩) ?_
                refine js_S rfl rfl (.inl rfl) (xv_assign rfl ⟨rfl, rfl⟩) ?_
                refine js_S rfl rfl (.inl rfl) (xv_assign rfl ⟨rfl, rfl⟩) ?_
                refine j_endp (List.perm_append_singleton _ _) ?_
                refine th_n ?_
                refine xc_ret ?_
                refine body_retM (h' := h) rfl (ro_tmp rfl (ro_tmp rfl ro_nil)) (by (first|((repeat first|exact s_0|exact s_1|exact s_3|refine s_4 ?_|refine s_5 ?_|refine s_6 ?_|refine s_7 ?_);done)|((repeat first|exact s_0|exact s_1|exact s_3|refine s_4 ?_|refine s_5 ?_|refine s_6 ?_|refine s_8 ?_);done))) (by ((repeat first|exact z_0|assumption|refine z_1 ?_|(refine z_l ?_;(repeat first|exact z_0|assumption|refine z_1 ?_);done)|refine z_r ?_);done)) (nkeys (by intro z hz; ((repeat first|exact z_0|assumption|refine z_1 ?_|(refine z_l ?_;(repeat first|exact z_0|assumption|refine z_1 ?_);done)|refine z_r ?_);done)) hkd) ?_
                first | (rw [eans, hco] at H; exact H) | (rw [eans, hci, decide_eq_true hsq, hft] at H; exact H) | (rw [eans, hci, decide_eq_false hsq] at H; exact H) | (rw [canA_1 hng] at H; exact H) | (rw [canA_10 hgy hpn] at H; exact H) | (rw [canA_2 hgy hvs (by omega)] at H; exact H)
              · refine jo_same ?_
                refine js_S rfl rfl (.inl rfl) (xv_pick rfl rfl ⟨rfl, rfl⟩) ?_
                refine js_S rfl rfl (.inl rfl) (xv_assign rfl ⟨rfl, rfl⟩) ?_
                refine js_S rfl rfl (.inl rfl) (xv_assign rfl ⟨rfl, rfl⟩) ?_
                refine j_endp (List.perm_append_singleton _ _) ?_
                refine th_n ?_
                refine xc_ret ?_
                refine body_retM (h' := h) rfl (ro_tmp rfl (ro_tmp rfl ro_nil)) (by (first|((repeat first|exact s_0|exact s_1|exact s_3|refine s_4 ?_|refine s_5 ?_|refine s_6 ?_|refine s_7 ?_);done)|((repeat first|exact s_0|exact s_1|exact s_3|refine s_4 ?_|refine s_5 ?_|refine s_6 ?_|refine s_8 ?_);done))) (by ((repeat first|exact z_0|assumption|refine z_1 ?_|(refine z_l ?_;(repeat first|exact z_0|assumption|refine z_1 ?_);done)|refine z_r ?_);done)) (nkeys (by intro z hz; ((repeat first|exact z_0|assumption|refine z_1 ?_|(refine z_l ?_;(repeat first|exact z_0|assumption|refine z_1 ?_);done)|refine z_r ?_);done)) hkd) ?_
                first | (rw [eans, hco] at H; exact H) | (rw [eans, hci, decide_eq_true hsq, hft] at H; exact H) | (rw [eans, hci, decide_eq_false hsq] at H; exact H) | (rw [canA_1 hng] at H; exact H) | (rw [canA_10 hgy hpn] at H; exact H) | (rw [canA_2 hgy hvs (by omega)] at H; exact H)
            · refine jo_same ?_
              refine js_S rfl rfl (.inl rfl) (xv_move rfl ⟨rfl, rfl⟩) ?_
              refine js_Ss rfl rfl ⟨_, _, _, rfl, rfl, rfl⟩ ?_
              refine js_Rs rfl rfl ⟨_, _, _, rfl, rfl, rfl⟩ ?_
              refine js_Ss rfl rfl ⟨_, _, _, rfl, rfl, rfl⟩ ?_
              refine js_Os rfl rfl ⟨_, _, _, rfl, rfl, rfl⟩ ?_
              refine js_Os rfl rfl ⟨_, _, _, rfl, rfl, rfl⟩ ?_
              refine js_S rfl rfl (.inl rfl) (xv_pick rfl rfl ⟨rfl, rfl⟩) ?_
              refine js_S rfl rfl (.inl rfl) (xv_assign rfl ⟨rfl, rfl⟩) ?_
              refine js_S rfl rfl (.inl rfl) (xv_assign rfl ⟨rfl, rfl⟩) ?_
              refine j_endp (List.perm_append_singleton _ _) ?_
              refine th_n ?_
              refine xc_ret ?_
              refine body_retM (h' := h) rfl (ro_tmp rfl (ro_tmp rfl ro_nil)) (by (first|((repeat first|exact s_0|exact s_1|exact s_3|refine s_4 ?_|refine s_5 ?_|refine s_6 ?_|refine s_7 ?_);done)|((repeat first|exact s_0|exact s_1|exact s_3|refine s_4 ?_|refine s_5 ?_|refine s_6 ?_|refine s_8 ?_);done))) (by ((repeat first|exact z_0|assumption|refine z_1 ?_|(refine z_l ?_;(repeat first|exact z_0|assumption|refine z_1 ?_);done)|refine z_r ?_);done)) (nkeys (by intro z hz; ((repeat first|exact z_0|assumption|refine z_1 ?_|(refine z_l ?_;(repeat first|exact z_0|assumption|refine z_1 ?_);done)|refine z_r ?_);done)) hkd) ?_
              first | (rw [eans, hco] at H; exact H) | (rw [eans, hci, decide_eq_true hsq, hft] at H; exact H) | (rw [eans, hci, decide_eq_false hsq] at H; exact H) | (rw [canA_1 hng] at H; exact H) | (rw [canA_10 hgy hpn] at H; exact H) | (rw [canA_2 hgy hvs (by omega)] at H; exact H)
    · refine xr_op rfl rfl (xv_not rfl ?_)
      refine xr_op rfl rfl (xv_move rfl ?_)
      refine xr_no rfl rfl rfl rfl ?_
      refine xr_no rfl rfl rfl rfl ?_
      refine xr_no rfl rfl rfl rfl ?_
      refine xr_no rfl rfl rfl rfl ?_
      refine xr_no rfl rfl rfl rfl ?_
      refine xr_no rfl rfl rfl rfl ?_
      refine xr_op rfl rfl (xv_pick rfl rfl ?_)
      refine xr_op rfl rfl (xv_assign rfl ?_)
      refine xr_end rfl ?_
      refine th_n ?_
      refine xc_true rfl ?_
      refine xc_seq (xc_region ?_)
      refine xr_op rfl rfl (xv_assign rfl ?_)
      refine xr_op rfl rfl (xv_assign rfl ?_)
      refine xr_end rfl ?_
      refine th_n ?_
      refine xc_ret ?_
      refine bk_r ?_
      refine th_r ?_
      refine body_ret (h' := h) rfl (ro_tmp rfl (ro_tmp rfl ro_nil)) (by (first|((repeat first|exact s_0|exact s_1|exact s_3|refine s_4 ?_|refine s_5 ?_|refine s_6 ?_|refine s_7 ?_);done)|((repeat first|exact s_0|exact s_1|exact s_3|refine s_4 ?_|refine s_5 ?_|refine s_6 ?_|refine s_8 ?_);done))) ?_
      first | (rw [eans, hco] at H; exact H) | (rw [eans, hci, decide_eq_true hsq, hft] at H; exact H) | (rw [eans, hci, decide_eq_false hsq] at H; exact H) | (rw [canA_1 hng] at H; exact H) | (rw [canA_10 hgy hpn] at H; exact H) | (rw [canA_2 hgy hvs (by omega)] at H; exact H)

end Go.Proofs.Ytpefpafijadfmaa

/-
  Walks.
-/
namespace Go.Proofs.Ytpefpafijadfmaa
open Go Go.H
set_option maxRecDepth 100000
set_option maxHeartbeats 8000000
set_option linter.all false
def smC : List Coal := [⟨⟨400, 500⟩, ⟨5, 6⟩, ⟨10, 12⟩, ⟨60, 70⟩⟩, ⟨⟨600, 650⟩, ⟨8, 9⟩, ⟨30, 40⟩, ⟨50, 55⟩⟩]
def smM : List Move := [⟨5, 0, 30⟩, ⟨5, 1, 20⟩, ⟨8, -1, 40⟩, ⟨9, 1, 15⟩, ⟨10, -1, 20⟩]

theorem sample_c {h : Hp} {R : Ending → Hp → Prop} (H : ∀ bc bm, R (.returned (.agg ⟨[.slice (some ⟨bc, 0, none⟩) 2 2, .slice (some ⟨bm, 0, none⟩) 5 5]⟩)) ((bm, .cells ⟨smM.flatMap eMove⟩ 63) :: (bc, .cells ⟨smC.flatMap eCoal⟩ 59) :: h)) : ACalls Try.prog 29 ⟨[]⟩ h R := by
  refine calls_of_xc (N := 19) Try.func29 rfl (by rfl) ?_
  refine xc_seq (xc_region ?_)
  refine xr_op rfl rfl (xv_alloc ty25 (fun b0 hb0 => ?_))
  refine xr_end rfl ?_
  refine th_n ?_
  refine xc_seq (xc_region ?_)
  refine xr_op rfl rfl (xv_calls rfl hb28 (span_c _ _ (up_ret ?_)))
  refine xr_op rfl rfl (xv_calls rfl hb28 (span_c _ _ (up_ret ?_)))
  refine xr_op rfl rfl (xv_calls rfl hb28 (span_c _ _ (up_ret ?_)))
  refine xr_op rfl rfl (xv_calls rfl hb28 (span_c _ _ (up_ret ?_)))
  refine xr_op rfl rfl (xv_build bt59 rfl (by ((try apply evl_some rfl);(repeat (first|exact (rfl : _ = [])|apply evl_cons rfl (by (first|exact v_1|exact v_2|exact v_3|exact v_4|exact v_5|exact v_6|exact v_7|exact v_8|exact v_9|exact rfl))|exact rfl)))) ?_)
  refine xr_op rfl rfl (xv_calls rfl hb28 (span_c _ _ (up_ret ?_)))
  refine xr_op rfl rfl (xv_calls rfl hb28 (span_c _ _ (up_ret ?_)))
  refine xr_op rfl rfl (xv_calls rfl hb28 (span_c _ _ (up_ret ?_)))
  refine xr_op rfl rfl (xv_calls rfl hb28 (span_c _ _ (up_ret ?_)))
  refine xr_op rfl rfl (xv_build bt59 rfl (by ((try apply evl_some rfl);(repeat (first|exact (rfl : _ = [])|apply evl_cons rfl (by (first|exact v_1|exact v_2|exact v_3|exact v_4|exact v_5|exact v_6|exact v_7|exact v_8|exact v_9|exact rfl))|exact rfl)))) ?_)
  refine xr_op rfl rfl ((al_buildSlice sl22 ty59 rfl rfl rfl rfl rfl (by ((try apply evl_some rfl);(repeat (first|exact (rfl : _ = [])|apply evl_cons rfl (by (first|exact v_1|exact v_2|exact v_3|exact v_4|exact v_5|exact v_6|exact v_7|exact v_8|exact v_9|exact rfl))|exact rfl))))).xv (fun bc hbc => ?_))
  refine xr_op rfl rfl (xv_build bt63 rfl (by ((try apply evl_some rfl);(repeat (first|exact (rfl : _ = [])|apply evl_cons rfl (by (first|exact v_1|exact v_2|exact v_3|exact v_4|exact v_5|exact v_6|exact v_7|exact v_8|exact v_9|exact rfl))|exact rfl)))) ?_)
  refine xr_op rfl rfl (xv_build bt63 rfl (by ((try apply evl_some rfl);(repeat (first|exact (rfl : _ = [])|apply evl_cons rfl (by (first|exact v_1|exact v_2|exact v_3|exact v_4|exact v_5|exact v_6|exact v_7|exact v_8|exact v_9|exact rfl))|exact rfl)))) ?_)
  refine xr_op rfl rfl (xv_build bt63 rfl (by ((try apply evl_some rfl);(repeat (first|exact (rfl : _ = [])|apply evl_cons rfl (by (first|exact v_1|exact v_2|exact v_3|exact v_4|exact v_5|exact v_6|exact v_7|exact v_8|exact v_9|exact rfl))|exact rfl)))) ?_)
  refine xr_op rfl rfl (xv_build bt63 rfl (by ((try apply evl_some rfl);(repeat (first|exact (rfl : _ = [])|apply evl_cons rfl (by (first|exact v_1|exact v_2|exact v_3|exact v_4|exact v_5|exact v_6|exact v_7|exact v_8|exact v_9|exact rfl))|exact rfl)))) ?_)
  refine xr_op rfl rfl (xv_build bt63 rfl (by ((try apply evl_some rfl);(repeat (first|exact (rfl : _ = [])|apply evl_cons rfl (by (first|exact v_1|exact v_2|exact v_3|exact v_4|exact v_5|exact v_6|exact v_7|exact v_8|exact v_9|exact rfl))|exact rfl)))) ?_)
  refine xr_op rfl rfl ((al_buildSlice sl23 ty63 rfl rfl rfl rfl rfl (by ((try apply evl_some rfl);(repeat (first|exact (rfl : _ = [])|apply evl_cons rfl (by (first|exact v_1|exact v_2|exact v_3|exact v_4|exact v_5|exact v_6|exact v_7|exact v_8|exact v_9|exact rfl))|exact rfl))))).xv (fun bm hbm => ?_))
  refine xr_op rfl rfl (xv_build bt25 rfl (by ((try apply evl_some rfl);(repeat (first|exact (rfl : _ = [])|apply evl_cons rfl (by (first|exact v_1|exact v_2|exact v_3|exact v_4|exact v_5|exact v_6|exact v_7|exact v_8|exact v_9|exact rfl))|exact rfl)))) ?_)
  refine xr_op rfl rfl (xv_s ty25 rfl rfl (by (first|(apply u_3;(repeat first|exact u_0|assumption|apply u_1|apply u_2);done)|((repeat first|exact u_0|assumption|apply u_1|apply u_2);done)|(apply u_3;apply u_3;(repeat first|exact u_0|assumption|apply u_1|apply u_2);done)|((repeat first|exact u_0|assumption|apply u_3|apply u_1);done))) (by ((try apply evl_some rfl);(repeat (first|exact (rfl : _ = [])|apply evl_cons rfl (by (first|exact v_1|exact v_2|exact v_3|exact v_4|exact v_5|exact v_6|exact v_7|exact v_8|exact v_9|exact rfl))|exact rfl)))) (by rfl) (by rfl) (by rfl) (by ((try apply evl_some rfl);(repeat (first|exact (rfl : _ = [])|apply evl_cons rfl (by (first|exact v_1|exact v_2|exact v_3|exact v_4|exact v_5|exact v_6|exact v_7|exact v_8|exact v_9|exact rfl))|exact rfl)))) ?_)
  refine xr_end rfl ?_
  refine th_n ?_
  refine xc_ret ?_
  refine body_ret (h' := ((bm, .cells ⟨smM.flatMap eMove⟩ 63) :: (bc, .cells ⟨smC.flatMap eCoal⟩ 59) :: h)) rfl (ro_cellA ty25 rfl rfl (by ((repeat first|exact z_0|assumption|refine z_1 ?_|(refine z_l ?_;(repeat first|exact z_0|assumption|refine z_1 ?_);done)|refine z_r ?_);done)) (by rfl) (by rfl) ro_nil) (by (first|((repeat first|exact s_0|exact s_1|exact s_3|refine s_4 ?_|refine s_5 ?_|refine s_6 ?_|refine s_7 ?_);done)|((repeat first|exact s_0|exact s_1|exact s_3|refine s_4 ?_|refine s_5 ?_|refine s_6 ?_|refine s_8 ?_);done))) ?_
  exact H bc bm

end Go.Proofs.Ytpefpafijadfmaa

/-
  The yard of the document's examples.
-/
set_option linter.all false
namespace Go.Proofs.Ytpefpafijadfmaa
open Go Go.H
def smY (bc bm : Nat) : Yard := ⟨some ⟨bc, 0, none⟩, 2, smC, some ⟨bm, 0, none⟩, 5, smM⟩
theorem sm_good (bc bm : Nat) : GoodYard (smY bc bm) := by
  show CoalsOk smC ∧ movesOk 2 0 smM ∧ (1 ≤ 2 ∧ 2 ≤ 6) ∧ 5 ≤ 32
  refine ⟨?_, ?_, ?_, ?_⟩ <;> decide
theorem sm_vecs (bc bm : Nat) : vecsR (smY bc bm) = some [[40, 0], [10, 10]] := by
  show partsR 2 smM (opn smM).1 5 = _
  decide
theorem sm_drawn (bc bm : Nat) : drawnA (smY bc bm) 1 = ([⟨0, 10⟩, ⟨1, 10⟩], 0) := by
  rw [drawnA_0 (sm_good bc bm) (sm_vecs bc bm) (by decide)]
  show (nzF _ (opn smM).1, (0 : Int)) = _
  decide
theorem sm_blend (bc bm : Nat) : blendA (smY bc bm) 1 = ([⟨0, 10⟩, ⟨10, 20⟩], 0) := by
  rw [blendA_0b (v := [10, 10]) (sm_good bc bm) (sm_vecs bc bm) (by decide) rfl]
  show ((List.range 2).map (bSp (takenR [[10, 10]]) (fun j => contF 2 (smM.take 5) (j : Int)) (opn smM).1), (0 : Int)) = _
  decide
theorem sm_can (bc bm : Nat) : canA (smY bc bm) 0 [25, 15] = (true, 0) := by
  rw [canA_0 (v := [40, 0]) (sm_good bc bm) (sm_vecs bc bm) (by decide) rfl rfl]
  show (canB ((List.range (opn smM).1).filterMap fun j => if takenR [[40, 0]] j > 0 then some (contF 6 (smM.take 5) (j : Int), takenR [[40, 0]] j) else none) [25, 15], (0 : Int)) = _
  decide
theorem greedy2 {r0 r1 e0 e1 n x0 x1 : Int} (h0 : 0 ≤ x0 ∧ x0 ≤ r0) (h1 : 0 ≤ x1 ∧ x1 ≤ r1) (hs : x0 + x1 = n) (ha : e0 < e1 → 0 < x1 → x0 = r0) (hb : e1 < e0 → 0 < x0 → x1 = r1) : Greedy [r0, r1] [e0, e1] n [x0, x1] := by
  refine ⟨rfl, fun i a r ha' hr => ?_, by simp [sumI]; exact hs, fun i j a r ei b ej ha' hr hei hb' hej hlt hp => ?_⟩
  · match i, ha', hr with
    | 0, ha', hr => cases ha'; cases hr; exact h0
    | 1, ha', hr => cases ha'; cases hr; exact h1
  · match i, j, ha', hr, hei, hb', hej with
    | 0, 0, ha', hr, hei, hb', hej => cases ha'; cases hr; cases hei; cases hb'; cases hej; omega
    | 0, 1, ha', hr, hei, hb', hej => cases ha'; cases hr; cases hei; cases hb'; cases hej; exact ha hlt hp
    | 1, 0, ha', hr, hei, hb', hej => cases ha'; cases hr; cases hei; cases hb'; cases hej; exact hb hlt hp
    | 1, 1, ha', hr, hei, hb', hej => cases ha'; cases hr; cases hei; cases hb'; cases hej; omega
theorem gval2 {r0 r1 e0 e1 n x0 x1 : Int} (h0 : 0 ≤ x0 ∧ x0 ≤ r0) (h1 : 0 ≤ x1 ∧ x1 ≤ r1) (hs : x0 + x1 = n) (ha : e0 < e1 → 0 < x1 → x0 = r0) (hb : e1 < e0 → 0 < x0 → x1 = r1) : gval [r0, r1] [e0, e1] n = x0 * e0 + x1 * e1 := by
  have hq := gval_eq (room := [r0, r1]) (each := [e0, e1]) rfl (greedy2 h0 h1 hs ha hb)
  rw [← hq]
  simp [dotI]
theorem sm_yield {bc bm : Nat} {f t w : Int} {a : Span} {n0 n1 l0 l1 h0 h1 : Int} (h3 : (0 ≤ f ∧ f ≤ t ∧ t < 2) ∧ 0 ≤ w ∧ w ≤ 3)
    (e0 : needF [[40, 0], [10, 10]] f t 0 = n0) (e1 : needF [[40, 0], [10, 10]] f t 1 = n1) (el : lows (smY bc bm) w = [l0, l1]) (eh : highs (smY bc bm) w = [h0, h1])
    (g : gval [30, 20] [l0, l1] n0 + gval [0, 15] [l0, l1] n1 = a.lo) (g2 : -gval [30, 20] [h0, h1] n0 - gval [0, 15] [h0, h1] n1 = a.hi) : yieldA (smY bc bm) f t w = (a, 0) := by
  rw [yieldA_0 (sm_good bc bm) (sm_vecs bc bm) h3]
  have eo : (opn (smY bc bm).moves).1 = 2 := by show (opn smM).1 = 2; decide
  have c0 : contE (smY bc bm) 0 = [30, 20] := by show contF 2 (smM.take 5) (0 : Int) = _; decide
  have c1 : contE (smY bc bm) 1 = [0, 15] := by show contF 2 (smM.take 5) (1 : Int) = _; decide
  rw [eo]
  have y1 : yLo (smY bc bm) w (needF [[40, 0], [10, 10]] f t) 2 = a.lo := by
    rw [yLo, yLo, yLo, e0, e1, c0, c1, el]; omega
  have y2 : yHi (smY bc bm) w (needF [[40, 0], [10, 10]] f t) 2 = a.hi := by
    rw [yHi, yHi, yHi, e0, e1, c0, c1, eh]; omega
  rw [y1, y2]
theorem sm_yield1 (bc bm : Nat) : yieldA (smY bc bm) 0 0 0 = (⟨18000, 23000⟩, 0) := by
  refine sm_yield (n0 := 40) (n1 := 0) (l0 := 400) (l1 := 600) (h0 := -500) (h1 := -650) (by decide) (by decide) (by decide) rfl rfl ?_ ?_
  · rw [gval2 (x0 := 30) (x1 := 10) (by decide) (by decide) (by decide) (by decide) (by decide), gval2 (x0 := 0) (x1 := 0) (by decide) (by decide) (by decide) (by decide) (by decide)]; decide
  · rw [gval2 (x0 := 20) (x1 := 20) (by decide) (by decide) (by decide) (by decide) (by decide), gval2 (x0 := 0) (x1 := 0) (by decide) (by decide) (by decide) (by decide) (by decide)]; decide
theorem sm_yield2 (bc bm : Nat) : yieldA (smY bc bm) 1 1 2 = (⟨400, 800⟩, 0) := by
  refine sm_yield (n0 := 10) (n1 := 10) (l0 := 10) (l1 := 30) (h0 := -12) (h1 := -40) (by decide) (by decide) (by decide) rfl rfl ?_ ?_
  · rw [gval2 (x0 := 10) (x1 := 0) (by decide) (by decide) (by decide) (by decide) (by decide), gval2 (x0 := 0) (x1 := 10) (by decide) (by decide) (by decide) (by decide) (by decide)]; decide
  · rw [gval2 (x0 := 0) (x1 := 10) (by decide) (by decide) (by decide) (by decide) (by decide), gval2 (x0 := 0) (x1 := 10) (by decide) (by decide) (by decide) (by decide) (by decide)]; decide
end Go.Proofs.Ytpefpafijadfmaa
