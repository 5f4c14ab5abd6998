/-
  Yards that are changed in place: valid, and what the plan of them is.
-/
import Derived.Test.YtmaldhbjhomdkaaTarP15
import Derived.Test.YtmaldhbjhomdkaaTarP14
import Derived.Test.YtmaldhbjhomdkaaCoalP12
import Derived.Test.YtmaldhbjhomdkaaHT
import Derived.Test.YtmaldhbjhomdkaaCoalW3
import Derived.Test.YtmaldhbjhomdkaaTarO
set_option linter.all false
namespace Go.Proofs.Ytmaldhbjhomdkaa.Tar
open Go Go.H
set_option maxRecDepth 100000
theorem good_stock {y y' : Yard} {i : Nat} {v : Int} (hy : GoodYard y) (hv : tonsOk v) (h1 : y'.stock = y.stock.set i v) (h2 : y'.stills = y.stills) (h3 : y'.sales = y.sales) : GoodYard y' := by
  have hl : y'.stock.length = y.stock.length := by rw [h1, List.length_set]
  refine ⟨by rw [hl]; exact hy.n1, by rw [hl]; exact hy.n6, by rw [h2]; exact hy.s4, by rw [h3]; exact hy.s6, fun t ht => ?_, by rw [hl, h2]; exact hy.stills, by rw [hl, h3]; exact hy.sales⟩
  rw [h1] at ht
  rcases List.mem_or_eq_of_mem_set ht with ht | rfl
  · exact hy.stock t ht
  · exact hv
def salesOk (n : Nat) (ss ls : List Sale) : Prop := Better ss ls ∧ ∀ x ∈ ls, saleOk n x
theorem salesOk.refl {n : Nat} {ss : List Sale} (h : ∀ x ∈ ss, saleOk n x) : salesOk n ss ss := ⟨⟨rfl, fun _ => rfl, fun _ => Int.le_refl _, fun _ => Int.le_refl _⟩, h⟩
theorem sale_set {ss : List Sale} {k : Nat} {x x' : Sale} (hk : ss[k]? = some x) (i : Nat) : sale (ss.set k x') i = if i = k then x' else sale ss i := by
  have hkl := (List.getElem?_eq_some_iff.1 hk).1
  simp only [sale, List.getD, List.getElem?_set]
  by_cases h : k = i
  · subst h; simp [hkl]
  · rw [if_neg h, if_neg (Ne.symm h)]
theorem salesOk.set {n : Nat} {ss : List Sale} {k : Nat} {x x' : Sale} (h : ∀ x ∈ ss, saleOk n x) (hk : ss[k]? = some x) (h1 : x'.good = x.good) (h2 : x.most ≤ x'.most) (h3 : x.price ≤ x'.price) (h4 : saleOk n x') : salesOk n ss (ss.set k x') := by
  have hs : ∀ i : Int, i.toNat = k → sale ss i.toNat = x := fun i hi => by rw [hi]; exact sale_at hk
  refine ⟨⟨List.length_set, fun i => ?_, fun i => ?_, fun i => ?_⟩, fun z hz => ?_⟩
  · unfold gd; rw [sale_set hk]; split
    · rename_i hi; rw [h1, hs i hi]
    · rfl
  · unfold mo; rw [sale_set hk]; split
    · rename_i hi; rw [hs i hi]; exact h2
    · exact Int.le_refl _
  · unfold pr; rw [sale_set hk]; split
    · rename_i hi; rw [hs i hi]; exact h3
    · exact Int.le_refl _
  · rcases List.mem_or_eq_of_mem_set hz with hz | rfl
    · exact h z hz
    · exact h4
def stillsOk (ss ls : List Still) : Prop := Cheaps ss ls ∧ (∀ x ∈ ls, 0 ≤ x.pay) ∧ ∀ (h : Hp), (∀ x ∈ ss, SlV h 2 eSpan x.oa x.out) → ∀ x ∈ ls, SlV h 2 eSpan x.oa x.out
theorem stillsOk.refl {ss : List Still} (h : ∀ x ∈ ss, 0 ≤ x.pay) : stillsOk ss ss := ⟨Cheaps.refl ss, h, fun _ h => h⟩
theorem stillsOk.set {ss : List Still} {k : Nat} {x : Still} {p : Int} (h : ∀ x ∈ ss, 0 ≤ x.pay) (hk : ss[k]? = some x) (h0 : 0 ≤ p) (h1 : p ≤ x.pay) : stillsOk ss (ss.set k { x with pay := p }) := by
  refine ⟨Cheaps.set hk ⟨rfl, rfl, rfl, rfl, h1⟩, fun z hz => ?_, fun hh ho z hz => ?_⟩
  · rcases List.mem_or_eq_of_mem_set hz with hz | rfl
    · exact h z hz
    · exact h0
  · rcases List.mem_or_eq_of_mem_set hz with hz | rfl
    · exact ho z hz
    · exact ho x (List.mem_of_getElem? hk)
theorem GoodYard.pay {y : Yard} (hy : GoodYard y) : ∀ x ∈ y.stills, 0 ≤ x.pay := fun x hx => by
  obtain ⟨k, hk⟩ := List.getElem?_of_mem hx
  exact (hy.stills k x hk).2.2.2.1.1
theorem PlanT_c {l : List Value} {h : Hp} {R : Ending → Hp → Prop} (y' : Yard) (he : l = eYard y') (hv : YardV h y') (hy : GoodYard y')
    (H : ∀ q m, IsBest y' q m → ∀ a c hp, SlV hp 1 eI a q → R (.returned (.tuple ⟨[.slice a q.length c, I m, I 0]⟩)) (hp ++ h)) : ACalls Try.prog 9 ⟨[.agg ⟨l⟩]⟩ h R := by
  subst he
  have hn := hy.n6
  have h4 := hy.s4
  have h6 := hy.s6
  exact PlanB_c hv ⟨by omega, by omega, by omega, fun x hx => by
    obtain ⟨k, hk⟩ := List.getElem?_of_mem hx
    rw [(hy.stills k x hk).2.2.1]; omega⟩ (fun hn => absurd hy hn) (fun _ q m _ hB a c hp hs => H q m hB a c hp hs)
end Go.Proofs.Ytmaldhbjhomdkaa.Tar

/-
  A plan for the least stock can be with any greater one, and has at least the income.
-/
set_option linter.all false
namespace Go.Proofs.Ytmaldhbjhomdkaa.Tar
open Go Go.H
theorem goods_ok {y y' : Yard} {q q' : List Int} {m m' : Int} (hy : GoodYard y) (h : IsBest y q m) (h' : IsBest y' q' m') (h1 : y'.stills = y.stills) (h2 : y'.sales = y.sales) (h3 : ∀ j, (newG y j).lo ≤ (newG y' j).lo) :
    q.length = y'.stills.length ∧ PlanOk y' q ∧ ∃ g, afterG y'.stills q (newG y') = some g ∧ m ≤ incomeY y' q g ∧ incomeY y' q g ≤ m' := by
  obtain ⟨g, a1, a2, a3⟩ := h.after
  obtain ⟨g', b1, b2⟩ := after_mono h3 a1
  have e : afterG y'.stills q (newG y') = some g' := by rw [h1]; exact b1
  have ok' : PlanOk y' q := by unfold PlanOk; rw [h1]; exact h.ok
  have len' : q.length = y'.stills.length := by rw [h1]; exact h.len
  refine ⟨len', ok', g', e, ?_, (h'.top q g' len' ok' e).1⟩
  rw [a3, income_eq, income_eq, h1, h2]
  have := revF_mono (ss := y.sales) (is := ord y.sales) (L := loOf g) (L' := loOf g') hy.okS b2
  omega
end Go.Proofs.Ytmaldhbjhomdkaa.Tar

/-
  Regions whose order is open, once more: each stable read names the blocks that it relies on, and an effect keeps those of the reads that are not ahead of it.
-/
set_option linter.all false
namespace Go.H
open Go
variable {P : Program} {r : Option Nat} {N : Nat} {Q : Post} {E : Env} {D : List Deferred} {h : Hp}
variable {K : Value → Hp → Prop} {T : List PanicEntry → Hp → Prop}
abbrev LsT := List (Nat × List (Nat × (Obj → Prop)))
def lof : LsT → Nat → List (Nat × (Obj → Prop))
  | [], _ => []
  | (x, p) :: l, i => if x = i then p else lof l i
theorem lof_mem : ∀ (Ls : LsT) (i : Nat), lof Ls i = [] ∨ (i, lof Ls i) ∈ Ls
  | [], _ => .inl rfl
  | (x, p) :: l, i => by
    unfold lof
    split
    · rename_i e; subst e; exact .inr List.mem_cons_self
    · exact (lof_mem l i).imp id fun hm => List.mem_cons_of_mem _ hm
def Keep (tbl : List (List Nat)) (Ls : LsT) (y : Nat) (h : Hp) : Prop := ∀ x p, (x, p) ∈ Ls → x ∈ tbl.getD y [] ∨ Holds p h
theorem Keep.cons {tbl : List (List Nat)} {Ls : LsT} {y : Nat} {h : Hp} (z : Nat × Obj) (H : Keep tbl Ls y h) : Keep tbl Ls y (z :: h) := fun x p hm => (H x p hm).imp id fun a => a.cons z
section
variable (P : Program) (r : Option Nat) (N : Nat) (ops : Array Oper) (D : List Deferred) (Q : Post) (f : Hp) (tbl : List (List Nat)) (Ls : LsT)
def JstX (k : Kd) (i : Nat) (o : Oper) (E : Env) (G : Prom) (h : Hp) (K : Env → Prom → Hp → Prop) : Prop :=
  match k with
  | .S => (Skips ops o E ∧ K (E.put o.dst undef) G h) ∨ (Runs ops o E ∧ ∃ v, (∀ hh, Holds (lof Ls i) hh → QV P r o E (hh ++ f) v) ∧ K (E.put o.dst v) G h)
  | .R => (Skips ops o E ∧ K (E.put o.dst undef) G h) ∨ (Runs ops o E ∧ ∃ v, QV P r o E (h ++ f) v ∧ K (E.put o.dst v) G h)
  | .P => o.guard = none ∧ ∃ mk obj, AL P o E mk obj ∧ K E (G.add i ⟨mk, obj, restr o E⟩) h
  | .A => o.guard = none ∧ ∃ p, G i = some p ∧ EqOn o p.env E ∧ ∀ b, b ∉ keys (h ++ f) → K (E.put o.dst (p.val b)) G ((b, p.obj) :: h)
  | .O => (Skips ops o E ∧ K (E.put o.dst undef) G h) ∨ (Runs ops o E ∧ XV P r o (fun v h'' => ∃ h', List.Perm (h' ++ f) h'' ∧ Keep tbl Ls i h' ∧ K (E.put o.dst v) G h') (fun ch h'' => Q (.panic ch) emp D h'') E (h ++ f))
def JX : List Item → Env → Prom → Hp → Prop
  | [], E, _, h => ∃ hh, List.Perm (h ++ f) hh ∧ Q .normal E D hh
  | (i, k) :: l, E, G, h => ∃ o, ops[i]? = some o ∧ dstOk N o.dst = true ∧ JstX P r ops D Q f tbl Ls k i o E G h (JX l)
end
variable {ops : Array Oper} {f : Hp} {tbl : List (List Nat)} {Ls : LsT}
theorem JstX.mono {k : Kd} {i : Nat} {o : Oper} {G : Prom} {K K' : Env → Prom → Hp → Prop} (hk : ∀ E G h, K E G h → K' E G h) (H : JstX P r ops D Q f tbl Ls k i o E G h K) : JstX P r ops D Q f tbl Ls k i o E G h K' := by
  cases k with
  | S => exact H.imp (fun ⟨a, b⟩ => ⟨a, hk _ _ _ b⟩) (fun ⟨a, v, b, c⟩ => ⟨a, v, b, hk _ _ _ c⟩)
  | R => exact H.imp (fun ⟨a, b⟩ => ⟨a, hk _ _ _ b⟩) (fun ⟨a, v, b, c⟩ => ⟨a, v, b, hk _ _ _ c⟩)
  | P => obtain ⟨a, mk, obj, b, c⟩ := H; exact ⟨a, mk, obj, b, hk _ _ _ c⟩
  | A => obtain ⟨a, p, b, c, d⟩ := H; exact ⟨a, p, b, c, fun x hx => hk _ _ _ (d x hx)⟩
  | O => exact H.imp (fun ⟨a, b⟩ => ⟨a, hk _ _ _ b⟩) (fun ⟨a, b⟩ => ⟨a, b.mono (fun v h2 ⟨h', p, iv, c⟩ => ⟨h', p, iv, hk _ _ _ c⟩) (fun _ _ c => c)⟩)
theorem JstX.perm {k : Kd} {i : Nat} {o : Oper} {G : Prom} {K : Env → Prom → Hp → Prop} {h' : Hp} (hp : List.Perm h h') (hk : ∀ E G h h', List.Perm h h' → K E G h → K E G h') (H : JstX P r ops D Q f tbl Ls k i o E G h K) : JstX P r ops D Q f tbl Ls k i o E G h' K := by
  have hpf : List.Perm (h ++ f) (h' ++ f) := hp.append_right f
  cases k with
  | S => exact H.imp (fun ⟨a, b⟩ => ⟨a, hk _ _ _ _ hp b⟩) (fun ⟨a, v, b, c⟩ => ⟨a, v, b, hk _ _ _ _ hp c⟩)
  | R => exact H.imp (fun ⟨a, b⟩ => ⟨a, hk _ _ _ _ hp b⟩) (fun ⟨a, v, b, c⟩ => ⟨a, v, b.perm hpf, hk _ _ _ _ hp c⟩)
  | P => obtain ⟨a, mk, obj, b, c⟩ := H; exact ⟨a, mk, obj, b, hk _ _ _ _ hp c⟩
  | A =>
    obtain ⟨a, p, b, c, d⟩ := H
    refine ⟨a, p, b, c, fun x hx => hk _ _ _ _ (hp.cons _) (d x fun hm => hx ?_)⟩
    exact ((hpf.map Prod.fst).mem_iff).1 hm
  | O => exact H.imp (fun ⟨a, b⟩ => ⟨a, hk _ _ _ _ hp b⟩) (fun ⟨a, b⟩ => ⟨a, XV.perm hpf b⟩)
theorem JX.perm : ∀ (l : List Item) {E : Env} {G : Prom} {h h' : Hp}, List.Perm h h' → JX P r N ops D Q f tbl Ls l E G h → JX P r N ops D Q f tbl Ls l E G h'
  | [], _, _, _, _, hp, ⟨hh, p, q⟩ => ⟨hh, ((hp.append_right f).symm.trans p), q⟩
  | (i, k) :: l, E, G, h, h', hp, ⟨o, ho, hd, H⟩ => ⟨o, ho, hd, JstX.perm hp (fun _ _ _ _ p q => JX.perm l p q) H⟩
theorem JstX.pull {x y : Oper} {k : Kd} {i : Nat} {v : Value} {G : Prom} {K : Env → Prom → Hp → Prop} (ha : x.apart ops y = true) (H : JstX P r ops D Q f tbl Ls k i y (E.put x.dst v) G h K) :
    JstX P r ops D Q f tbl Ls k i y E G h (fun E' G' h' => ExtE y E E' ∧ (k ≠ .O → h' = h ∨ ∃ z, h' = z :: h) ∧ K (E'.put x.dst v) G' h') := by
  have hs := Oper.apart_spec ha
  have e1 : EqOn y (E.put x.dst v) E := (eqOn_put ha v).symm
  have hc : ∀ u, (E.put x.dst v).put y.dst u = (E.put y.dst u).put x.dst v := fun u => put_comm hs.2.1
  cases k with
  | S =>
    rcases H with ⟨a, b⟩ | ⟨a, u, b, c⟩
    · exact .inl ⟨(skips_put hs.1).1 a, .inr ⟨_, rfl⟩, fun _ => .inl rfl, by rw [← hc]; exact b⟩
    · exact .inr ⟨(runs_put hs.1).1 a, u, fun hh iv => (b hh iv).congr e1, .inr ⟨_, rfl⟩, fun _ => .inl rfl, by rw [← hc]; exact c⟩
  | R =>
    rcases H with ⟨a, b⟩ | ⟨a, u, b, c⟩
    · exact .inl ⟨(skips_put hs.1).1 a, .inr ⟨_, rfl⟩, fun _ => .inl rfl, by rw [← hc]; exact b⟩
    · exact .inr ⟨(runs_put hs.1).1 a, u, b.congr e1, .inr ⟨_, rfl⟩, fun _ => .inl rfl, by rw [← hc]; exact c⟩
  | P =>
    obtain ⟨a, mk, obj, b, c⟩ := H
    refine ⟨a, mk, obj, b.congr e1, .inl rfl, fun _ => .inl rfl, ?_⟩
    rw [← restr_congr e1]; exact c
  | A =>
    obtain ⟨a, p, b, c, d⟩ := H
    exact ⟨a, p, b, c.trans e1, fun z hz => ⟨.inr ⟨_, rfl⟩, fun _ => .inr ⟨_, rfl⟩, by rw [← hc]; exact d z hz⟩⟩
  | O =>
    rcases H with ⟨a, b⟩ | ⟨a, b⟩
    · exact .inl ⟨(skips_put hs.1).1 a, .inr ⟨_, rfl⟩, fun hh => absurd rfl hh, by rw [← hc]; exact b⟩
    · refine .inr ⟨(runs_put hs.1).1 a, (b.congr e1).mono ?_ (fun _ _ c => c)⟩
      rintro u h2 ⟨h', p, iv, c⟩
      exact ⟨h', p, iv, .inr ⟨_, rfl⟩, fun hh => absurd rfl hh, by rw [← hc]; exact c⟩
theorem JstX.pullG {x y : Oper} {k : Kd} {i j : Nat} {pr : Pr} {G : Prom} {K : Env → Prom → Hp → Prop} (hne : j ≠ i) (H : JstX P r ops D Q f tbl Ls k i y E (G.add j pr) h K) :
    JstX P r ops D Q f tbl Ls k i y E G h (fun E' G' h' => ExtE y E E' ∧ K E' (G'.add j pr) h') := by
  cases k with
  | S =>
    rcases H with ⟨a, b⟩ | ⟨a, u, b, c⟩
    · exact .inl ⟨a, .inr ⟨_, rfl⟩, b⟩
    · exact .inr ⟨a, u, b, .inr ⟨_, rfl⟩, c⟩
  | R =>
    rcases H with ⟨a, b⟩ | ⟨a, u, b, c⟩
    · exact .inl ⟨a, .inr ⟨_, rfl⟩, b⟩
    · exact .inr ⟨a, u, b, .inr ⟨_, rfl⟩, c⟩
  | P =>
    obtain ⟨a, mk, obj, b, c⟩ := H
    exact ⟨a, mk, obj, b, .inl rfl, by rw [add_comm' hne.symm]; exact c⟩
  | A =>
    obtain ⟨a, p, b, c, d⟩ := H
    refine ⟨a, p, ?_, c, fun z hz => ⟨.inr ⟨_, rfl⟩, d z hz⟩⟩
    simp only [Prom.add] at b
    rwa [if_neg (fun e => hne e.symm)] at b
  | O =>
    rcases H with ⟨a, b⟩ | ⟨a, b⟩
    · exact .inl ⟨a, .inr ⟨_, rfl⟩, b⟩
    · exact .inr ⟨a, b.mono (fun u h2 ⟨h', p, iv, c⟩ => ⟨h', p, iv, .inr ⟨_, rfl⟩, c⟩) (fun _ _ c => c)⟩
theorem JstX.swap {x y : Oper} {kx ky : Kd} {ix iy : Nat} {G : Prom} {K : Env → Prom → Hp → Prop} (ha : x.apart ops y = true) (hok : okSwap kx ky = true) (hne : ix ≠ iy)
    (hI : ky = .A → y.guard = none ∧ ∃ p, G iy = some p ∧ EqOn y p.env E) (hK : ∀ E G h h', List.Perm h h' → K E G h → K E G h')
    (H : JstX P r ops D Q f tbl Ls kx ix x E G h (fun E' G' h' => JstX P r ops D Q f tbl Ls ky iy y E' G' h' K)) : JstX P r ops D Q f tbl Ls ky iy y E G h (fun E' G' h' => JstX P r ops D Q f tbl Ls kx ix x E' G' h' K) := by
  have hs := Oper.apart_spec ha
  cases kx with
  | S =>
    rcases H with ⟨a, b⟩ | ⟨a, v, q, b⟩
    · exact (b.pull ha).mono fun E' G' h' ⟨e, _, c⟩ => .inl ⟨e.skips ha a, c⟩
    · exact (b.pull ha).mono fun E' G' h' ⟨e, _, c⟩ => .inr ⟨e.runs ha a, v, fun hh iv => (q hh iv).congr (e.eqOn ha), c⟩
  | R =>
    have hky : ky ≠ .O := by rintro rfl; simp [okSwap] at hok
    rcases H with ⟨a, b⟩ | ⟨a, v, q, b⟩
    · exact (b.pull ha).mono fun E' G' h' ⟨e, _, c⟩ => .inl ⟨e.skips ha a, c⟩
    · refine (b.pull ha).mono fun E' G' h' ⟨e, eh, c⟩ => .inr ⟨e.runs ha a, v, ?_, c⟩
      rcases eh hky with rfl | ⟨z, rfl⟩
      · exact q.congr (e.eqOn ha)
      · exact (q.congr (e.eqOn ha)).cons z
  | P =>
    obtain ⟨a, mk, obj, b, c⟩ := H
    refine (JstX.pullG (x := x) hne c).mono fun E' G' h' ⟨e, d⟩ => ⟨a, mk, obj, b.congr (e.eqOn ha), ?_⟩
    rw [← restr_congr (e.eqOn ha)]; exact d
  | A =>
    have hky : ky = .A := by cases ky <;> simp [okSwap] at hok; rfl
    subst hky
    obtain ⟨hg, q, hq, hqe⟩ := hI rfl
    obtain ⟨a, p, hp, hpe, H⟩ := H
    refine ⟨hg, q, hq, hqe, fun c hc => ⟨a, p, hp, hpe.trans (apart_eqOn ha E _), fun b hb => ?_⟩⟩
    have hb' : b ∉ keys (h ++ f) := fun hm => hb (List.mem_cons_of_mem _ hm)
    obtain ⟨_, q', hq', _, H⟩ := H b hb'
    rw [hq] at hq'; cases hq'
    have hcb : c ∉ keys ((b, p.obj) :: h ++ f) := by
      intro hm
      rcases List.mem_cons.1 hm with e | hm
      · exact hb (by rw [show b = c from e.symm]; exact List.mem_cons_self)
      · exact hc hm
    have := H c hcb
    rw [put_comm hs.2.1] at this
    exact hK _ _ _ _ (List.Perm.swap _ _ _) this
  | O =>
    have hky : ky = .A := by cases ky <;> simp [okSwap] at hok; rfl
    subst hky
    obtain ⟨hg, q, hq, hqe⟩ := hI rfl
    refine ⟨hg, q, hq, hqe, fun b hb => ?_⟩
    rcases H with ⟨a, H⟩ | ⟨a, H⟩
    · obtain ⟨_, q', hq', _, H⟩ := H
      rw [hq] at hq'; cases hq'
      exact .inl ⟨(skips_put hs.2.2).2 a, by rw [← put_comm hs.2.1]; exact H b hb⟩
    · refine .inr ⟨(runs_put hs.2.2).2 a, ?_⟩
      have h1 := XV.frame [(b, q.obj)] H
      have hp : List.Perm ((h ++ f) ++ [(b, q.obj)]) ((b, q.obj) :: h ++ f) := List.perm_append_comm (l₁ := h ++ f) (l₂ := [(b, q.obj)])
      refine XV.congr (apart_eqOn ha E _) ((XV.perm hp h1).conv ?_ ?_)
      · rintro v h2 hnd ⟨h'', rfl, h', hp', iv, hj⟩
        obtain ⟨_, q', hq', _, hj⟩ := hj
        rw [hq] at hq'; cases hq'
        have hbn : b ∉ keys (h' ++ f) := by
          intro hm
          rw [keys_append, List.nodup_append] at hnd
          exact hnd.2.2 b (((hp'.map Prod.fst).mem_iff).1 hm) b (by simp [keys]) rfl
        refine ⟨h'' ++ [(b, q.obj)], List.Perm.refl _, (b, q.obj) :: h', ?_, iv.cons _, ?_⟩
        · exact (hp'.cons _).trans (List.perm_append_comm (l₁ := [(b, q.obj)]) (l₂ := h''))
        · rw [← put_comm hs.2.1]; exact hj b hbn
      · rintro c h2 ⟨h'', rfl, hq'⟩
        exact ⟨h'' ++ [(b, q.obj)], h'', List.Perm.refl _, List.sublist_append_left _ _, hq'⟩
theorem JstX.info {k : Kd} {i : Nat} {o : Oper} {G : Prom} {K : Env → Prom → Hp → Prop} (H : JstX P r ops D Q f tbl Ls k i o E G h K) :
    JstX P r ops D Q f tbl Ls k i o E G h (fun E' G' h' => ExtE o E E' ∧ (G' = G ∨ ∃ pr, G' = G.add i pr) ∧ K E' G' h') := by
  cases k with
  | S => exact H.imp (fun ⟨a, b⟩ => ⟨a, .inr ⟨_, rfl⟩, .inl rfl, b⟩) (fun ⟨a, v, b, c⟩ => ⟨a, v, b, .inr ⟨_, rfl⟩, .inl rfl, c⟩)
  | R => exact H.imp (fun ⟨a, b⟩ => ⟨a, .inr ⟨_, rfl⟩, .inl rfl, b⟩) (fun ⟨a, v, b, c⟩ => ⟨a, v, b, .inr ⟨_, rfl⟩, .inl rfl, c⟩)
  | P => obtain ⟨a, mk, obj, b, c⟩ := H; exact ⟨a, mk, obj, b, .inl rfl, .inr ⟨_, rfl⟩, c⟩
  | A => obtain ⟨a, p, b, c, d⟩ := H; exact ⟨a, p, b, c, fun x hx => ⟨.inr ⟨_, rfl⟩, .inl rfl, d x hx⟩⟩
  | O => exact H.imp (fun ⟨a, b⟩ => ⟨a, .inr ⟨_, rfl⟩, .inl rfl, b⟩) (fun ⟨a, b⟩ => ⟨a, b.mono (fun v h2 ⟨h', p, iv, c⟩ => ⟨h', p, iv, .inr ⟨_, rfl⟩, .inl rfl, c⟩) (fun _ _ c => c)⟩)
theorem JX.moveFront {x : Nat} {k : Kd} {ox : Oper} (hx : ops[x]? = some ox) (hd : dstOk N ox.dst = true) {q : List Item} : ∀ (p : List Item) {E : Env} {G : Prom} {h : Hp},
    (∀ z kz, (z, kz) ∈ p → z ≠ x ∧ okSwap kz k = true ∧ ∀ oz, ops[z]? = some oz → oz.apart ops ox = true) →
    (k = .A → ox.guard = none ∧ ∃ pr, G x = some pr ∧ EqOn ox pr.env E) → JX P r N ops D Q f tbl Ls (p ++ (x, k) :: q) E G h → JX P r N ops D Q f tbl Ls ((x, k) :: (p ++ q)) E G h
  | [], _, _, _, _, _, H => H
  | (z, kz) :: p, E, G, h, hp, hI, H => by
    obtain ⟨oz, hoz, hdz, H⟩ := H
    obtain ⟨hne, hok, hap⟩ := hp z kz List.mem_cons_self
    have hap := hap oz hoz
    have H2 : JstX P r ops D Q f tbl Ls kz z oz E G h (fun E' G' h' => JstX P r ops D Q f tbl Ls k x ox E' G' h' (JX P r N ops D Q f tbl Ls (p ++ q))) := by
      refine H.info.mono ?_
      rintro E' G' h' ⟨e, g, H⟩
      have H' := JX.moveFront hx hd p (fun z' kz' hm => hp z' kz' (List.mem_cons_of_mem _ hm)) (fun hk => by
        obtain ⟨hg, pr, h1, h2⟩ := hI hk
        refine ⟨hg, pr, ?_, h2.trans ?_⟩
        · rcases g with rfl | ⟨pr', rfl⟩
          · exact h1
          · simp only [Prom.add]; rw [if_neg (fun e => hne e.symm)]; exact h1
        · rcases e with rfl | ⟨u, rfl⟩
          · exact fun _ _ => rfl
          · exact eqOn_put hap u) H
      obtain ⟨o', ho', _, H'⟩ := H'
      rw [hx] at ho'; cases ho'
      exact H'
    refine ⟨ox, hx, hd, (JstX.swap (K := JX P r N ops D Q f tbl Ls (p ++ q)) hap hok hne hI (fun _ _ _ _ hp' q' => JX.perm _ hp' q') H2).mono ?_⟩
    exact fun E' G' h' H' => ⟨oz, hoz, hdz, H'⟩
theorem JstX.exec {Ep : Env} {k : Kd} {i : Nat} {o : Oper} {G : Prom} {K : Env → Prom → Hp → Prop} {w : World} {a : Act} {QQ : Exit → Act → World → Prop} {next : Act → World → Prop} (ho : ops[i]? = some o) (hd : dstOk N o.dst = true) (hk : k ≠ .P)
    (hG : k = .A → ∀ p, G i = some p → AL P o p.env p.val p.obj) (hw : Own (h ++ f) w) (hIv : k = .S → Holds (lof Ls i) h) (ha : Agree N E a) (hda : a.defers = D) (hEp : ∀ t, o.dst = some t → Ep t = none) (hEa : Agree N Ep a)
    (hn : ∀ E' G' h' a' w', (G' = G) → ExtE o E E' → Agree N E' a' → Agree N Ep a' → a'.defers = D → Fol (h ++ f) w (h' ++ f) w' → ((∀ p, Holds p h → Holds p h') ∨ Keep tbl Ls i h') → K E' G' h' → next a' w') (hq : ∀ ch h' w', Q (.panic ch) emp D h' → Fol (h ++ f) w h' w' → QQ (.panic ch) a w')
    (H : JstX P r ops D Q f tbl Ls k i o E G h K) : wpOpIn (fen r) 0 P ops QQ i next a w := by
  have hput : ∀ v, (a.put o.dst v).defers = D := fun v => by cases o.dst <;> exact hda
  have hput2 : ∀ v, Agree N Ep (a.put o.dst v) := fun v => by
    have h1 := (hEa.put (v := v) (dstOk_lt hd))
    refine ⟨h1.size, fun t u hu => h1.val t u ?_⟩
    rw [put_other (fun e => by rw [hEp t e] at hu; cases hu)]; exact hu
  have hskip : Skips ops o E → K (E.put o.dst undef) G h → wpOpIn (fen r) 0 P ops QQ i next a w := by
    rintro ⟨j, t, v, hg, hgv, hne⟩ hK
    unfold wpOpIn
    simp only [ho]
    have hw' : ¬ Region.wanted o (yielded ops a.tmps) = true := by
      simp only [Region.wanted, hg]
      unfold gv at hgv
      unfold yielded
      cases hdj : (ops[j]?).bind (·.dst) with
      | none => rw [hdj] at hgv; cases hgv
      | some d =>
        rw [hdj] at hgv
        have := ha.val d _ hgv
        cases v <;> simp_all [isb]
    rw [if_neg hw']
    exact ⟨fun _ _ => trivial, hn _ _ _ _ _ rfl (.inr ⟨_, rfl⟩) (ha.put (dstOk_lt hd)) (hput2 _) (hput _) (.refl hw) (.inl fun _ q => q) hK⟩
  have hrun : Runs ops o E → (o.wpIn (fen r) 0 P a w next QQ) → wpOpIn (fen r) 0 P ops QQ i next a w := by
    intro hr hh
    unfold wpOpIn
    simp only [ho]
    have hw' : Region.wanted o (yielded ops a.tmps) = true := by
      rcases hr with hr | ⟨j, t, hg, hgv⟩
      · simp [Region.wanted, hr]
      · simp [Region.wanted, hg, gv_yielded ha hgv]
    rw [if_pos hw']
    exact hh
  have hops : OpsAt E o a := fun x _ v hv => ha.ev hv
  cases k with
  | P => exact absurd rfl hk
  | S =>
    rcases H with ⟨hs, hK⟩ | ⟨hr, v, hv, hK⟩
    · exact hskip hs hK
    · refine hrun hr (hv h (hIv rfl) w a hw hops next QQ ?_ (fun _ _ _ k _ => k.elim))
      rintro v' h' w' ⟨rfl, e⟩ hf
      rw [e] at hf
      exact hn _ _ h _ _ rfl (.inr ⟨_, rfl⟩) (ha.put (dstOk_lt hd)) (hput2 _) (hput _) hf (.inl fun _ q => q) hK
  | R =>
    rcases H with ⟨hs, hK⟩ | ⟨hr, v, hv, hK⟩
    · exact hskip hs hK
    · refine hrun hr (hv w a hw hops next QQ ?_ (fun _ _ _ k _ => k.elim))
      rintro v' h' w' ⟨rfl, e⟩ hf
      rw [e] at hf
      exact hn _ _ h _ _ rfl (.inr ⟨_, rfl⟩) (ha.put (dstOk_lt hd)) (hput2 _) (hput _) hf (.inl fun _ q => q) hK
  | A =>
    obtain ⟨hg, p, hp, he, hK⟩ := H
    have hal := (hG rfl p hp).congr he
    obtain ⟨ρ, hρ1, hρ2⟩ := ops_rho hal.1 hops
    refine hrun (.inl hg) ⟨fun _ _ => trivial, ?_⟩
    rw [Oper.semAt_eq _ _ _ hal.1.1, ← hρ2, hal.2 w ρ hρ1]
    exact hn _ _ ((w.heap.size, p.obj) :: h) _ _ rfl (.inr ⟨_, rfl⟩) (ha.put (dstOk_lt hd)) (hput2 _) (hput _) (Fol.alloc hw _) (.inl fun _ q => q.cons _) (hK _ fun hc => Nat.lt_irrefl _ (hw.lt hc))
  | O =>
    rcases H with ⟨hs, hK⟩ | ⟨hr, hx⟩
    · exact hskip hs hK
    · refine hrun hr (hx w a hw hops next QQ ?_ ?_)
      · rintro v h2 w' ⟨h', hp, iv, hK⟩ hf
        exact hn _ _ h' _ _ rfl (.inr ⟨_, rfl⟩) (ha.put (dstOk_lt hd)) (hput2 _) (hput _) (hf.perm hp) (.inr iv) hK
      · intro ch h2 w' hq' hf
        exact hq ch h2 w' hq' hf
theorem drawX_main {Ep : Env} (hEp : ∀ (i : Nat) (o : Oper), ops[i]? = some o → ∀ t, o.dst = some t → Ep t = none) {tbl : List (List Nat)} {h0 : Hp} {w0 : World} (ht : tblOk ops tbl = true) (hdst : ops.toList.all (fun o : Oper => dstOk N o.dst) = true) :
    ∀ (fuel : Nat) (c : List Item) (listed : Array Bool) (E : Env) (G : Prom) (h : Hp) (w : World) (a : Act), WF ops tbl c listed → (c.filter fun x => x.2 != .P).length ≤ fuel → JX P r N ops D (PanEnv Ep Q) f tbl Ls c E G h →
      Own (h ++ f) w → (∀ x p, (x, p) ∈ Ls → listed.getD x true = false → Holds p h) → Agree N E a → Agree N Ep a → a.defers = D → Fol h0 w0 (h ++ f) w →
      wpAnyIn (fen r) 0 P .any ops (fun e a' w' => ∃ E' h', Q e E' a'.defers h' ∧ Agree N E' a' ∧ Fol h0 w0 h' w') fuel listed a w := by
  have hdst' : ∀ (i : Nat) (o : Oper), ops[i]? = some o → dstOk N o.dst = true := fun i o ho => List.all_eq_true.1 hdst o (by simpa using Array.mem_of_getElem? ho)
  -- where nothing is ready all is done
  have hend : ∀ (c : List Item) (listed : Array Bool), WF ops tbl c listed → Region.ready .any ops listed = [] → c = [] := by
    intro c listed W hready
    have hall : ∀ j, j < ops.size → listed.getD j false = true := by
      intro j
      induction j using Nat.strongRecOn with
      | _ j ih =>
        intro hj
        refine Classical.byContradiction fun hn => ?_
        have hlt : j < listed.size := by rw [W.sz]; exact hj
        obtain ⟨o, ho⟩ : ∃ o, ops[j]? = some o := ⟨_, Array.getElem?_eq_getElem hj⟩
        have hmem : j ∈ Region.ready .any ops listed := by
          refine mem_ready.2 ⟨?_, o, ho, fun e he hb => ?_⟩
          · simp [Array.getD, hlt] at hn ⊢; exact hn
          · have hd : e.on ∈ direct o := List.mem_map.2 ⟨e, List.mem_filter.2 ⟨by simpa using he, hb⟩, rfl⟩
            have := List.all_eq_true.1 ht j (List.mem_range.2 hj)
            simp only [ho, Bool.and_eq_true, List.all_eq_true, decide_eq_true_eq] at this
            have hlt2 := this.2 _ hd
            exact ih _ hlt2 (by omega)
        rw [hready] at hmem; cases hmem
    cases c with
    | nil => rfl
    | cons x c =>
      obtain ⟨i, k⟩ := x
      have hu := W.un i k List.mem_cons_self
      have := hall i hu.1
      have hlt : i < listed.size := by rw [W.sz]; exact hu.1
      simp [Array.getD, hlt] at this hu
      rw [this] at hu; exact absurd hu.2 (by simp)
  have hfin : ∀ (c : List Item) (listed : Array Bool) (E : Env) (G : Prom) (h : Hp) (w : World) (a : Act), WF ops tbl c listed → JX P r N ops D (PanEnv Ep Q) f tbl Ls c E G h → Agree N E a → Agree N Ep a → a.defers = D → Fol h0 w0 (h ++ f) w →
      Region.ready .any ops listed = [] → ∃ E' h', Q .normal E' a.defers h' ∧ Agree N E' a ∧ Fol h0 w0 h' w := by
    intro c listed E G h w a W hj ha hEa hda hf hready
    rw [hend c listed W hready] at hj
    obtain ⟨hh, hp, hq⟩ := hj
    exact ⟨E, hh, by rw [hda]; exact hq, ha, hf.perm hp.symm⟩
  intro fuel
  induction fuel with
  | zero =>
    intro c listed E G h w a W hc hj hw hIv ha hEa hda hf
    have hready : Region.ready .any ops listed = [] := by
      cases hr : Region.ready .any ops listed with
      | nil => rfl
      | cons i l =>
        exfalso
        obtain ⟨h1, o, ho, _⟩ := mem_ready.1 (show i ∈ Region.ready .any ops listed by rw [hr]; exact List.mem_cons_self)
        obtain ⟨k, hk, hm⟩ := W.al i (Array.getElem?_eq_some_iff.1 ho).1 h1
        have : (i, k) ∈ c.filter fun x => x.2 != .P := List.mem_filter.2 ⟨hm, by simpa using hk⟩
        have hl : (c.filter fun x => x.2 != .P).length = 0 := by omega
        rw [List.length_eq_zero_iff.1 hl] at this
        cases this
    exact ⟨hready, hfin c listed E G h w a W hj ha hEa hda hf hready⟩
  | succ fuel ih =>
    intro c listed E G h w a W hc hj hw hIv ha hEa hda hf
    refine ⟨fun hready => hfin c listed E G h w a W hj ha hEa hda hf hready, fun i hi => ?_⟩
    obtain ⟨h1, o, ho, hpre⟩ := mem_ready.1 hi
    have hr : ∀ z ∈ direct o, listed.getD z false = true := by
      intro z hz
      obtain ⟨e, he, rfl⟩ := List.mem_map.1 hz
      obtain ⟨he1, he2⟩ := List.mem_filter.1 he
      exact hpre e (by simpa using he1) he2
    obtain ⟨k, hk, hm⟩ := W.al i (Array.getElem?_eq_some_iff.1 ho).1 h1
    have hd := hdst' i o ho
    -- the step itself, once it stands in front
    have go : ∀ (c' : List Item) (G' : Prom), JX P r N ops D (PanEnv Ep Q) f tbl Ls ((i, k) :: c') E G' h → List.Sublist c' c → (∀ j kj, (j, kj) ∈ c' ↔ (j, kj) ∈ c ∧ j ≠ i) →
        (k = .A → ∀ p, G' i = some p → AL P o p.env p.val p.obj) →
        wpOpIn (fen r) 0 P ops (fun e a' w' => ∃ E' h', Q e E' a'.defers h' ∧ Agree N E' a' ∧ Fol h0 w0 h' w') i (wpAnyIn (fen r) 0 P .any ops (fun e a' w' => ∃ E' h', Q e E' a'.defers h' ∧ Agree N E' a' ∧ Fol h0 w0 h' w') fuel (listed.setIfInBounds i true)) a w := by
      intro c' G' hj' hs hmem hal
      obtain ⟨o', ho', _, hst⟩ := hj'
      rw [ho] at ho'; cases ho'
      refine JstX.exec (Ep := Ep) ho hd hk hal hw (fun _ => by
        rcases lof_mem Ls i with e9 | e9
        · rw [e9]; exact .nil
        · exact hIv i _ e9 (by
            have hlt := (Array.getElem?_eq_some_iff.1 ho).1
            have hls : i < listed.size := by rw [W.sz]; exact hlt
            simp [Array.getD, hls] at h1 ⊢; exact h1)) ha hda (hEp i o ho) hEa ?_ ?_ hst
      · intro E' G2 h' a' w' _ _ ha' hEa' hda' hf' iv' hK
        refine ih c' _ E' G2 h' w' a' (W.step ho hr hs hmem) ?_ hK hf'.own (fun x p hxp hl9 => by
          have hls : i < listed.size := by rw [W.sz]; exact (Array.getElem?_eq_some_iff.1 ho).1
          rw [getD_set hls] at hl9
          split at hl9
          · cases hl9
          · rename_i hne9
            rcases iv' with q9 | q9
            · exact q9 p (hIv x p hxp hl9)
            · rcases q9 x p hxp with q8 | q8
              · have q7 := tbl_sound ht W.dc i o ho hr x q8
                exfalso
                by_cases hx9 : x < listed.size
                · simp [Array.getD, hx9] at hl9 q7; rw [hl9] at q7; cases q7
                · simp [Array.getD, hx9] at q7
              · exact q8) ha' hEa' hda' (hf.trans hf')
        have hlt : ((i, k) :: c').length ≤ _ := Nat.le_refl _
        have hsub : List.Sublist (c'.filter fun x => x.2 != .P) (c.filter fun x => x.2 != .P) := hs.filter _
        have hne : (c'.filter fun x => x.2 != .P).length ≠ (c.filter fun x => x.2 != .P).length := by
          intro e
          have e2 := hsub.eq_of_length e
          have : (i, k) ∈ c'.filter fun x => x.2 != .P := by rw [e2]; exact List.mem_filter.2 ⟨hm, by simpa using hk⟩
          exact ((hmem i k).1 (List.mem_filter.1 this).1).2 rfl
        have := hsub.length_le
        omega
      · intro ch h' w' hq hf'
        exact ⟨Ep, h', by rw [hda]; exact hq, hEa, hf.trans hf'⟩
    by_cases hkA : k = .A
    · subst hkA
      have hmP := W.ap i hm
      obtain ⟨p, q, rfl⟩ := List.append_of_mem hmP
      have hnd := wf_nodup W.pr
      have hnp : (i, Kd.P) ∉ p := fun hmm => by
        rw [List.nodup_append] at hnd
        exact hnd.2.2 _ hmm _ List.mem_cons_self rfl
      have hj1 := JX.moveFront ho hd p (W.front ht ho hr (List.Sublist.refl _) hnp) (fun e => by cases e) hj
      obtain ⟨o', ho', _, hg, mk, obj, hal, hj2⟩ := hj1
      rw [ho] at ho'; cases ho'
      have hmA : (i, Kd.A) ∈ p ++ q := by
        rcases List.mem_append.1 hm with hm | hm
        · exact List.mem_append_left _ hm
        · rcases List.mem_cons.1 hm with e | hm
          · cases e
          · exact List.mem_append_right _ hm
      have hs1 : List.Sublist (p ++ q) (p ++ (i, Kd.P) :: q) := (List.Sublist.refl p).append (List.sublist_cons_self _ _)
      have hmP2 : ∀ kk, (i, kk) ∈ p ++ q → kk = .A := by
        intro kk hkk
        obtain ⟨p2, q2, e2⟩ := List.append_of_mem hmA
        by_cases hkk2 : kk = .A
        · exact hkk2
        · exfalso
          have hmem2 : (i, kk) ∈ p2 ++ q2 := by
            rw [e2] at hkk
            rcases List.mem_append.1 hkk with h3 | h3
            · exact List.mem_append_left _ h3
            · rcases List.mem_cons.1 h3 with h3 | h3
              · cases h3; exact absurd rfl hkk2
              · exact List.mem_append_right _ h3
          have := one_np (ops := ops) (tbl := tbl) (x := i) (k := .A) (by rw [← e2]; exact pairs_sub hs1 W.pr) (by simp) hmem2
          obtain ⟨rfl, _, _⟩ := this
          rw [List.nodup_append] at hnd
          rcases List.mem_append.1 hkk with h3 | h3
          · exact hnp h3
          · exact (List.nodup_cons.1 hnd.2.1).1 h3
      obtain ⟨p2, q2, e2⟩ := List.append_of_mem hmA
      rw [e2] at hj2
      have hs2 : List.Sublist (p2 ++ (i, Kd.A) :: q2) (p ++ (i, Kd.P) :: q) := by rw [← e2]; exact hs1
      have hnp2 : (i, Kd.P) ∉ p2 := fun hmm => by
        have := hmP2 .P (by rw [e2]; exact List.mem_append_left _ hmm)
        cases this
      have hj3 := JX.moveFront ho hd p2 (W.front ht ho hr hs2 hnp2) (fun _ => ⟨hg, ⟨mk, obj, restr o E⟩, by simp [Prom.add], restr_eqOn o E⟩) hj2
      refine go (p2 ++ q2) _ hj3 (((List.Sublist.refl p2).append (List.sublist_cons_self _ _)).trans hs2) ?_ ?_
      · intro j kj
        constructor
        · intro hmm
          have hmm2 : (j, kj) ∈ p ++ q := by
            rw [e2]
            rcases List.mem_append.1 hmm with h3 | h3
            · exact List.mem_append_left _ h3
            · exact List.mem_append_right _ (List.mem_cons_of_mem _ h3)
          refine ⟨hs1.subset hmm2, ?_⟩
          rintro rfl
          have := hmP2 kj hmm2
          subst this
          have hnd2 : (p2 ++ (j, Kd.A) :: q2).Nodup := by rw [← e2]; exact hs1.nodup hnd
          rw [List.nodup_append] at hnd2
          rcases List.mem_append.1 hmm with h3 | h3
          · exact hnd2.2.2 _ h3 _ List.mem_cons_self rfl
          · exact (List.nodup_cons.1 hnd2.2.1).1 h3
        · rintro ⟨h3, hne⟩
          have h4 : (j, kj) ∈ p ++ q := by
            rcases List.mem_append.1 h3 with h5 | h5
            · exact List.mem_append_left _ h5
            · rcases List.mem_cons.1 h5 with h5 | h5
              · cases h5; exact absurd rfl hne
              · exact List.mem_append_right _ h5
          rw [e2] at h4
          rcases List.mem_append.1 h4 with h5 | h5
          · exact List.mem_append_left _ h5
          · rcases List.mem_cons.1 h5 with h5 | h5
            · cases h5; exact absurd rfl hne
            · exact List.mem_append_right _ h5
      · intro _ pr hpr
        simp [Prom.add] at hpr
        subst hpr
        exact hal.congr (restr_eqOn o E).symm
    · obtain ⟨p, q, rfl⟩ := List.append_of_mem hm
      have hone : ∀ kk, (i, kk) ∉ p ++ q := fun kk hkk => hkA (one_np W.pr hk hkk).2.1
      have hj1 := JX.moveFront ho hd p (W.front ht ho hr (List.Sublist.refl _) (fun hmm => hone _ (List.mem_append_left _ hmm))) (fun e => absurd e hkA) hj
      refine go (p ++ q) G hj1 ((List.Sublist.refl p).append (List.sublist_cons_self _ _)) ?_ (fun e => absurd e hkA)
      intro j kj
      constructor
      · intro hmm
        refine ⟨((List.Sublist.refl p).append (List.sublist_cons_self _ _)).subset hmm, ?_⟩
        rintro rfl
        exact hone kj hmm
      · rintro ⟨h3, hne⟩
        rcases List.mem_append.1 h3 with h5 | h5
        · exact List.mem_append_left _ h5
        · rcases List.mem_cons.1 h5 with h5 | h5
          · cases h5; exact absurd rfl hne
          · exact List.mem_append_right _ h5
theorem xc_drawX {id : Nat} {h' : Hp} (c : List Item) (f h : Hp) (hm : P.follows .mixedOrders = true) (hck : drawOk N ops c = true) (hp : List.Perm (h ++ f) h') (hIv : ∀ x p, (x, p) ∈ Ls → Holds p h) (H : JX P r N ops D (PanEnv (mask ops E) Q) f (clos ops) Ls c E (fun _ => none) h) : XC P r N (.region id ops true) Q E D h' := by
  refine XC.perm hp ?_
  intro w a ho ha hda
  simp only [drawOk, Bool.and_eq_true] at hck
  obtain ⟨ht, hpr, hdst, hall, hit, hlen⟩ := hck
  refine wpIn_region_any hm ?_
  have hEp : ∀ (i : Nat) (o : Oper), ops[i]? = some o → ∀ t, o.dst = some t → mask ops E t = none := by
    intro i o hio t ht
    have : t ∈ dsts ops := List.mem_filterMap.2 ⟨o, by simpa using Array.mem_of_getElem? hio, ht⟩
    simp [mask, this]
  have hEa : Agree N (mask ops E) a := by
    refine ⟨ha.size, fun t v hv => ha.val t v ?_⟩
    unfold mask at hv
    split at hv
    · cases hv
    · exact hv
  refine drawX_main (Ep := mask ops E) hEp (h0 := h ++ f) (w0 := w) ht hdst ops.size c _ E _ h _ a ⟨hpr, ?_, ?_, ?_, ?_, ?_, by simp, ?_⟩ (of_decide_eq_true hlen) H (ho.drew _) (fun x p hm _ => hIv x p hm) ha hEa hda (Fol.refl (ho.drew _)).drew
  · intro i k hik
    have := List.all_eq_true.1 hit (i, k) hik
    simp only [Bool.and_eq_true, decide_eq_true_eq] at this
    exact ⟨this.1, by simp [Array.getD, this.1]⟩
  · intro i hi _
    have := List.all_eq_true.1 hall i (List.mem_range.2 hi)
    simp only [Bool.or_eq_true, List.contains_iff_mem] at this
    rcases this with ((h1 | h1) | h1) | h1
    · exact ⟨_, by simp, h1⟩
    · exact ⟨_, by simp, h1⟩
    · exact ⟨_, by simp, h1⟩
    · exact ⟨_, by simp, h1⟩
  · intro i hi
    have := List.all_eq_true.1 hit (i, .A) hi
    simp only [Bool.and_eq_true, Bool.or_eq_true, List.contains_iff_mem] at this
    rcases this.2.1 with h1 | h1
    · simp at h1
    · exact h1.2
  · intro i hi
    have := List.all_eq_true.1 hit (i, .P) hi
    simp only [Bool.and_eq_true, Bool.or_eq_true, List.contains_iff_mem] at this
    rcases this.2.2 with h1 | h1
    · simp at h1
    · exact h1
  · intro i o hi ho'
    have := List.all_eq_true.1 hit (i, .A) hi
    simp only [Bool.and_eq_true, Bool.or_eq_true, ho'] at this
    rcases this.2.1 with h1 | h1
    · simp at h1
    · simpa using h1.1
  · intro j o hj
    simp [Array.getD] at hj
end Go.H
namespace Go.H
open Go
section
variable {P : Program} {r : Option Nat} {N : Nat} {Q : Post} {E : Env} {D : List Deferred} {h : Hp} {ops : Array Oper} {tbl : List (List Nat)} {Ls : LsT} {G : Prom} {l : List Item}
theorem jx_S {i : Nat} {o : Oper} {v : Value} (hi : ops[i]? = some o) (hd : dstOk N o.dst = true) (hr : Runs ops o E) (H : XV P r o (fun v' h' => v' = v ∧ h' = []) (fun _ _ => False) E []) (H2 : JX P r N ops D Q [] tbl Ls l (E.put o.dst v) G h) : JX P r N ops D Q [] tbl Ls ((i, .S) :: l) E G h :=
  ⟨o, hi, hd, .inr ⟨hr, v, fun hh _ => qv_ext H hh, H2⟩⟩
theorem jx_I {i : Nat} {o : Oper} {v : Value} (hi : ops[i]? = some o) (hd : dstOk N o.dst = true) (hr : Runs ops o E) (H : ∀ hh, Holds (lof Ls i) hh → XV P r o (fun v' h' => v' = v ∧ h' = hh) (fun _ _ => False) E hh) (H2 : JX P r N ops D Q [] tbl Ls l (E.put o.dst v) G h) : JX P r N ops D Q [] tbl Ls ((i, .S) :: l) E G h :=
  ⟨o, hi, hd, .inr ⟨hr, v, fun hh hv => by rw [List.append_nil]; exact H hh hv, H2⟩⟩
theorem jx_R {i : Nat} {o : Oper} {v : Value} (hi : ops[i]? = some o) (hd : dstOk N o.dst = true) (hr : Runs ops o E) (H : XV P r o (fun v' h' => v' = v ∧ h' = h) (fun _ _ => False) E h) (H2 : JX P r N ops D Q [] tbl Ls l (E.put o.dst v) G h) : JX P r N ops D Q [] tbl Ls ((i, .R) :: l) E G h :=
  ⟨o, hi, hd, .inr ⟨hr, v, by rw [List.append_nil]; exact H, H2⟩⟩
theorem jx_P {i : Nat} {o : Oper} {mk : Nat → Value} {obj : Obj} (hi : ops[i]? = some o) (hd : dstOk N o.dst = true) (hg : o.guard = none) (H : AL P o E mk obj) (H2 : JX P r N ops D Q [] tbl Ls l E (G.add i ⟨mk, obj, restr o E⟩) h) : JX P r N ops D Q [] tbl Ls ((i, .P) :: l) E G h :=
  ⟨o, hi, hd, hg, mk, obj, H, H2⟩
theorem jx_A {i : Nat} {o : Oper} {mk : Nat → Value} {obj : Obj} {E0 : Env} {tl : List Nat} (hi : ops[i]? = some o) (hd : dstOk N o.dst = true) (hg : o.guard = none) (hG : G i = some ⟨mk, obj, restr o E0⟩) (ht : tmpsOf o.op.operands.toList = tl) (he : EqL tl E0 E)
    (H2 : ∀ b, b ∉ keys h → JX P r N ops D Q [] tbl Ls l (E.put o.dst (mk b)) G ((b, obj) :: h)) : JX P r N ops D Q [] tbl Ls ((i, .A) :: l) E G h :=
  ⟨o, hi, hd, hg, _, hG, (restr_eqOn o E0).trans (fun t hm => eqL_mem he t (by rw [← ht]; exact mem_tmpsOf (by simpa using hm))), fun b hb => H2 b (by rwa [List.append_nil] at hb)⟩
theorem jx_O {i : Nat} {o : Oper} (hi : ops[i]? = some o) (hd : dstOk N o.dst = true) (hr : Runs ops o E) (H : XV P r o (fun v h' => Keep tbl Ls i h' ∧ JX P r N ops D Q [] tbl Ls l (E.put o.dst v) G h') (fun ch h'' => Q (.panic ch) emp D h'') E h) : JX P r N ops D Q [] tbl Ls ((i, .O) :: l) E G h :=
  ⟨o, hi, hd, .inr ⟨hr, by rw [List.append_nil]; exact H.mono (fun v h' k => ⟨h', by simp, k.1, k.2⟩) (fun _ _ k => k)⟩⟩
theorem jx_end {Ep : Env} (H : Q .normal E D h) : JX P r N ops D (PanEnv Ep Q) [] tbl Ls [] E G h := ⟨h, by simp, H⟩
theorem xc_drawX0 {id : Nat} (Ls : LsT) (c : List Item) (hm : P.follows .mixedOrders = true) (hck : drawOk N ops c = true) (hIv : ∀ x p, (x, p) ∈ Ls → Holds p h) (H : JX P r N ops D (PanEnv (mask ops E) Q) [] (clos ops) Ls c E (fun _ => none) h) : XC P r N (.region id ops true) Q E D h :=
  xc_drawX c [] h hm hck (by simp) hIv H
theorem kp_nil {tbl : List (List Nat)} {y : Nat} {h : Hp} : Keep tbl [] y h := fun _ _ hm => (List.not_mem_nil hm).elim
theorem kp_go {tbl : List (List Nat)} {y x : Nat} {p : List (Nat × (Obj → Prop))} {Ls : LsT} {h : Hp} (h1 : (tbl.getD y []).contains x = true) (H : Keep tbl Ls y h) : Keep tbl ((x, p) :: Ls) y h := fun x' p' hm => by
  rcases List.mem_cons.1 hm with e | hm
  · cases e; exact .inl (by simpa using h1)
  · exact H x' p' hm
theorem kp_in {tbl : List (List Nat)} {y x : Nat} {p : List (Nat × (Obj → Prop))} {Ls : LsT} {h : Hp} (h1 : Holds p h) (H : Keep tbl Ls y h) : Keep tbl ((x, p) :: Ls) y h := fun x' p' hm => by
  rcases List.mem_cons.1 hm with e | hm
  · cases e; exact .inr h1
  · exact H x' p' hm
theorem iv_nil {h : Hp} : ∀ x p, (x, p) ∈ ([] : LsT) → Holds p h := fun _ _ hm => (List.not_mem_nil hm).elim
theorem iv_cons {x : Nat} {p : List (Nat × (Obj → Prop))} {Ls : LsT} {h : Hp} (h1 : Holds p h) (H : ∀ x p, (x, p) ∈ Ls → Holds p h) : ∀ x' p', (x', p') ∈ ((x, p) :: Ls) → Holds p' h := fun x' p' hm => by
  rcases List.mem_cons.1 hm with e | hm
  · cases e; exact h1
  · exact H x' p' hm
end
end Go.H

/-
  A copy of a slice onto an empty one.
-/
set_option linter.all false
namespace Go.H
open Go
section
variable {P : Program} {r : Option Nat} {E : Env} {h g : Hp} {K : Value → Hp → Prop} {T : List PanicEntry → Hp → Prop} {dst : Option Nat} {ty : TypeId} {pos : String} {af : Array Edge} {gd : Option (Nat × Bool)}
theorem xv_dup {α : Type} {enc : α → List Value} {x y : Operand} {t e : TypeId} {d : TD} {b n cl sz : Nat} {al : Option Addr} {ys : List α} (ht : SlT P t e) (hd : TyOk P e d) (hzs : d.zero.cells.size = d.size) (hsz : d.size = sz)
    (hx : ev E x = some (.slice (some ⟨b, 0, none⟩) 0 0)) (hy : ev E y = some (.slice al n cl)) (hn : n = ys.length) (hl : SlV g sz enc al ys) (henc : ∀ x, (enc x).length = sz) (h1 : ∀ x, (enc x).all Value.oneCell' = true)
    (hb : 2 * n * d.bytes ≤ 281474976710656) (h63 : n ≤ 9223372036854775807)
    (H : ∀ V' : Vec, V'.ok sz n (ys.flatMap enc) → K (.slice V'.ad n V'.cp) (V'.hp e (ys.flatMap enc) ++ g)) : XV P r ⟨dst, .call ⟨.builtin .append, #[x, y], #[t, t]⟩, ty, pos, af, gd⟩ K T E ((b, .cells ⟨[]⟩ e (0, 0)) :: g) := by
  subst hn
  refine xv_appendL (V := .at b 0 []) (n := 0) (xs := []) (ys := ys) ht hd hzs hsz hx hy ⟨by simp, Nat.le_refl _, by simp⟩ .here hl henc h1 (by rw [Nat.zero_add]; exact hb) (by rw [Nat.zero_add]; exact h63) fun V' hV' => ?_
  rw [Vec.val_ad hV']
  simp only [Nat.zero_add, List.nil_append] at hV' ⊢
  exact H V' hV'
end
end Go.H

/-
  Across coal and tar.
-/
namespace Go.Proofs.Ytmaldhbjhomdkaa
open Go Go.H
set_option linter.all false
abbrev I (n : Int) : Value := .int .i64 n
theorem eqc_self : ∀ {xs : List Value}, (∀ x ∈ xs, Num x) → eqc xs xs = true
  | [], _ => rfl
  | x :: xs, h => by
    obtain ⟨n, rfl⟩ := h x List.mem_cons_self
    simp only [eqc, beq_self_eq_true, Bool.true_and]
    exact eqc_self fun y hy => h y (List.mem_cons_of_mem _ hy)
theorem xv_dupP {P : Program} {r : Option Nat} {E : Env} {g : Hp} {K : Value → Hp → Prop} {T : List PanicEntry → Hp → Prop} {dst : Option Nat} {ty : TypeId} {pos : String} {af : Array Edge} {gd : Option (Nat × Bool)} {α : Type} {enc : α → List Value} {x y : Operand} {t e : TypeId} {d : TD} {b n cl sz : Nat} {al : Option Addr} {ys : List α} (ht : SlT P t e) (hd : TyOk P e d) (hzs : d.zero.cells.size = d.size) (hsz : d.size = sz)
    (hx : ev E x = some (.slice (some ⟨b, 0, none⟩) 0 0)) (hy : ev E y = some (.slice al n cl)) (hn : n = ys.length) (hl : SlV g sz enc al ys) (henc : ∀ x, (enc x).length = sz) (h1 : ∀ x, (enc x).all Value.oneCell' = true)
    (hb : 2 * n * d.bytes ≤ 281474976710656) (h63 : n ≤ 9223372036854775807) (h0 : 0 < n)
    (H : ∀ b' c' sp, K (.slice (some ⟨b', 0, none⟩) n c') ((b', .cells ⟨ys.flatMap enc ++ sp⟩ e (0, 0)) :: g)) : XV P r ⟨dst, .call ⟨.builtin .append, #[x, y], #[t, t]⟩, ty, pos, af, gd⟩ K T E ((b, .cells ⟨[]⟩ e (0, 0)) :: g) :=
  xv_dup ht hd hzs hsz hx hy hn hl henc h1 hb h63 fun V hV => by
    obtain ⟨b', c', sp, rfl⟩ := Vec.at_pos hV h0
    exact H b' c' sp
theorem YieldA_c {y : Coal.Yard} {h : Hp} {R : Ending → Hp → Prop} (hy : Coal.YardV h y) (hs : Coal.Small y) {f t w lo hi : Int} (e : Coal.yieldA y f t w = (⟨lo, hi⟩, 0)) (H : R (.returned (.tuple ⟨[.agg ⟨[I lo, I hi]⟩, I 0]⟩)) h) : ACalls Try.prog 8 ⟨[.agg ⟨Coal.eYard y⟩, I f, I t, I w]⟩ h R :=
  Coal.Yield_c hy hs (by rw [e]; exact H)
def sy (z : Tar.Yard) (b c : Nat) (v w : Int) : Tar.Yard := ⟨some ⟨b, 0, none⟩, c, (z.stock.set 0 v).set 1 w, z.ta, z.tc, z.stills, z.la, z.lc, z.sales⟩
theorem sy_e (z : Tar.Yard) (b c : Nat) (v w : Int) : [.slice (some ⟨b, 0, none⟩) z.stock.length c, .slice z.ta z.stills.length z.tc, .slice z.la z.sales.length z.lc] = Tar.eYard (sy z b c v w) := by
  simp only [Tar.eYard, sy, List.length_set]
theorem sy_v {z : Tar.Yard} {h : Hp} {b c : Nat} {v w : Int} {sp : List Value} (hz : Tar.YardV h z) (m : (b, .cells ⟨((z.stock.set 0 v).set 1 w).flatMap Tar.eI ++ sp⟩ 3 (0, 0)) ∈ h) : Tar.YardV h (sy z b c v w) where
  stock := .inr ⟨b, 0, _, 3, (0, 0), rfl, m, fun i q hq => flat_at Tar.eI_len sp _ i hq⟩
  stills := hz.stills
  sales := hz.sales
  out := hz.out
theorem sy_g {z : Tar.Yard} {b c : Nat} {v w : Int} (hg : Tar.GoodYard z) (h0 : Tar.tonsOk v) (h1 : Tar.tonsOk w) : Tar.GoodYard (sy z b c v w) :=
  Tar.good_stock (y := ⟨z.sa, z.sc, z.stock.set 0 v, z.ta, z.tc, z.stills, z.la, z.lc, z.sales⟩) (i := 1) (v := w) (Tar.good_stock (y := z) (i := 0) (v := v) hg h0 rfl rfl rfl) h1 rfl rfl rfl
theorem sy_le {z : Tar.Yard} {b c b' c' : Nat} {v w v' w' : Int} (h0 : v ≤ v') (h1 : w ≤ w') : ∀ j, (Tar.newG (sy z b c v w) j).lo ≤ (Tar.newG (sy z b' c' v' w') j).lo := fun j => by
  simp only [Tar.newG, sy, List.getElem?_set, List.length_set]
  by_cases e1 : 1 = j
  · subst e1
    by_cases hl : 1 < z.stock.length
    · rw [if_pos rfl, if_pos hl, if_pos rfl, if_pos hl]; exact h1
    · rw [if_pos rfl, if_neg hl, if_pos rfl, if_neg hl]; exact Int.le_refl _
  · rw [if_neg e1, if_neg e1]
    by_cases e0 : 0 = j
    · subst e0
      by_cases hl : 0 < z.stock.length
      · rw [if_pos rfl, if_pos hl, if_pos rfl, if_pos hl]; exact h0
      · rw [if_pos rfl, if_neg hl, if_pos rfl, if_neg hl]; exact Int.le_refl _
    · rw [if_neg e0, if_neg e0]; exact Int.le_refl _
theorem IncomeS_c {l : List Value} {y : Tar.Yard} {plan : List Int} {h : Hp} {R : Ending → Hp → Prop} {g : Tar.Goods} {n c : Nat} {a : Option Addr} (he : l = Tar.eYard y) (hv : Tar.YardV h y) (hp : SlV h 1 Tar.eI a plan) (hn : plan.length = n) (hy : Tar.GoodYard y) (hl : plan.length = y.stills.length) (ho : Tar.PlanOk y plan) (hg : Tar.afterG y.stills plan (Tar.newG y) = some g)
    (H : ∀ b, R (.returned (.tuple ⟨[I (Tar.incomeY y plan g), .slice (some ⟨b, 0, none⟩) y.sales.length y.sales.length, I 0]⟩)) ((b, .cells ⟨(Tar.sellY y g).sold.flatMap Tar.eI ++ []⟩ 3) :: h)) :
    ACalls Try.prog 10 ⟨[.agg ⟨l⟩, .slice a n c]⟩ h R := by
  subst he
  have hn6 := hy.n6
  have h4 := hy.s4
  have h6 := hy.s6
  refine Tar.IncomeT_c hv ⟨by omega, by omega, by omega, fun x hx => ?_⟩ hp hn hy hl ho hg H
  obtain ⟨k, hk⟩ := List.getElem?_of_mem hx
  have := (hy.stills k x hk).2.2.1
  omega
theorem eI1 : ∀ x, (Tar.eI x).all Value.oneCell' = true := fun _ => rfl
end Go.Proofs.Ytmaldhbjhomdkaa

/-
  Walks.
-/
namespace Go.Proofs.Ytmaldhbjhomdkaa
open Go Go.H
set_option maxRecDepth 100000
set_option maxHeartbeats 8000000
set_option linter.all false
theorem awake_c {h : Hp} {R : Ending → Hp → Prop} (H : R (.returned (.bool true)) h) : ACalls Try.prog 6 ⟨[]⟩ h R := by
  refine calls_of_xc (N := 63) Try.func6 rfl (by rfl) ?_
  refine xc_seq (xc_region ?_)
  refine xr_op rfl rfl (xv_assign rfl ?_)
  refine xr_end rfl ?_
  refine th_n ?_
  refine xc_seq (xc_region ?_)
  refine xr_op rfl rfl ((al_buildSlice sl26 ty3 rfl rfl rfl rfl rfl Ev_).xv (fun bs hbs => ?_))
  refine xr_op rfl rfl (xv_build bt42 rfl Ev_ ?_)
  refine xr_op rfl rfl (xv_build bt42 rfl Ev_ ?_)
  refine xr_op rfl rfl (xv_build bt42 rfl Ev_ ?_)
  refine xr_op rfl rfl ((al_buildSlice sl35 ty42 rfl rfl rfl rfl rfl Ev_).xv (fun o1 ho1 => ?_))
  refine xr_op rfl rfl (xv_build bt37 rfl Ev_ ?_)
  refine xr_op rfl rfl (xv_build bt42 rfl Ev_ ?_)
  refine xr_op rfl rfl (xv_build bt42 rfl Ev_ ?_)
  refine xr_op rfl rfl (xv_build bt42 rfl Ev_ ?_)
  refine xr_op rfl rfl ((al_buildSlice sl35 ty42 rfl rfl rfl rfl rfl Ev_).xv (fun o2 ho2 => ?_))
  refine xr_op rfl rfl (xv_build bt37 rfl Ev_ ?_)
  refine xr_op rfl rfl ((al_buildSlice sl27 ty37 rfl rfl rfl rfl rfl Ev_).xv (fun bt hbt => ?_))
  refine xr_op rfl rfl (xv_build bt59 rfl Ev_ ?_)
  refine xr_op rfl rfl (xv_build bt59 rfl Ev_ ?_)
  refine xr_op rfl rfl (xv_build bt59 rfl Ev_ ?_)
  refine xr_op rfl rfl ((al_buildSlice sl28 ty59 rfl rfl rfl rfl rfl Ev_).xv (fun bl hbl => ?_))
  refine xr_op rfl rfl (xv_build bt30 rfl Ev_ ?_)
  refine xr_op rfl rfl (xv_alloc ty30 (fun c1 hc1 => ?_))
  refine xr_op rfl rfl (xv_s ty30 rfl rfl Up_ Ev_ (by rfl) (by rfl) (by rfl) Ev_ ?_)
  refine xr_end rfl ?_
  refine th_n ?_
  refine xc_seq (xc_region ?_)
  refine xr_op rfl rfl (xv_loadA ty30 rfl rfl Me_ Ev_ (by rfl) ?_)
  refine xr_op rfl rfl (xv_calls rfl hb9 (Tar.aPlan (bs := bs) (o1 := o1) (o2 := o2) (bt := bt) (bl := bl) (by intro z hz; have hz2 : z ∈ ([(bl, .cells ⟨[I 2, I 5, I 9, I 1, I 10, I 4, I 0, I 30, I 2]⟩ 59 (0, 0)), (bt, .cells ⟨[I 0, I 6, .slice (some ⟨o1, 0, none⟩) 3 3, I 5, I 4, I 1, I 4, .slice (some ⟨o2, 0, none⟩) 3 3, I 1, I 2]⟩ 37 (0, 0)), (o2, .cells ⟨[I 0, I 0, I 0, I 0, I 3, I 3]⟩ 42 (0, 0)), (o1, .cells ⟨[I 0, I 0, I 2, I 3, I 1, I 2]⟩ 42 (0, 0)), (bs, .cells ⟨[I 20, I 0, I 1]⟩ 3 (0, 0))] : Hp) := hz; simp only [List.mem_cons, List.not_mem_nil, or_false] at hz2; rcases hz2 with rfl | rfl | rfl | rfl | rfl <;> ((repeat first|exact z_0|assumption|refine z_1 ?_|(refine z_l ?_;(repeat first|exact z_0|assumption|refine z_1 ?_);done)|refine z_r ?_);done)) (fun a3 k3 q3 hs3 => up_ret ?_)))
  refine xr_op rfl rfl (xv_move rfl ?_)
  refine xr_op rfl rfl (xv_extract rfl rfl ?_)
  refine xr_op rfl rfl (xv_extract rfl rfl ?_)
  refine xr_op rfl rfl (xv_extract rfl rfl ?_)
  refine xr_op rfl rfl (xv_assign rfl ?_)
  refine xr_op rfl rfl (xv_assign rfl ?_)
  refine xr_op rfl rfl (xv_assign rfl ?_)
  refine xr_end rfl ?_
  refine th_n ?_
  refine xc_seq (xc_region ?_)
  refine xr_op rfl rfl (xv_build bt42 rfl Ev_ ?_)
  refine xr_op rfl rfl (xv_build bt52 rfl Ev_ ?_)
  refine xr_op rfl rfl ((al_buildSlice sl22 ty52 rfl rfl rfl rfl rfl Ev_).xv (fun bc hbc => ?_))
  refine xr_op rfl rfl (xv_build bt55 rfl Ev_ ?_)
  refine xr_op rfl rfl (xv_build bt55 rfl Ev_ ?_)
  refine xr_op rfl rfl ((al_buildSlice sl23 ty55 rfl rfl rfl rfl rfl Ev_).xv (fun bm hbm => ?_))
  refine xr_op rfl rfl (xv_build bt25 rfl Ev_ ?_)
  refine xr_op rfl rfl (xv_alloc ty25 (fun c5 hc5 => ?_))
  refine xr_op rfl rfl (xv_s ty25 rfl rfl Up_ Ev_ (by rfl) (by rfl) (by rfl) Ev_ ?_)
  refine xr_end rfl ?_
  refine th_n ?_
  refine xc_seq (xc_region ?_)
  refine xr_op rfl rfl (xv_loadA ty25 rfl rfl Me_ Ev_ (by rfl) ?_)
  refine xr_op rfl rfl (xv_calls rfl hb8 (Coal.Yield_c (y := Coal.gY bc bm) ⟨slvL (fun _ => rfl) Me_, slvL (fun _ => rfl) Me_⟩ ⟨(show 1 ≤ 1000 by decide), (show 2 ≤ 1000 by decide)⟩ (up_ret ?_)))
  rw [Coal.g_yield bc bm]
  refine xr_op rfl rfl (xv_move rfl ?_)
  refine xr_op rfl rfl (xv_extract rfl rfl ?_)
  refine xr_op rfl rfl (xv_extract rfl rfl ?_)
  refine xr_op rfl rfl (xv_alloc ty42 (fun c6 hc6 => ?_))
  refine xr_op rfl rfl (xv_s ty42 rfl rfl Up_ Ev_ (by rfl) (by rfl) (by rfl) Ev_ ?_)
  refine xr_op rfl rfl (xv_assign rfl ?_)
  refine xr_end rfl ?_
  refine th_n ?_
  refine xc_seq (xc_region ?_)
  refine xr_op rfl rfl (xv_move rfl ?_)
  refine xr_op rfl rfl ((al_buildSlice sl26 ty3 rfl rfl rfl rfl rfl Ev_).xv (fun bp hbp => ?_))
  refine xr_op rfl rfl (xv_calls rfl hb15 (Tar.IntsT_c (xs := [2, 1]) (hs3.sub (by ((intro q0 hq0;(repeat first|(with_reducible exact hq0)|(with_reducible exact z_l hq0)|(with_reducible refine z_1 ?_)|(with_reducible refine z_r ?_)))))) (slvL (fun _ => rfl) Me_) (by decide) (up_ret ?_)))
  refine xr_op rfl rfl (xv_move rfl ?_)
  refine xr_gd rfl rfl rfl (xv_move rfl ?_)
  refine xr_gd rfl rfl rfl (xv_eqlT rfl rfl rfl ?_)
  refine xr_op rfl rfl (xv_pick rfl rfl ?_)
  refine xr_op rfl rfl (xv_move rfl ?_)
  refine xr_gd rfl rfl rfl (xv_move rfl ?_)
  refine xr_gd rfl rfl rfl (xv_eqlT rfl rfl rfl ?_)
  refine xr_op rfl rfl (xv_pick rfl rfl ?_)
  refine xr_op rfl rfl (xv_move rfl ?_)
  refine xr_gd rfl rfl rfl (xv_loadA ty42 rfl rfl Me_ Ev_ (by rfl) ?_)
  refine xr_gd rfl rfl rfl (xv_build bt42 rfl Ev_ ?_)
  refine xr_gd rfl rfl rfl (xv_eqA (b := true) fq42 rfl eg42 rfl rfl rfl rfl Nums_ Nums_ (eqc_self Nums_) ?_)
  refine xr_op rfl rfl (xv_pick rfl rfl ?_)
  refine xr_op rfl rfl (xv_move rfl ?_)
  refine xr_gd rfl rfl rfl (xv_move rfl ?_)
  refine xr_gd rfl rfl rfl (xv_eqlT rfl rfl rfl ?_)
  refine xr_op rfl rfl (xv_pick rfl rfl ?_)
  refine xr_op rfl rfl (xv_assign rfl ?_)
  refine xr_end rfl ?_
  refine th_n ?_
  refine xc_ret ?_
  refine body_ret (h' := h) rfl (ro_tmp rfl ro_nil) Su_ ?_
  exact H

end Go.Proofs.Ytmaldhbjhomdkaa

/-
  Walks.
-/
namespace Go.Proofs.Ytmaldhbjhomdkaa
open Go Go.H
set_option maxRecDepth 100000
set_option maxHeartbeats 8000000
set_option linter.all false
theorem TopGoods_c {y : Coal.Yard} {z : Tar.Yard} {an bn : Nat} {h : Hp} {R : Ending → Hp → Prop} (hy : Coal.YardV h y) (hz : Tar.YardV h z) (han : an ≤ 4294967295) (hbn : bn ≤ 4294967295) (H : R (.returned (.bool true)) h) :
    ACalls Try.prog 3 ⟨[.agg ⟨Coal.eYard y⟩, .agg ⟨Tar.eYard z⟩, .int .u32 (an : Int), .int .u32 (bn : Int)]⟩ h R := by
  refine calls_of_xc (N := 237) Try.func3 rfl (by rfl) ?_
  refine xc_seq (xc_region ?_)
  refine xr_op rfl rfl (xv_box rfl (fun bY hbY => ?_))
  refine xr_op rfl rfl (xv_box rfl (fun bZ hbZ => ?_))
  refine xr_op rfl rfl (xv_assign rfl ?_)
  refine xr_end rfl ?_
  refine th_n ?_
  refine xc_seq ?_
  refine xc_seq (xc_region ?_)
  refine xr_op rfl rfl (xv_faddr fl25_0 rfl ?_)
  refine xr_op rfl rfl (xv_load1 ty22 rfl rfl Me_ (by rfl) ?_)
  refine xr_op rfl rfl (xv_len sl22 rfl ?_)
  refine xr_op rfl rfl (xv_gtr2 rfl rfl (fun q1 => ?_) (fun q1 => ?_))
  · refine xr_op rfl rfl (xv_move rfl ?_)
    refine xr_no rfl rfl rfl rfl ?_
    refine xr_no rfl rfl rfl rfl ?_
    refine xr_no rfl rfl rfl rfl ?_
    refine xr_no rfl rfl rfl rfl ?_
    refine xr_op rfl rfl (xv_pick rfl rfl ?_)
    refine xr_op rfl rfl (xv_move rfl ?_)
    refine xr_no rfl rfl rfl rfl ?_
    refine xr_no rfl rfl rfl rfl ?_
    refine xr_no rfl rfl rfl rfl ?_
    refine xr_op rfl rfl (xv_pick rfl rfl ?_)
    refine xr_op rfl rfl (xv_move rfl ?_)
    refine xr_no rfl rfl rfl rfl ?_
    refine xr_no rfl rfl rfl rfl ?_
    refine xr_no rfl rfl rfl rfl ?_
    refine xr_no rfl rfl rfl rfl ?_
    refine xr_op rfl rfl (xv_pick rfl rfl ?_)
    refine xr_op rfl rfl (xv_move rfl ?_)
    refine xr_no rfl rfl rfl rfl ?_
    refine xr_no rfl rfl rfl rfl ?_
    refine xr_no rfl rfl rfl rfl ?_
    refine xr_op rfl rfl (xv_pick rfl rfl ?_)
    refine xr_end rfl ?_
    refine th_n ?_
    refine xc_true rfl ?_
    refine xc_seq (xc_region ?_)
    refine xr_op rfl rfl (xv_calls rfl hb6 (awake_c (up_ret ?_)))
    refine xr_op rfl rfl (xv_assign rfl ?_)
    refine xr_end rfl ?_
    refine th_n ?_
    refine xc_ret ?_
    refine th_r ?_
    refine body_ret (h' := h) rfl (ro_tmp rfl ro_nil) Su_ ?_
    exact H
  · refine xr_op rfl rfl (xv_move rfl ?_)
    refine xr_gd rfl rfl rfl (xv_faddr fl25_1 rfl ?_)
    refine xr_gd rfl rfl rfl (xv_load1 ty23 rfl rfl Me_ (by rfl) ?_)
    refine xr_gd rfl rfl rfl (xv_len sl23 rfl ?_)
    refine xr_gd rfl rfl rfl (xv_gtr2 rfl rfl (fun q2 => ?_) (fun q2 => ?_))
    · refine xr_op rfl rfl (xv_pick rfl rfl ?_)
      refine xr_op rfl rfl (xv_move rfl ?_)
      refine xr_no rfl rfl rfl rfl ?_
      refine xr_no rfl rfl rfl rfl ?_
      refine xr_no rfl rfl rfl rfl ?_
      refine xr_op rfl rfl (xv_pick rfl rfl ?_)
      refine xr_op rfl rfl (xv_move rfl ?_)
      refine xr_no rfl rfl rfl rfl ?_
      refine xr_no rfl rfl rfl rfl ?_
      refine xr_no rfl rfl rfl rfl ?_
      refine xr_no rfl rfl rfl rfl ?_
      refine xr_op rfl rfl (xv_pick rfl rfl ?_)
      refine xr_op rfl rfl (xv_move rfl ?_)
      refine xr_no rfl rfl rfl rfl ?_
      refine xr_no rfl rfl rfl rfl ?_
      refine xr_no rfl rfl rfl rfl ?_
      refine xr_op rfl rfl (xv_pick rfl rfl ?_)
      refine xr_end rfl ?_
      refine th_n ?_
      refine xc_true rfl ?_
      refine xc_seq (xc_region ?_)
      refine xr_op rfl rfl (xv_calls rfl hb6 (awake_c (up_ret ?_)))
      refine xr_op rfl rfl (xv_assign rfl ?_)
      refine xr_end rfl ?_
      refine th_n ?_
      refine xc_ret ?_
      refine th_r ?_
      refine body_ret (h' := h) rfl (ro_tmp rfl ro_nil) Su_ ?_
      exact H
    · refine xr_op rfl rfl (xv_pick rfl rfl ?_)
      refine xr_op rfl rfl (xv_move rfl ?_)
      refine xr_gd rfl rfl rfl (xv_loadA ty25 rfl rfl Me_ Ev_ (by rfl) ?_)
      refine xr_gd rfl rfl rfl (xv_calls rfl hb4 (Coal.Yard_c (hy.sub (by intro z9 hz9; ((repeat first|exact z_0|assumption|refine z_1 ?_|(refine z_l ?_;(repeat first|exact z_0|assumption|refine z_1 ?_);done)|refine z_r ?_);done))) ⟨(show y.coals.length ≤ 1000 by omega), (show y.moves.length ≤ 1000 by omega)⟩ (fun hgy => up_ret ?_) (fun hng => up_ret ?_)))
      · refine xr_gd rfl rfl rfl (xv_not rfl ?_)
        refine xr_op rfl rfl (xv_pick rfl rfl ?_)
        refine xr_op rfl rfl (xv_move rfl ?_)
        refine xr_gd rfl rfl rfl (xv_faddr fl30_0 rfl ?_)
        refine xr_gd rfl rfl rfl (xv_load1 ty26 rfl rfl Me_ (by rfl) ?_)
        refine xr_gd rfl rfl rfl (xv_len sl26 rfl ?_)
        refine xr_gd rfl rfl rfl (xv_lss2 rfl rfl (fun q3 => ?_) (fun q3 => ?_))
        · refine xr_op rfl rfl (xv_pick rfl rfl ?_)
          refine xr_op rfl rfl (xv_move rfl ?_)
          refine xr_no rfl rfl rfl rfl ?_
          refine xr_no rfl rfl rfl rfl ?_
          refine xr_no rfl rfl rfl rfl ?_
          refine xr_op rfl rfl (xv_pick rfl rfl ?_)
          refine xr_end rfl ?_
          refine th_n ?_
          refine xc_true rfl ?_
          refine xc_seq (xc_region ?_)
          refine xr_op rfl rfl (xv_calls rfl hb6 (awake_c (up_ret ?_)))
          refine xr_op rfl rfl (xv_assign rfl ?_)
          refine xr_end rfl ?_
          refine th_n ?_
          refine xc_ret ?_
          refine th_r ?_
          refine body_ret (h' := h) rfl (ro_tmp rfl ro_nil) Su_ ?_
          exact H
        · refine xr_op rfl rfl (xv_pick rfl rfl ?_)
          refine xr_op rfl rfl (xv_move rfl ?_)
          refine xr_gd rfl rfl rfl (xv_loadA ty30 rfl rfl Me_ Ev_ (by rfl) ?_)
          refine xr_gd rfl rfl rfl (xv_calls rfl hb5 (Tar.Yards_c (hz.sub (by intro z9 hz9; ((repeat first|exact z_0|assumption|refine z_1 ?_|(refine z_l ?_;(repeat first|exact z_0|assumption|refine z_1 ?_);done)|refine z_r ?_);done))) (fun hgz => up_ret ?_) (fun hnz => up_ret ?_)))
          · refine xr_gd rfl rfl rfl (xv_not rfl ?_)
            refine xr_op rfl rfl (xv_pick rfl rfl ?_)
            refine xr_end rfl ?_
            refine th_n ?_
            refine xc_false rfl ?_
            refine xc_skip ?_
            refine th_n ?_
            refine xc_seq (xc_region ?_)
            have hzs4 := hgz.s4
            refine xr_op rfl rfl (xv_assign rfl ?_)
            refine xr_end rfl ?_
            refine th_n ?_
            refine xc_seq ?_
            refine xc_seq (xc_region ?_)
            refine xr_op rfl rfl (xv_assign rfl ?_)
            refine xr_end rfl ?_
            refine th_n ?_
            refine xc_block ?_
            refine xc_loop (σ := Nat × Int) (fun q => q.1 ≤ z.stills.length) (fun q => ((((((emp.put (some 2) (.int .u32 (an : Int))).put (some 3) (.int .u32 (bn : Int))).put (some 4) (.pointer (some ⟨bY, 0, none⟩))).put (some 5) (.pointer (some ⟨bZ, 0, none⟩))).put (some 9) (I q.2)).put (some 10) (I q.1))) (fun q => ((bZ, .cells ⟨Tar.eYard z⟩ 30 (0, 0)) :: (bY, .cells ⟨Coal.eYard y⟩ 25 (0, 0)) :: h)) (fun q => z.stills.length - q.1) ((0, 1) : Nat × Int) (Nat.zero_le _) (le_put (le_put (le_put (le_put (le_put (le_put (le_emp _) rfl) rfl) rfl) rfl) rfl) rfl) Su_ ?_
            rintro ⟨k, m⟩ hk
            dsimp only at hk
            refine xc_seq ?_
            refine xc_seq (xc_region ?_)
            refine xr_op rfl rfl (xv_move rfl ?_)
            refine xr_op rfl rfl (xv_faddr fl30_1 rfl ?_)
            refine xr_op rfl rfl (xv_load1 ty27 rfl rfl Me_ (by rfl) ?_)
            refine xr_op rfl rfl (xv_len sl27 rfl ?_)
            refine xr_op rfl rfl (xv_lss2 rfl rfl (fun q4 => ?_) (fun q4 => ?_))
            · refine xr_end rfl ?_
              refine th_n ?_
              refine xc_true rfl ?_
              refine xc_skip ?_
              refine th_n ?_
              refine xc_seq ?_
              refine xc_block ?_
              refine xc_region ?_
              have hlto : k < z.stills.length := by (first|omega|(dsimp only at *;omega)|(simp at *;omega))
              obtain ⟨bo, oo, lo, to, fzo, hao, hmo, hxo⟩ := (hz.stills).at hlto
              obtain ⟨xo, hko⟩ : ∃ qq_, z.stills[k]? = some qq_ := ⟨_, List.getElem?_eq_getElem hlto⟩
              have hmo := (hgz.stills k xo hko).2.2.2.2.1
              refine xr_op rfl rfl (xv_move rfl ?_)
              refine xr_op rfl rfl (xv_faddr fl30_1 rfl ?_)
              refine xr_op rfl rfl (xv_load1 ty27 rfl rfl Me_ (by rfl) ?_)
              refine xr_op rfl rfl (xv_move rfl ?_)
              refine xr_op rfl rfl (xv_ia (sz := 5) (j := k) sl27 ty37 rfl (by rw [hao]; rfl) rfl Ix_ Om_ Om_ ?_)
              refine xr_op rfl rfl (xv_faddr fl37_4 rfl ?_)
              refine xr_op rfl rfl (xv_load1 ty3 rfl rfl Me_ (take_get (hxo (k) xo hko) (j := 4) rfl) ?_)
              refine xr_op rfl rfl (xv_add rfl rfl (wrap_i64 Om_ Om_) ?_)
              refine xr_op rfl rfl (xv_mul rfl rfl rfl ?_)
              refine xr_op rfl rfl (xv_assign rfl ?_)
              refine xr_end rfl ?_
              refine bk_n ?_
              refine th_n ?_
              refine xc_region ?_
              refine xr_op rfl rfl (xv_move rfl ?_)
              refine xr_op rfl rfl (xv_add rfl rfl (wrap_i64 Om_ Om_) ?_)
              refine xr_op rfl rfl (xv_assign rfl ?_)
              refine xr_end rfl ?_
              exact rnd ((k + 1, IntKind.i64.wrap (m * (1 + xo.most))) : Nat × Int) (by dsimp only; (first|omega|(dsimp only at *;omega)|(simp at *;omega))) Om_ (le_put (le_put (le_put (le_put (le_put (le_put (le_emp _) rfl) rfl) rfl) rfl) rfl) rfl) Su_
            · refine xr_end rfl ?_
              refine th_n ?_
              refine xc_false rfl ?_
              refine xc_exit ?_
              refine th_x ?_
              refine th_x ?_
              refine bk_same ?_
              refine th_n ?_
              refine xc_seq (xc_region ?_)
              refine xr_op rfl rfl (xv_loadA ty25 rfl rfl Me_ Ev_ (by rfl) ?_)
              refine xr_op rfl rfl (xv_calls rfl hb7 (Coal.Parts_c (hy.sub (by intro z9 hz9; ((repeat first|exact z_0|assumption|refine z_1 ?_|(refine z_l ?_;(repeat first|exact z_0|assumption|refine z_1 ?_);done)|refine z_r ?_);done))) rfl hgy.2.1 (by omega) (by omega) (fun hpn => up_ret ?_) (fun hds V P hP hV hS => up_ret ?_)))
              · refine xr_op rfl rfl (xv_move rfl ?_)
                refine xr_op rfl rfl (xv_extract rfl rfl ?_)
                refine xr_op rfl rfl (xv_extract rfl rfl ?_)
                refine xr_op rfl rfl (xv_assign rfl ?_)
                refine xr_op rfl rfl (xv_assign rfl ?_)
                refine xr_end rfl ?_
                refine th_n ?_
                refine xc_seq ?_
                refine xc_seq (xc_region ?_)
                refine xr_op rfl rfl (xv_move rfl ?_)
                refine xr_op rfl rfl (xv_gtr2 rfl rfl (fun q5 => ?_) (fun q5 => ?_))
                · refine xr_op rfl rfl (xv_move rfl ?_)
                  refine xr_no rfl rfl rfl rfl ?_
                  refine xr_no rfl rfl rfl rfl ?_
                  refine xr_op rfl rfl (xv_pick rfl rfl ?_)
                  refine xr_op rfl rfl (xv_move rfl ?_)
                  refine xr_no rfl rfl rfl rfl ?_
                  refine xr_no rfl rfl rfl rfl ?_
                  refine xr_no rfl rfl rfl rfl ?_
                  refine xr_op rfl rfl (xv_pick rfl rfl ?_)
                  refine xr_end rfl ?_
                  refine th_n ?_
                  refine xc_true rfl ?_
                  refine xc_seq (xc_region ?_)
                  refine xr_op rfl rfl (xv_calls rfl hb6 (awake_c (up_ret ?_)))
                  refine xr_op rfl rfl (xv_assign rfl ?_)
                  refine xr_end rfl ?_
                  refine th_n ?_
                  refine xc_ret ?_
                  refine th_r ?_
                  refine body_ret (h' := h) rfl (ro_tmp rfl ro_nil) Su_ ?_
                  exact H
                · refine xr_op rfl rfl (xv_move rfl ?_)
                  refine xr_gd rfl rfl rfl (xv_move rfl ?_)
                  refine xr_gd rfl rfl rfl (xv_not rfl ?_)
                  refine xr_op rfl rfl (xv_pick rfl rfl ?_)
                  refine xr_op rfl rfl (xv_move rfl ?_)
                  refine xr_no rfl rfl rfl rfl ?_
                  refine xr_no rfl rfl rfl rfl ?_
                  refine xr_no rfl rfl rfl rfl ?_
                  refine xr_op rfl rfl (xv_pick rfl rfl ?_)
                  refine xr_end rfl ?_
                  refine th_n ?_
                  refine xc_true rfl ?_
                  refine xc_seq (xc_region ?_)
                  refine xr_op rfl rfl (xv_calls rfl hb6 (awake_c (up_ret ?_)))
                  refine xr_op rfl rfl (xv_assign rfl ?_)
                  refine xr_end rfl ?_
                  refine th_n ?_
                  refine xc_ret ?_
                  refine th_r ?_
                  refine body_ret (h' := h) rfl (ro_tmp rfl ro_nil) Su_ ?_
                  exact H
              · refine xr_op rfl rfl (xv_move rfl ?_)
                refine xr_op rfl rfl (xv_extract rfl rfl ?_)
                refine xr_op rfl rfl (xv_extract rfl rfl ?_)
                refine xr_op rfl rfl (xv_assign rfl ?_)
                refine xr_op rfl rfl (xv_assign rfl ?_)
                refine xr_end rfl ?_
                refine th_n ?_
                refine xc_seq ?_
                refine xc_seq (xc_region ?_)
                rw [Vec.val_ad hV]
                have hvs : Coal.vecsR y = some (hds.map Coal.Hd.m) := hP.is
                refine xr_op rfl rfl (xv_move rfl ?_)
                refine xr_op rfl rfl (xv_gtr2 rfl rfl (fun q6 => ?_) (fun q6 => ?_))
                · refine xr_op rfl rfl (xv_move rfl ?_)
                  refine xr_no rfl rfl rfl rfl ?_
                  refine xr_no rfl rfl rfl rfl ?_
                  refine xr_op rfl rfl (xv_pick rfl rfl ?_)
                  refine xr_op rfl rfl (xv_move rfl ?_)
                  refine xr_no rfl rfl rfl rfl ?_
                  refine xr_no rfl rfl rfl rfl ?_
                  refine xr_no rfl rfl rfl rfl ?_
                  refine xr_op rfl rfl (xv_pick rfl rfl ?_)
                  refine xr_end rfl ?_
                  refine th_n ?_
                  refine xc_true rfl ?_
                  refine xc_seq (xc_region ?_)
                  refine xr_op rfl rfl (xv_calls rfl hb6 (awake_c (up_ret ?_)))
                  refine xr_op rfl rfl (xv_assign rfl ?_)
                  refine xr_end rfl ?_
                  refine th_n ?_
                  refine xc_ret ?_
                  refine th_r ?_
                  refine body_ret (h' := h) rfl (ro_tmp rfl ro_nil) Su_ ?_
                  exact H
                · refine xr_op rfl rfl (xv_move rfl ?_)
                  refine xr_gd rfl rfl rfl (xv_move rfl ?_)
                  refine xr_gd rfl rfl rfl (xv_not rfl ?_)
                  refine xr_op rfl rfl (xv_pick rfl rfl ?_)
                  refine xr_op rfl rfl (xv_move rfl ?_)
                  refine xr_gd rfl rfl rfl (xv_move rfl ?_)
                  refine xr_gd rfl rfl rfl (xv_len sl38 rfl ?_)
                  refine xr_gd rfl rfl rfl (xv_eql2 rfl rfl (fun q7 => ?_) (fun q7 => ?_))
                  · refine xr_op rfl rfl (xv_pick rfl rfl ?_)
                    refine xr_end rfl ?_
                    refine th_n ?_
                    refine xc_true rfl ?_
                    refine xc_seq (xc_region ?_)
                    refine xr_op rfl rfl (xv_calls rfl hb6 (awake_c (up_ret ?_)))
                    refine xr_op rfl rfl (xv_assign rfl ?_)
                    refine xr_end rfl ?_
                    refine th_n ?_
                    refine xc_ret ?_
                    refine th_r ?_
                    refine body_ret (h' := h) rfl (ro_tmp rfl ro_nil) Su_ ?_
                    exact H
                  · refine xr_op rfl rfl (xv_pick rfl rfl ?_)
                    refine xr_end rfl ?_
                    refine th_n ?_
                    refine xc_false rfl ?_
                    refine xc_skip ?_
                    refine th_n ?_
                    refine xc_seq (xc_region ?_)
                    have hdl : 0 < hds.length := by omega
                    have hfw := hP.few
                    rw [List.length_map] at hfw
                    obtain ⟨lo1, hi1, ey1, hn1, hl1⟩ := Coal.yield_all (w := 1) hgy hvs (by intro hq; rw [List.map_eq_nil_iff] at hq; subst hq; simp at hdl) (by decide) (by decide)
                    obtain ⟨lo2, hi2, ey2, hn2, hl2⟩ := Coal.yield_all (w := 3) hgy hvs (by intro hq; rw [List.map_eq_nil_iff] at hq; subst hq; simp at hdl) (by decide) (by decide)
                    rw [List.length_map] at ey1 ey2
                    refine xr_op rfl rfl (xv_loadA ty25 rfl rfl Me_ Ev_ (by rfl) ?_)
                    refine xr_op rfl rfl (xv_move rfl ?_)
                    refine xr_op rfl rfl (xv_len sl38 rfl ?_)
                    refine xr_op rfl rfl (xv_sub rfl rfl (wrap_i64 Om_ Om_) ?_)
                    refine xr_op rfl rfl (xv_calls rfl hb8 (YieldA_c (hy.sub (by intro z9 hz9; ((repeat first|exact z_0|assumption|refine z_1 ?_|(refine z_l ?_;(repeat first|exact z_0|assumption|refine z_1 ?_);done)|refine z_r ?_);done))) ⟨(show y.coals.length ≤ 1000 by omega), (show y.moves.length ≤ 1000 by omega)⟩ ey1 (up_ret ?_)))
                    refine xr_op rfl rfl (xv_move rfl ?_)
                    refine xr_op rfl rfl (xv_extract rfl rfl ?_)
                    refine xr_op rfl rfl (xv_extract rfl rfl ?_)
                    refine xr_op rfl rfl (xv_alloc ty42 (fun bA hbA => ?_))
                    refine xr_op rfl rfl (xv_s ty42 rfl rfl Up_ Ev_ (by rfl) (by rfl) (by rfl) Ev_ ?_)
                    refine xr_op rfl rfl (xv_assign rfl ?_)
                    refine xr_end rfl ?_
                    refine th_n ?_
                    refine xc_seq (xc_region ?_)
                    refine xr_op rfl rfl (xv_loadA ty25 rfl rfl Me_ Ev_ (by rfl) ?_)
                    refine xr_op rfl rfl (xv_move rfl ?_)
                    refine xr_op rfl rfl (xv_len sl38 rfl ?_)
                    refine xr_op rfl rfl (xv_sub rfl rfl (wrap_i64 Om_ Om_) ?_)
                    refine xr_op rfl rfl (xv_calls rfl hb8 (YieldA_c (hy.sub (by intro z9 hz9; ((repeat first|exact z_0|assumption|refine z_1 ?_|(refine z_l ?_;(repeat first|exact z_0|assumption|refine z_1 ?_);done)|refine z_r ?_);done))) ⟨(show y.coals.length ≤ 1000 by omega), (show y.moves.length ≤ 1000 by omega)⟩ ey2 (up_ret ?_)))
                    refine xr_op rfl rfl (xv_move rfl ?_)
                    refine xr_op rfl rfl (xv_extract rfl rfl ?_)
                    refine xr_op rfl rfl (xv_extract rfl rfl ?_)
                    refine xr_op rfl rfl (xv_alloc ty42 (fun bC hbC => ?_))
                    refine xr_op rfl rfl (xv_s ty42 rfl rfl Up_ Ev_ (by rfl) (by rfl) (by rfl) Ev_ ?_)
                    refine xr_op rfl rfl (xv_assign rfl ?_)
                    refine xr_end rfl ?_
                    refine th_n ?_
                    refine xc_seq ?_
                    refine xc_seq (xc_region ?_)
                    refine xr_op rfl rfl (xv_move rfl ?_)
                    refine xr_op rfl rfl (xv_neqF rfl rfl rfl ?_)
                    refine xr_op rfl rfl (xv_move rfl ?_)
                    refine xr_gd rfl rfl rfl (xv_move rfl ?_)
                    refine xr_gd rfl rfl rfl (xv_neqF rfl rfl rfl ?_)
                    refine xr_op rfl rfl (xv_pick rfl rfl ?_)
                    refine xr_op rfl rfl (xv_move rfl ?_)
                    refine xr_gd rfl rfl rfl (xv_faddr fl42_0 rfl ?_)
                    refine xr_gd rfl rfl rfl (xv_load1 ty3 rfl rfl Me_ (by rfl) ?_)
                    refine xr_gd rfl rfl rfl (xv_cmpK rfl rfl (cmpF rfl (by simp only [cmpP]; (first|omega|(dsimp only at *;omega)|(simp at *;omega)))) ?_)
                    refine xr_op rfl rfl (xv_pick rfl rfl ?_)
                    refine xr_op rfl rfl (xv_move rfl ?_)
                    refine xr_gd rfl rfl rfl (xv_faddr fl42_0 rfl ?_)
                    refine xr_gd rfl rfl rfl (xv_load1 ty3 rfl rfl Me_ (by rfl) ?_)
                    refine xr_gd rfl rfl rfl (xv_faddr fl42_1 rfl ?_)
                    refine xr_gd rfl rfl rfl (xv_load1 ty3 rfl rfl Me_ (by rfl) ?_)
                    refine xr_gd rfl rfl rfl (xv_cmpK rfl rfl (cmpF rfl (by simp only [cmpP]; (first|omega|(dsimp only at *;omega)|(simp at *;omega)))) ?_)
                    refine xr_op rfl rfl (xv_pick rfl rfl ?_)
                    refine xr_op rfl rfl (xv_move rfl ?_)
                    refine xr_gd rfl rfl rfl (xv_faddr fl42_0 rfl ?_)
                    refine xr_gd rfl rfl rfl (xv_load1 ty3 rfl rfl Me_ (by rfl) ?_)
                    refine xr_gd rfl rfl rfl (xv_cmpK rfl rfl (cmpF rfl (by simp only [cmpP]; (first|omega|(dsimp only at *;omega)|(simp at *;omega)))) ?_)
                    refine xr_op rfl rfl (xv_pick rfl rfl ?_)
                    refine xr_op rfl rfl (xv_move rfl ?_)
                    refine xr_gd rfl rfl rfl (xv_faddr fl42_0 rfl ?_)
                    refine xr_gd rfl rfl rfl (xv_load1 ty3 rfl rfl Me_ (by rfl) ?_)
                    refine xr_gd rfl rfl rfl (xv_faddr fl42_1 rfl ?_)
                    refine xr_gd rfl rfl rfl (xv_load1 ty3 rfl rfl Me_ (by rfl) ?_)
                    refine xr_gd rfl rfl rfl (xv_cmpK rfl rfl (cmpF rfl (by simp only [cmpP]; (first|omega|(dsimp only at *;omega)|(simp at *;omega)))) ?_)
                    refine xr_op rfl rfl (xv_pick rfl rfl ?_)
                    refine xr_end rfl ?_
                    refine th_n ?_
                    refine xc_false rfl ?_
                    refine xc_skip ?_
                    refine th_n ?_
                    refine xc_seq ?_
                    refine xc_seq (xc_region ?_)
                    refine xr_op rfl rfl (xv_faddr fl42_1 rfl ?_)
                    refine xr_op rfl rfl (xv_load1 ty3 rfl rfl Me_ (by rfl) ?_)
                    refine xr_op rfl rfl (xv_gtr2 rfl rfl (fun q8 => ?_) (fun q8 => ?_))
                    · refine xr_op rfl rfl (xv_move rfl ?_)
                      refine xr_no rfl rfl rfl rfl ?_
                      refine xr_no rfl rfl rfl rfl ?_
                      refine xr_no rfl rfl rfl rfl ?_
                      refine xr_op rfl rfl (xv_pick rfl rfl ?_)
                      refine xr_end rfl ?_
                      refine th_n ?_
                      refine xc_true rfl ?_
                      refine xc_seq (xc_region ?_)
                      refine xr_op rfl rfl (xv_calls rfl hb6 (awake_c (up_ret ?_)))
                      refine xr_op rfl rfl (xv_assign rfl ?_)
                      refine xr_end rfl ?_
                      refine th_n ?_
                      refine xc_ret ?_
                      refine th_r ?_
                      refine body_ret (h' := h) rfl (ro_tmp rfl ro_nil) Su_ ?_
                      exact H
                    · refine xr_op rfl rfl (xv_move rfl ?_)
                      refine xr_gd rfl rfl rfl (xv_faddr fl42_1 rfl ?_)
                      refine xr_gd rfl rfl rfl (xv_load1 ty3 rfl rfl Me_ (by rfl) ?_)
                      refine xr_gd rfl rfl rfl (xv_gtr2 rfl rfl (fun q9 => ?_) (fun q9 => ?_))
                      · refine xr_op rfl rfl (xv_pick rfl rfl ?_)
                        refine xr_end rfl ?_
                        refine th_n ?_
                        refine xc_true rfl ?_
                        refine xc_seq (xc_region ?_)
                        refine xr_op rfl rfl (xv_calls rfl hb6 (awake_c (up_ret ?_)))
                        refine xr_op rfl rfl (xv_assign rfl ?_)
                        refine xr_end rfl ?_
                        refine th_n ?_
                        refine xc_ret ?_
                        refine th_r ?_
                        refine body_ret (h' := h) rfl (ro_tmp rfl ro_nil) Su_ ?_
                        exact H
                      · refine xr_op rfl rfl (xv_pick rfl rfl ?_)
                        refine xr_end rfl ?_
                        refine th_n ?_
                        refine xc_false rfl ?_
                        refine xc_skip ?_
                        refine th_n ?_
                        refine xc_seq ?_
                        refine xc_drawX0 [(1, [(bZ, fun o => o = .cells ⟨Tar.eYard z⟩ 30 (0, 0))])] [(0, .R), (1, .S), (2, .P), (3, .P), (2, .A), (3, .A), (4, .O), (5, .O)] mixed (by kernel_rfl) (iv_cons (holds1 Me_ rfl) iv_nil) ?_
                        have hzn := hgz.n6
                        obtain ⟨r1, hr1⟩ : ∃ r, (an : Int) % (hi1 - lo1 + 1) = r := ⟨_, rfl⟩
                        obtain ⟨r2, hr2⟩ : ∃ r, (bn : Int) % (hi2 - lo2 + 1) = r := ⟨_, rfl⟩
                        have hr1b : 0 ≤ r1 ∧ r1 < hi1 - lo1 + 1 := by rw [← hr1]; exact ⟨Int.emod_nonneg _ (by omega), Int.emod_lt_of_pos _ (by omega)⟩
                        have hr2b : 0 ≤ r2 ∧ r2 < hi2 - lo2 + 1 := by rw [← hr2]; exact ⟨Int.emod_nonneg _ (by omega), Int.emod_lt_of_pos _ (by omega)⟩
                        refine jx_R rfl rfl (.inl rfl) (xv_loadA ty30 rfl rfl Me_ Ev_ (by rfl) ⟨rfl, rfl⟩) ?_
                        refine jx_I rfl rfl (.inl rfl) (fun hh hv => by have hv2 : Holds [(bZ, fun o => o = .cells ⟨Tar.eYard z⟩ 30 (0, 0))] hh := hv; obtain ⟨o9, hm9, e9⟩ := hv2 _ _ List.mem_cons_self; subst e9; exact xv_loadA ty30 rfl rfl hm9 rfl rfl ⟨rfl, rfl⟩) ?_
                        refine jx_P rfl rfl rfl (al_alloc ty30) ?_
                        refine jx_P rfl rfl rfl (al_alloc ty30) ?_
                        refine jx_A rfl rfl rfl rfl rfl trivial (fun bU hbU => ?_)
                        refine jx_A rfl rfl rfl rfl rfl trivial (fun bW hbW => ?_)
                        refine jx_O rfl rfl (.inl rfl) (xv_s ty30 rfl rfl Up_ Ev_ (by rfl) (by rfl) (by rfl) Ev_ ?_)
                        refine ⟨(kp_in (holds1 Me_ rfl) kp_nil), ?_⟩
                        refine jx_O rfl rfl (.inl rfl) (xv_s ty30 rfl rfl Up_ Ev_ (by rfl) (by rfl) (by rfl) Ev_ ?_)
                        refine ⟨(kp_go (by kernel_rfl) kp_nil), ?_⟩
                        refine jx_end ?_
                        refine th_n ?_
                        refine xc_seq ?_
                        refine xc_drawX0 [(6, [(bZ, fun o => o = .cells ⟨Tar.eYard z⟩ 30 (0, 0))])] [(0, .P), (1, .S), (2, .R), (4, .P), (5, .S), (6, .S), (0, .A), (3, .O), (8, .S), (4, .A), (7, .O), (9, .O), (10, .S), (11, .O)] mixed (by kernel_rfl) (iv_cons (holds1 Me_ rfl) iv_nil) ?_
                        refine jx_P rfl rfl rfl (al_buildSlice sl26 ty3 rfl rfl rfl rfl rfl Ev_) ?_
                        refine jx_S rfl rfl (.inl rfl) (xv_faddr fl30_0 rfl ⟨rfl, rfl⟩) ?_
                        refine jx_R rfl rfl (.inl rfl) (xv_load1 ty26 rfl rfl Me_ (by rfl) ⟨rfl, rfl⟩) ?_
                        refine jx_P rfl rfl rfl (al_buildSlice sl26 ty3 rfl rfl rfl rfl rfl Ev_) ?_
                        refine jx_S rfl rfl (.inl rfl) (xv_faddr fl30_0 rfl ⟨rfl, rfl⟩) ?_
                        refine jx_I rfl rfl (.inl rfl) (fun hh hv => by have hv2 : Holds [(bZ, fun o => o = .cells ⟨Tar.eYard z⟩ 30 (0, 0))] hh := hv; obtain ⟨o9, hm9, e9⟩ := hv2 _ _ List.mem_cons_self; subst e9; exact xv_load1 ty26 rfl rfl hm9 rfl ⟨rfl, rfl⟩) ?_
                        refine jx_A rfl rfl rfl rfl rfl trivial (fun b57 hb57 => ?_)
                        refine jx_O rfl rfl (.inl rfl) (xv_dupP (enc := Tar.eI) (ys := z.stock) sl26 ty3 rfl rfl rfl rfl rfl (hz.stock.sub (by intro z9 hz9; ((repeat first|exact z_0|assumption|refine z_1 ?_|(refine z_l ?_;(repeat first|exact z_0|assumption|refine z_1 ?_);done)|refine z_r ?_);done))) Tar.eI_len eI1 (by simp only []; omega) (by omega) (by omega) (fun bS cS spS => ?_))
                        refine ⟨(kp_in (holds1 Me_ rfl) kp_nil), ?_⟩
                        refine jx_S rfl rfl (.inl rfl) (xv_faddr fl30_0 rfl ⟨rfl, rfl⟩) ?_
                        refine jx_A rfl rfl rfl rfl rfl trivial (fun b58 hb58 => ?_)
                        refine jx_O rfl rfl (.inl rfl) (xv_dupP (enc := Tar.eI) (ys := z.stock) sl26 ty3 rfl rfl rfl rfl rfl (hz.stock.sub (by intro z9 hz9; ((repeat first|exact z_0|assumption|refine z_1 ?_|(refine z_l ?_;(repeat first|exact z_0|assumption|refine z_1 ?_);done)|refine z_r ?_);done))) Tar.eI_len eI1 (by simp only []; omega) (by omega) (by omega) (fun bT cT spT => ?_))
                        refine ⟨(kp_go (by kernel_rfl) kp_nil), ?_⟩
                        refine jx_O rfl rfl (.inl rfl) (xv_s1 ty26 rfl rfl rfl Up_ One_ Len_ Ev_ ?_)
                        refine ⟨(kp_go (by kernel_rfl) kp_nil), ?_⟩
                        refine jx_S rfl rfl (.inl rfl) (xv_faddr fl30_0 rfl ⟨rfl, rfl⟩) ?_
                        refine jx_O rfl rfl (.inl rfl) (xv_s1 ty26 rfl rfl rfl Up_ One_ Len_ Ev_ ?_)
                        refine ⟨(kp_go (by kernel_rfl) kp_nil), ?_⟩
                        refine jx_end ?_
                        refine th_n ?_
                        refine xc_seq ?_
                        refine xc_drawX0 [(3, [(bU, fun o => o = .cells ⟨[.slice (some ⟨bS, 0, none⟩) z.stock.length cS, .slice z.ta z.stills.length z.tc, .slice z.la z.sales.length z.lc]⟩ 30 (0, 0))]), (7, [(bC, fun o => o = .cells ⟨[I lo2, I hi2]⟩ 42 (0, 0))])] [(0, .S), (1, .R), (2, .S), (3, .S), (4, .S), (5, .R), (6, .S), (7, .S), (8, .S), (9, .O), (10, .S), (11, .O)] mixed (by kernel_rfl) (iv_cons (holds1 Me_ rfl) (iv_cons (holds1 Me_ rfl) iv_nil)) ?_
                        refine jx_S rfl rfl (.inl rfl) (xv_faddr fl30_0 rfl ⟨rfl, rfl⟩) ?_
                        refine jx_R rfl rfl (.inl rfl) (xv_load1 ty26 rfl rfl Me_ (by rfl) ⟨rfl, rfl⟩) ?_
                        refine jx_S rfl rfl (.inl rfl) (xv_faddr fl30_0 rfl ⟨rfl, rfl⟩) ?_
                        refine jx_I rfl rfl (.inl rfl) (fun hh hv => by have hv2 : Holds [(bU, fun o => o = .cells ⟨[.slice (some ⟨bS, 0, none⟩) z.stock.length cS, .slice z.ta z.stills.length z.tc, .slice z.la z.sales.length z.lc]⟩ 30 (0, 0))] hh := hv; obtain ⟨o9, hm9, e9⟩ := hv2 _ _ List.mem_cons_self; subst e9; exact xv_load1 ty26 rfl rfl hm9 rfl ⟨rfl, rfl⟩) ?_
                        refine jx_S rfl rfl (.inl rfl) (xv_faddr fl42_0 rfl ⟨rfl, rfl⟩) ?_
                        refine jx_R rfl rfl (.inl rfl) (xv_load1 ty3 rfl rfl Me_ (by rfl) ⟨rfl, rfl⟩) ?_
                        refine jx_S rfl rfl (.inl rfl) (xv_faddr fl42_0 rfl ⟨rfl, rfl⟩) ?_
                        refine jx_I rfl rfl (.inl rfl) (fun hh hv => by have hv2 : Holds [(bC, fun o => o = .cells ⟨[I lo2, I hi2]⟩ 42 (0, 0))] hh := hv; obtain ⟨o9, hm9, e9⟩ := hv2 _ _ List.mem_cons_self; subst e9; exact xv_load1 ty3 rfl rfl hm9 rfl ⟨rfl, rfl⟩) ?_
                        refine jx_S rfl rfl (.inl rfl) (xv_ia (sz := 1) (j := 0) sl26 ty3 rfl rfl rfl rfl Om_ Om_ ⟨rfl, rfl⟩) ?_
                        refine jx_O rfl rfl (.inl rfl) (xv_s1 ty3 rfl rfl rfl Up_ rfl (Tar.len_ints (by omega)) (Tar.ints_set (by omega)) ?_)
                        refine ⟨(kp_in (holds1 Me_ rfl) (kp_in (holds1 Me_ rfl) kp_nil)), ?_⟩
                        refine jx_S rfl rfl (.inl rfl) (xv_ia (sz := 1) (j := 1) sl26 ty3 rfl rfl rfl rfl Om_ Om_ ⟨rfl, rfl⟩) ?_
                        refine jx_O rfl rfl (.inl rfl) (xv_s1 ty3 rfl rfl rfl Up_ rfl (Tar.len_ints (by rw [List.length_set]; omega)) (Tar.ints_set (by rw [List.length_set]; omega)) ?_)
                        refine ⟨(kp_go (by kernel_rfl) (kp_go (by kernel_rfl) kp_nil)), ?_⟩
                        refine jx_end ?_
                        refine th_n ?_
                        refine xc_seq ?_
                        refine xc_drawX0 [(3, [(bW, fun o => o = .cells ⟨[.slice (some ⟨bT, 0, none⟩) z.stock.length cT, .slice z.ta z.stills.length z.tc, .slice z.la z.sales.length z.lc]⟩ 30 (0, 0))]), (17, [(bC, fun o => o = .cells ⟨[I lo2, I hi2]⟩ 42 (0, 0))]), (21, [(bC, fun o => o = .cells ⟨[I lo2, I hi2]⟩ 42 (0, 0))]), (23, [(bC, fun o => o = .cells ⟨[I lo2, I hi2]⟩ 42 (0, 0))])] [(0, .S), (1, .R), (2, .S), (3, .S), (4, .S), (5, .R), (6, .S), (7, .S), (8, .S), (9, .R), (10, .S), (11, .R), (12, .S), (13, .S), (14, .S), (15, .S), (16, .S), (17, .S), (18, .S), (19, .S), (20, .S), (21, .S), (22, .S), (23, .S), (24, .S), (25, .S), (26, .S), (27, .S), (28, .S), (29, .O), (30, .S), (31, .O)] mixed (by kernel_rfl) (iv_cons (holds1 Me_ rfl) (iv_cons (holds1 Me_ rfl) (iv_cons (holds1 Me_ rfl) (iv_cons (holds1 Me_ rfl) iv_nil)))) ?_
                        refine jx_S rfl rfl (.inl rfl) (xv_faddr fl30_0 rfl ⟨rfl, rfl⟩) ?_
                        refine jx_R rfl rfl (.inl rfl) (xv_load1 ty26 rfl rfl Me_ (by rfl) ⟨rfl, rfl⟩) ?_
                        refine jx_S rfl rfl (.inl rfl) (xv_faddr fl30_0 rfl ⟨rfl, rfl⟩) ?_
                        refine jx_I rfl rfl (.inl rfl) (fun hh hv => by have hv2 : Holds [(bW, fun o => o = .cells ⟨[.slice (some ⟨bT, 0, none⟩) z.stock.length cT, .slice z.ta z.stills.length z.tc, .slice z.la z.sales.length z.lc]⟩ 30 (0, 0))] hh := hv; obtain ⟨o9, hm9, e9⟩ := hv2 _ _ List.mem_cons_self; subst e9; exact xv_load1 ty26 rfl rfl hm9 rfl ⟨rfl, rfl⟩) ?_
                        refine jx_S rfl rfl (.inl rfl) (xv_faddr fl42_0 rfl ⟨rfl, rfl⟩) ?_
                        refine jx_R rfl rfl (.inl rfl) (xv_load1 ty3 rfl rfl Me_ (by rfl) ⟨rfl, rfl⟩) ?_
                        refine jx_S rfl rfl (.inl rfl) (xv_move rfl ⟨rfl, rfl⟩) ?_
                        refine jx_S rfl rfl (.inl rfl) (xv_convI Try.underlying31 Try.underlying3 rfl (wrap_i64 Om_ Om_) ⟨rfl, rfl⟩) ?_
                        refine jx_S rfl rfl (.inl rfl) (xv_faddr fl42_1 rfl ⟨rfl, rfl⟩) ?_
                        refine jx_R rfl rfl (.inl rfl) (xv_load1 ty3 rfl rfl Me_ (by rfl) ⟨rfl, rfl⟩) ?_
                        refine jx_S rfl rfl (.inl rfl) (xv_faddr fl42_0 rfl ⟨rfl, rfl⟩) ?_
                        refine jx_R rfl rfl (.inl rfl) (xv_load1 ty3 rfl rfl Me_ (by rfl) ⟨rfl, rfl⟩) ?_
                        refine jx_S rfl rfl (.inl rfl) (xv_sub rfl rfl (wrap_i64 Om_ Om_) ⟨rfl, rfl⟩) ?_
                        refine jx_S rfl rfl (.inl rfl) (xv_add rfl rfl (wrap_i64 Om_ Om_) ⟨rfl, rfl⟩) ?_
                        refine jx_S rfl rfl (.inl rfl) (xv_rem (c := r1) rfl rfl (by omega) (by rw [← hr1]; exact Int.tmod_eq_emod_of_nonneg (by omega)) ⟨rfl, rfl⟩) ?_
                        refine jx_S rfl rfl (.inl rfl) (xv_add rfl rfl (wrap_i64 Om_ Om_) ⟨rfl, rfl⟩) ?_
                        refine jx_S rfl rfl (.inl rfl) (xv_faddr fl42_0 rfl ⟨rfl, rfl⟩) ?_
                        refine jx_I rfl rfl (.inl rfl) (fun hh hv => by have hv2 : Holds [(bC, fun o => o = .cells ⟨[I lo2, I hi2]⟩ 42 (0, 0))] hh := hv; obtain ⟨o9, hm9, e9⟩ := hv2 _ _ List.mem_cons_self; subst e9; exact xv_load1 ty3 rfl rfl hm9 rfl ⟨rfl, rfl⟩) ?_
                        refine jx_S rfl rfl (.inl rfl) (xv_move rfl ⟨rfl, rfl⟩) ?_
                        refine jx_S rfl rfl (.inl rfl) (xv_convI Try.underlying31 Try.underlying3 rfl (wrap_i64 Om_ Om_) ⟨rfl, rfl⟩) ?_
                        refine jx_S rfl rfl (.inl rfl) (xv_faddr fl42_1 rfl ⟨rfl, rfl⟩) ?_
                        refine jx_I rfl rfl (.inl rfl) (fun hh hv => by have hv2 : Holds [(bC, fun o => o = .cells ⟨[I lo2, I hi2]⟩ 42 (0, 0))] hh := hv; obtain ⟨o9, hm9, e9⟩ := hv2 _ _ List.mem_cons_self; subst e9; exact xv_load1 ty3 rfl rfl hm9 rfl ⟨rfl, rfl⟩) ?_
                        refine jx_S rfl rfl (.inl rfl) (xv_faddr fl42_0 rfl ⟨rfl, rfl⟩) ?_
                        refine jx_I rfl rfl (.inl rfl) (fun hh hv => by have hv2 : Holds [(bC, fun o => o = .cells ⟨[I lo2, I hi2]⟩ 42 (0, 0))] hh := hv; obtain ⟨o9, hm9, e9⟩ := hv2 _ _ List.mem_cons_self; subst e9; exact xv_load1 ty3 rfl rfl hm9 rfl ⟨rfl, rfl⟩) ?_
                        refine jx_S rfl rfl (.inl rfl) (xv_sub rfl rfl (wrap_i64 Om_ Om_) ⟨rfl, rfl⟩) ?_
                        refine jx_S rfl rfl (.inl rfl) (xv_add rfl rfl (wrap_i64 Om_ Om_) ⟨rfl, rfl⟩) ?_
                        refine jx_S rfl rfl (.inl rfl) (xv_rem (c := r2) rfl rfl (by omega) (by rw [← hr2]; exact Int.tmod_eq_emod_of_nonneg (by omega)) ⟨rfl, rfl⟩) ?_
                        refine jx_S rfl rfl (.inl rfl) (xv_add rfl rfl (wrap_i64 Om_ Om_) ⟨rfl, rfl⟩) ?_
                        refine jx_S rfl rfl (.inl rfl) (xv_ia (sz := 1) (j := 0) sl26 ty3 rfl rfl rfl rfl Om_ Om_ ⟨rfl, rfl⟩) ?_
                        refine jx_O rfl rfl (.inl rfl) (xv_s1 ty3 rfl rfl rfl Up_ rfl (Tar.len_ints (by omega)) (Tar.ints_set (by omega)) ?_)
                        refine ⟨(kp_in (holds1 Me_ rfl) (kp_in (holds1 Me_ rfl) (kp_in (holds1 Me_ rfl) (kp_in (holds1 Me_ rfl) kp_nil)))), ?_⟩
                        refine jx_S rfl rfl (.inl rfl) (xv_ia (sz := 1) (j := 1) sl26 ty3 rfl rfl rfl rfl Om_ Om_ ⟨rfl, rfl⟩) ?_
                        refine jx_O rfl rfl (.inl rfl) (xv_s1 ty3 rfl rfl rfl Up_ rfl (Tar.len_ints (by rw [List.length_set]; omega)) (Tar.ints_set (by rw [List.length_set]; omega)) ?_)
                        refine ⟨(kp_go (by kernel_rfl) (kp_go (by kernel_rfl) (kp_go (by kernel_rfl) (kp_go (by kernel_rfl) kp_nil)))), ?_⟩
                        refine jx_end ?_
                        refine th_n ?_
                        refine xc_seq (xc_region ?_)
                        have hgS : Tar.GoodYard (sy z bS cS lo1 lo2) := sy_g hgz ⟨by omega, by omega⟩ ⟨by omega, by omega⟩
                        have hgT : Tar.GoodYard (sy z bT cT (lo1 + r1) (lo2 + r2)) := sy_g hgz ⟨by omega, by omega⟩ ⟨by omega, by omega⟩
                        refine xr_op rfl rfl (xv_loadA ty30 rfl rfl Me_ Ev_ (by rfl) ?_)
                        refine xr_op rfl rfl (xv_calls rfl hb9 (Tar.PlanT_c (sy z bS cS lo1 lo2) (sy_e _ _ _ _ _) (sy_v (hz.sub (by intro z9 hz9; ((repeat first|exact z_0|assumption|refine z_1 ?_|(refine z_l ?_;(repeat first|exact z_0|assumption|refine z_1 ?_);done)|refine z_r ?_);done))) Me_) hgS (fun q1 m1 hB1 pa1 pc1 pq1 hsl1 => up_ret ?_)))
                        refine xr_op rfl rfl (xv_move rfl ?_)
                        refine xr_op rfl rfl (xv_extract rfl rfl ?_)
                        refine xr_op rfl rfl (xv_extract rfl rfl ?_)
                        refine xr_op rfl rfl (xv_extract rfl rfl ?_)
                        refine xr_op rfl rfl (xv_assign rfl ?_)
                        refine xr_op rfl rfl (xv_assign rfl ?_)
                        refine xr_op rfl rfl (xv_assign rfl ?_)
                        refine xr_end rfl ?_
                        refine th_n ?_
                        refine xc_seq (xc_region ?_)
                        obtain ⟨q9, m9, hbest9, hB9⟩ := Tar.best_is hgT
                        obtain ⟨hlT, hoT, gq, hgq, hle1, hle2⟩ := Tar.goods_ok hgS hB1 hB9 rfl rfl (sy_le (by omega) (by omega))
                        refine xr_op rfl rfl (xv_loadA ty30 rfl rfl Me_ Ev_ (by rfl) ?_)
                        refine xr_op rfl rfl (xv_move rfl ?_)
                        refine xr_op rfl rfl (xv_calls rfl hb10 (IncomeS_c (sy_e _ _ _ _ _) (sy_v (hz.sub (by intro z9 hz9; ((repeat first|exact z_0|assumption|refine z_1 ?_|(refine z_l ?_;(repeat first|exact z_0|assumption|refine z_1 ?_);done)|refine z_r ?_);done))) Me_) (hsl1.sub (by intro z9 hz9; ((repeat first|exact z_0|assumption|refine z_1 ?_|(refine z_l ?_;(repeat first|exact z_0|assumption|refine z_1 ?_);done)|refine z_r ?_);done))) rfl hgT hlT hoT hgq (fun bI => up_ret ?_)))
                        refine xr_op rfl rfl (xv_move rfl ?_)
                        refine xr_op rfl rfl (xv_extract rfl rfl ?_)
                        refine xr_op rfl rfl (xv_extract rfl rfl ?_)
                        refine xr_op rfl rfl (xv_extract rfl rfl ?_)
                        refine xr_op rfl rfl (xv_assign rfl ?_)
                        refine xr_op rfl rfl (xv_assign rfl ?_)
                        refine xr_op rfl rfl (xv_assign rfl ?_)
                        refine xr_end rfl ?_
                        refine th_n ?_
                        refine xc_seq (xc_region ?_)
                        refine xr_op rfl rfl (xv_loadA ty30 rfl rfl Me_ Ev_ (by rfl) ?_)
                        refine xr_op rfl rfl (xv_calls rfl hb9 (Tar.PlanT_c (sy z bT cT (lo1 + r1) (lo2 + r2)) (sy_e _ _ _ _ _) (sy_v (hz.sub (by intro z9 hz9; ((repeat first|exact z_0|assumption|refine z_1 ?_|(refine z_l ?_;(repeat first|exact z_0|assumption|refine z_1 ?_);done)|refine z_r ?_);done))) Me_) hgT (fun q2 m2 hB2 pa2 pc2 pq2 hsl2 => up_ret ?_)))
                        refine xr_op rfl rfl (xv_move rfl ?_)
                        refine xr_op rfl rfl (xv_extract rfl rfl ?_)
                        refine xr_op rfl rfl (xv_extract rfl rfl ?_)
                        refine xr_op rfl rfl (xv_extract rfl rfl ?_)
                        refine xr_op rfl rfl (xv_assign rfl ?_)
                        refine xr_op rfl rfl (xv_assign rfl ?_)
                        refine xr_op rfl rfl (xv_assign rfl ?_)
                        refine xr_end rfl ?_
                        refine th_n ?_
                        refine xc_seq (xc_region ?_)
                        have hm29 : m9 ≤ m2 := by obtain ⟨g9, e9, _, e92⟩ := hB9.after; rw [e92]; exact (hB2.top q9 g9 hB9.len hB9.ok e9).1
                        refine xr_op rfl rfl (xv_move rfl ?_)
                        refine xr_op rfl rfl (xv_eqlT rfl rfl rfl ?_)
                        refine xr_op rfl rfl (xv_move rfl ?_)
                        refine xr_gd rfl rfl rfl (xv_move rfl ?_)
                        refine xr_gd rfl rfl rfl (xv_eqlT rfl rfl rfl ?_)
                        refine xr_op rfl rfl (xv_pick rfl rfl ?_)
                        refine xr_op rfl rfl (xv_move rfl ?_)
                        refine xr_gd rfl rfl rfl (xv_move rfl ?_)
                        refine xr_gd rfl rfl rfl (xv_move rfl ?_)
                        refine xr_gd rfl rfl rfl (xv_cmpK rfl rfl (cmpT (by simp only [cmpP]; (first|omega|(dsimp only at *;omega)|(simp at *;omega)))) ?_)
                        refine xr_op rfl rfl (xv_pick rfl rfl ?_)
                        refine xr_op rfl rfl (xv_move rfl ?_)
                        refine xr_gd rfl rfl rfl (xv_move rfl ?_)
                        refine xr_gd rfl rfl rfl (xv_eqlT rfl rfl rfl ?_)
                        refine xr_op rfl rfl (xv_pick rfl rfl ?_)
                        refine xr_op rfl rfl (xv_move rfl ?_)
                        refine xr_gd rfl rfl rfl (xv_move rfl ?_)
                        refine xr_gd rfl rfl rfl (xv_move rfl ?_)
                        refine xr_gd rfl rfl rfl (xv_cmpK rfl rfl (cmpT (by simp only [cmpP]; (first|omega|(dsimp only at *;omega)|(simp at *;omega)))) ?_)
                        refine xr_op rfl rfl (xv_pick rfl rfl ?_)
                        refine xr_op rfl rfl (xv_move rfl ?_)
                        refine xr_gd rfl rfl rfl (xv_calls rfl hb6 (awake_c (up_ret ?_)))
                        refine xr_op rfl rfl (xv_pick rfl rfl ?_)
                        refine xr_op rfl rfl (xv_assign rfl ?_)
                        refine xr_end rfl ?_
                        refine th_n ?_
                        refine xc_ret ?_
                        refine body_ret (h' := h) rfl (ro_tmp rfl ro_nil) Su_ ?_
                        exact H
          · refine xr_gd rfl rfl rfl (xv_not rfl ?_)
            refine xr_op rfl rfl (xv_pick rfl rfl ?_)
            refine xr_end rfl ?_
            refine th_n ?_
            refine xc_true rfl ?_
            refine xc_seq (xc_region ?_)
            refine xr_op rfl rfl (xv_calls rfl hb6 (awake_c (up_ret ?_)))
            refine xr_op rfl rfl (xv_assign rfl ?_)
            refine xr_end rfl ?_
            refine th_n ?_
            refine xc_ret ?_
            refine th_r ?_
            refine body_ret (h' := h) rfl (ro_tmp rfl ro_nil) Su_ ?_
            exact H
      · refine xr_gd rfl rfl rfl (xv_not rfl ?_)
        refine xr_op rfl rfl (xv_pick rfl rfl ?_)
        refine xr_op rfl rfl (xv_move rfl ?_)
        refine xr_no rfl rfl rfl rfl ?_
        refine xr_no rfl rfl rfl rfl ?_
        refine xr_no rfl rfl rfl rfl ?_
        refine xr_no rfl rfl rfl rfl ?_
        refine xr_op rfl rfl (xv_pick rfl rfl ?_)
        refine xr_op rfl rfl (xv_move rfl ?_)
        refine xr_no rfl rfl rfl rfl ?_
        refine xr_no rfl rfl rfl rfl ?_
        refine xr_no rfl rfl rfl rfl ?_
        refine xr_op rfl rfl (xv_pick rfl rfl ?_)
        refine xr_end rfl ?_
        refine th_n ?_
        refine xc_true rfl ?_
        refine xc_seq (xc_region ?_)
        refine xr_op rfl rfl (xv_calls rfl hb6 (awake_c (up_ret ?_)))
        refine xr_op rfl rfl (xv_assign rfl ?_)
        refine xr_end rfl ?_
        refine th_n ?_
        refine xc_ret ?_
        refine th_r ?_
        refine body_ret (h' := h) rfl (ro_tmp rfl ro_nil) Su_ ?_
        exact H

end Go.Proofs.Ytmaldhbjhomdkaa
