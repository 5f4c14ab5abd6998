/-
  Code with labels that nothing jumps to.
-/
import Derived.Test.YtjbfdfmngampdaaHE
import Derived.Scope
set_option linter.all false
namespace Go
section
variable {P : Program} {F : Fence} {n : Nat} {b : Frame} {a : Act} {k : List Item} {cs : List Frame} {w : World} {Q : Exit → Act → World → Prop}
theorem stepR_scope {c : Code} : step P (lone (b.atR a (.code (.scope c) :: k)) cs w) = .next (lone (b.atR a (.code c :: .inScope c :: k)) cs w) :=
  step_lone_go (by simp [stepG, stepG.exec, Frame.atR])
theorem stepR_inScope {c : Code} : step P (lone (b.atR a (.inScope c :: k)) cs w) = .next (lone (b.atR a k) cs w) :=
  step_lone_go (by simp [stepG, stepG.exec, Frame.atR])
theorem wpIn_scope {c : Code} (h : c.wpIn F n P (Exit.noGoto Q) a w) : (Code.scope c).wpIn F n P Q a w := by
  intro b k cs hro hb hr
  have h0 : (lone (b.atR a (.code (.scope c) :: k)) cs w).fenced P F := fenced_calm hb hr rfl
  obtain ⟨e, a₁, w₁, hq, harr⟩ := h b (.inScope c :: k) cs hro hb hr
  cases e with
  | normal => exact ⟨.normal, a₁, w₁, hq, .head h0 stepR_scope (StepsIn.trans harr (.one (fenced_calm hb hr rfl) stepR_inScope))⟩
  | exit id =>
    have hx : exitTo id (.inScope c :: k) = exitTo id k := by simp [exitTo]
    exact ⟨.exit id, a₁, w₁, hq, fun k' hk => .head h0 stepR_scope (harr.1 k' (by rw [hx]; exact hk)),
      fun hr' hk => let ⟨k₁, h1, h2⟩ := harr.2 hr' (by rw [hx]; exact hk); ⟨k₁, h1, .head h0 stepR_scope h2⟩⟩
  | goto l => exact hq.elim
  | ret => exact ⟨_, a₁, w₁, hq, .of_steps (.one h0 stepR_scope) harr⟩
  | panic ch => exact ⟨_, a₁, w₁, hq, .of_steps (.one h0 stepR_scope) harr⟩
  | outgrown => exact ⟨_, a₁, w₁, hq, .of_steps (.one h0 stepR_scope) harr⟩
end
end Go
namespace Go.H
open Go
variable {P : Program} {r : Option Nat} {N : Nat} {Q : Post} {E : Env} {D : List Deferred} {h : Hp}
def Sc (Q : Post) : Post
  | .goto _, _, _, _ => False
  | e, E, D, h => Q e E D h
theorem xc_scope {c : Code} (H : XC P r N c (Sc Q) E D h) : XC P r N (.scope c) Q E D h := by
  intro w a ho ha hd
  refine wpIn_scope (wpIn_mono (H w a ho ha hd) ?_)
  rintro e a' w' ⟨E', h', q, x⟩
  cases e with
  | goto l => exact q.elim
  | _ => exact ⟨E', h', q, x⟩
theorem xc_label {l : Nat} (H : Q .normal E D h) : XC P r N (.label l) Q E D h :=
  fun w a ho ha hd => wpIn_label ⟨E, h, by rw [hd]; exact H, ha, .refl ho⟩
theorem sc_n (H : Q .normal E D h) : Sc Q .normal E D h := H
theorem sc_r (H : Q .ret E D h) : Sc Q .ret E D h := H
end Go.H
namespace Go.H
open Go
section
variable {P : Program} {r : Option Nat} {E : Env} {h : Hp} {K : Value → Hp → Prop} {T : List PanicEntry → Hp → Prop} {dst : Option Nat} {ty : TypeId} {pos : String} {af : Array Edge} {gd : Option (Nat × Bool)}
theorem Upd.same {b : Nat} {o : Obj} {h h' : Hp} (H : Upd h b o o h') : h' = h := by
  have : ∀ o2, Upd h b o o2 h' → o2 = o → h' = h := by
    intro o2 H2
    induction H2 with
    | here => intro e; subst e; rfl
    | there _ ih => intro e; rw [ih (by subst e; rename_i a; exact a) e]
  exact this o H rfl
/-- A part of a slice is cleared: what lies ahead of it stays. -/
theorem xv_clear {x : Operand} {t e : TypeId} {d : TD} {a : Option Addr} {b o n c : Nat} {l : List Value} {te : TypeId} {Hf : List Value → Hp} (ht : SlT P t e) (hd : TyOk P e d) (h0 : ∀ n, (Builtin.zeroCells d.zero.cells n).toList.all Value.oneCell' = true)
    (hx : ev E x = some (.slice a n c)) (ha : n = 0 ∨ a = some ⟨b, o, none⟩) (hm : ∀ l', Upd h b (.cells ⟨l⟩ te (0, 0)) (.cells ⟨l'⟩ te (0, 0)) (Hf l')) (hr : o + n * d.zero.cells.size ≤ l.length)
    (H : ∀ l', l'.length = l.length → l'.take o = l.take o → K (.tuple #[]) (Hf l')) : XV P r ⟨dst, .call ⟨.builtin .clear, #[x], #[t]⟩, ty, pos, af, gd⟩ K T E h :=
  xv_of_run (by simp [plainOp]) fun w ρ ho he => by
    obtain ⟨cs, hcs⟩ := run_builtin (P := P) (dst := dst) (ty := ty) (pos := pos) (af := af) (gd := gd) ρ .clear #[x] #[t] w
    cases n with
    | zero =>
      refine ⟨.tuple #[], Hf l, w, ?_, H l rfl rfl, by rw [(hm l).same]; exact .refl ho⟩
      rw [hcs]
      cases a <;> simp [builtin, Builtin.clear_, he _ _ hx, run_underlying ht]
    | succ n =>
      have ha := ha.resolve_left (by omega)
      subst ha
      have hmem := (hm l).mem
      have hg := ho.has _ _ hmem
      have hsz : (Builtin.zeroCells d.zero.cells (n + 1)).toList.length = (n + 1) * d.zero.cells.size := by simp [Builtin.zeroCells]
      have hs := run_storeCells_at (P := P) b o te (Builtin.zeroCells d.zero.cells (n + 1)).toList 0 ⟨l⟩ w hg (by simp only [Nat.add_zero, hsz]; exact hr) (List.all_eq_true.1 (h0 _))
      simp only [Nat.add_zero] at hs
      have hsp : (splice l o (Builtin.zeroCells d.zero.cells (n + 1)).toList).length = l.length := by
        unfold splice
        rw [List.length_append, List.length_append, List.length_take, List.length_drop, hsz]; omega
      refine ⟨.tuple #[], Hf (splice l o (Builtin.zeroCells d.zero.cells (n + 1)).toList), w.setRow b ⟨splice l o (Builtin.zeroCells d.zero.cells (n + 1)).toList⟩, ?_, H _ hsp ?_, ?_⟩
      · rw [hcs]
        simp only [builtin, Builtin.clear_, List.map_toArray, List.map_cons, List.map_nil, he _ _ hx, Sem.run_bind, run_underlying ht, Result.andThen_ok, hd.run_zero]
        simp [Builtin.clear_, he _ _ hx, run_underlying ht, hd.run_zero, hs, splice]
      · unfold splice
        rw [List.append_assoc, List.take_append, List.length_take]
        have : o ≤ l.length := by omega
        rw [Nat.min_eq_left this, Nat.sub_self, List.take_zero, List.append_nil, List.take_take, Nat.min_self]
      · have h9 := (hm (splice l o (Builtin.zeroCells d.zero.cells (n + 1)).toList)).set ho.nd
        rw [← h9]
        exact fol_row ho hmem _
end
end Go.H
namespace Go.H
open Go
section
variable {P : Program} {r : Option Nat} {E : Env} {h : Hp} {K : Value → Hp → Prop} {T : List PanicEntry → Hp → Prop} {dst : Option Nat} {ty : TypeId} {pos : String} {af : Array Edge} {gd : Option (Nat × Bool)}
theorem perm_v3 {V K : Hp} {x y z : Nat × Obj} : List.Perm (x :: y :: z :: (V ++ K)) (V ++ (x :: y :: z :: K)) :=
  ((List.perm_middle (l₁ := V) (a := x) (l₂ := y :: z :: K)).trans (((List.perm_middle (l₁ := V) (a := y) (l₂ := z :: K)).trans ((List.perm_middle (l₁ := V) (a := z) (l₂ := K)).cons y)).cons x)).symm
theorem perm_w5 {W V K : Hp} {x1 x2 x3 x4 x5 : Nat × Obj} : List.Perm (x1 :: x2 :: x3 :: x4 :: x5 :: (V ++ (W ++ K))) (W ++ (x1 :: x2 :: x3 :: x4 :: x5 :: (V ++ K))) := by
  have h1 : List.Perm (V ++ (W ++ K)) (W ++ (V ++ K)) := List.perm_append_comm_assoc V W K
  refine (((((h1.cons x5).cons x4).cons x3).cons x2).cons x1).trans ?_
  have p : ∀ (a : Nat × Obj) (L : Hp), List.Perm (a :: (W ++ L)) (W ++ (a :: L)) := fun a L => (List.perm_middle (l₁ := W) (a := a) (l₂ := L)).symm
  exact ((((p x5 _).cons x4 |>.trans (p x4 _)).cons x3 |>.trans (p x3 _)).cons x2 |>.trans (p x2 _)).cons x1 |>.trans (p x1 _)
theorem mv5 {x1 x2 x3 x4 x5 y : Nat × Obj} {K : Hp} : List.Perm (y :: x1 :: x2 :: x3 :: x4 :: x5 :: K) (x1 :: x2 :: x3 :: x4 :: x5 :: y :: K) := (List.perm_middle (l₁ := [x1, x2, x3, x4, x5]) (a := y) (l₂ := K)).symm
theorem mv1 {x1 y : Nat × Obj} {K : Hp} : List.Perm (y :: x1 :: K) (x1 :: y :: K) := (List.perm_middle (l₁ := [x1]) (a := y) (l₂ := K)).symm
end
end Go.H
namespace Go.H
open Go
section
variable {P : Program} {r : Option Nat} {E : Env} {h : Hp} {K : Value → Hp → Prop} {T : List PanicEntry → Hp → Prop} {dst : Option Nat} {ty : TypeId} {pos : String} {af : Array Edge} {gd : Option (Nat × Bool)}
theorem xv_neNilS {x y : Operand} {xt yt e : TypeId} {a : Option Addr} {n c n' c' : Nat} {b : Bool} (ht : SlT P xt e) (hx : ev E x = some (.slice a n c)) (hy : ev E y = some (.slice none n' c')) (hb : (!a.isNone) = b) (H : K (.bool b) h) : XV P r ⟨dst, .binOp .neq xt x y yt, ty, pos, af, gd⟩ K T E h :=
  xv_of_run (by simp [plainOp]) fun w ρ ho he => ⟨_, h, w, by
    have hg : ∀ w, (eqGuard .neq xt x y (.slice a n c) (.slice none n' c')).run P w = .ok () w := fun w => by unfold eqGuard; simp
    rw [run_bin (he _ _ hx) (he _ _ hy) hg]
    have hq0 : ∀ m, (Op.equalIn (m + 1) xt (.slice a n c) (.slice none n' c')).run P w = .ok a.isNone w := fun m => by
      cases a <;> simp only [Op.equalIn, Sem.run_bind, run_underlying ht, Result.andThen_ok, Sem.run_pure, Option.isNone]
    have hq := hq0 9999
    have hb2 : (binOp .neq xt (.slice a n c) (.slice none n' c')).run P w = .ok (.bool (!a.isNone)) w := by
      show (do let b ← Op.equalIn (9999 + 1) xt _ _; pure (Value.bool !b) : Sem Value).run P w = _
      simp only [Sem.run_bind, hq, Result.andThen_ok, Sem.run_pure]
    rw [hb2]; subst hb; rfl, H, .refl ho⟩
end
end Go.H
namespace Go.H
theorem mv6 {x1 x2 x3 x4 x5 x6 y : Nat × Obj} {K : Hp} : List.Perm (y :: x1 :: x2 :: x3 :: x4 :: x5 :: x6 :: K) (x1 :: x2 :: x3 :: x4 :: x5 :: x6 :: y :: K) := (List.perm_middle (l₁ := [x1, x2, x3, x4, x5, x6]) (a := y) (l₂ := K)).symm
end Go.H
namespace Go.H
open Go
theorem xr_nd {P : Program} {r : Option Nat} {N : Nat} {ops : Array Oper} {i : Nat} {Q : Post} {E : Env} {D : List Deferred} {h : Hp} (H : (keys h).Nodup → XR P r N ops i Q E D h) : XR P r N ops i Q E D h :=
  fun w a ho ha hd => H ho.nd w a ho ha hd
theorem kd_out {V K g : Hp} {k : Nat} {o : Obj} (hs : List.Sublist (V ++ (k, o) :: K) g) (hn : (keys g).Nodup) : k ∉ keys (V ++ K) := by
  have h1 := (hs.map Prod.fst).nodup hn
  rw [List.map_append, List.map_cons] at h1
  have h2 := (List.perm_middle.nodup_iff).1 h1
  rw [keys_append]
  exact (List.nodup_cons.1 h2).1
end Go.H
