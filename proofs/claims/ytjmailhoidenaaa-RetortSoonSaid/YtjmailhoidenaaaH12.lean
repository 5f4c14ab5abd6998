/-
  Small rules for drawn regions, and stores in the order in which they are asked.
-/
import Derived.Test.YtjmailhoidenaaaH11
set_option linter.all false
namespace Go.H
open Go
variable {P : Program} {r : Option Nat} {N : Nat} {Q : Post} {E : Env} {D : List Deferred} {h h' f : Hp} {ops : Array Oper} {G : Prom} {l : List Item} {L : List (Nat × (Obj → Prop))}
variable {K : Value → Hp → Prop} {T : List PanicEntry → Hp → Prop} {dst : Option Nat} {ty : TypeId} {pos : String} {af : Array Edge} {gd : Option (Nat × Bool)}
theorem qv_ext {o : Oper} {v : Value} (H : QV P r o E f v) : ∀ hh : Hp, QV P r o E (hh ++ f) v
  | [] => H
  | x :: hh => (qv_ext H hh).cons x
theorem js_S {i : Nat} {o : Oper} {v : Value} (hi : ops[i]? = some o) (hd : dstOk N o.dst = true) (hr : Runs ops o E) (H : XV P r o (fun v' h' => v' = v ∧ h' = f) (fun _ _ => False) E f) (H2 : J P r N ops D Q f L l (E.put o.dst v) G h) : J P r N ops D Q f L ((i, .S) :: l) E G h :=
  ⟨o, hi, hd, .inr ⟨hr, v, fun hh _ => qv_ext H hh, H2⟩⟩
/-- It reads the same, whatever is written: of some block only what stays is read. -/
theorem js_I {i : Nat} {o : Oper} {v : Value} (hi : ops[i]? = some o) (hd : dstOk N o.dst = true) (hr : Runs ops o E) (H : ∀ hh, Holds L hh → XV P r o (fun v' h' => v' = v ∧ h' = hh ++ f) (fun _ _ => False) E (hh ++ f)) (H2 : J P r N ops D Q f L l (E.put o.dst v) G h) : J P r N ops D Q f L ((i, .S) :: l) E G h :=
  ⟨o, hi, hd, .inr ⟨hr, v, H, H2⟩⟩
theorem js_R {i : Nat} {o : Oper} {v : Value} (hi : ops[i]? = some o) (hd : dstOk N o.dst = true) (hr : Runs ops o E) (H : XV P r o (fun v' h' => v' = v ∧ h' = h ++ f) (fun _ _ => False) E (h ++ f)) (H2 : J P r N ops D Q f L l (E.put o.dst v) G h) : J P r N ops D Q f L ((i, .R) :: l) E G h :=
  ⟨o, hi, hd, .inr ⟨hr, v, H, H2⟩⟩
theorem js_Ss {i : Nat} {o : Oper} (hi : ops[i]? = some o) (hd : dstOk N o.dst = true) (hr : Skips ops o E) (H2 : J P r N ops D Q f L l (E.put o.dst undef) G h) : J P r N ops D Q f L ((i, .S) :: l) E G h := ⟨o, hi, hd, .inl ⟨hr, H2⟩⟩
theorem js_Rs {i : Nat} {o : Oper} (hi : ops[i]? = some o) (hd : dstOk N o.dst = true) (hr : Skips ops o E) (H2 : J P r N ops D Q f L l (E.put o.dst undef) G h) : J P r N ops D Q f L ((i, .R) :: l) E G h := ⟨o, hi, hd, .inl ⟨hr, H2⟩⟩
theorem js_Os {i : Nat} {o : Oper} (hi : ops[i]? = some o) (hd : dstOk N o.dst = true) (hr : Skips ops o E) (H2 : J P r N ops D Q f L l (E.put o.dst undef) G h) : J P r N ops D Q f L ((i, .O) :: l) E G h := ⟨o, hi, hd, .inl ⟨hr, H2⟩⟩
theorem js_P {i : Nat} {o : Oper} {mk : Nat → Value} {obj : Obj} (hi : ops[i]? = some o) (hd : dstOk N o.dst = true) (hg : o.guard = none) (H : AL P o E mk obj) (H2 : J P r N ops D Q f L l E (G.add i ⟨mk, obj, restr o E⟩) h) : J P r N ops D Q f L ((i, .P) :: l) E G h :=
  ⟨o, hi, hd, hg, mk, obj, H, H2⟩
def EqL : List Nat → Env → Env → Prop
  | [], _, _ => True
  | t :: l, E, E' => E t = E' t ∧ EqL l E E'
def tmpsOf : List Operand → List Nat
  | [] => []
  | .tmp t :: l => t :: tmpsOf l
  | _ :: l => tmpsOf l
theorem mem_tmpsOf : ∀ {l : List Operand} {t : Nat}, .tmp t ∈ l → t ∈ tmpsOf l
  | x :: l, t, hm => by
    rcases List.mem_cons.1 hm with e | hm
    · subst e; simp [tmpsOf]
    · have ih := mem_tmpsOf hm
      cases x <;> simp [tmpsOf, ih]
theorem eqL_mem : ∀ {l : List Nat} {E E' : Env}, EqL l E E' → ∀ t ∈ l, E t = E' t
  | _ :: _, _, _, hh, t, hm => by
    rcases List.mem_cons.1 hm with e | hm
    · subst e; exact hh.1
    · exact eqL_mem hh.2 t hm
theorem js_A {i : Nat} {o : Oper} {mk : Nat → Value} {obj : Obj} {E0 : Env} {tl : List Nat} (hi : ops[i]? = some o) (hd : dstOk N o.dst = true) (hg : o.guard = none) (hG : G i = some ⟨mk, obj, restr o E0⟩) (ht : tmpsOf o.op.operands.toList = tl) (he : EqL tl E0 E)
    (H2 : ∀ b, b ∉ keys (h ++ f) → J P r N ops D Q f L l (E.put o.dst (mk b)) G ((b, obj) :: h)) : J P r N ops D Q f L ((i, .A) :: l) E G h :=
  ⟨o, hi, hd, hg, _, hG, (restr_eqOn o E0).trans (fun t hm => eqL_mem he t (by rw [← ht]; exact mem_tmpsOf (by simpa using hm))), H2⟩
theorem js_O {i : Nat} {o : Oper} (hi : ops[i]? = some o) (hd : dstOk N o.dst = true) (hr : Runs ops o E) (H : XV P r o (fun v h'' => ∃ h', List.Perm (h' ++ f) h'' ∧ Holds L h' ∧ J P r N ops D Q f L l (E.put o.dst v) G h') (fun ch h'' => Q (.panic ch) emp D h'') E (h ++ f)) : J P r N ops D Q f L ((i, .O) :: l) E G h :=
  ⟨o, hi, hd, .inr ⟨hr, H⟩⟩
theorem jo_same {c : List Item} (H : J P r N ops D Q f [] c E G h) : ∃ h', List.Perm (h' ++ f) (h ++ f) ∧ Holds [] h' ∧ J P r N ops D Q f [] c E G h' := ⟨h, List.Perm.refl _, .nil, H⟩
theorem jo_sameL {c : List Item} (iv : Holds L h) (H : J P r N ops D Q f L c E G h) : ∃ h', List.Perm (h' ++ f) (h ++ f) ∧ Holds L h' ∧ J P r N ops D Q f L c E G h' := ⟨h, List.Perm.refl _, iv, H⟩
theorem jo_atL {c : List Item} {h2 : Hp} (h' : Hp) (hp : List.Perm (h' ++ f) h2) (iv : Holds L h') (H : J P r N ops D Q f L c E G h') : ∃ h', List.Perm (h' ++ f) h2 ∧ Holds L h' ∧ J P r N ops D Q f L c E G h' := ⟨h', hp, iv, H⟩
theorem j_end {Ep : Env} (H : Q .normal E D (h ++ f)) : J P r N ops D (PanEnv Ep Q) f L [] E G h := ⟨_, List.Perm.refl _, H⟩
theorem j_end0 {Ep : Env} (H : Q .normal E D h) : J P r N ops D (PanEnv Ep Q) [] L [] E G h := ⟨h, by simp, H⟩
theorem j_endp {Ep : Env} {h2 : Hp} (hp : List.Perm (h ++ f) h2) (H : Q .normal E D h2) : J P r N ops D (PanEnv Ep Q) f L [] E G h := ⟨h2, hp, H⟩
theorem xc_draw {id : Nat} {h' : Hp} (c : List Item) (f h : Hp) (hm : P.follows .mixedOrders = true) (hck : drawOk N ops c = true) (hp : List.Perm (h ++ f) h') (H : J P r N ops D (PanEnv (mask ops E) Q) f [] c E (fun _ => none) h) : XC P r N (.region id ops true) Q E D h' :=
  xc_drawL c f h hm hck hp .nil H
theorem xc_draw0 {id : Nat} (c : List Item) (hm : P.follows .mixedOrders = true) (hck : drawOk N ops c = true) (H : J P r N ops D (PanEnv (mask ops E) Q) [] [] c E (fun _ => none) h) : XC P r N (.region id ops true) Q E D h :=
  xc_draw c [] h hm hck (by simp) H
theorem xv_s1 {t : TypeId} {x y : Operand} {b o : Nat} {l l' : List Value} {t' : TypeId} {v : Value} {d : TD} (ht : TyOk P t d) (hd : d.size = 1) (hx : ev E x = some (.pointer (some ⟨b, o, none⟩))) (hy : ev E y = some v)
    (hm : Upd h b (.cells ⟨l⟩ t' (0, 0)) (.cells ⟨l'⟩ t' (0, 0)) h') (h1 : v.oneCell' = true) (hr : o < l.length) (hl : l.set o v = l') (H : K undef h') : XV P r ⟨dst, .store t x y, ty, pos, af, gd⟩ K T E h :=
  xv_st1 ht hd hx hy h1 hr hl hm H
theorem xv_s {t : TypeId} {x y : Operand} {b o : Nat} {l l' vs : List Value} {t' : TypeId} {v : Value} {d : TD} (ht : TyOk P t d) (hx : ev E x = some (.pointer (some ⟨b, o, none⟩))) (hy : ev E y = some v)
    (hm : Upd h b (.cells ⟨l⟩ t' (0, 0)) (.cells ⟨l'⟩ t' (0, 0)) h') (hv : v.cells.toList = vs) (hn : vs.length = d.size) (h1 : vs.all Value.oneCell' = true) (hr : Nat.ble (o + d.size) l.length = true) (hl : splice l o vs = l') (H : K undef h') : XV P r ⟨dst, .store t x y, ty, pos, af, gd⟩ K T E h :=
  xv_st ht hx hy hv hn h1 hl hr hm H
end Go.H
