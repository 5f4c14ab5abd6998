/-
  Small tactics: a block's place in the list of blocks.
-/
import Derived.Test.YtjmailhoidenaaaH13
set_option linter.all false
namespace Go.H
open Go
/-- 'l = ?': the list is worked out, place by place. -/
theorem evl_cons {α : Type _} {l t t' : List α} {x x' : α} (h : l = x :: t) (hx : x = x') (ht : t = t') : l = x' :: t' := by rw [h, hx, ht]
theorem evl_some {α : Type _} {o : Option (List α)} {l l' : List α} (h : o = some l) (h2 : l = l') : o = some l' := by rw [h, h2]
theorem evv (x : Value) : x = x := rfl
variable {P : Program} {h h' : Hp}
theorem z_0 {α : Type _} {a : α} {l : List α} : a ∈ a :: l := List.mem_cons_self
theorem z_1 {α : Type _} {a b : α} {l : List α} (h : a ∈ l) : a ∈ b :: l := List.mem_cons_of_mem _ h
theorem z_r {α : Type _} {a : α} {l r : List α} (h : a ∈ r) : a ∈ l ++ r := List.mem_append_right _ h
theorem z_l {α : Type _} {a : α} {l r : List α} (h : a ∈ l) : a ∈ l ++ r := List.mem_append_left _ h
theorem s_0 {α : Type _} {l : List α} : List.Sublist l l := List.Sublist.refl _
theorem s_1 {α : Type _} {l : List α} : List.Sublist [] l := List.nil_sublist _
theorem s_2 {α : Type _} {a : α} {l : List α} : List.Sublist (a :: l) (a :: l) := List.Sublist.refl _
theorem s_3 {α : Type _} {l r : List α} : List.Sublist l (l ++ r) := List.sublist_append_left _ _
theorem s_4 {α : Type _} {l r r' : List α} (h : List.Sublist r r') : List.Sublist (l ++ r) (l ++ r') := List.Sublist.append (List.Sublist.refl _) h
theorem s_5 {α : Type _} {a : α} {l r : List α} (h : List.Sublist l r) : List.Sublist (a :: l) (a :: r) := List.Sublist.cons_cons _ h
theorem s_6 {α : Type _} {a : α} {l r : List α} (h : List.Sublist l r) : List.Sublist l (a :: r) := List.Sublist.cons _ h
theorem s_7 {α : Type _} {x l r : List α} (h : List.Sublist x r) : List.Sublist x (l ++ r) := List.Sublist.trans h (List.sublist_append_right _ _)
theorem s_8 {α : Type _} {x l r : List α} (h : List.Sublist x l) : List.Sublist x (l ++ r) := List.Sublist.trans h (List.sublist_append_left _ _)
theorem u_0 {b : Nat} {o o' : Obj} {h : Hp} : Upd ((b, o) :: h) b o o' ((b, o') :: h) := .here
theorem u_1 {x : Nat × Obj} {b : Nat} {o o' : Obj} {h h' : Hp} (H : Upd h b o o' h') : Upd (x :: h) b o o' (x :: h') := .there H
theorem u_2 {h h' : Hp} {b : Nat} {o o' : Obj} {f : Hp} (H : Upd h b o o' h') : Upd (f ++ h) b o o' (f ++ h') := Upd.left f H
theorem u_3 {h h' : Hp} {b : Nat} {o o' : Obj} {f : Hp} (H : Upd h b o o' h') : Upd (h ++ f) b o o' (h' ++ f) := Upd.append H
theorem v_1 {k : IntKind} {n : Int} : Value.int k n = .int k n := rfl
theorem v_2 {b : Bool} : Value.bool b = .bool b := rfl
theorem v_3 {a : Option Addr} : Value.pointer a = .pointer a := rfl
theorem v_4 {a : Option Addr} {n c : Nat} : Value.slice a n c = .slice a n c := rfl
theorem v_5 {c : Array Value} : Value.agg c = .agg c := rfl
theorem v_6 {r : Option Nat} : Value.map r = .map r := rfl
theorem v_7 {f : Fn} {a b : Array Value} : Value.func f a b = .func f a b := rfl
theorem v_8 {t : TypeId} {v : Value} : Value.iface t v = .iface t v := rfl
theorem v_9 {s : ByteArray} : Value.string s = .string s := rfl
theorem AFn.framed {fv : Value} {args : List Value} {R : Ending → Hp → Prop} (g : Hp) (H : AFn P fv args h (fun e h' => R e (g ++ h'))) : AFn P fv args (g ++ h) R :=
  (AFn.frameL g H).mono (by rintro e _ ⟨h', rfl, q⟩; exact q)
/-- What lies ahead is framed out. -/
theorem ACalls.framed {f : FuncId} {args : Array Value} {R : Ending → Hp → Prop} (g : Hp) (H : ACalls P f args h (fun e h' => R e (g ++ h'))) : ACalls P f args (g ++ h) R := by
  intro w ho
  refine (ACalls.frameL g H w ho).mono ?_
  rintro e w' ⟨h2, ⟨h', rfl, q⟩, hf⟩
  exact ⟨_, q, hf⟩
/-- ... in whatever order. -/
theorem ACalls.framedP {f : FuncId} {args : Array Value} {R : Ending → Hp → Prop} (g : Hp) (hp : List.Perm (g ++ h) h') (H : ACalls P f args h (fun e h' => R e (g ++ h'))) : ACalls P f args h' R :=
  ACalls.perm hp (ACalls.framed g H)
theorem Vec.one (V : Vec) (n : Nat) : (V.val n).oneCell' = true := by cases V <;> rfl
theorem Vec.val_eq {V : Vec} {sz n : Nat} {xs : List Value} (hV : V.ok sz n xs) : ∃ a c, V.val n = .slice a n c := by
  cases V with
  | nil => obtain ⟨_, rfl⟩ := hV; exact ⟨_, _, rfl⟩
  | «at» b cap sp => exact ⟨_, _, rfl⟩
theorem xv_lenV {r : Option Nat} {E : Env} {K : Value → Hp → Prop} {T : List PanicEntry → Hp → Prop} {dst : Option Nat} {ty : TypeId} {pos : String} {af : Array Edge} {gd : Option (Nat × Bool)} {x : Operand} {t e : TypeId} {V : Vec} {sz n : Nat} {xs : List Value} (ht : SlT P t e) (hV : V.ok sz n xs) (hx : ev E x = some (V.val n)) (H : K (.int .i64 n) h) :
    XV P r ⟨dst, .call ⟨.builtin .len, #[x], #[t]⟩, ty, pos, af, gd⟩ K T E h := by
  obtain ⟨a, c, he⟩ := Vec.val_eq hV
  exact xv_len ht (by rw [hx, he]) H
section
variable {r : Option Nat} {E : Env} {K : Value → Hp → Prop} {T : List PanicEntry → Hp → Prop} {dst : Option Nat} {ty : TypeId} {pos : String} {af : Array Edge} {gd : Option (Nat × Bool)}
theorem xv_ia {x y : Operand} {t e : TypeId} {d : TD} {b o n c : Nat} {k : IntKind} {i : Int} {j sz : Nat} (ht : SlT P t e) (hd : TyOk P e d) (hs : d.size = sz) (hx : ev E x = some (.slice (some ⟨b, o, none⟩) n c)) (hy : ev E y = some (.int k i)) (hj : i.toNat = j) (h0 : 0 ≤ i) (h1 : i < n)
    (H : K (.pointer (some ⟨b, o + j * sz, none⟩)) h) : XV P r ⟨dst, .indexAddr t x y, ty, pos, af, gd⟩ K T E h :=
  xv_iaddr ht hd hx hy h0 h1 (by rw [hs, hj]; exact H)
theorem xv_iaA {x y : Operand} {t e : TypeId} {d : TD} {b o n : Nat} {k : IntKind} {i : Int} {j sz : Nat} (ht : P.underlying t = some (.array n e)) (hd : TyOk P e d) (hs : d.size = sz) (hx : ev E x = some (.pointer (some ⟨b, o, none⟩))) (hy : ev E y = some (.int k i)) (hj : i.toNat = j) (h0 : 0 ≤ i) (h1 : i < n)
    (H : K (.pointer (some ⟨b, o + j * sz, none⟩)) h) : XV P r ⟨dst, .indexAddr t x y, ty, pos, af, gd⟩ K T E h :=
  xv_iaddrA ht hd hx hy h0 h1 (by rw [hs, hj]; exact H)
end
section
variable {r : Option Nat} {N : Nat} {Q : Post} {E : Env} {D : List Deferred} {ops : Array Oper} {G : Prom} {l : List Item} {L : List (Nat × (Obj → Prop))}
theorem js_R0 {i : Nat} {o : Oper} {v : Value} (hi : ops[i]? = some o) (hd : dstOk N o.dst = true) (hr : Runs ops o E) (H : XV P r o (fun v' h' => v' = v ∧ h' = h) (fun _ _ => False) E h) (H2 : J P r N ops D Q [] L l (E.put o.dst v) G h) : J P r N ops D Q [] L ((i, .R) :: l) E G h :=
  js_R hi hd hr (by rw [List.append_nil]; exact H) H2
theorem js_O0 {i : Nat} {o : Oper} (hi : ops[i]? = some o) (hd : dstOk N o.dst = true) (hr : Runs ops o E) (H : XV P r o (fun v h' => J P r N ops D Q [] [] l (E.put o.dst v) G h') (fun ch h'' => Q (.panic ch) emp D h'') E h) : J P r N ops D Q [] [] ((i, .O) :: l) E G h :=
  js_O hi hd hr (by rw [List.append_nil]; exact H.mono (fun v h' k => ⟨h', by simp, .nil, k⟩) (fun _ _ k => k))
theorem js_OL0 {i : Nat} {o : Oper} (hi : ops[i]? = some o) (hd : dstOk N o.dst = true) (hr : Runs ops o E) (H : XV P r o (fun v h' => Holds L h' ∧ J P r N ops D Q [] L l (E.put o.dst v) G h') (fun ch h'' => Q (.panic ch) emp D h'') E h) : J P r N ops D Q [] L ((i, .O) :: l) E G h :=
  js_O hi hd hr (by rw [List.append_nil]; exact H.mono (fun v h' k => ⟨h', by simp, k.1, k.2⟩) (fun _ _ k => k))
theorem holds1 {b : Nat} {o : Obj} {p : Obj → Prop} (hm : (b, o) ∈ h) (hp : p o) : Holds [(b, p)] h := fun b' p' hb => by
  simp only [List.mem_singleton, Prod.mk.injEq] at hb
  obtain ⟨rfl, rfl⟩ := hb
  exact ⟨o, hm, hp⟩
theorem js_A0 {i : Nat} {o : Oper} {mk : Nat → Value} {obj : Obj} {E0 : Env} {tl : List Nat} (hi : ops[i]? = some o) (hd : dstOk N o.dst = true) (hg : o.guard = none) (hG : G i = some ⟨mk, obj, restr o E0⟩) (ht : tmpsOf o.op.operands.toList = tl) (he : EqL tl E0 E)
    (H2 : ∀ b, b ∉ keys h → J P r N ops D Q [] L l (E.put o.dst (mk b)) G ((b, obj) :: h)) : J P r N ops D Q [] L ((i, .A) :: l) E G h :=
  js_A hi hd hg hG ht he (by simpa using H2)
end
end Go.H
