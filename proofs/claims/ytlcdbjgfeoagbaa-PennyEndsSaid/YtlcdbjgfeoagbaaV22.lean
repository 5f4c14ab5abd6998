/-
  Walks.
-/
import Derived.Test.YtlcdbjgfeoagbaaP29
namespace Go.Proofs.Ytlcdbjgfeoagbaa
open Go Go.H
set_option maxRecDepth 100000
set_option maxHeartbeats 8000000
set_option linter.all false
def eBo (x : Bool) : List Value := [.bool x]
theorem flat_B (l : List Bool) : l.flatMap eBo = l.map Value.bool := by
  induction l with
  | nil => rfl
  | cons x l ih => rw [List.flatMap_cons, ih]; rfl
theorem bo_get {l : List Bool} {i : Nat} {x y : Bool} (h : l[i]? = some x) (e : x = y) : (l.flatMap eBo)[i]? = some (.bool y) := by rw [flat_B, List.getElem?_map, h, e]; rfl
theorem bo_set {l : List Bool} {i : Nat} {x y : Bool} (h : x = y) : (l.flatMap eBo).set i (.bool y) = (l.set i x).flatMap eBo := by rw [flat_B, flat_B, List.map_set, h]
theorem bo_len (l : List Bool) : (l.flatMap eBo).length = l.length := by rw [flat_B, List.length_map]
theorem perm_4 {α : Type _} {V C : List α} {x a b c d : α} : List.Perm (a :: b :: c :: d :: (V ++ x :: C)) (V ++ x :: a :: b :: c :: d :: C) :=
  (List.perm_append_comm_assoc [a, b, c, d] V (x :: C)).trans (List.Perm.append_left V (List.perm_append_comm_assoc [a, b, c, d] [x] C))
theorem geqT_ {a b : Int} (h : a ≥ b) : cmpB .geq a b = some true := by simp [cmpB]; omega
theorem leqT_ {a b : Int} (h : a ≤ b) : cmpB .leq a b = some true := by simp [cmpB]; omega
structure EndC (C : Hp) (s : Slot) (w : List Int) (cs : List Span) (b : Span) (b1 b7 b16 b3 b12 b13 b14 b5 b15 e12 e13 : Nat) (wa : Option Addr) (wc : Nat) (ca : Option Addr) (cc : Nat) : Prop where
  m1 : (b1, .cells ⟨eSlot s⟩ 25 (0, 0)) ∈ C
  m7 : (b7, .cells ⟨[.slice wa w.length wc]⟩ 26 (0, 0)) ∈ C
  m16 : (b16, .cells ⟨[.func (.func 28) ⟨[]⟩ ⟨[.pointer (some ⟨b1, 0, none⟩), .pointer (some ⟨b7, 0, none⟩), .pointer (some ⟨b16, 0, none⟩), .pointer (some ⟨b3, 0, none⟩), .pointer (some ⟨b12, 0, none⟩), .pointer (some ⟨b13, 0, none⟩), .pointer (some ⟨b14, 0, none⟩), .pointer (some ⟨b5, 0, none⟩), .pointer (some ⟨b15, 0, none⟩)]⟩]⟩ 56 (0, 0)) ∈ C
  m3 : (b3, .cells ⟨[.slice ca cs.length cc]⟩ 35 (0, 0)) ∈ C
  m12 : (b12, .cells ⟨[.slice (some ⟨e12, 0, none⟩) cs.length cs.length]⟩ 55 (0, 0)) ∈ C
  m13 : (b13, .cells ⟨[.slice (some ⟨e13, 0, none⟩) cs.length cs.length]⟩ 55 (0, 0)) ∈ C
  m5 : (b5, .cells ⟨eSpan b⟩ 30 (0, 0)) ∈ C
  sl : SlotV C s
  ws : SlV C 1 eI wa w
  c : SlV C 2 eSpan ca cs
theorem EndC.sub {C G : Hp} {s : Slot} {w : List Int} {cs : List Span} {b : Span} {b1 b7 b16 b3 b12 b13 b14 b5 b15 e12 e13 : Nat} {wa : Option Addr} {wc : Nat} {ca : Option Addr} {cc : Nat} (H : EndC C s w cs b b1 b7 b16 b3 b12 b13 b14 b5 b15 e12 e13 wa wc ca cc) (hs : C ⊆ G) : EndC G s w cs b b1 b7 b16 b3 b12 b13 b14 b5 b15 e12 e13 wa wc ca cc :=
  ⟨hs H.m1, hs H.m7, hs H.m16, hs H.m3, hs H.m12, hs H.m13, hs H.m5, H.sl.sub hs, H.ws.sub hs, H.c.sub hs⟩
def TryOk (s : Slot) (w : List Int) (cs : List Span) (b : Span) (d : Nat) : Prop := ∀ {C g : Hp} {b1 b7 b16 b3 b12 b13 b14 b5 b15 e12 e13 : Nat} {wa : Option Addr} {wc : Nat} {ca : Option Addr} {cc : Nat} {f n : Nat} {hours : List Int} {ha : Option Addr} {hc : Nat} {T : List (List Int)} {R : Ending → Hp → Prop},
  EndC C s w cs b b1 b7 b16 b3 b12 b13 b14 b5 b15 e12 e13 wa wc ca cc → List.Perm ((e12, .cells ⟨((List.range cs.length).map (lowT s cs T)).flatMap eBo⟩ 4) :: (e13, .cells ⟨((List.range cs.length).map (highT s cs T)).flatMap eBo⟩ 4) :: (b14, .cells ⟨[.bool (leastT s b T)]⟩ 4) :: (b15, .cells ⟨[.bool (mostT s b T)]⟩ 4) :: C) g → SlV C 1 eI ha hours → n = hours.length → (hours.length : Int) + d = s.coins → f ≤ w.length →
  R (.returned (.bool true)) ((e12, .cells ⟨((List.range cs.length).map (lowT s cs (T ++ leaves w d f hours))).flatMap eBo⟩ 4) :: (e13, .cells ⟨((List.range cs.length).map (highT s cs (T ++ leaves w d f hours))).flatMap eBo⟩ 4) :: (b14, .cells ⟨[.bool (leastT s b (T ++ leaves w d f hours))]⟩ 4) :: (b15, .cells ⟨[.bool (mostT s b (T ++ leaves w d f hours))]⟩ 4) :: C) → ACalls Try.prog 28 ⟨[I f, .slice ha n hc, .pointer (some ⟨b1, 0, none⟩), .pointer (some ⟨b7, 0, none⟩), .pointer (some ⟨b16, 0, none⟩), .pointer (some ⟨b3, 0, none⟩), .pointer (some ⟨b12, 0, none⟩), .pointer (some ⟨b13, 0, none⟩), .pointer (some ⟨b14, 0, none⟩), .pointer (some ⟨b5, 0, none⟩), .pointer (some ⟨b15, 0, none⟩)]⟩ g R

theorem try_step {s : Slot} {w : List Int} {cs : List Span} {b : Span} {d9 : Nat} (hsm : Small s) (hd : errD s = 0) (hcs : cs = coinsS s) (hbs : b = boughtS s) (hwl : w.length ≤ 9) (ih : ∀ e, e < d9 → TryOk s w cs b e) : TryOk s w cs b d9 := by
  intro C g b1 b7 b16 b3 b12 b13 b14 b5 b15 e12 e13 wa wc ca cc f n hours ha hc T R hC hperm hh hn hhd hfw H
  subst hn
  refine ACalls.perm hperm ?_
  refine calls_of_xc (N := 157) Try.func28 rfl (by rfl) ?_
  have he0 := errD_errS hd
  have hgs := (errS_0 he0).1
  obtain ⟨⟨hn1, hn2⟩, ⟨hn3, hn4⟩, ⟨hn5, hn6⟩, hn7, hn8⟩ := id hgs.1
  obtain ⟨⟨hz1, hz2⟩, hz3⟩ := id hgs.2.1
  have hcl : cs.length = s.tars.length := by rw [hcs]; exact coins_len s
  have hne := hgs.ne
  have m1 := hC.m1
  have m7 := hC.m7
  have m16 := hC.m16
  have m3 := hC.m3
  have m12 := hC.m12
  have m13 := hC.m13
  have m5 := hC.m5
  refine xc_seq (xc_region ?_)
  refine xr_op rfl rfl (xv_assign rfl ?_)
  refine xr_end rfl ?_
  refine th_n ?_
  refine xc_seq ?_
  refine xc_seq (xc_region ?_)
  refine xr_op rfl rfl (xv_move rfl ?_)
  refine xr_op rfl rfl (xv_len sl26 rfl ?_)
  refine xr_op rfl rfl (xv_faddr fl25_2 rfl ?_)
  refine xr_op rfl rfl (xv_load1 ty3 rfl rfl (by ((repeat first|exact z_0|assumption|refine z_1 ?_|(refine z_l ?_;(repeat first|exact z_0|assumption|refine z_1 ?_);done)|refine z_r ?_);done)) (by rfl) ?_)
  refine xr_op rfl rfl (xv_lss2 rfl rfl (fun q1 => ?_) (fun q1 => ?_))
  · refine xr_end rfl ?_
    refine th_n ?_
    refine xc_true rfl ?_
    refine xc_seq ?_
    refine xc_seq (xc_region ?_)
    obtain ⟨d, rfl⟩ : ∃ e, d9 = e + 1 := ⟨d9 - 1, by (first|omega|(dsimp only at *;omega)|(simp at *;omega))⟩
    refine xr_op rfl rfl (xv_move rfl ?_)
    refine xr_op rfl rfl (xv_assign rfl ?_)
    refine xr_end rfl ?_
    refine th_n ?_
    refine xc_block ?_
    refine xc_loop (σ := Nat) (fun i => f ≤ i ∧ i ≤ w.length) (fun i => (((((((((((emp.put (some 1) (.slice ha hours.length hc)).put (some 2) (.pointer (some ⟨b1, 0, none⟩))).put (some 3) (.pointer (some ⟨b7, 0, none⟩))).put (some 4) (.pointer (some ⟨b16, 0, none⟩))).put (some 5) (.pointer (some ⟨b3, 0, none⟩))).put (some 6) (.pointer (some ⟨b12, 0, none⟩))).put (some 7) (.pointer (some ⟨b13, 0, none⟩))).put (some 8) (.pointer (some ⟨b14, 0, none⟩))).put (some 9) (.pointer (some ⟨b5, 0, none⟩))).put (some 10) (.pointer (some ⟨b15, 0, none⟩))).put (some 14) (I i))) (fun i => ((e12, .cells ⟨((List.range cs.length).map (lowT s cs (T ++ leavesN w d f hours i))).flatMap eBo⟩ 4) :: (e13, .cells ⟨((List.range cs.length).map (highT s cs (T ++ leavesN w d f hours i))).flatMap eBo⟩ 4) :: (b14, .cells ⟨[.bool (leastT s b (T ++ leavesN w d f hours i))]⟩ 4) :: (b15, .cells ⟨[.bool (mostT s b (T ++ leavesN w d f hours i))]⟩ 4) :: C)) (fun i => w.length - i) f ⟨Nat.le_refl _, hfw⟩ (le_put (le_put (le_put (le_put (le_put (le_put (le_put (le_put (le_put (le_put (le_put (le_emp _) rfl) rfl) rfl) rfl) rfl) rfl) rfl) rfl) rfl) rfl) rfl) (by rw [leavesN_0, List.append_nil]; (first|((repeat first|exact s_0|exact s_1|exact s_3|refine s_4 ?_|refine s_5 ?_|refine s_6 ?_|refine s_7 ?_);done)|((repeat first|exact s_0|exact s_1|exact s_3|refine s_4 ?_|refine s_5 ?_|refine s_6 ?_|refine s_8 ?_);done))) ?_
    rintro i ⟨hfi, hi⟩
    refine xc_seq ?_
    refine xc_seq (xc_region ?_)
    refine xr_op rfl rfl (xv_move rfl ?_)
    refine xr_op rfl rfl (xv_load1 ty26 rfl rfl (by ((repeat first|exact z_0|assumption|refine z_1 ?_|(refine z_l ?_;(repeat first|exact z_0|assumption|refine z_1 ?_);done)|refine z_r ?_);done)) (by rfl) ?_)
    refine xr_op rfl rfl (xv_len sl26 rfl ?_)
    refine xr_op rfl rfl (xv_lss2 rfl rfl (fun q2 => ?_) (fun q2 => ?_))
    · refine xr_end rfl ?_
      refine th_n ?_
      refine xc_true rfl ?_
      refine xc_skip ?_
      refine th_n ?_
      refine xc_seq ?_
      refine xc_block ?_
      refine xc_seq ?_
      have hlto : i < w.length := by (first|omega|(dsimp only at *;omega)|(simp at *;omega))
      obtain ⟨bo, oo, lo, to, fzo, hao, hmo, hxo⟩ := ((hC.ws.sub (by intro z hz; ((repeat first|exact z_0|assumption|refine z_1 ?_|(refine z_l ?_;(repeat first|exact z_0|assumption|refine z_1 ?_);done)|refine z_r ?_);done)) : SlV ((e12, .cells ⟨((List.range cs.length).map (lowT s cs (T ++ leavesN w d f hours i))).flatMap eBo⟩ 4) :: (e13, .cells ⟨((List.range cs.length).map (highT s cs (T ++ leavesN w d f hours i))).flatMap eBo⟩ 4) :: (b14, .cells ⟨[.bool (leastT s b (T ++ leavesN w d f hours i))]⟩ 4) :: (b15, .cells ⟨[.bool (mostT s b (T ++ leavesN w d f hours i))]⟩ 4) :: C) 1 eI wa w)).at hlto
      obtain ⟨xo, hko⟩ : ∃ qq_, w[i]? = some qq_ := ⟨_, List.getElem?_eq_getElem hlto⟩
      have hfb : (hours ++ [xo]).flatMap eI = [] ++ hours.flatMap eI ++ [I xo] := by simp [eI]
      · refine xc_drawX0 [(0, [(b16, fun o => o = .cells ⟨[.func (.func 28) ⟨[]⟩ ⟨[.pointer (some ⟨b1, 0, none⟩), .pointer (some ⟨b7, 0, none⟩), .pointer (some ⟨b16, 0, none⟩), .pointer (some ⟨b3, 0, none⟩), .pointer (some ⟨b12, 0, none⟩), .pointer (some ⟨b13, 0, none⟩), .pointer (some ⟨b14, 0, none⟩), .pointer (some ⟨b5, 0, none⟩), .pointer (some ⟨b15, 0, none⟩)]⟩]⟩ 56 (0, 0))]), (5, [(b7, fun o => o = .cells ⟨[.slice wa w.length wc]⟩ 26 (0, 0))]), (8, [(bo, fun o => o = .cells ⟨lo⟩ to fzo)])] [(0, .S), (1, .S), (2, .P), (3, .S), (5, .S), (6, .S), (7, .S), (8, .S), (9, .P), (2, .A), (4, .O), (9, .A), (10, .O), (11, .O), (12, .S)] mixed (by kernel_rfl) (iv_cons (holds1 (by ((repeat first|exact z_0|assumption|refine z_1 ?_|(refine z_l ?_;(repeat first|exact z_0|assumption|refine z_1 ?_);done)|refine z_r ?_);done)) rfl) (iv_cons (holds1 (by ((repeat first|exact z_0|assumption|refine z_1 ?_|(refine z_l ?_;(repeat first|exact z_0|assumption|refine z_1 ?_);done)|refine z_r ?_);done)) rfl) (iv_cons (holds1 (by ((repeat first|exact z_0|assumption|refine z_1 ?_|(refine z_l ?_;(repeat first|exact z_0|assumption|refine z_1 ?_);done)|refine z_r ?_);done)) rfl) iv_nil))) ?_
        refine jx_I rfl rfl (.inl rfl) (fun hh hv => by have hv2 : Holds [(b16, fun o => o = .cells ⟨[.func (.func 28) ⟨[]⟩ ⟨[.pointer (some ⟨b1, 0, none⟩), .pointer (some ⟨b7, 0, none⟩), .pointer (some ⟨b16, 0, none⟩), .pointer (some ⟨b3, 0, none⟩), .pointer (some ⟨b12, 0, none⟩), .pointer (some ⟨b13, 0, none⟩), .pointer (some ⟨b14, 0, none⟩), .pointer (some ⟨b5, 0, none⟩), .pointer (some ⟨b15, 0, none⟩)]⟩]⟩ 56 (0, 0))] hh := hv; obtain ⟨o9, hm9, e9⟩ := hv2 _ _ List.mem_cons_self; subst e9; exact xv_load1 ty56 rfl rfl hm9 rfl ⟨rfl, rfl⟩) ?_
        refine jx_S rfl rfl (.inl rfl) (xv_move rfl ⟨rfl, rfl⟩) ?_
        refine jx_P rfl rfl rfl (al_buildSlice sl26 ty3 rfl rfl rfl rfl rfl (by ((try apply evl_some rfl);(repeat (first|exact (rfl : _ = [])|apply evl_cons rfl (by (first|exact v_1|exact v_2|exact v_3|exact v_4|exact v_5|exact v_6|exact v_7|exact v_8|exact v_9|exact rfl))|exact rfl))))) ?_
        refine jx_S rfl rfl (.inl rfl) (xv_move rfl ⟨rfl, rfl⟩) ?_
        refine jx_I rfl rfl (.inl rfl) (fun hh hv => by have hv2 : Holds [(b7, fun o => o = .cells ⟨[.slice wa w.length wc]⟩ 26 (0, 0))] hh := hv; obtain ⟨o9, hm9, e9⟩ := hv2 _ _ List.mem_cons_self; subst e9; exact xv_load1 ty26 rfl rfl hm9 rfl ⟨rfl, rfl⟩) ?_
        refine jx_S rfl rfl (.inl rfl) (xv_move rfl ⟨rfl, rfl⟩) ?_
        refine jx_S rfl rfl (.inl rfl) (xv_ia (sz := 1) (j := i) sl26 ty3 rfl (by rw [hao]; rfl) rfl (by (first | assumption | with_reducible exact Int.toNat_natCast _ | with_reducible rfl | rfl)) (by (first|omega|(dsimp only at *;omega)|(simp at *;omega))) (by (first|omega|(dsimp only at *;omega)|(simp at *;omega))) ⟨rfl, rfl⟩) ?_
        refine jx_I rfl rfl (.inl rfl) (fun hh hv => by have hv2 : Holds [(bo, fun o => o = .cells ⟨lo⟩ to fzo)] hh := hv; obtain ⟨o9, hm9, e9⟩ := hv2 _ _ List.mem_cons_self; subst e9; exact xv_load1 ty3 rfl rfl hm9 (take_get (hxo i xo hko) (j := 0) rfl) ⟨rfl, rfl⟩) ?_
        refine jx_P rfl rfl rfl (al_buildSlice sl26 ty3 rfl rfl rfl rfl rfl (by ((try apply evl_some rfl);(repeat (first|exact (rfl : _ = [])|apply evl_cons rfl (by (first|exact v_1|exact v_2|exact v_3|exact v_4|exact v_5|exact v_6|exact v_7|exact v_8|exact v_9|exact rfl))|exact rfl))))) ?_
        refine jx_A rfl rfl rfl rfl rfl trivial (fun b38 hb38 => ?_)
        refine jx_O rfl rfl (.inl rfl) (xv_dup (enc := eI) (ys := hours) sl26 ty3 rfl rfl rfl rfl rfl (hh.sub (by intro z hz; ((repeat first|exact z_0|assumption|refine z_1 ?_|(refine z_l ?_;(repeat first|exact z_0|assumption|refine z_1 ?_);done)|refine z_r ?_);done))) eI_len eI_1 (by simp only []; omega) (by omega) (fun X1 hX1 => ?_))
        refine ⟨(kp_in (holds1 (by ((repeat first|exact z_0|assumption|refine z_1 ?_|(refine z_l ?_;(repeat first|exact z_0|assumption|refine z_1 ?_);done)|refine z_r ?_);done)) rfl) (kp_in (holds1 (by ((repeat first|exact z_0|assumption|refine z_1 ?_|(refine z_l ?_;(repeat first|exact z_0|assumption|refine z_1 ?_);done)|refine z_r ?_);done)) rfl) (kp_in (holds1 (by ((repeat first|exact z_0|assumption|refine z_1 ?_|(refine z_l ?_;(repeat first|exact z_0|assumption|refine z_1 ?_);done)|refine z_r ?_);done)) rfl) kp_nil))), ?_⟩
        refine jx_A rfl rfl rfl rfl rfl ⟨rfl, trivial⟩ (fun b45 hb45 => ?_)
        refine jx_O rfl rfl (.inl rfl) (xv_append (V := X1) (n := hours.length) (xs := [] ++ hours.flatMap eI) sl26 ty3 rfl (by rw [Vec.val_ad hX1]; rfl) rfl hX1 (.there .here) (by ((repeat first|exact z_0|assumption|refine z_1 ?_|(refine z_l ?_;(repeat first|exact z_0|assumption|refine z_1 ?_);done)|refine z_r ?_);done)) (by ((try apply evl_some rfl);(repeat (first|exact (rfl : _ = [])|apply evl_cons rfl (by (first|exact v_1|exact v_2|exact v_3|exact v_4|exact v_5|exact v_6|exact v_7|exact v_8|exact v_9|exact rfl))|exact rfl)))) rfl rfl (by omega) (by simp only []; omega) (by omega) (fun X2 hX2 => ?_))
        refine ⟨(kp_in (holds1 (by ((repeat first|exact z_0|assumption|refine z_1 ?_|(refine z_l ?_;(repeat first|exact z_0|assumption|refine z_1 ?_);done)|refine z_r ?_);done)) rfl) (kp_go (by kernel_rfl) (kp_go (by kernel_rfl) kp_nil))), ?_⟩
        rw [Vec.val_ad hX2]
        refine jx_O rfl rfl (.inl rfl) (xv_fn rfl rfl (afn_func (fi := []) (lb := [.pointer (some ⟨b1, 0, none⟩), .pointer (some ⟨b7, 0, none⟩), .pointer (some ⟨b16, 0, none⟩), .pointer (some ⟨b3, 0, none⟩), .pointer (some ⟨b12, 0, none⟩), .pointer (some ⟨b13, 0, none⟩), .pointer (some ⟨b14, 0, none⟩), .pointer (some ⟨b5, 0, none⟩), .pointer (some ⟨b15, 0, none⟩)]) hb28 (ih d (by omega) (C := (X2.hp 3 (([] ++ hours.flatMap eI) ++ [I xo]) ++ (b45, .cells ⟨[I xo]⟩ 3) :: C)) (hours := hours ++ [xo]) (T := (T ++ leavesN w d f hours i)) (hC.sub (by intro z hz; ((repeat first|exact z_0|assumption|refine z_1 ?_|(refine z_l ?_;(repeat first|exact z_0|assumption|refine z_1 ?_);done)|refine z_r ?_);done))) perm_4 ((Vec.slvA (t := 3) (n := hours.length + 1) eI_len (by simp) (by rw [hfb]; exact hX2)).sub (by intro z hz; rw [hfb] at hz; ((repeat first|exact z_0|assumption|refine z_1 ?_|(refine z_l ?_;(repeat first|exact z_0|assumption|refine z_1 ?_);done)|refine z_r ?_);done))) (by simp) (by rw [List.length_append, List.length_singleton]; omega) (by omega) (up_ret ?_))))
        refine ⟨(kp_go (by kernel_rfl) (kp_go (by kernel_rfl) (kp_go (by kernel_rfl) kp_nil))), ?_⟩
        refine jx_S rfl rfl (.inl rfl) (xv_not rfl ⟨rfl, rfl⟩) ?_
        refine jx_end ?_
        refine th_n ?_
        refine xc_false rfl ?_
        refine xc_skip ?_
        refine bk_n ?_
        refine th_n ?_
        refine xc_region ?_
        refine xr_op rfl rfl (xv_move rfl ?_)
        refine xr_op rfl rfl (xv_add rfl rfl (wrap_i64 (by (first|omega|(dsimp only at *;omega)|(simp at *;omega))) (by (first|omega|(dsimp only at *;omega)|(simp at *;omega)))) ?_)
        refine xr_op rfl rfl (xv_assign rfl ?_)
        refine xr_end rfl ?_
        exact rnd (i + 1) ⟨by (first|omega|(dsimp only at *;omega)|(simp at *;omega)), by (first|omega|(dsimp only at *;omega)|(simp at *;omega))⟩ (by (first|omega|(dsimp only at *;omega)|(simp at *;omega))) (le_put (le_put (le_put (le_put (le_put (le_put (le_put (le_put (le_put (le_put (le_put (le_emp _) rfl) rfl) rfl) rfl) rfl) rfl) rfl) rfl) rfl) rfl) rfl) (by rw [leavesN_more hfi hko, ← List.append_assoc]; (first|((repeat first|exact s_0|exact s_1|exact s_3|refine s_4 ?_|refine s_5 ?_|refine s_6 ?_|refine s_7 ?_);done)|((repeat first|exact s_0|exact s_1|exact s_3|refine s_4 ?_|refine s_5 ?_|refine s_6 ?_|refine s_8 ?_);done)))
    · refine xr_end rfl ?_
      refine th_n ?_
      refine xc_false rfl ?_
      refine xc_exit ?_
      refine th_x ?_
      refine th_x ?_
      refine bk_same ?_
      refine th_n ?_
      refine xc_seq (xc_region ?_)
      obtain rfl : w.length = i := by (first|omega|(dsimp only at *;omega)|(simp at *;omega))
      refine xr_op rfl rfl (xv_assign rfl ?_)
      refine xr_end rfl ?_
      refine th_n ?_
      refine xc_ret ?_
      refine th_r ?_
      refine body_ret (h' := ((e12, .cells ⟨((List.range cs.length).map (lowT s cs (T ++ leavesN w d f hours w.length))).flatMap eBo⟩ 4) :: (e13, .cells ⟨((List.range cs.length).map (highT s cs (T ++ leavesN w d f hours w.length))).flatMap eBo⟩ 4) :: (b14, .cells ⟨[.bool (leastT s b (T ++ leavesN w d f hours w.length))]⟩ 4) :: (b15, .cells ⟨[.bool (mostT s b (T ++ leavesN w d f hours w.length))]⟩ 4) :: C)) rfl (ro_tmp rfl ro_nil) (by (first|((repeat first|exact s_0|exact s_1|exact s_3|refine s_4 ?_|refine s_5 ?_|refine s_6 ?_|refine s_7 ?_);done)|((repeat first|exact s_0|exact s_1|exact s_3|refine s_4 ?_|refine s_5 ?_|refine s_6 ?_|refine s_8 ?_);done))) ?_
      exact H
  · refine xr_end rfl ?_
    refine th_n ?_
    refine xc_false rfl ?_
    refine xc_skip ?_
    refine th_n ?_
    refine xc_seq (xc_region ?_)
    obtain rfl : d9 = 0 := by (first|omega|(dsimp only at *;omega)|(simp at *;omega))
    obtain ⟨pa, px, ph, pe, hpl⟩ : ∃ a x h e, playA s hours = (a, x, h, e) := ⟨_, _, _, _, rfl⟩
    refine xr_op rfl rfl (xv_loadA ty25 rfl rfl (by ((repeat first|exact z_0|assumption|refine z_1 ?_|(refine z_l ?_;(repeat first|exact z_0|assumption|refine z_1 ?_);done)|refine z_r ?_);done)) (by ((try apply evl_some rfl);(repeat (first|exact (rfl : _ = [])|apply evl_cons rfl (by (first|exact v_1|exact v_2|exact v_3|exact v_4|exact v_5|exact v_6|exact v_7|exact v_8|exact v_9|exact rfl))|exact rfl)))) (by rfl) ?_)
    refine xr_op rfl rfl (xv_move rfl ?_)
    refine xr_op rfl rfl (xv_calls rfl hb13 (PPlayE_c (hC.sl.sub (by intro z hz; ((repeat first|exact z_0|assumption|refine z_1 ?_|(refine z_l ?_;(repeat first|exact z_0|assumption|refine z_1 ?_);done)|refine z_r ?_);done))) hsm rfl (hh.sub (by intro z hz; ((repeat first|exact z_0|assumption|refine z_1 ?_|(refine z_l ?_;(repeat first|exact z_0|assumption|refine z_1 ?_);done)|refine z_r ?_);done))) (by omega) hpl (up_ret ?_)))
    refine xr_op rfl rfl (xv_move rfl ?_)
    refine xr_op rfl rfl (xv_extract rfl rfl ?_)
    refine xr_op rfl rfl (xv_extract rfl rfl ?_)
    refine xr_op rfl rfl (xv_extract rfl rfl ?_)
    refine xr_op rfl rfl (xv_extract rfl rfl ?_)
    refine xr_op rfl rfl (xv_alloc ty30 (fun c16 hc16 => ?_))
    refine xr_op rfl rfl (xv_assign rfl ?_)
    refine xr_op rfl rfl (xv_s ty30 rfl rfl (by (first|(apply u_3;(repeat first|exact u_0|assumption|apply u_1|apply u_2);done)|((repeat first|exact u_0|assumption|apply u_1|apply u_2);done)|(apply u_3;apply u_3;(repeat first|exact u_0|assumption|apply u_1|apply u_2);done)|((repeat first|exact u_0|assumption|apply u_3|apply u_1);done))) (by ((try apply evl_some rfl);(repeat (first|exact (rfl : _ = [])|apply evl_cons rfl (by (first|exact v_1|exact v_2|exact v_3|exact v_4|exact v_5|exact v_6|exact v_7|exact v_8|exact v_9|exact rfl))|exact rfl)))) (by rfl) (by rfl) (by rfl) (by ((try apply evl_some rfl);(repeat (first|exact (rfl : _ = [])|apply evl_cons rfl (by (first|exact v_1|exact v_2|exact v_3|exact v_4|exact v_5|exact v_6|exact v_7|exact v_8|exact v_9|exact rfl))|exact rfl)))) ?_)
    refine xr_op rfl rfl (xv_assign rfl ?_)
    refine xr_op rfl rfl (xv_assign rfl ?_)
    refine xr_end rfl ?_
    refine th_n ?_
    refine xc_seq ?_
    refine xc_seq (xc_region ?_)
    refine xr_op rfl rfl (xv_move rfl ?_)
    refine xr_op rfl rfl (xv_neq2 rfl rfl (fun q5 => ?_) (fun q5 => ?_))
    · refine xr_end rfl ?_
      refine th_n ?_
      refine xc_true rfl ?_
      refine xc_seq (xc_region ?_)
      refine xr_op rfl rfl (xv_assign rfl ?_)
      refine xr_end rfl ?_
      refine th_n ?_
      refine xc_ret ?_
      refine th_r ?_
      refine body_ret (h' := ((e12, .cells ⟨((List.range cs.length).map (lowT s cs T)).flatMap eBo⟩ 4) :: (e13, .cells ⟨((List.range cs.length).map (highT s cs T)).flatMap eBo⟩ 4) :: (b14, .cells ⟨[.bool (leastT s b T)]⟩ 4) :: (b15, .cells ⟨[.bool (mostT s b T)]⟩ 4) :: C)) rfl (ro_tmp rfl ro_nil) (by (first|((repeat first|exact s_0|exact s_1|exact s_3|refine s_4 ?_|refine s_5 ?_|refine s_6 ?_|refine s_7 ?_);done)|((repeat first|exact s_0|exact s_1|exact s_3|refine s_4 ?_|refine s_5 ?_|refine s_6 ?_|refine s_8 ?_);done))) ?_
      have hno := no_acc (cs := cs) (b := b) (T := T) (show acc s hours = false from decide_eq_false (by rw [hpl]; (first|omega|(dsimp only at *;omega)|(simp at *;omega))))
      rw [show leaves w 0 f hours = [hours] from rfl, hno.1, hno.2.1, hno.2.2.1, hno.2.2.2] at H; exact H
    · refine xr_end rfl ?_
      refine th_n ?_
      refine xc_false rfl ?_
      refine xc_skip ?_
      refine th_n ?_
      refine xc_seq (xc_region ?_)
      have hacc : acc s hours = true := decide_eq_true (by rw [hpl]; (first|omega|(dsimp only at *;omega)|(simp at *;omega)))
      obtain ⟨hco, rfl⟩ := play_ok he0 hpl (by (first|omega|(dsimp only at *;omega)|(simp at *;omega)))
      have hT := course_true he0 hco
      refine xr_op rfl rfl (xv_load1 ty35 rfl rfl (by ((repeat first|exact z_0|assumption|refine z_1 ?_|(refine z_l ?_;(repeat first|exact z_0|assumption|refine z_1 ?_);done)|refine z_r ?_);done)) (by rfl) ?_)
      refine xr_op rfl rfl (xv_len sl35 rfl ?_)
      refine xr_op rfl rfl (xv_make (l := (List.replicate cs.length (0 : Int)).flatMap eI) sl26 ty3 rfl rfl (by (first|omega|(dsimp only at *;omega)|(simp at *;omega))) (by simp only []; (first|omega|(dsimp only at *;omega)|(simp at *;omega))) (by simp only []; (first|omega|(dsimp only at *;omega)|(simp at *;omega))) (make_ints _) (fun e38 he38 => ?_))
      refine xr_op rfl rfl (xv_assign rfl ?_)
      refine xr_end rfl ?_
      refine th_n ?_
      refine xc_seq ?_
      refine xc_seq (xc_region ?_)
      refine xr_op rfl rfl (xv_move rfl ?_)
      refine xr_op rfl rfl (xv_len sl26 rfl ?_)
      refine xr_op rfl rfl (xv_move rfl ?_)
      refine xr_end rfl ?_
      refine th_n ?_
      refine xc_block ?_
      refine xc_loop (σ := Nat) (fun j => j ≤ hours.length) (fun j => (((((((((((((((emp.put (some 1) (.slice ha hours.length hc)).put (some 2) (.pointer (some ⟨b1, 0, none⟩))).put (some 3) (.pointer (some ⟨b7, 0, none⟩))).put (some 4) (.pointer (some ⟨b16, 0, none⟩))).put (some 5) (.pointer (some ⟨b3, 0, none⟩))).put (some 6) (.pointer (some ⟨b12, 0, none⟩))).put (some 7) (.pointer (some ⟨b13, 0, none⟩))).put (some 8) (.pointer (some ⟨b14, 0, none⟩))).put (some 9) (.pointer (some ⟨b5, 0, none⟩))).put (some 10) (.pointer (some ⟨b15, 0, none⟩))).put (some 15) (I (byH s hours s.now))).put (some 19) (.slice (some ⟨e38, 0, none⟩) cs.length cs.length)).put (some 62) (.slice ha hours.length hc)).put (some 63) (I hours.length)).put (some 64) (I j))) (fun j => ((e38, .cells ⟨(cntV s (hours.take j)).flatMap eI⟩ 3) :: (c16, .cells ⟨eSpan px⟩ 30) :: ((e12, .cells ⟨((List.range cs.length).map (lowT s cs T)).flatMap eBo⟩ 4) :: (e13, .cells ⟨((List.range cs.length).map (highT s cs T)).flatMap eBo⟩ 4) :: (b14, .cells ⟨[.bool (leastT s b T)]⟩ 4) :: (b15, .cells ⟨[.bool (mostT s b T)]⟩ 4) :: C))) (fun j => hours.length - j) 0 (Nat.zero_le _) (le_put (le_put (le_put (le_put (le_put (le_put (le_put (le_put (le_put (le_put (le_put (le_put (le_put (le_put (le_put (le_emp _) rfl) rfl) rfl) rfl) rfl) rfl) rfl) rfl) rfl) rfl) rfl) rfl) rfl) rfl) rfl) (by rw [show cntV s (hours.take 0) = List.replicate s.tars.length 0 from cntV_0, ← hcl]; (first|((repeat first|exact s_0|exact s_1|exact s_3|refine s_4 ?_|refine s_5 ?_|refine s_6 ?_|refine s_7 ?_);done)|((repeat first|exact s_0|exact s_1|exact s_3|refine s_4 ?_|refine s_5 ?_|refine s_6 ?_|refine s_8 ?_);done))) ?_
      rintro j hj
      refine xc_seq (xc_region ?_)
      refine xr_op rfl rfl (xv_lss2 rfl rfl (fun q6 => ?_) (fun q6 => ?_))
      · refine xr_end rfl ?_
        refine th_n ?_
        refine xc_seq ?_
        refine xc_true rfl ?_
        refine xc_skip ?_
        refine th_n ?_
        refine xc_seq ?_
        refine xc_block ?_
        refine xc_seq (xc_region ?_)
        have hlto : j < hours.length := by (first|omega|(dsimp only at *;omega)|(simp at *;omega))
        obtain ⟨bo, oo, lo, to, fzo, hao, hmo, hxo⟩ := ((hh.sub (by intro z hz; ((repeat first|exact z_0|assumption|refine z_1 ?_|(refine z_l ?_;(repeat first|exact z_0|assumption|refine z_1 ?_);done)|refine z_r ?_);done)) : SlV ((e38, .cells ⟨(cntV s (hours.take j)).flatMap eI⟩ 3) :: (c16, .cells ⟨eSpan px⟩ 30) :: ((e12, .cells ⟨((List.range cs.length).map (lowT s cs T)).flatMap eBo⟩ 4) :: (e13, .cells ⟨((List.range cs.length).map (highT s cs T)).flatMap eBo⟩ 4) :: (b14, .cells ⟨[.bool (leastT s b T)]⟩ 4) :: (b15, .cells ⟨[.bool (mostT s b T)]⟩ 4) :: C)) 1 eI ha hours)).at hlto
        obtain ⟨xo, hko⟩ : ∃ qq_, hours[j]? = some qq_ := ⟨_, List.getElem?_eq_getElem hlto⟩
        have hcv := cntV_step hko hne
        have hft := force_lt hne xo
        have hck := cntK_le s (hours.take j) (force s.tars xo)
        have hcn := cntK_nn (s := s) (hours.take j) (force s.tars xo)
        rw [List.length_take] at hck
        refine xr_op rfl rfl (xv_ia (sz := 1) (j := j) sl26 ty3 rfl (by rw [hao]; rfl) rfl (by (first | assumption | with_reducible exact Int.toNat_natCast _ | with_reducible rfl | rfl)) (by (first|omega|(dsimp only at *;omega)|(simp at *;omega))) (by (first|omega|(dsimp only at *;omega)|(simp at *;omega))) ?_)
        refine xr_op rfl rfl (xv_load1 ty3 rfl rfl (by ((repeat first|exact z_0|assumption|refine z_1 ?_|(refine z_l ?_;(repeat first|exact z_0|assumption|refine z_1 ?_);done)|refine z_r ?_);done)) (take_get (hxo (j) xo hko) (j := 0) rfl) ?_)
        refine xr_op rfl rfl (xv_assign rfl ?_)
        refine xr_end rfl ?_
        refine th_n ?_
        refine xc_region ?_
        refine xr_op rfl rfl (xv_move rfl ?_)
        refine xr_op rfl rfl (xv_loadA ty25 rfl rfl (by ((repeat first|exact z_0|assumption|refine z_1 ?_|(refine z_l ?_;(repeat first|exact z_0|assumption|refine z_1 ?_);done)|refine z_r ?_);done)) (by ((try apply evl_some rfl);(repeat (first|exact (rfl : _ = [])|apply evl_cons rfl (by (first|exact v_1|exact v_2|exact v_3|exact v_4|exact v_5|exact v_6|exact v_7|exact v_8|exact v_9|exact rfl))|exact rfl)))) (by rfl) ?_)
        refine xr_op rfl rfl (xv_move rfl ?_)
        refine xr_op rfl rfl (xv_calls rfl hb27 (Force_c (hC.sl.sub (by intro z hz; ((repeat first|exact z_0|assumption|refine z_1 ?_|(refine z_l ?_;(repeat first|exact z_0|assumption|refine z_1 ?_);done)|refine z_r ?_);done))) (by omega) (up_ret ?_)))
        refine xr_op rfl rfl (xv_ia (sz := 1) (j := force s.tars xo) sl26 ty3 rfl rfl rfl (by (first | assumption | with_reducible exact Int.toNat_natCast _ | with_reducible rfl | rfl)) (by (first|omega|(dsimp only at *;omega)|(simp at *;omega))) (by (first|omega|(dsimp only at *;omega)|(simp at *;omega))) ?_)
        refine xr_op rfl rfl (xv_load1 (v := I (cntK s (hours.take j) (force s.tars xo))) ty3 rfl rfl (by ((repeat first|exact z_0|assumption|refine z_1 ?_|(refine z_l ?_;(repeat first|exact z_0|assumption|refine z_1 ?_);done)|refine z_r ?_);done)) (by simp [flat_I, hcv.1]) ?_)
        refine xr_op rfl rfl (xv_add rfl rfl (wrap_i64 (by (first|omega|(dsimp only at *;omega)|(simp at *;omega))) (by (first|omega|(dsimp only at *;omega)|(simp at *;omega)))) ?_)
        refine xr_op rfl rfl (xv_ia (sz := 1) (j := force s.tars xo) sl26 ty3 rfl rfl rfl (by (first | assumption | with_reducible exact Int.toNat_natCast _ | with_reducible rfl | rfl)) (by (first|omega|(dsimp only at *;omega)|(simp at *;omega))) (by (first|omega|(dsimp only at *;omega)|(simp at *;omega))) ?_)
        refine xr_op rfl rfl (xv_s1 (l' := ((cntV s (hours.take j)).set (force s.tars xo) (cntK s (hours.take j) (force s.tars xo) + 1)).flatMap eI) ty3 rfl rfl rfl (by (first|(apply u_3;(repeat first|exact u_0|assumption|apply u_1|apply u_2);done)|((repeat first|exact u_0|assumption|apply u_1|apply u_2);done)|(apply u_3;apply u_3;(repeat first|exact u_0|assumption|apply u_1|apply u_2);done)|((repeat first|exact u_0|assumption|apply u_3|apply u_1);done))) rfl (by rw [flat_I]; simp [cntV_len]; exact hft) (by simp [flat_I, List.map_set]) ?_)
        refine xr_end rfl ?_
        refine bk_n ?_
        refine th_n ?_
        refine xc_region ?_
        refine xr_op rfl rfl (xv_add rfl rfl (wrap_i64 (by (first|omega|(dsimp only at *;omega)|(simp at *;omega))) (by (first|omega|(dsimp only at *;omega)|(simp at *;omega)))) ?_)
        refine xr_op rfl rfl (xv_move rfl ?_)
        refine xr_end rfl ?_
        exact rnd (j + 1) (by (first|omega|(dsimp only at *;omega)|(simp at *;omega))) (by (first|omega|(dsimp only at *;omega)|(simp at *;omega))) (le_put (le_put (le_put (le_put (le_put (le_put (le_put (le_put (le_put (le_put (le_put (le_put (le_put (le_put (le_put (le_emp _) rfl) rfl) rfl) rfl) rfl) rfl) rfl) rfl) rfl) rfl) rfl) rfl) rfl) rfl) rfl) (by rw [hcv.2]; (first|((repeat first|exact s_0|exact s_1|exact s_3|refine s_4 ?_|refine s_5 ?_|refine s_6 ?_|refine s_7 ?_);done)|((repeat first|exact s_0|exact s_1|exact s_3|refine s_4 ?_|refine s_5 ?_|refine s_6 ?_|refine s_8 ?_);done)))
      · refine xr_end rfl ?_
        refine th_n ?_
        refine xc_seq ?_
        refine xc_false rfl ?_
        refine xc_exit ?_
        refine th_x ?_
        refine th_x ?_
        refine bk_same ?_
        refine th_n ?_
        refine xc_seq ?_
        refine xc_seq (xc_region ?_)
        obtain rfl : hours.length = j := by (first|omega|(dsimp only at *;omega)|(simp at *;omega))
        rw [List.take_length]
        refine xr_op rfl rfl (xv_load1 ty35 rfl rfl (by ((repeat first|exact z_0|assumption|refine z_1 ?_|(refine z_l ?_;(repeat first|exact z_0|assumption|refine z_1 ?_);done)|refine z_r ?_);done)) (by rfl) ?_)
        refine xr_op rfl rfl (xv_len sl35 rfl ?_)
        refine xr_op rfl rfl (xv_move rfl ?_)
        refine xr_end rfl ?_
        refine th_n ?_
        refine xc_block ?_
        refine xc_loop (σ := Nat) (fun k => k ≤ cs.length) (fun k => (((((((((((((((emp.put (some 1) (.slice ha hours.length hc)).put (some 2) (.pointer (some ⟨b1, 0, none⟩))).put (some 3) (.pointer (some ⟨b7, 0, none⟩))).put (some 4) (.pointer (some ⟨b16, 0, none⟩))).put (some 5) (.pointer (some ⟨b3, 0, none⟩))).put (some 6) (.pointer (some ⟨b12, 0, none⟩))).put (some 7) (.pointer (some ⟨b13, 0, none⟩))).put (some 8) (.pointer (some ⟨b14, 0, none⟩))).put (some 9) (.pointer (some ⟨b5, 0, none⟩))).put (some 10) (.pointer (some ⟨b15, 0, none⟩))).put (some 15) (I (byH s hours s.now))).put (some 19) (.slice (some ⟨e38, 0, none⟩) cs.length cs.length)).put (some 77) (.slice ca cs.length cc)).put (some 78) (I cs.length)).put (some 79) (I k))) (fun k => ((e38, .cells ⟨(cntV s hours).flatMap eI⟩ 3) :: (c16, .cells ⟨eSpan px⟩ 30) :: ((e12, .cells ⟨(flagM (lowT s cs T) (lowT s cs (T ++ [hours])) cs.length k).flatMap eBo⟩ 4) :: (e13, .cells ⟨(flagM (highT s cs T) (highT s cs (T ++ [hours])) cs.length k).flatMap eBo⟩ 4) :: (b14, .cells ⟨[.bool (leastT s b T)]⟩ 4) :: (b15, .cells ⟨[.bool (mostT s b T)]⟩ 4) :: C))) (fun k => cs.length - k) 0 (Nat.zero_le _) (le_put (le_put (le_put (le_put (le_put (le_put (le_put (le_put (le_put (le_put (le_put (le_put (le_put (le_put (le_put (le_emp _) rfl) rfl) rfl) rfl) rfl) rfl) rfl) rfl) rfl) rfl) rfl) rfl) rfl) rfl) rfl) (by rw [flagM_0, flagM_0]; (first|((repeat first|exact s_0|exact s_1|exact s_3|refine s_4 ?_|refine s_5 ?_|refine s_6 ?_|refine s_7 ?_);done)|((repeat first|exact s_0|exact s_1|exact s_3|refine s_4 ?_|refine s_5 ?_|refine s_6 ?_|refine s_8 ?_);done))) ?_
        rintro k hk
        refine xc_seq (xc_region ?_)
        refine xr_op rfl rfl (xv_lss2 rfl rfl (fun q7 => ?_) (fun q7 => ?_))
        · refine xr_end rfl ?_
          refine th_n ?_
          refine xc_seq ?_
          refine xc_true rfl ?_
          refine xc_skip ?_
          refine th_n ?_
          refine xc_seq ?_
          refine xc_block ?_
          refine xc_seq (xc_region ?_)
          have hlto : k < cs.length := by (first|omega|(dsimp only at *;omega)|(simp at *;omega))
          obtain ⟨bo, oo, lo, to, fzo, hao, hmo, hxo⟩ := ((hC.c.sub (by intro z hz; ((repeat first|exact z_0|assumption|refine z_1 ?_|(refine z_l ?_;(repeat first|exact z_0|assumption|refine z_1 ?_);done)|refine z_r ?_);done)) : SlV ((e38, .cells ⟨(cntV s hours).flatMap eI⟩ 3) :: (c16, .cells ⟨eSpan px⟩ 30) :: ((e12, .cells ⟨(flagM (lowT s cs T) (lowT s cs (T ++ [hours])) cs.length k).flatMap eBo⟩ 4) :: (e13, .cells ⟨(flagM (highT s cs T) (highT s cs (T ++ [hours])) cs.length k).flatMap eBo⟩ 4) :: (b14, .cells ⟨[.bool (leastT s b T)]⟩ 4) :: (b15, .cells ⟨[.bool (mostT s b T)]⟩ 4) :: C)) 2 eSpan ca cs)).at hlto
          obtain ⟨xo, hko⟩ : ∃ qq_, cs[k]? = some qq_ := ⟨_, List.getElem?_eq_getElem hlto⟩
          have hkl : k < cs.length := by (first|omega|(dsimp only at *;omega)|(simp at *;omega))
          obtain ⟨tc1, tc2, tc3⟩ := hT.co k xo (by rw [← hcs]; exact hko)
          have hck := cntV_at (s := s) (hours := hours) (k := k) (by omega)
          have hgd : cs.getD k default = xo := by rw [List.getD_eq_getElem?_getD, hko]; rfl
          refine xr_op rfl rfl (xv_move rfl ?_)
          refine xr_op rfl rfl (xv_ia (sz := 2) (j := k) sl35 ty30 rfl (by rw [hao]; rfl) rfl (by (first | assumption | with_reducible exact Int.toNat_natCast _ | with_reducible rfl | rfl)) (by (first|omega|(dsimp only at *;omega)|(simp at *;omega))) (by (first|omega|(dsimp only at *;omega)|(simp at *;omega))) ?_)
          refine xr_op rfl rfl (xv_loadA ty30 rfl rfl (by ((repeat first|exact z_0|assumption|refine z_1 ?_|(refine z_l ?_;(repeat first|exact z_0|assumption|refine z_1 ?_);done)|refine z_r ?_);done)) (hxo (k) xo hko) rfl ?_)
          refine xr_op rfl rfl (xv_alloc ty30 (fun c23 hc23 => ?_))
          refine xr_op rfl rfl (xv_assign rfl ?_)
          refine xr_op rfl rfl (xv_s ty30 rfl rfl (by (first|(apply u_3;(repeat first|exact u_0|assumption|apply u_1|apply u_2);done)|((repeat first|exact u_0|assumption|apply u_1|apply u_2);done)|(apply u_3;apply u_3;(repeat first|exact u_0|assumption|apply u_1|apply u_2);done)|((repeat first|exact u_0|assumption|apply u_3|apply u_1);done))) (by ((try apply evl_some rfl);(repeat (first|exact (rfl : _ = [])|apply evl_cons rfl (by (first|exact v_1|exact v_2|exact v_3|exact v_4|exact v_5|exact v_6|exact v_7|exact v_8|exact v_9|exact rfl))|exact rfl)))) (by rfl) (by rfl) (by rfl) (by ((try apply evl_some rfl);(repeat (first|exact (rfl : _ = [])|apply evl_cons rfl (by (first|exact v_1|exact v_2|exact v_3|exact v_4|exact v_5|exact v_6|exact v_7|exact v_8|exact v_9|exact rfl))|exact rfl)))) ?_)
          refine xr_end rfl ?_
          refine th_n ?_
          refine xc_seq ?_
          rcases Bool.eq_false_or_eq_true (lowT s cs T k) with hlo | hlo <;> rcases Bool.eq_false_or_eq_true (highT s cs T k) with hhi | hhi
          · refine xc_drawX0 [(2, [(b13, fun o => o = .cells ⟨[.slice (some ⟨e13, 0, none⟩) cs.length cs.length]⟩ 55 (0, 0))]), (27, [(c23, fun o => o = .cells ⟨eSpan xo⟩ 30 (0, 0))])] [(0, .R), (1, .S), (2, .S), (3, .S), (4, .R), (5, .S), (6, .S), (7, .R), (8, .S), (9, .S), (10, .S), (11, .S), (12, .R), (13, .S), (14, .R), (15, .S), (16, .S), (17, .R), (18, .S), (19, .S), (20, .R), (21, .S), (22, .S), (23, .S), (24, .S), (25, .R), (26, .S), (27, .S), (28, .S), (29, .S), (30, .S), (31, .O), (32, .S), (33, .O)] mixed (by kernel_rfl) (iv_cons (holds1 (by ((repeat first|exact z_0|assumption|refine z_1 ?_|(refine z_l ?_;(repeat first|exact z_0|assumption|refine z_1 ?_);done)|refine z_r ?_);done)) rfl) (iv_cons (holds1 (by ((repeat first|exact z_0|assumption|refine z_1 ?_|(refine z_l ?_;(repeat first|exact z_0|assumption|refine z_1 ?_);done)|refine z_r ?_);done)) rfl) iv_nil)) ?_
            have hlv : lowT s cs (T ++ [hours]) k = true := by rw [lowT_snoc, hlo, hacc, hgd]; simp
            have hhv : highT s cs (T ++ [hours]) k = true := by rw [highT_snoc, hhi, hacc, hgd]; simp
            refine jx_R rfl rfl (.inl rfl) (xv_load1 ty55 rfl rfl (by ((repeat first|exact z_0|assumption|refine z_1 ?_|(refine z_l ?_;(repeat first|exact z_0|assumption|refine z_1 ?_);done)|refine z_r ?_);done)) (by rfl) ⟨rfl, rfl⟩) ?_
            refine jx_S rfl rfl (.inl rfl) (xv_move rfl ⟨rfl, rfl⟩) ?_
            refine jx_I rfl rfl (.inl rfl) (fun hh hv => by have hv2 : Holds [(b13, fun o => o = .cells ⟨[.slice (some ⟨e13, 0, none⟩) cs.length cs.length]⟩ 55 (0, 0))] hh := hv; obtain ⟨o9, hm9, e9⟩ := hv2 _ _ List.mem_cons_self; subst e9; exact xv_load1 ty55 rfl rfl hm9 rfl ⟨rfl, rfl⟩) ?_
            refine jx_S rfl rfl (.inl rfl) (xv_move rfl ⟨rfl, rfl⟩) ?_
            refine jx_R rfl rfl (.inl rfl) (xv_load1 ty55 rfl rfl (by ((repeat first|exact z_0|assumption|refine z_1 ?_|(refine z_l ?_;(repeat first|exact z_0|assumption|refine z_1 ?_);done)|refine z_r ?_);done)) (by rfl) ⟨rfl, rfl⟩) ?_
            refine jx_S rfl rfl (.inl rfl) (xv_move rfl ⟨rfl, rfl⟩) ?_
            refine jx_S rfl rfl (.inl rfl) (xv_ia (sz := 1) (j := k) sl55 ty4 rfl rfl rfl (by (first | assumption | with_reducible exact Int.toNat_natCast _ | with_reducible rfl | rfl)) (by (first|omega|(dsimp only at *;omega)|(simp at *;omega))) (by (first|omega|(dsimp only at *;omega)|(simp at *;omega))) ⟨rfl, rfl⟩) ?_
            refine jx_R rfl rfl (.inl rfl) (xv_load1 (v := .bool true) ty4 rfl rfl (by ((repeat first|exact z_0|assumption|refine z_1 ?_|(refine z_l ?_;(repeat first|exact z_0|assumption|refine z_1 ?_);done)|refine z_r ?_);done)) (by rw [Nat.zero_add, Nat.mul_one]; exact bo_get (flagM_at hkl) hlo) ⟨rfl, rfl⟩) ?_
            refine jx_S rfl rfl (.inl rfl) (xv_move rfl ⟨rfl, rfl⟩) ?_
            refine jx_Ss rfl rfl ⟨_, _, _, rfl, rfl, rfl⟩ ?_
            refine jx_Ss rfl rfl ⟨_, _, _, rfl, rfl, rfl⟩ ?_
            refine jx_Ss rfl rfl ⟨_, _, _, rfl, rfl, rfl⟩ ?_
            refine jx_Rs rfl rfl ⟨_, _, _, rfl, rfl, rfl⟩ ?_
            refine jx_Ss rfl rfl ⟨_, _, _, rfl, rfl, rfl⟩ ?_
            refine jx_Rs rfl rfl ⟨_, _, _, rfl, rfl, rfl⟩ ?_
            refine jx_Ss rfl rfl ⟨_, _, _, rfl, rfl, rfl⟩ ?_
            refine jx_S rfl rfl (.inl rfl) (xv_pick rfl rfl ⟨rfl, rfl⟩) ?_
            refine jx_R rfl rfl (.inl rfl) (xv_load1 ty55 rfl rfl (by ((repeat first|exact z_0|assumption|refine z_1 ?_|(refine z_l ?_;(repeat first|exact z_0|assumption|refine z_1 ?_);done)|refine z_r ?_);done)) (by rfl) ⟨rfl, rfl⟩) ?_
            refine jx_S rfl rfl (.inl rfl) (xv_move rfl ⟨rfl, rfl⟩) ?_
            refine jx_S rfl rfl (.inl rfl) (xv_ia (sz := 1) (j := k) sl55 ty4 rfl rfl rfl (by (first | assumption | with_reducible exact Int.toNat_natCast _ | with_reducible rfl | rfl)) (by (first|omega|(dsimp only at *;omega)|(simp at *;omega))) (by (first|omega|(dsimp only at *;omega)|(simp at *;omega))) ⟨rfl, rfl⟩) ?_
            refine jx_R rfl rfl (.inl rfl) (xv_load1 (v := .bool true) ty4 rfl rfl (by ((repeat first|exact z_0|assumption|refine z_1 ?_|(refine z_l ?_;(repeat first|exact z_0|assumption|refine z_1 ?_);done)|refine z_r ?_);done)) (by rw [Nat.zero_add, Nat.mul_one]; exact bo_get (flagM_at hkl) hhi) ⟨rfl, rfl⟩) ?_
            refine jx_S rfl rfl (.inl rfl) (xv_move rfl ⟨rfl, rfl⟩) ?_
            refine jx_Ss rfl rfl ⟨_, _, _, rfl, rfl, rfl⟩ ?_
            refine jx_Ss rfl rfl ⟨_, _, _, rfl, rfl, rfl⟩ ?_
            refine jx_Ss rfl rfl ⟨_, _, _, rfl, rfl, rfl⟩ ?_
            refine jx_Rs rfl rfl ⟨_, _, _, rfl, rfl, rfl⟩ ?_
            refine jx_Ss rfl rfl ⟨_, _, _, rfl, rfl, rfl⟩ ?_
            refine jx_Ss rfl rfl ⟨_, _, _, rfl, rfl, rfl⟩ ?_
            refine jx_Ss rfl rfl ⟨_, _, _, rfl, rfl, rfl⟩ ?_
            refine jx_S rfl rfl (.inl rfl) (xv_pick rfl rfl ⟨rfl, rfl⟩) ?_
            refine jx_S rfl rfl (.inl rfl) (xv_ia (sz := 1) (j := k) sl55 ty4 rfl rfl rfl (by (first | assumption | with_reducible exact Int.toNat_natCast _ | with_reducible rfl | rfl)) (by (first|omega|(dsimp only at *;omega)|(simp at *;omega))) (by (first|omega|(dsimp only at *;omega)|(simp at *;omega))) ⟨rfl, rfl⟩) ?_
            refine jx_O rfl rfl (.inl rfl) (xv_s1 (l' := (((flagM (lowT s cs T) (lowT s cs (T ++ [hours])) cs.length k).set k (lowT s cs (T ++ [hours]) k)).flatMap eBo)) ty4 rfl rfl rfl (by (first|(apply u_3;(repeat first|exact u_0|assumption|apply u_1|apply u_2);done)|((repeat first|exact u_0|assumption|apply u_1|apply u_2);done)|(apply u_3;apply u_3;(repeat first|exact u_0|assumption|apply u_1|apply u_2);done)|((repeat first|exact u_0|assumption|apply u_3|apply u_1);done))) rfl (by rw [bo_len, flagM_len]; (first|omega|(dsimp only at *;omega)|(simp at *;omega))) (by rw [Nat.zero_add, Nat.mul_one]; exact bo_set hlv) ?_)
            refine ⟨(kp_in (holds1 (by ((repeat first|exact z_0|assumption|refine z_1 ?_|(refine z_l ?_;(repeat first|exact z_0|assumption|refine z_1 ?_);done)|refine z_r ?_);done)) rfl) (kp_in (holds1 (by ((repeat first|exact z_0|assumption|refine z_1 ?_|(refine z_l ?_;(repeat first|exact z_0|assumption|refine z_1 ?_);done)|refine z_r ?_);done)) rfl) kp_nil)), ?_⟩
            refine jx_S rfl rfl (.inl rfl) (xv_ia (sz := 1) (j := k) sl55 ty4 rfl rfl rfl (by (first | assumption | with_reducible exact Int.toNat_natCast _ | with_reducible rfl | rfl)) (by (first|omega|(dsimp only at *;omega)|(simp at *;omega))) (by (first|omega|(dsimp only at *;omega)|(simp at *;omega))) ⟨rfl, rfl⟩) ?_
            refine jx_O rfl rfl (.inl rfl) (xv_s1 (l' := (((flagM (highT s cs T) (highT s cs (T ++ [hours])) cs.length k).set k (highT s cs (T ++ [hours]) k)).flatMap eBo)) ty4 rfl rfl rfl (by (first|(apply u_3;(repeat first|exact u_0|assumption|apply u_1|apply u_2);done)|((repeat first|exact u_0|assumption|apply u_1|apply u_2);done)|(apply u_3;apply u_3;(repeat first|exact u_0|assumption|apply u_1|apply u_2);done)|((repeat first|exact u_0|assumption|apply u_3|apply u_1);done))) rfl (by rw [bo_len, flagM_len]; (first|omega|(dsimp only at *;omega)|(simp at *;omega))) (by rw [Nat.zero_add, Nat.mul_one]; exact bo_set hhv) ?_)
            refine ⟨(kp_go (by kernel_rfl) (kp_go (by kernel_rfl) kp_nil)), ?_⟩
            refine jx_end ?_
            refine th_n ?_
            refine xc_seq ?_
            refine xc_draw0 [(0, .S), (1, .S), (2, .S), (3, .R), (4, .S), (5, .R), (6, .S), (7, .S), (8, .S), (9, .S), (10, .S), (11, .R), (12, .S), (13, .R), (14, .S), (15, .S)] mixed (by kernel_rfl) ?_
            refine js_S rfl rfl (.inl rfl) (xv_move rfl ⟨rfl, rfl⟩) ?_
            refine js_S rfl rfl (.inl rfl) (xv_move rfl ⟨rfl, rfl⟩) ?_
            refine js_S rfl rfl (.inl rfl) (xv_ia (sz := 1) (j := k) sl26 ty3 rfl rfl rfl (by (first | assumption | with_reducible exact Int.toNat_natCast _ | with_reducible rfl | rfl)) (by (first|omega|(dsimp only at *;omega)|(simp at *;omega))) (by (first|omega|(dsimp only at *;omega)|(simp at *;omega))) ⟨rfl, rfl⟩) ?_
            refine js_R0 rfl rfl (.inl rfl) (xv_load1 (v := I (cntK s hours k)) ty3 rfl rfl (by ((repeat first|exact z_0|assumption|refine z_1 ?_|(refine z_l ?_;(repeat first|exact z_0|assumption|refine z_1 ?_);done)|refine z_r ?_);done)) (by simp [flat_I, hck]) ⟨rfl, rfl⟩) ?_
            refine js_S rfl rfl (.inl rfl) (xv_faddr fl30_0 rfl ⟨rfl, rfl⟩) ?_
            refine js_R0 rfl rfl (.inl rfl) (xv_load1 ty3 rfl rfl (by ((repeat first|exact z_0|assumption|refine z_1 ?_|(refine z_l ?_;(repeat first|exact z_0|assumption|refine z_1 ?_);done)|refine z_r ?_);done)) (by rfl) ⟨rfl, rfl⟩) ?_
            refine js_S rfl rfl (.inl rfl) (xv_cmp rfl rfl (lssF_ (by omega)) ⟨rfl, rfl⟩) ?_
            refine js_S rfl rfl (.inl rfl) (xv_move rfl ⟨rfl, rfl⟩) ?_
            refine js_S rfl rfl (.inr ⟨_, _, rfl, rfl⟩) (xv_move rfl ⟨rfl, rfl⟩) ?_
            refine js_S rfl rfl (.inr ⟨_, _, rfl, rfl⟩) (xv_move rfl ⟨rfl, rfl⟩) ?_
            refine js_S rfl rfl (.inr ⟨_, _, rfl, rfl⟩) (xv_ia (sz := 1) (j := k) sl26 ty3 rfl rfl rfl (by (first | assumption | with_reducible exact Int.toNat_natCast _ | with_reducible rfl | rfl)) (by (first|omega|(dsimp only at *;omega)|(simp at *;omega))) (by (first|omega|(dsimp only at *;omega)|(simp at *;omega))) ⟨rfl, rfl⟩) ?_
            refine js_R0 rfl rfl (.inr ⟨_, _, rfl, rfl⟩) (xv_load1 (v := I (cntK s hours k)) ty3 rfl rfl (by ((repeat first|exact z_0|assumption|refine z_1 ?_|(refine z_l ?_;(repeat first|exact z_0|assumption|refine z_1 ?_);done)|refine z_r ?_);done)) (by simp [flat_I, hck]) ⟨rfl, rfl⟩) ?_
            refine js_S rfl rfl (.inr ⟨_, _, rfl, rfl⟩) (xv_faddr fl30_1 rfl ⟨rfl, rfl⟩) ?_
            refine js_R0 rfl rfl (.inr ⟨_, _, rfl, rfl⟩) (xv_load1 ty3 rfl rfl (by ((repeat first|exact z_0|assumption|refine z_1 ?_|(refine z_l ?_;(repeat first|exact z_0|assumption|refine z_1 ?_);done)|refine z_r ?_);done)) (by rfl) ⟨rfl, rfl⟩) ?_
            refine js_S rfl rfl (.inr ⟨_, _, rfl, rfl⟩) (xv_cmp rfl rfl (gtrF_ (by omega)) ⟨rfl, rfl⟩) ?_
            refine js_S rfl rfl (.inl rfl) (xv_pick rfl rfl ⟨rfl, rfl⟩) ?_
            refine j_end0 ?_
            refine th_n ?_
            refine xc_false rfl ?_
            refine xc_skip ?_
            refine bk_n ?_
            refine th_n ?_
            refine xc_region ?_
            refine xr_op rfl rfl (xv_add rfl rfl (wrap_i64 (by (first|omega|(dsimp only at *;omega)|(simp at *;omega))) (by (first|omega|(dsimp only at *;omega)|(simp at *;omega)))) ?_)
            refine xr_op rfl rfl (xv_move rfl ?_)
            refine xr_end rfl ?_
            exact rnd (k + 1) (by (first|omega|(dsimp only at *;omega)|(simp at *;omega))) (by (first|omega|(dsimp only at *;omega)|(simp at *;omega))) (le_put (le_put (le_put (le_put (le_put (le_put (le_put (le_put (le_put (le_put (le_put (le_put (le_put (le_put (le_put (le_emp _) rfl) rfl) rfl) rfl) rfl) rfl) rfl) rfl) rfl) rfl) rfl) rfl) rfl) rfl) rfl) (by rw [flagM_set hkl, flagM_set hkl]; (first|((repeat first|exact s_0|exact s_1|exact s_3|refine s_4 ?_|refine s_5 ?_|refine s_6 ?_|refine s_7 ?_);done)|((repeat first|exact s_0|exact s_1|exact s_3|refine s_4 ?_|refine s_5 ?_|refine s_6 ?_|refine s_8 ?_);done)))
          · refine xc_drawX0 [(2, [(b13, fun o => o = .cells ⟨[.slice (some ⟨e13, 0, none⟩) cs.length cs.length]⟩ 55 (0, 0))]), (27, [(c23, fun o => o = .cells ⟨eSpan xo⟩ 30 (0, 0))])] [(0, .R), (1, .S), (2, .S), (3, .S), (4, .R), (5, .S), (6, .S), (7, .R), (8, .S), (9, .S), (10, .S), (11, .S), (12, .R), (13, .S), (14, .R), (15, .S), (16, .S), (17, .R), (18, .S), (19, .S), (20, .R), (21, .S), (22, .S), (23, .S), (24, .S), (25, .R), (26, .S), (27, .S), (28, .S), (29, .S), (30, .S), (31, .O), (32, .S), (33, .O)] mixed (by kernel_rfl) (iv_cons (holds1 (by ((repeat first|exact z_0|assumption|refine z_1 ?_|(refine z_l ?_;(repeat first|exact z_0|assumption|refine z_1 ?_);done)|refine z_r ?_);done)) rfl) (iv_cons (holds1 (by ((repeat first|exact z_0|assumption|refine z_1 ?_|(refine z_l ?_;(repeat first|exact z_0|assumption|refine z_1 ?_);done)|refine z_r ?_);done)) rfl) iv_nil)) ?_
            have hlv : lowT s cs (T ++ [hours]) k = true := by rw [lowT_snoc, hlo, hacc, hgd]; simp
            have hhv : highT s cs (T ++ [hours]) k = decide (cntK s hours k = xo.hi) := by rw [highT_snoc, hhi, hacc, hgd]; simp
            refine jx_R rfl rfl (.inl rfl) (xv_load1 ty55 rfl rfl (by ((repeat first|exact z_0|assumption|refine z_1 ?_|(refine z_l ?_;(repeat first|exact z_0|assumption|refine z_1 ?_);done)|refine z_r ?_);done)) (by rfl) ⟨rfl, rfl⟩) ?_
            refine jx_S rfl rfl (.inl rfl) (xv_move rfl ⟨rfl, rfl⟩) ?_
            refine jx_I rfl rfl (.inl rfl) (fun hh hv => by have hv2 : Holds [(b13, fun o => o = .cells ⟨[.slice (some ⟨e13, 0, none⟩) cs.length cs.length]⟩ 55 (0, 0))] hh := hv; obtain ⟨o9, hm9, e9⟩ := hv2 _ _ List.mem_cons_self; subst e9; exact xv_load1 ty55 rfl rfl hm9 rfl ⟨rfl, rfl⟩) ?_
            refine jx_S rfl rfl (.inl rfl) (xv_move rfl ⟨rfl, rfl⟩) ?_
            refine jx_R rfl rfl (.inl rfl) (xv_load1 ty55 rfl rfl (by ((repeat first|exact z_0|assumption|refine z_1 ?_|(refine z_l ?_;(repeat first|exact z_0|assumption|refine z_1 ?_);done)|refine z_r ?_);done)) (by rfl) ⟨rfl, rfl⟩) ?_
            refine jx_S rfl rfl (.inl rfl) (xv_move rfl ⟨rfl, rfl⟩) ?_
            refine jx_S rfl rfl (.inl rfl) (xv_ia (sz := 1) (j := k) sl55 ty4 rfl rfl rfl (by (first | assumption | with_reducible exact Int.toNat_natCast _ | with_reducible rfl | rfl)) (by (first|omega|(dsimp only at *;omega)|(simp at *;omega))) (by (first|omega|(dsimp only at *;omega)|(simp at *;omega))) ⟨rfl, rfl⟩) ?_
            refine jx_R rfl rfl (.inl rfl) (xv_load1 (v := .bool true) ty4 rfl rfl (by ((repeat first|exact z_0|assumption|refine z_1 ?_|(refine z_l ?_;(repeat first|exact z_0|assumption|refine z_1 ?_);done)|refine z_r ?_);done)) (by rw [Nat.zero_add, Nat.mul_one]; exact bo_get (flagM_at hkl) hlo) ⟨rfl, rfl⟩) ?_
            refine jx_S rfl rfl (.inl rfl) (xv_move rfl ⟨rfl, rfl⟩) ?_
            refine jx_Ss rfl rfl ⟨_, _, _, rfl, rfl, rfl⟩ ?_
            refine jx_Ss rfl rfl ⟨_, _, _, rfl, rfl, rfl⟩ ?_
            refine jx_Ss rfl rfl ⟨_, _, _, rfl, rfl, rfl⟩ ?_
            refine jx_Rs rfl rfl ⟨_, _, _, rfl, rfl, rfl⟩ ?_
            refine jx_Ss rfl rfl ⟨_, _, _, rfl, rfl, rfl⟩ ?_
            refine jx_Rs rfl rfl ⟨_, _, _, rfl, rfl, rfl⟩ ?_
            refine jx_Ss rfl rfl ⟨_, _, _, rfl, rfl, rfl⟩ ?_
            refine jx_S rfl rfl (.inl rfl) (xv_pick rfl rfl ⟨rfl, rfl⟩) ?_
            refine jx_R rfl rfl (.inl rfl) (xv_load1 ty55 rfl rfl (by ((repeat first|exact z_0|assumption|refine z_1 ?_|(refine z_l ?_;(repeat first|exact z_0|assumption|refine z_1 ?_);done)|refine z_r ?_);done)) (by rfl) ⟨rfl, rfl⟩) ?_
            refine jx_S rfl rfl (.inl rfl) (xv_move rfl ⟨rfl, rfl⟩) ?_
            refine jx_S rfl rfl (.inl rfl) (xv_ia (sz := 1) (j := k) sl55 ty4 rfl rfl rfl (by (first | assumption | with_reducible exact Int.toNat_natCast _ | with_reducible rfl | rfl)) (by (first|omega|(dsimp only at *;omega)|(simp at *;omega))) (by (first|omega|(dsimp only at *;omega)|(simp at *;omega))) ⟨rfl, rfl⟩) ?_
            refine jx_R rfl rfl (.inl rfl) (xv_load1 (v := .bool false) ty4 rfl rfl (by ((repeat first|exact z_0|assumption|refine z_1 ?_|(refine z_l ?_;(repeat first|exact z_0|assumption|refine z_1 ?_);done)|refine z_r ?_);done)) (by rw [Nat.zero_add, Nat.mul_one]; exact bo_get (flagM_at hkl) hhi) ⟨rfl, rfl⟩) ?_
            refine jx_S rfl rfl (.inl rfl) (xv_move rfl ⟨rfl, rfl⟩) ?_
            refine jx_S rfl rfl (.inr ⟨_, _, rfl, rfl⟩) (xv_move rfl ⟨rfl, rfl⟩) ?_
            refine jx_S rfl rfl (.inr ⟨_, _, rfl, rfl⟩) (xv_move rfl ⟨rfl, rfl⟩) ?_
            refine jx_S rfl rfl (.inr ⟨_, _, rfl, rfl⟩) (xv_ia (sz := 1) (j := k) sl26 ty3 rfl rfl rfl (by (first | assumption | with_reducible exact Int.toNat_natCast _ | with_reducible rfl | rfl)) (by (first|omega|(dsimp only at *;omega)|(simp at *;omega))) (by (first|omega|(dsimp only at *;omega)|(simp at *;omega))) ⟨rfl, rfl⟩) ?_
            refine jx_R rfl rfl (.inr ⟨_, _, rfl, rfl⟩) (xv_load1 (v := I (cntK s hours k)) ty3 rfl rfl (by ((repeat first|exact z_0|assumption|refine z_1 ?_|(refine z_l ?_;(repeat first|exact z_0|assumption|refine z_1 ?_);done)|refine z_r ?_);done)) (by simp [flat_I, hck]) ⟨rfl, rfl⟩) ?_
            refine jx_S rfl rfl (.inr ⟨_, _, rfl, rfl⟩) (xv_faddr fl30_1 rfl ⟨rfl, rfl⟩) ?_
            refine jx_I rfl rfl (.inr ⟨_, _, rfl, rfl⟩) (fun hh hv => by have hv2 : Holds [(c23, fun o => o = .cells ⟨eSpan xo⟩ 30 (0, 0))] hh := hv; obtain ⟨o9, hm9, e9⟩ := hv2 _ _ List.mem_cons_self; subst e9; exact xv_load1 ty3 rfl rfl hm9 rfl ⟨rfl, rfl⟩) ?_
            refine jx_S rfl rfl (.inr ⟨_, _, rfl, rfl⟩) (xv_cmp rfl rfl rfl ⟨rfl, rfl⟩) ?_
            refine jx_S rfl rfl (.inl rfl) (xv_pick rfl rfl ⟨rfl, rfl⟩) ?_
            refine jx_S rfl rfl (.inl rfl) (xv_ia (sz := 1) (j := k) sl55 ty4 rfl rfl rfl (by (first | assumption | with_reducible exact Int.toNat_natCast _ | with_reducible rfl | rfl)) (by (first|omega|(dsimp only at *;omega)|(simp at *;omega))) (by (first|omega|(dsimp only at *;omega)|(simp at *;omega))) ⟨rfl, rfl⟩) ?_
            refine jx_O rfl rfl (.inl rfl) (xv_s1 (l' := (((flagM (lowT s cs T) (lowT s cs (T ++ [hours])) cs.length k).set k (lowT s cs (T ++ [hours]) k)).flatMap eBo)) ty4 rfl rfl rfl (by (first|(apply u_3;(repeat first|exact u_0|assumption|apply u_1|apply u_2);done)|((repeat first|exact u_0|assumption|apply u_1|apply u_2);done)|(apply u_3;apply u_3;(repeat first|exact u_0|assumption|apply u_1|apply u_2);done)|((repeat first|exact u_0|assumption|apply u_3|apply u_1);done))) rfl (by rw [bo_len, flagM_len]; (first|omega|(dsimp only at *;omega)|(simp at *;omega))) (by rw [Nat.zero_add, Nat.mul_one]; exact bo_set hlv) ?_)
            refine ⟨(kp_in (holds1 (by ((repeat first|exact z_0|assumption|refine z_1 ?_|(refine z_l ?_;(repeat first|exact z_0|assumption|refine z_1 ?_);done)|refine z_r ?_);done)) rfl) (kp_in (holds1 (by ((repeat first|exact z_0|assumption|refine z_1 ?_|(refine z_l ?_;(repeat first|exact z_0|assumption|refine z_1 ?_);done)|refine z_r ?_);done)) rfl) kp_nil)), ?_⟩
            refine jx_S rfl rfl (.inl rfl) (xv_ia (sz := 1) (j := k) sl55 ty4 rfl rfl rfl (by (first | assumption | with_reducible exact Int.toNat_natCast _ | with_reducible rfl | rfl)) (by (first|omega|(dsimp only at *;omega)|(simp at *;omega))) (by (first|omega|(dsimp only at *;omega)|(simp at *;omega))) ⟨rfl, rfl⟩) ?_
            refine jx_O rfl rfl (.inl rfl) (xv_s1 (l' := (((flagM (highT s cs T) (highT s cs (T ++ [hours])) cs.length k).set k (highT s cs (T ++ [hours]) k)).flatMap eBo)) ty4 rfl rfl rfl (by (first|(apply u_3;(repeat first|exact u_0|assumption|apply u_1|apply u_2);done)|((repeat first|exact u_0|assumption|apply u_1|apply u_2);done)|(apply u_3;apply u_3;(repeat first|exact u_0|assumption|apply u_1|apply u_2);done)|((repeat first|exact u_0|assumption|apply u_3|apply u_1);done))) rfl (by rw [bo_len, flagM_len]; (first|omega|(dsimp only at *;omega)|(simp at *;omega))) (by rw [Nat.zero_add, Nat.mul_one]; exact bo_set hhv) ?_)
            refine ⟨(kp_go (by kernel_rfl) (kp_go (by kernel_rfl) kp_nil)), ?_⟩
            refine jx_end ?_
            refine th_n ?_
            refine xc_seq ?_
            refine xc_draw0 [(0, .S), (1, .S), (2, .S), (3, .R), (4, .S), (5, .R), (6, .S), (7, .S), (8, .S), (9, .S), (10, .S), (11, .R), (12, .S), (13, .R), (14, .S), (15, .S)] mixed (by kernel_rfl) ?_
            refine js_S rfl rfl (.inl rfl) (xv_move rfl ⟨rfl, rfl⟩) ?_
            refine js_S rfl rfl (.inl rfl) (xv_move rfl ⟨rfl, rfl⟩) ?_
            refine js_S rfl rfl (.inl rfl) (xv_ia (sz := 1) (j := k) sl26 ty3 rfl rfl rfl (by (first | assumption | with_reducible exact Int.toNat_natCast _ | with_reducible rfl | rfl)) (by (first|omega|(dsimp only at *;omega)|(simp at *;omega))) (by (first|omega|(dsimp only at *;omega)|(simp at *;omega))) ⟨rfl, rfl⟩) ?_
            refine js_R0 rfl rfl (.inl rfl) (xv_load1 (v := I (cntK s hours k)) ty3 rfl rfl (by ((repeat first|exact z_0|assumption|refine z_1 ?_|(refine z_l ?_;(repeat first|exact z_0|assumption|refine z_1 ?_);done)|refine z_r ?_);done)) (by simp [flat_I, hck]) ⟨rfl, rfl⟩) ?_
            refine js_S rfl rfl (.inl rfl) (xv_faddr fl30_0 rfl ⟨rfl, rfl⟩) ?_
            refine js_R0 rfl rfl (.inl rfl) (xv_load1 ty3 rfl rfl (by ((repeat first|exact z_0|assumption|refine z_1 ?_|(refine z_l ?_;(repeat first|exact z_0|assumption|refine z_1 ?_);done)|refine z_r ?_);done)) (by rfl) ⟨rfl, rfl⟩) ?_
            refine js_S rfl rfl (.inl rfl) (xv_cmp rfl rfl (lssF_ (by omega)) ⟨rfl, rfl⟩) ?_
            refine js_S rfl rfl (.inl rfl) (xv_move rfl ⟨rfl, rfl⟩) ?_
            refine js_S rfl rfl (.inr ⟨_, _, rfl, rfl⟩) (xv_move rfl ⟨rfl, rfl⟩) ?_
            refine js_S rfl rfl (.inr ⟨_, _, rfl, rfl⟩) (xv_move rfl ⟨rfl, rfl⟩) ?_
            refine js_S rfl rfl (.inr ⟨_, _, rfl, rfl⟩) (xv_ia (sz := 1) (j := k) sl26 ty3 rfl rfl rfl (by (first | assumption | with_reducible exact Int.toNat_natCast _ | with_reducible rfl | rfl)) (by (first|omega|(dsimp only at *;omega)|(simp at *;omega))) (by (first|omega|(dsimp only at *;omega)|(simp at *;omega))) ⟨rfl, rfl⟩) ?_
            refine js_R0 rfl rfl (.inr ⟨_, _, rfl, rfl⟩) (xv_load1 (v := I (cntK s hours k)) ty3 rfl rfl (by ((repeat first|exact z_0|assumption|refine z_1 ?_|(refine z_l ?_;(repeat first|exact z_0|assumption|refine z_1 ?_);done)|refine z_r ?_);done)) (by simp [flat_I, hck]) ⟨rfl, rfl⟩) ?_
            refine js_S rfl rfl (.inr ⟨_, _, rfl, rfl⟩) (xv_faddr fl30_1 rfl ⟨rfl, rfl⟩) ?_
            refine js_R0 rfl rfl (.inr ⟨_, _, rfl, rfl⟩) (xv_load1 ty3 rfl rfl (by ((repeat first|exact z_0|assumption|refine z_1 ?_|(refine z_l ?_;(repeat first|exact z_0|assumption|refine z_1 ?_);done)|refine z_r ?_);done)) (by rfl) ⟨rfl, rfl⟩) ?_
            refine js_S rfl rfl (.inr ⟨_, _, rfl, rfl⟩) (xv_cmp rfl rfl (gtrF_ (by omega)) ⟨rfl, rfl⟩) ?_
            refine js_S rfl rfl (.inl rfl) (xv_pick rfl rfl ⟨rfl, rfl⟩) ?_
            refine j_end0 ?_
            refine th_n ?_
            refine xc_false rfl ?_
            refine xc_skip ?_
            refine bk_n ?_
            refine th_n ?_
            refine xc_region ?_
            refine xr_op rfl rfl (xv_add rfl rfl (wrap_i64 (by (first|omega|(dsimp only at *;omega)|(simp at *;omega))) (by (first|omega|(dsimp only at *;omega)|(simp at *;omega)))) ?_)
            refine xr_op rfl rfl (xv_move rfl ?_)
            refine xr_end rfl ?_
            exact rnd (k + 1) (by (first|omega|(dsimp only at *;omega)|(simp at *;omega))) (by (first|omega|(dsimp only at *;omega)|(simp at *;omega))) (le_put (le_put (le_put (le_put (le_put (le_put (le_put (le_put (le_put (le_put (le_put (le_put (le_put (le_put (le_put (le_emp _) rfl) rfl) rfl) rfl) rfl) rfl) rfl) rfl) rfl) rfl) rfl) rfl) rfl) rfl) rfl) (by rw [flagM_set hkl, flagM_set hkl]; (first|((repeat first|exact s_0|exact s_1|exact s_3|refine s_4 ?_|refine s_5 ?_|refine s_6 ?_|refine s_7 ?_);done)|((repeat first|exact s_0|exact s_1|exact s_3|refine s_4 ?_|refine s_5 ?_|refine s_6 ?_|refine s_8 ?_);done)))
          · refine xc_drawX0 [(2, [(b13, fun o => o = .cells ⟨[.slice (some ⟨e13, 0, none⟩) cs.length cs.length]⟩ 55 (0, 0))]), (27, [(c23, fun o => o = .cells ⟨eSpan xo⟩ 30 (0, 0))])] [(0, .R), (1, .S), (2, .S), (3, .S), (4, .R), (5, .S), (6, .S), (7, .R), (8, .S), (9, .S), (10, .S), (11, .S), (12, .R), (13, .S), (14, .R), (15, .S), (16, .S), (17, .R), (18, .S), (19, .S), (20, .R), (21, .S), (22, .S), (23, .S), (24, .S), (25, .R), (26, .S), (27, .S), (28, .S), (29, .S), (30, .S), (31, .O), (32, .S), (33, .O)] mixed (by kernel_rfl) (iv_cons (holds1 (by ((repeat first|exact z_0|assumption|refine z_1 ?_|(refine z_l ?_;(repeat first|exact z_0|assumption|refine z_1 ?_);done)|refine z_r ?_);done)) rfl) (iv_cons (holds1 (by ((repeat first|exact z_0|assumption|refine z_1 ?_|(refine z_l ?_;(repeat first|exact z_0|assumption|refine z_1 ?_);done)|refine z_r ?_);done)) rfl) iv_nil)) ?_
            have hlv : lowT s cs (T ++ [hours]) k = decide (cntK s hours k = xo.lo) := by rw [lowT_snoc, hlo, hacc, hgd]; simp
            have hhv : highT s cs (T ++ [hours]) k = true := by rw [highT_snoc, hhi, hacc, hgd]; simp
            refine jx_R rfl rfl (.inl rfl) (xv_load1 ty55 rfl rfl (by ((repeat first|exact z_0|assumption|refine z_1 ?_|(refine z_l ?_;(repeat first|exact z_0|assumption|refine z_1 ?_);done)|refine z_r ?_);done)) (by rfl) ⟨rfl, rfl⟩) ?_
            refine jx_S rfl rfl (.inl rfl) (xv_move rfl ⟨rfl, rfl⟩) ?_
            refine jx_I rfl rfl (.inl rfl) (fun hh hv => by have hv2 : Holds [(b13, fun o => o = .cells ⟨[.slice (some ⟨e13, 0, none⟩) cs.length cs.length]⟩ 55 (0, 0))] hh := hv; obtain ⟨o9, hm9, e9⟩ := hv2 _ _ List.mem_cons_self; subst e9; exact xv_load1 ty55 rfl rfl hm9 rfl ⟨rfl, rfl⟩) ?_
            refine jx_S rfl rfl (.inl rfl) (xv_move rfl ⟨rfl, rfl⟩) ?_
            refine jx_R rfl rfl (.inl rfl) (xv_load1 ty55 rfl rfl (by ((repeat first|exact z_0|assumption|refine z_1 ?_|(refine z_l ?_;(repeat first|exact z_0|assumption|refine z_1 ?_);done)|refine z_r ?_);done)) (by rfl) ⟨rfl, rfl⟩) ?_
            refine jx_S rfl rfl (.inl rfl) (xv_move rfl ⟨rfl, rfl⟩) ?_
            refine jx_S rfl rfl (.inl rfl) (xv_ia (sz := 1) (j := k) sl55 ty4 rfl rfl rfl (by (first | assumption | with_reducible exact Int.toNat_natCast _ | with_reducible rfl | rfl)) (by (first|omega|(dsimp only at *;omega)|(simp at *;omega))) (by (first|omega|(dsimp only at *;omega)|(simp at *;omega))) ⟨rfl, rfl⟩) ?_
            refine jx_R rfl rfl (.inl rfl) (xv_load1 (v := .bool false) ty4 rfl rfl (by ((repeat first|exact z_0|assumption|refine z_1 ?_|(refine z_l ?_;(repeat first|exact z_0|assumption|refine z_1 ?_);done)|refine z_r ?_);done)) (by rw [Nat.zero_add, Nat.mul_one]; exact bo_get (flagM_at hkl) hlo) ⟨rfl, rfl⟩) ?_
            refine jx_S rfl rfl (.inl rfl) (xv_move rfl ⟨rfl, rfl⟩) ?_
            refine jx_S rfl rfl (.inr ⟨_, _, rfl, rfl⟩) (xv_move rfl ⟨rfl, rfl⟩) ?_
            refine jx_S rfl rfl (.inr ⟨_, _, rfl, rfl⟩) (xv_move rfl ⟨rfl, rfl⟩) ?_
            refine jx_S rfl rfl (.inr ⟨_, _, rfl, rfl⟩) (xv_ia (sz := 1) (j := k) sl26 ty3 rfl rfl rfl (by (first | assumption | with_reducible exact Int.toNat_natCast _ | with_reducible rfl | rfl)) (by (first|omega|(dsimp only at *;omega)|(simp at *;omega))) (by (first|omega|(dsimp only at *;omega)|(simp at *;omega))) ⟨rfl, rfl⟩) ?_
            refine jx_R rfl rfl (.inr ⟨_, _, rfl, rfl⟩) (xv_load1 (v := I (cntK s hours k)) ty3 rfl rfl (by ((repeat first|exact z_0|assumption|refine z_1 ?_|(refine z_l ?_;(repeat first|exact z_0|assumption|refine z_1 ?_);done)|refine z_r ?_);done)) (by simp [flat_I, hck]) ⟨rfl, rfl⟩) ?_
            refine jx_S rfl rfl (.inr ⟨_, _, rfl, rfl⟩) (xv_faddr fl30_0 rfl ⟨rfl, rfl⟩) ?_
            refine jx_R rfl rfl (.inr ⟨_, _, rfl, rfl⟩) (xv_load1 ty3 rfl rfl (by ((repeat first|exact z_0|assumption|refine z_1 ?_|(refine z_l ?_;(repeat first|exact z_0|assumption|refine z_1 ?_);done)|refine z_r ?_);done)) (by rfl) ⟨rfl, rfl⟩) ?_
            refine jx_S rfl rfl (.inr ⟨_, _, rfl, rfl⟩) (xv_cmp rfl rfl rfl ⟨rfl, rfl⟩) ?_
            refine jx_S rfl rfl (.inl rfl) (xv_pick rfl rfl ⟨rfl, rfl⟩) ?_
            refine jx_R rfl rfl (.inl rfl) (xv_load1 ty55 rfl rfl (by ((repeat first|exact z_0|assumption|refine z_1 ?_|(refine z_l ?_;(repeat first|exact z_0|assumption|refine z_1 ?_);done)|refine z_r ?_);done)) (by rfl) ⟨rfl, rfl⟩) ?_
            refine jx_S rfl rfl (.inl rfl) (xv_move rfl ⟨rfl, rfl⟩) ?_
            refine jx_S rfl rfl (.inl rfl) (xv_ia (sz := 1) (j := k) sl55 ty4 rfl rfl rfl (by (first | assumption | with_reducible exact Int.toNat_natCast _ | with_reducible rfl | rfl)) (by (first|omega|(dsimp only at *;omega)|(simp at *;omega))) (by (first|omega|(dsimp only at *;omega)|(simp at *;omega))) ⟨rfl, rfl⟩) ?_
            refine jx_R rfl rfl (.inl rfl) (xv_load1 (v := .bool true) ty4 rfl rfl (by ((repeat first|exact z_0|assumption|refine z_1 ?_|(refine z_l ?_;(repeat first|exact z_0|assumption|refine z_1 ?_);done)|refine z_r ?_);done)) (by rw [Nat.zero_add, Nat.mul_one]; exact bo_get (flagM_at hkl) hhi) ⟨rfl, rfl⟩) ?_
            refine jx_S rfl rfl (.inl rfl) (xv_move rfl ⟨rfl, rfl⟩) ?_
            refine jx_Ss rfl rfl ⟨_, _, _, rfl, rfl, rfl⟩ ?_
            refine jx_Ss rfl rfl ⟨_, _, _, rfl, rfl, rfl⟩ ?_
            refine jx_Ss rfl rfl ⟨_, _, _, rfl, rfl, rfl⟩ ?_
            refine jx_Rs rfl rfl ⟨_, _, _, rfl, rfl, rfl⟩ ?_
            refine jx_Ss rfl rfl ⟨_, _, _, rfl, rfl, rfl⟩ ?_
            refine jx_Ss rfl rfl ⟨_, _, _, rfl, rfl, rfl⟩ ?_
            refine jx_Ss rfl rfl ⟨_, _, _, rfl, rfl, rfl⟩ ?_
            refine jx_S rfl rfl (.inl rfl) (xv_pick rfl rfl ⟨rfl, rfl⟩) ?_
            refine jx_S rfl rfl (.inl rfl) (xv_ia (sz := 1) (j := k) sl55 ty4 rfl rfl rfl (by (first | assumption | with_reducible exact Int.toNat_natCast _ | with_reducible rfl | rfl)) (by (first|omega|(dsimp only at *;omega)|(simp at *;omega))) (by (first|omega|(dsimp only at *;omega)|(simp at *;omega))) ⟨rfl, rfl⟩) ?_
            refine jx_O rfl rfl (.inl rfl) (xv_s1 (l' := (((flagM (lowT s cs T) (lowT s cs (T ++ [hours])) cs.length k).set k (lowT s cs (T ++ [hours]) k)).flatMap eBo)) ty4 rfl rfl rfl (by (first|(apply u_3;(repeat first|exact u_0|assumption|apply u_1|apply u_2);done)|((repeat first|exact u_0|assumption|apply u_1|apply u_2);done)|(apply u_3;apply u_3;(repeat first|exact u_0|assumption|apply u_1|apply u_2);done)|((repeat first|exact u_0|assumption|apply u_3|apply u_1);done))) rfl (by rw [bo_len, flagM_len]; (first|omega|(dsimp only at *;omega)|(simp at *;omega))) (by rw [Nat.zero_add, Nat.mul_one]; exact bo_set hlv) ?_)
            refine ⟨(kp_in (holds1 (by ((repeat first|exact z_0|assumption|refine z_1 ?_|(refine z_l ?_;(repeat first|exact z_0|assumption|refine z_1 ?_);done)|refine z_r ?_);done)) rfl) (kp_in (holds1 (by ((repeat first|exact z_0|assumption|refine z_1 ?_|(refine z_l ?_;(repeat first|exact z_0|assumption|refine z_1 ?_);done)|refine z_r ?_);done)) rfl) kp_nil)), ?_⟩
            refine jx_S rfl rfl (.inl rfl) (xv_ia (sz := 1) (j := k) sl55 ty4 rfl rfl rfl (by (first | assumption | with_reducible exact Int.toNat_natCast _ | with_reducible rfl | rfl)) (by (first|omega|(dsimp only at *;omega)|(simp at *;omega))) (by (first|omega|(dsimp only at *;omega)|(simp at *;omega))) ⟨rfl, rfl⟩) ?_
            refine jx_O rfl rfl (.inl rfl) (xv_s1 (l' := (((flagM (highT s cs T) (highT s cs (T ++ [hours])) cs.length k).set k (highT s cs (T ++ [hours]) k)).flatMap eBo)) ty4 rfl rfl rfl (by (first|(apply u_3;(repeat first|exact u_0|assumption|apply u_1|apply u_2);done)|((repeat first|exact u_0|assumption|apply u_1|apply u_2);done)|(apply u_3;apply u_3;(repeat first|exact u_0|assumption|apply u_1|apply u_2);done)|((repeat first|exact u_0|assumption|apply u_3|apply u_1);done))) rfl (by rw [bo_len, flagM_len]; (first|omega|(dsimp only at *;omega)|(simp at *;omega))) (by rw [Nat.zero_add, Nat.mul_one]; exact bo_set hhv) ?_)
            refine ⟨(kp_go (by kernel_rfl) (kp_go (by kernel_rfl) kp_nil)), ?_⟩
            refine jx_end ?_
            refine th_n ?_
            refine xc_seq ?_
            refine xc_draw0 [(0, .S), (1, .S), (2, .S), (3, .R), (4, .S), (5, .R), (6, .S), (7, .S), (8, .S), (9, .S), (10, .S), (11, .R), (12, .S), (13, .R), (14, .S), (15, .S)] mixed (by kernel_rfl) ?_
            refine js_S rfl rfl (.inl rfl) (xv_move rfl ⟨rfl, rfl⟩) ?_
            refine js_S rfl rfl (.inl rfl) (xv_move rfl ⟨rfl, rfl⟩) ?_
            refine js_S rfl rfl (.inl rfl) (xv_ia (sz := 1) (j := k) sl26 ty3 rfl rfl rfl (by (first | assumption | with_reducible exact Int.toNat_natCast _ | with_reducible rfl | rfl)) (by (first|omega|(dsimp only at *;omega)|(simp at *;omega))) (by (first|omega|(dsimp only at *;omega)|(simp at *;omega))) ⟨rfl, rfl⟩) ?_
            refine js_R0 rfl rfl (.inl rfl) (xv_load1 (v := I (cntK s hours k)) ty3 rfl rfl (by ((repeat first|exact z_0|assumption|refine z_1 ?_|(refine z_l ?_;(repeat first|exact z_0|assumption|refine z_1 ?_);done)|refine z_r ?_);done)) (by simp [flat_I, hck]) ⟨rfl, rfl⟩) ?_
            refine js_S rfl rfl (.inl rfl) (xv_faddr fl30_0 rfl ⟨rfl, rfl⟩) ?_
            refine js_R0 rfl rfl (.inl rfl) (xv_load1 ty3 rfl rfl (by ((repeat first|exact z_0|assumption|refine z_1 ?_|(refine z_l ?_;(repeat first|exact z_0|assumption|refine z_1 ?_);done)|refine z_r ?_);done)) (by rfl) ⟨rfl, rfl⟩) ?_
            refine js_S rfl rfl (.inl rfl) (xv_cmp rfl rfl (lssF_ (by omega)) ⟨rfl, rfl⟩) ?_
            refine js_S rfl rfl (.inl rfl) (xv_move rfl ⟨rfl, rfl⟩) ?_
            refine js_S rfl rfl (.inr ⟨_, _, rfl, rfl⟩) (xv_move rfl ⟨rfl, rfl⟩) ?_
            refine js_S rfl rfl (.inr ⟨_, _, rfl, rfl⟩) (xv_move rfl ⟨rfl, rfl⟩) ?_
            refine js_S rfl rfl (.inr ⟨_, _, rfl, rfl⟩) (xv_ia (sz := 1) (j := k) sl26 ty3 rfl rfl rfl (by (first | assumption | with_reducible exact Int.toNat_natCast _ | with_reducible rfl | rfl)) (by (first|omega|(dsimp only at *;omega)|(simp at *;omega))) (by (first|omega|(dsimp only at *;omega)|(simp at *;omega))) ⟨rfl, rfl⟩) ?_
            refine js_R0 rfl rfl (.inr ⟨_, _, rfl, rfl⟩) (xv_load1 (v := I (cntK s hours k)) ty3 rfl rfl (by ((repeat first|exact z_0|assumption|refine z_1 ?_|(refine z_l ?_;(repeat first|exact z_0|assumption|refine z_1 ?_);done)|refine z_r ?_);done)) (by simp [flat_I, hck]) ⟨rfl, rfl⟩) ?_
            refine js_S rfl rfl (.inr ⟨_, _, rfl, rfl⟩) (xv_faddr fl30_1 rfl ⟨rfl, rfl⟩) ?_
            refine js_R0 rfl rfl (.inr ⟨_, _, rfl, rfl⟩) (xv_load1 ty3 rfl rfl (by ((repeat first|exact z_0|assumption|refine z_1 ?_|(refine z_l ?_;(repeat first|exact z_0|assumption|refine z_1 ?_);done)|refine z_r ?_);done)) (by rfl) ⟨rfl, rfl⟩) ?_
            refine js_S rfl rfl (.inr ⟨_, _, rfl, rfl⟩) (xv_cmp rfl rfl (gtrF_ (by omega)) ⟨rfl, rfl⟩) ?_
            refine js_S rfl rfl (.inl rfl) (xv_pick rfl rfl ⟨rfl, rfl⟩) ?_
            refine j_end0 ?_
            refine th_n ?_
            refine xc_false rfl ?_
            refine xc_skip ?_
            refine bk_n ?_
            refine th_n ?_
            refine xc_region ?_
            refine xr_op rfl rfl (xv_add rfl rfl (wrap_i64 (by (first|omega|(dsimp only at *;omega)|(simp at *;omega))) (by (first|omega|(dsimp only at *;omega)|(simp at *;omega)))) ?_)
            refine xr_op rfl rfl (xv_move rfl ?_)
            refine xr_end rfl ?_
            exact rnd (k + 1) (by (first|omega|(dsimp only at *;omega)|(simp at *;omega))) (by (first|omega|(dsimp only at *;omega)|(simp at *;omega))) (le_put (le_put (le_put (le_put (le_put (le_put (le_put (le_put (le_put (le_put (le_put (le_put (le_put (le_put (le_put (le_emp _) rfl) rfl) rfl) rfl) rfl) rfl) rfl) rfl) rfl) rfl) rfl) rfl) rfl) rfl) rfl) (by rw [flagM_set hkl, flagM_set hkl]; (first|((repeat first|exact s_0|exact s_1|exact s_3|refine s_4 ?_|refine s_5 ?_|refine s_6 ?_|refine s_7 ?_);done)|((repeat first|exact s_0|exact s_1|exact s_3|refine s_4 ?_|refine s_5 ?_|refine s_6 ?_|refine s_8 ?_);done)))
          · refine xc_drawX0 [(2, [(b13, fun o => o = .cells ⟨[.slice (some ⟨e13, 0, none⟩) cs.length cs.length]⟩ 55 (0, 0))]), (27, [(c23, fun o => o = .cells ⟨eSpan xo⟩ 30 (0, 0))])] [(0, .R), (1, .S), (2, .S), (3, .S), (4, .R), (5, .S), (6, .S), (7, .R), (8, .S), (9, .S), (10, .S), (11, .S), (12, .R), (13, .S), (14, .R), (15, .S), (16, .S), (17, .R), (18, .S), (19, .S), (20, .R), (21, .S), (22, .S), (23, .S), (24, .S), (25, .R), (26, .S), (27, .S), (28, .S), (29, .S), (30, .S), (31, .O), (32, .S), (33, .O)] mixed (by kernel_rfl) (iv_cons (holds1 (by ((repeat first|exact z_0|assumption|refine z_1 ?_|(refine z_l ?_;(repeat first|exact z_0|assumption|refine z_1 ?_);done)|refine z_r ?_);done)) rfl) (iv_cons (holds1 (by ((repeat first|exact z_0|assumption|refine z_1 ?_|(refine z_l ?_;(repeat first|exact z_0|assumption|refine z_1 ?_);done)|refine z_r ?_);done)) rfl) iv_nil)) ?_
            have hlv : lowT s cs (T ++ [hours]) k = decide (cntK s hours k = xo.lo) := by rw [lowT_snoc, hlo, hacc, hgd]; simp
            have hhv : highT s cs (T ++ [hours]) k = decide (cntK s hours k = xo.hi) := by rw [highT_snoc, hhi, hacc, hgd]; simp
            refine jx_R rfl rfl (.inl rfl) (xv_load1 ty55 rfl rfl (by ((repeat first|exact z_0|assumption|refine z_1 ?_|(refine z_l ?_;(repeat first|exact z_0|assumption|refine z_1 ?_);done)|refine z_r ?_);done)) (by rfl) ⟨rfl, rfl⟩) ?_
            refine jx_S rfl rfl (.inl rfl) (xv_move rfl ⟨rfl, rfl⟩) ?_
            refine jx_I rfl rfl (.inl rfl) (fun hh hv => by have hv2 : Holds [(b13, fun o => o = .cells ⟨[.slice (some ⟨e13, 0, none⟩) cs.length cs.length]⟩ 55 (0, 0))] hh := hv; obtain ⟨o9, hm9, e9⟩ := hv2 _ _ List.mem_cons_self; subst e9; exact xv_load1 ty55 rfl rfl hm9 rfl ⟨rfl, rfl⟩) ?_
            refine jx_S rfl rfl (.inl rfl) (xv_move rfl ⟨rfl, rfl⟩) ?_
            refine jx_R rfl rfl (.inl rfl) (xv_load1 ty55 rfl rfl (by ((repeat first|exact z_0|assumption|refine z_1 ?_|(refine z_l ?_;(repeat first|exact z_0|assumption|refine z_1 ?_);done)|refine z_r ?_);done)) (by rfl) ⟨rfl, rfl⟩) ?_
            refine jx_S rfl rfl (.inl rfl) (xv_move rfl ⟨rfl, rfl⟩) ?_
            refine jx_S rfl rfl (.inl rfl) (xv_ia (sz := 1) (j := k) sl55 ty4 rfl rfl rfl (by (first | assumption | with_reducible exact Int.toNat_natCast _ | with_reducible rfl | rfl)) (by (first|omega|(dsimp only at *;omega)|(simp at *;omega))) (by (first|omega|(dsimp only at *;omega)|(simp at *;omega))) ⟨rfl, rfl⟩) ?_
            refine jx_R rfl rfl (.inl rfl) (xv_load1 (v := .bool false) ty4 rfl rfl (by ((repeat first|exact z_0|assumption|refine z_1 ?_|(refine z_l ?_;(repeat first|exact z_0|assumption|refine z_1 ?_);done)|refine z_r ?_);done)) (by rw [Nat.zero_add, Nat.mul_one]; exact bo_get (flagM_at hkl) hlo) ⟨rfl, rfl⟩) ?_
            refine jx_S rfl rfl (.inl rfl) (xv_move rfl ⟨rfl, rfl⟩) ?_
            refine jx_S rfl rfl (.inr ⟨_, _, rfl, rfl⟩) (xv_move rfl ⟨rfl, rfl⟩) ?_
            refine jx_S rfl rfl (.inr ⟨_, _, rfl, rfl⟩) (xv_move rfl ⟨rfl, rfl⟩) ?_
            refine jx_S rfl rfl (.inr ⟨_, _, rfl, rfl⟩) (xv_ia (sz := 1) (j := k) sl26 ty3 rfl rfl rfl (by (first | assumption | with_reducible exact Int.toNat_natCast _ | with_reducible rfl | rfl)) (by (first|omega|(dsimp only at *;omega)|(simp at *;omega))) (by (first|omega|(dsimp only at *;omega)|(simp at *;omega))) ⟨rfl, rfl⟩) ?_
            refine jx_R rfl rfl (.inr ⟨_, _, rfl, rfl⟩) (xv_load1 (v := I (cntK s hours k)) ty3 rfl rfl (by ((repeat first|exact z_0|assumption|refine z_1 ?_|(refine z_l ?_;(repeat first|exact z_0|assumption|refine z_1 ?_);done)|refine z_r ?_);done)) (by simp [flat_I, hck]) ⟨rfl, rfl⟩) ?_
            refine jx_S rfl rfl (.inr ⟨_, _, rfl, rfl⟩) (xv_faddr fl30_0 rfl ⟨rfl, rfl⟩) ?_
            refine jx_R rfl rfl (.inr ⟨_, _, rfl, rfl⟩) (xv_load1 ty3 rfl rfl (by ((repeat first|exact z_0|assumption|refine z_1 ?_|(refine z_l ?_;(repeat first|exact z_0|assumption|refine z_1 ?_);done)|refine z_r ?_);done)) (by rfl) ⟨rfl, rfl⟩) ?_
            refine jx_S rfl rfl (.inr ⟨_, _, rfl, rfl⟩) (xv_cmp rfl rfl rfl ⟨rfl, rfl⟩) ?_
            refine jx_S rfl rfl (.inl rfl) (xv_pick rfl rfl ⟨rfl, rfl⟩) ?_
            refine jx_R rfl rfl (.inl rfl) (xv_load1 ty55 rfl rfl (by ((repeat first|exact z_0|assumption|refine z_1 ?_|(refine z_l ?_;(repeat first|exact z_0|assumption|refine z_1 ?_);done)|refine z_r ?_);done)) (by rfl) ⟨rfl, rfl⟩) ?_
            refine jx_S rfl rfl (.inl rfl) (xv_move rfl ⟨rfl, rfl⟩) ?_
            refine jx_S rfl rfl (.inl rfl) (xv_ia (sz := 1) (j := k) sl55 ty4 rfl rfl rfl (by (first | assumption | with_reducible exact Int.toNat_natCast _ | with_reducible rfl | rfl)) (by (first|omega|(dsimp only at *;omega)|(simp at *;omega))) (by (first|omega|(dsimp only at *;omega)|(simp at *;omega))) ⟨rfl, rfl⟩) ?_
            refine jx_R rfl rfl (.inl rfl) (xv_load1 (v := .bool false) ty4 rfl rfl (by ((repeat first|exact z_0|assumption|refine z_1 ?_|(refine z_l ?_;(repeat first|exact z_0|assumption|refine z_1 ?_);done)|refine z_r ?_);done)) (by rw [Nat.zero_add, Nat.mul_one]; exact bo_get (flagM_at hkl) hhi) ⟨rfl, rfl⟩) ?_
            refine jx_S rfl rfl (.inl rfl) (xv_move rfl ⟨rfl, rfl⟩) ?_
            refine jx_S rfl rfl (.inr ⟨_, _, rfl, rfl⟩) (xv_move rfl ⟨rfl, rfl⟩) ?_
            refine jx_S rfl rfl (.inr ⟨_, _, rfl, rfl⟩) (xv_move rfl ⟨rfl, rfl⟩) ?_
            refine jx_S rfl rfl (.inr ⟨_, _, rfl, rfl⟩) (xv_ia (sz := 1) (j := k) sl26 ty3 rfl rfl rfl (by (first | assumption | with_reducible exact Int.toNat_natCast _ | with_reducible rfl | rfl)) (by (first|omega|(dsimp only at *;omega)|(simp at *;omega))) (by (first|omega|(dsimp only at *;omega)|(simp at *;omega))) ⟨rfl, rfl⟩) ?_
            refine jx_R rfl rfl (.inr ⟨_, _, rfl, rfl⟩) (xv_load1 (v := I (cntK s hours k)) ty3 rfl rfl (by ((repeat first|exact z_0|assumption|refine z_1 ?_|(refine z_l ?_;(repeat first|exact z_0|assumption|refine z_1 ?_);done)|refine z_r ?_);done)) (by simp [flat_I, hck]) ⟨rfl, rfl⟩) ?_
            refine jx_S rfl rfl (.inr ⟨_, _, rfl, rfl⟩) (xv_faddr fl30_1 rfl ⟨rfl, rfl⟩) ?_
            refine jx_I rfl rfl (.inr ⟨_, _, rfl, rfl⟩) (fun hh hv => by have hv2 : Holds [(c23, fun o => o = .cells ⟨eSpan xo⟩ 30 (0, 0))] hh := hv; obtain ⟨o9, hm9, e9⟩ := hv2 _ _ List.mem_cons_self; subst e9; exact xv_load1 ty3 rfl rfl hm9 rfl ⟨rfl, rfl⟩) ?_
            refine jx_S rfl rfl (.inr ⟨_, _, rfl, rfl⟩) (xv_cmp rfl rfl rfl ⟨rfl, rfl⟩) ?_
            refine jx_S rfl rfl (.inl rfl) (xv_pick rfl rfl ⟨rfl, rfl⟩) ?_
            refine jx_S rfl rfl (.inl rfl) (xv_ia (sz := 1) (j := k) sl55 ty4 rfl rfl rfl (by (first | assumption | with_reducible exact Int.toNat_natCast _ | with_reducible rfl | rfl)) (by (first|omega|(dsimp only at *;omega)|(simp at *;omega))) (by (first|omega|(dsimp only at *;omega)|(simp at *;omega))) ⟨rfl, rfl⟩) ?_
            refine jx_O rfl rfl (.inl rfl) (xv_s1 (l' := (((flagM (lowT s cs T) (lowT s cs (T ++ [hours])) cs.length k).set k (lowT s cs (T ++ [hours]) k)).flatMap eBo)) ty4 rfl rfl rfl (by (first|(apply u_3;(repeat first|exact u_0|assumption|apply u_1|apply u_2);done)|((repeat first|exact u_0|assumption|apply u_1|apply u_2);done)|(apply u_3;apply u_3;(repeat first|exact u_0|assumption|apply u_1|apply u_2);done)|((repeat first|exact u_0|assumption|apply u_3|apply u_1);done))) rfl (by rw [bo_len, flagM_len]; (first|omega|(dsimp only at *;omega)|(simp at *;omega))) (by rw [Nat.zero_add, Nat.mul_one]; exact bo_set hlv) ?_)
            refine ⟨(kp_in (holds1 (by ((repeat first|exact z_0|assumption|refine z_1 ?_|(refine z_l ?_;(repeat first|exact z_0|assumption|refine z_1 ?_);done)|refine z_r ?_);done)) rfl) (kp_in (holds1 (by ((repeat first|exact z_0|assumption|refine z_1 ?_|(refine z_l ?_;(repeat first|exact z_0|assumption|refine z_1 ?_);done)|refine z_r ?_);done)) rfl) kp_nil)), ?_⟩
            refine jx_S rfl rfl (.inl rfl) (xv_ia (sz := 1) (j := k) sl55 ty4 rfl rfl rfl (by (first | assumption | with_reducible exact Int.toNat_natCast _ | with_reducible rfl | rfl)) (by (first|omega|(dsimp only at *;omega)|(simp at *;omega))) (by (first|omega|(dsimp only at *;omega)|(simp at *;omega))) ⟨rfl, rfl⟩) ?_
            refine jx_O rfl rfl (.inl rfl) (xv_s1 (l' := (((flagM (highT s cs T) (highT s cs (T ++ [hours])) cs.length k).set k (highT s cs (T ++ [hours]) k)).flatMap eBo)) ty4 rfl rfl rfl (by (first|(apply u_3;(repeat first|exact u_0|assumption|apply u_1|apply u_2);done)|((repeat first|exact u_0|assumption|apply u_1|apply u_2);done)|(apply u_3;apply u_3;(repeat first|exact u_0|assumption|apply u_1|apply u_2);done)|((repeat first|exact u_0|assumption|apply u_3|apply u_1);done))) rfl (by rw [bo_len, flagM_len]; (first|omega|(dsimp only at *;omega)|(simp at *;omega))) (by rw [Nat.zero_add, Nat.mul_one]; exact bo_set hhv) ?_)
            refine ⟨(kp_go (by kernel_rfl) (kp_go (by kernel_rfl) kp_nil)), ?_⟩
            refine jx_end ?_
            refine th_n ?_
            refine xc_seq ?_
            refine xc_draw0 [(0, .S), (1, .S), (2, .S), (3, .R), (4, .S), (5, .R), (6, .S), (7, .S), (8, .S), (9, .S), (10, .S), (11, .R), (12, .S), (13, .R), (14, .S), (15, .S)] mixed (by kernel_rfl) ?_
            refine js_S rfl rfl (.inl rfl) (xv_move rfl ⟨rfl, rfl⟩) ?_
            refine js_S rfl rfl (.inl rfl) (xv_move rfl ⟨rfl, rfl⟩) ?_
            refine js_S rfl rfl (.inl rfl) (xv_ia (sz := 1) (j := k) sl26 ty3 rfl rfl rfl (by (first | assumption | with_reducible exact Int.toNat_natCast _ | with_reducible rfl | rfl)) (by (first|omega|(dsimp only at *;omega)|(simp at *;omega))) (by (first|omega|(dsimp only at *;omega)|(simp at *;omega))) ⟨rfl, rfl⟩) ?_
            refine js_R0 rfl rfl (.inl rfl) (xv_load1 (v := I (cntK s hours k)) ty3 rfl rfl (by ((repeat first|exact z_0|assumption|refine z_1 ?_|(refine z_l ?_;(repeat first|exact z_0|assumption|refine z_1 ?_);done)|refine z_r ?_);done)) (by simp [flat_I, hck]) ⟨rfl, rfl⟩) ?_
            refine js_S rfl rfl (.inl rfl) (xv_faddr fl30_0 rfl ⟨rfl, rfl⟩) ?_
            refine js_R0 rfl rfl (.inl rfl) (xv_load1 ty3 rfl rfl (by ((repeat first|exact z_0|assumption|refine z_1 ?_|(refine z_l ?_;(repeat first|exact z_0|assumption|refine z_1 ?_);done)|refine z_r ?_);done)) (by rfl) ⟨rfl, rfl⟩) ?_
            refine js_S rfl rfl (.inl rfl) (xv_cmp rfl rfl (lssF_ (by omega)) ⟨rfl, rfl⟩) ?_
            refine js_S rfl rfl (.inl rfl) (xv_move rfl ⟨rfl, rfl⟩) ?_
            refine js_S rfl rfl (.inr ⟨_, _, rfl, rfl⟩) (xv_move rfl ⟨rfl, rfl⟩) ?_
            refine js_S rfl rfl (.inr ⟨_, _, rfl, rfl⟩) (xv_move rfl ⟨rfl, rfl⟩) ?_
            refine js_S rfl rfl (.inr ⟨_, _, rfl, rfl⟩) (xv_ia (sz := 1) (j := k) sl26 ty3 rfl rfl rfl (by (first | assumption | with_reducible exact Int.toNat_natCast _ | with_reducible rfl | rfl)) (by (first|omega|(dsimp only at *;omega)|(simp at *;omega))) (by (first|omega|(dsimp only at *;omega)|(simp at *;omega))) ⟨rfl, rfl⟩) ?_
            refine js_R0 rfl rfl (.inr ⟨_, _, rfl, rfl⟩) (xv_load1 (v := I (cntK s hours k)) ty3 rfl rfl (by ((repeat first|exact z_0|assumption|refine z_1 ?_|(refine z_l ?_;(repeat first|exact z_0|assumption|refine z_1 ?_);done)|refine z_r ?_);done)) (by simp [flat_I, hck]) ⟨rfl, rfl⟩) ?_
            refine js_S rfl rfl (.inr ⟨_, _, rfl, rfl⟩) (xv_faddr fl30_1 rfl ⟨rfl, rfl⟩) ?_
            refine js_R0 rfl rfl (.inr ⟨_, _, rfl, rfl⟩) (xv_load1 ty3 rfl rfl (by ((repeat first|exact z_0|assumption|refine z_1 ?_|(refine z_l ?_;(repeat first|exact z_0|assumption|refine z_1 ?_);done)|refine z_r ?_);done)) (by rfl) ⟨rfl, rfl⟩) ?_
            refine js_S rfl rfl (.inr ⟨_, _, rfl, rfl⟩) (xv_cmp rfl rfl (gtrF_ (by omega)) ⟨rfl, rfl⟩) ?_
            refine js_S rfl rfl (.inl rfl) (xv_pick rfl rfl ⟨rfl, rfl⟩) ?_
            refine j_end0 ?_
            refine th_n ?_
            refine xc_false rfl ?_
            refine xc_skip ?_
            refine bk_n ?_
            refine th_n ?_
            refine xc_region ?_
            refine xr_op rfl rfl (xv_add rfl rfl (wrap_i64 (by (first|omega|(dsimp only at *;omega)|(simp at *;omega))) (by (first|omega|(dsimp only at *;omega)|(simp at *;omega)))) ?_)
            refine xr_op rfl rfl (xv_move rfl ?_)
            refine xr_end rfl ?_
            exact rnd (k + 1) (by (first|omega|(dsimp only at *;omega)|(simp at *;omega))) (by (first|omega|(dsimp only at *;omega)|(simp at *;omega))) (le_put (le_put (le_put (le_put (le_put (le_put (le_put (le_put (le_put (le_put (le_put (le_put (le_put (le_put (le_put (le_emp _) rfl) rfl) rfl) rfl) rfl) rfl) rfl) rfl) rfl) rfl) rfl) rfl) rfl) rfl) rfl) (by rw [flagM_set hkl, flagM_set hkl]; (first|((repeat first|exact s_0|exact s_1|exact s_3|refine s_4 ?_|refine s_5 ?_|refine s_6 ?_|refine s_7 ?_);done)|((repeat first|exact s_0|exact s_1|exact s_3|refine s_4 ?_|refine s_5 ?_|refine s_6 ?_|refine s_8 ?_);done)))
        · refine xr_end rfl ?_
          refine th_n ?_
          refine xc_seq ?_
          refine xc_false rfl ?_
          refine xc_exit ?_
          refine th_x ?_
          refine th_x ?_
          refine bk_same ?_
          refine th_n ?_
          refine xc_seq ?_
          obtain rfl : cs.length = k := by (first|omega|(dsimp only at *;omega)|(simp at *;omega))
          rw [flagM_n, flagM_n]
          rcases Bool.eq_false_or_eq_true (leastT s b T) with hle | hle <;> rcases Bool.eq_false_or_eq_true (mostT s b T) with hmo | hmo
          · refine xc_drawX0 [(11, [(b5, fun o => o = .cells ⟨eSpan b⟩ 30 (0, 0))])] [(0, .R), (1, .S), (2, .S), (3, .S), (4, .R), (5, .S), (6, .S), (7, .R), (8, .S), (9, .S), (10, .S), (11, .S), (12, .S), (13, .S), (14, .O), (15, .O)] mixed (by kernel_rfl) (iv_cons (holds1 (by ((repeat first|exact z_0|assumption|refine z_1 ?_|(refine z_l ?_;(repeat first|exact z_0|assumption|refine z_1 ?_);done)|refine z_r ?_);done)) rfl) iv_nil) ?_
            have hlv : leastT s b (T ++ [hours]) = true := by rw [leastT_snoc, hle, hacc]; simp
            have hhv : mostT s b (T ++ [hours]) = true := by rw [mostT_snoc, hmo, hacc]; simp
            have hbd := hT.bo
            rw [← hbs] at hbd
            refine jx_R rfl rfl (.inl rfl) (xv_load1 (v := .bool true) ty4 rfl rfl (by ((repeat first|exact z_0|assumption|refine z_1 ?_|(refine z_l ?_;(repeat first|exact z_0|assumption|refine z_1 ?_);done)|refine z_r ?_);done)) (by rw [hle]; rfl) ⟨rfl, rfl⟩) ?_
            refine jx_S rfl rfl (.inl rfl) (xv_move rfl ⟨rfl, rfl⟩) ?_
            refine jx_Ss rfl rfl ⟨_, _, _, rfl, rfl, rfl⟩ ?_
            refine jx_Ss rfl rfl ⟨_, _, _, rfl, rfl, rfl⟩ ?_
            refine jx_Rs rfl rfl ⟨_, _, _, rfl, rfl, rfl⟩ ?_
            refine jx_Ss rfl rfl ⟨_, _, _, rfl, rfl, rfl⟩ ?_
            refine jx_S rfl rfl (.inl rfl) (xv_pick rfl rfl ⟨rfl, rfl⟩) ?_
            refine jx_R rfl rfl (.inl rfl) (xv_load1 (v := .bool true) ty4 rfl rfl (by ((repeat first|exact z_0|assumption|refine z_1 ?_|(refine z_l ?_;(repeat first|exact z_0|assumption|refine z_1 ?_);done)|refine z_r ?_);done)) (by rw [hmo]; rfl) ⟨rfl, rfl⟩) ?_
            refine jx_S rfl rfl (.inl rfl) (xv_move rfl ⟨rfl, rfl⟩) ?_
            refine jx_Ss rfl rfl ⟨_, _, _, rfl, rfl, rfl⟩ ?_
            refine jx_Ss rfl rfl ⟨_, _, _, rfl, rfl, rfl⟩ ?_
            refine jx_Ss rfl rfl ⟨_, _, _, rfl, rfl, rfl⟩ ?_
            refine jx_Ss rfl rfl ⟨_, _, _, rfl, rfl, rfl⟩ ?_
            refine jx_S rfl rfl (.inl rfl) (xv_pick rfl rfl ⟨rfl, rfl⟩) ?_
            refine jx_O rfl rfl (.inl rfl) (xv_s1 (l' := [.bool (leastT s b (T ++ [hours]))]) ty4 rfl rfl rfl (by (first|(apply u_3;(repeat first|exact u_0|assumption|apply u_1|apply u_2);done)|((repeat first|exact u_0|assumption|apply u_1|apply u_2);done)|(apply u_3;apply u_3;(repeat first|exact u_0|assumption|apply u_1|apply u_2);done)|((repeat first|exact u_0|assumption|apply u_3|apply u_1);done))) rfl (by (first | decide | exact Nat.le_of_ble_eq_true rfl | (simp only [List.length_cons, List.length_nil]; omega) | (simp; done))) (by rw [hlv]; rfl) ?_)
            refine ⟨(kp_in (holds1 (by ((repeat first|exact z_0|assumption|refine z_1 ?_|(refine z_l ?_;(repeat first|exact z_0|assumption|refine z_1 ?_);done)|refine z_r ?_);done)) rfl) kp_nil), ?_⟩
            refine jx_O rfl rfl (.inl rfl) (xv_s1 (l' := [.bool (mostT s b (T ++ [hours]))]) ty4 rfl rfl rfl (by (first|(apply u_3;(repeat first|exact u_0|assumption|apply u_1|apply u_2);done)|((repeat first|exact u_0|assumption|apply u_1|apply u_2);done)|(apply u_3;apply u_3;(repeat first|exact u_0|assumption|apply u_1|apply u_2);done)|((repeat first|exact u_0|assumption|apply u_3|apply u_1);done))) rfl (by (first | decide | exact Nat.le_of_ble_eq_true rfl | (simp only [List.length_cons, List.length_nil]; omega) | (simp; done))) (by rw [hhv]; rfl) ?_)
            refine ⟨(kp_go (by kernel_rfl) kp_nil), ?_⟩
            refine jx_end ?_
            refine th_n ?_
            refine xc_seq (xc_region ?_)
            refine xr_op rfl rfl (xv_move rfl ?_)
            refine xr_op rfl rfl (xv_faddr fl30_0 rfl ?_)
            refine xr_op rfl rfl (xv_load1 ty3 rfl rfl (by ((repeat first|exact z_0|assumption|refine z_1 ?_|(refine z_l ?_;(repeat first|exact z_0|assumption|refine z_1 ?_);done)|refine z_r ?_);done)) (by rfl) ?_)
            refine xr_op rfl rfl (xv_cmp rfl rfl (geqT_ hbd.1) ?_)
            refine xr_op rfl rfl (xv_move rfl ?_)
            refine xr_gd rfl rfl rfl (xv_move rfl ?_)
            refine xr_gd rfl rfl rfl (xv_faddr fl30_1 rfl ?_)
            refine xr_gd rfl rfl rfl (xv_load1 ty3 rfl rfl (by ((repeat first|exact z_0|assumption|refine z_1 ?_|(refine z_l ?_;(repeat first|exact z_0|assumption|refine z_1 ?_);done)|refine z_r ?_);done)) (by rfl) ?_)
            refine xr_gd rfl rfl rfl (xv_cmp rfl rfl (leqT_ hbd.2) ?_)
            refine xr_op rfl rfl (xv_pick rfl rfl ?_)
            refine xr_op rfl rfl (xv_assign rfl ?_)
            refine xr_end rfl ?_
            refine th_n ?_
            refine xc_ret ?_
            refine body_ret (h' := ((e12, .cells ⟨((List.range cs.length).map (lowT s cs (T ++ [hours]))).flatMap eBo⟩ 4) :: (e13, .cells ⟨((List.range cs.length).map (highT s cs (T ++ [hours]))).flatMap eBo⟩ 4) :: (b14, .cells ⟨[.bool (leastT s b (T ++ [hours]))]⟩ 4) :: (b15, .cells ⟨[.bool (mostT s b (T ++ [hours]))]⟩ 4) :: C)) rfl (ro_tmp rfl ro_nil) (by (first|((repeat first|exact s_0|exact s_1|exact s_3|refine s_4 ?_|refine s_5 ?_|refine s_6 ?_|refine s_7 ?_);done)|((repeat first|exact s_0|exact s_1|exact s_3|refine s_4 ?_|refine s_5 ?_|refine s_6 ?_|refine s_8 ?_);done))) ?_
            exact H
          · refine xc_drawX0 [(11, [(b5, fun o => o = .cells ⟨eSpan b⟩ 30 (0, 0))])] [(0, .R), (1, .S), (2, .S), (3, .S), (4, .R), (5, .S), (6, .S), (7, .R), (8, .S), (9, .S), (10, .S), (11, .S), (12, .S), (13, .S), (14, .O), (15, .O)] mixed (by kernel_rfl) (iv_cons (holds1 (by ((repeat first|exact z_0|assumption|refine z_1 ?_|(refine z_l ?_;(repeat first|exact z_0|assumption|refine z_1 ?_);done)|refine z_r ?_);done)) rfl) iv_nil) ?_
            have hlv : leastT s b (T ++ [hours]) = true := by rw [leastT_snoc, hle, hacc]; simp
            have hhv : mostT s b (T ++ [hours]) = decide (byH s hours s.now = b.hi) := by rw [mostT_snoc, hmo, hacc]; simp
            have hbd := hT.bo
            rw [← hbs] at hbd
            refine jx_R rfl rfl (.inl rfl) (xv_load1 (v := .bool true) ty4 rfl rfl (by ((repeat first|exact z_0|assumption|refine z_1 ?_|(refine z_l ?_;(repeat first|exact z_0|assumption|refine z_1 ?_);done)|refine z_r ?_);done)) (by rw [hle]; rfl) ⟨rfl, rfl⟩) ?_
            refine jx_S rfl rfl (.inl rfl) (xv_move rfl ⟨rfl, rfl⟩) ?_
            refine jx_Ss rfl rfl ⟨_, _, _, rfl, rfl, rfl⟩ ?_
            refine jx_Ss rfl rfl ⟨_, _, _, rfl, rfl, rfl⟩ ?_
            refine jx_Rs rfl rfl ⟨_, _, _, rfl, rfl, rfl⟩ ?_
            refine jx_Ss rfl rfl ⟨_, _, _, rfl, rfl, rfl⟩ ?_
            refine jx_S rfl rfl (.inl rfl) (xv_pick rfl rfl ⟨rfl, rfl⟩) ?_
            refine jx_R rfl rfl (.inl rfl) (xv_load1 (v := .bool false) ty4 rfl rfl (by ((repeat first|exact z_0|assumption|refine z_1 ?_|(refine z_l ?_;(repeat first|exact z_0|assumption|refine z_1 ?_);done)|refine z_r ?_);done)) (by rw [hmo]; rfl) ⟨rfl, rfl⟩) ?_
            refine jx_S rfl rfl (.inl rfl) (xv_move rfl ⟨rfl, rfl⟩) ?_
            refine jx_S rfl rfl (.inr ⟨_, _, rfl, rfl⟩) (xv_move rfl ⟨rfl, rfl⟩) ?_
            refine jx_S rfl rfl (.inr ⟨_, _, rfl, rfl⟩) (xv_faddr fl30_1 rfl ⟨rfl, rfl⟩) ?_
            refine jx_I rfl rfl (.inr ⟨_, _, rfl, rfl⟩) (fun hh hv => by have hv2 : Holds [(b5, fun o => o = .cells ⟨eSpan b⟩ 30 (0, 0))] hh := hv; obtain ⟨o9, hm9, e9⟩ := hv2 _ _ List.mem_cons_self; subst e9; exact xv_load1 ty3 rfl rfl hm9 rfl ⟨rfl, rfl⟩) ?_
            refine jx_S rfl rfl (.inr ⟨_, _, rfl, rfl⟩) (xv_cmp rfl rfl rfl ⟨rfl, rfl⟩) ?_
            refine jx_S rfl rfl (.inl rfl) (xv_pick rfl rfl ⟨rfl, rfl⟩) ?_
            refine jx_O rfl rfl (.inl rfl) (xv_s1 (l' := [.bool (leastT s b (T ++ [hours]))]) ty4 rfl rfl rfl (by (first|(apply u_3;(repeat first|exact u_0|assumption|apply u_1|apply u_2);done)|((repeat first|exact u_0|assumption|apply u_1|apply u_2);done)|(apply u_3;apply u_3;(repeat first|exact u_0|assumption|apply u_1|apply u_2);done)|((repeat first|exact u_0|assumption|apply u_3|apply u_1);done))) rfl (by (first | decide | exact Nat.le_of_ble_eq_true rfl | (simp only [List.length_cons, List.length_nil]; omega) | (simp; done))) (by rw [hlv]; rfl) ?_)
            refine ⟨(kp_in (holds1 (by ((repeat first|exact z_0|assumption|refine z_1 ?_|(refine z_l ?_;(repeat first|exact z_0|assumption|refine z_1 ?_);done)|refine z_r ?_);done)) rfl) kp_nil), ?_⟩
            refine jx_O rfl rfl (.inl rfl) (xv_s1 (l' := [.bool (mostT s b (T ++ [hours]))]) ty4 rfl rfl rfl (by (first|(apply u_3;(repeat first|exact u_0|assumption|apply u_1|apply u_2);done)|((repeat first|exact u_0|assumption|apply u_1|apply u_2);done)|(apply u_3;apply u_3;(repeat first|exact u_0|assumption|apply u_1|apply u_2);done)|((repeat first|exact u_0|assumption|apply u_3|apply u_1);done))) rfl (by (first | decide | exact Nat.le_of_ble_eq_true rfl | (simp only [List.length_cons, List.length_nil]; omega) | (simp; done))) (by rw [hhv]; rfl) ?_)
            refine ⟨(kp_go (by kernel_rfl) kp_nil), ?_⟩
            refine jx_end ?_
            refine th_n ?_
            refine xc_seq (xc_region ?_)
            refine xr_op rfl rfl (xv_move rfl ?_)
            refine xr_op rfl rfl (xv_faddr fl30_0 rfl ?_)
            refine xr_op rfl rfl (xv_load1 ty3 rfl rfl (by ((repeat first|exact z_0|assumption|refine z_1 ?_|(refine z_l ?_;(repeat first|exact z_0|assumption|refine z_1 ?_);done)|refine z_r ?_);done)) (by rfl) ?_)
            refine xr_op rfl rfl (xv_cmp rfl rfl (geqT_ hbd.1) ?_)
            refine xr_op rfl rfl (xv_move rfl ?_)
            refine xr_gd rfl rfl rfl (xv_move rfl ?_)
            refine xr_gd rfl rfl rfl (xv_faddr fl30_1 rfl ?_)
            refine xr_gd rfl rfl rfl (xv_load1 ty3 rfl rfl (by ((repeat first|exact z_0|assumption|refine z_1 ?_|(refine z_l ?_;(repeat first|exact z_0|assumption|refine z_1 ?_);done)|refine z_r ?_);done)) (by rfl) ?_)
            refine xr_gd rfl rfl rfl (xv_cmp rfl rfl (leqT_ hbd.2) ?_)
            refine xr_op rfl rfl (xv_pick rfl rfl ?_)
            refine xr_op rfl rfl (xv_assign rfl ?_)
            refine xr_end rfl ?_
            refine th_n ?_
            refine xc_ret ?_
            refine body_ret (h' := ((e12, .cells ⟨((List.range cs.length).map (lowT s cs (T ++ [hours]))).flatMap eBo⟩ 4) :: (e13, .cells ⟨((List.range cs.length).map (highT s cs (T ++ [hours]))).flatMap eBo⟩ 4) :: (b14, .cells ⟨[.bool (leastT s b (T ++ [hours]))]⟩ 4) :: (b15, .cells ⟨[.bool (mostT s b (T ++ [hours]))]⟩ 4) :: C)) rfl (ro_tmp rfl ro_nil) (by (first|((repeat first|exact s_0|exact s_1|exact s_3|refine s_4 ?_|refine s_5 ?_|refine s_6 ?_|refine s_7 ?_);done)|((repeat first|exact s_0|exact s_1|exact s_3|refine s_4 ?_|refine s_5 ?_|refine s_6 ?_|refine s_8 ?_);done))) ?_
            exact H
          · refine xc_drawX0 [(11, [(b5, fun o => o = .cells ⟨eSpan b⟩ 30 (0, 0))])] [(0, .R), (1, .S), (2, .S), (3, .S), (4, .R), (5, .S), (6, .S), (7, .R), (8, .S), (9, .S), (10, .S), (11, .S), (12, .S), (13, .S), (14, .O), (15, .O)] mixed (by kernel_rfl) (iv_cons (holds1 (by ((repeat first|exact z_0|assumption|refine z_1 ?_|(refine z_l ?_;(repeat first|exact z_0|assumption|refine z_1 ?_);done)|refine z_r ?_);done)) rfl) iv_nil) ?_
            have hlv : leastT s b (T ++ [hours]) = decide (byH s hours s.now = b.lo) := by rw [leastT_snoc, hle, hacc]; simp
            have hhv : mostT s b (T ++ [hours]) = true := by rw [mostT_snoc, hmo, hacc]; simp
            have hbd := hT.bo
            rw [← hbs] at hbd
            refine jx_R rfl rfl (.inl rfl) (xv_load1 (v := .bool false) ty4 rfl rfl (by ((repeat first|exact z_0|assumption|refine z_1 ?_|(refine z_l ?_;(repeat first|exact z_0|assumption|refine z_1 ?_);done)|refine z_r ?_);done)) (by rw [hle]; rfl) ⟨rfl, rfl⟩) ?_
            refine jx_S rfl rfl (.inl rfl) (xv_move rfl ⟨rfl, rfl⟩) ?_
            refine jx_S rfl rfl (.inr ⟨_, _, rfl, rfl⟩) (xv_move rfl ⟨rfl, rfl⟩) ?_
            refine jx_S rfl rfl (.inr ⟨_, _, rfl, rfl⟩) (xv_faddr fl30_0 rfl ⟨rfl, rfl⟩) ?_
            refine jx_R rfl rfl (.inr ⟨_, _, rfl, rfl⟩) (xv_load1 ty3 rfl rfl (by ((repeat first|exact z_0|assumption|refine z_1 ?_|(refine z_l ?_;(repeat first|exact z_0|assumption|refine z_1 ?_);done)|refine z_r ?_);done)) (by rfl) ⟨rfl, rfl⟩) ?_
            refine jx_S rfl rfl (.inr ⟨_, _, rfl, rfl⟩) (xv_cmp rfl rfl rfl ⟨rfl, rfl⟩) ?_
            refine jx_S rfl rfl (.inl rfl) (xv_pick rfl rfl ⟨rfl, rfl⟩) ?_
            refine jx_R rfl rfl (.inl rfl) (xv_load1 (v := .bool true) ty4 rfl rfl (by ((repeat first|exact z_0|assumption|refine z_1 ?_|(refine z_l ?_;(repeat first|exact z_0|assumption|refine z_1 ?_);done)|refine z_r ?_);done)) (by rw [hmo]; rfl) ⟨rfl, rfl⟩) ?_
            refine jx_S rfl rfl (.inl rfl) (xv_move rfl ⟨rfl, rfl⟩) ?_
            refine jx_Ss rfl rfl ⟨_, _, _, rfl, rfl, rfl⟩ ?_
            refine jx_Ss rfl rfl ⟨_, _, _, rfl, rfl, rfl⟩ ?_
            refine jx_Ss rfl rfl ⟨_, _, _, rfl, rfl, rfl⟩ ?_
            refine jx_Ss rfl rfl ⟨_, _, _, rfl, rfl, rfl⟩ ?_
            refine jx_S rfl rfl (.inl rfl) (xv_pick rfl rfl ⟨rfl, rfl⟩) ?_
            refine jx_O rfl rfl (.inl rfl) (xv_s1 (l' := [.bool (leastT s b (T ++ [hours]))]) ty4 rfl rfl rfl (by (first|(apply u_3;(repeat first|exact u_0|assumption|apply u_1|apply u_2);done)|((repeat first|exact u_0|assumption|apply u_1|apply u_2);done)|(apply u_3;apply u_3;(repeat first|exact u_0|assumption|apply u_1|apply u_2);done)|((repeat first|exact u_0|assumption|apply u_3|apply u_1);done))) rfl (by (first | decide | exact Nat.le_of_ble_eq_true rfl | (simp only [List.length_cons, List.length_nil]; omega) | (simp; done))) (by rw [hlv]; rfl) ?_)
            refine ⟨(kp_in (holds1 (by ((repeat first|exact z_0|assumption|refine z_1 ?_|(refine z_l ?_;(repeat first|exact z_0|assumption|refine z_1 ?_);done)|refine z_r ?_);done)) rfl) kp_nil), ?_⟩
            refine jx_O rfl rfl (.inl rfl) (xv_s1 (l' := [.bool (mostT s b (T ++ [hours]))]) ty4 rfl rfl rfl (by (first|(apply u_3;(repeat first|exact u_0|assumption|apply u_1|apply u_2);done)|((repeat first|exact u_0|assumption|apply u_1|apply u_2);done)|(apply u_3;apply u_3;(repeat first|exact u_0|assumption|apply u_1|apply u_2);done)|((repeat first|exact u_0|assumption|apply u_3|apply u_1);done))) rfl (by (first | decide | exact Nat.le_of_ble_eq_true rfl | (simp only [List.length_cons, List.length_nil]; omega) | (simp; done))) (by rw [hhv]; rfl) ?_)
            refine ⟨(kp_go (by kernel_rfl) kp_nil), ?_⟩
            refine jx_end ?_
            refine th_n ?_
            refine xc_seq (xc_region ?_)
            refine xr_op rfl rfl (xv_move rfl ?_)
            refine xr_op rfl rfl (xv_faddr fl30_0 rfl ?_)
            refine xr_op rfl rfl (xv_load1 ty3 rfl rfl (by ((repeat first|exact z_0|assumption|refine z_1 ?_|(refine z_l ?_;(repeat first|exact z_0|assumption|refine z_1 ?_);done)|refine z_r ?_);done)) (by rfl) ?_)
            refine xr_op rfl rfl (xv_cmp rfl rfl (geqT_ hbd.1) ?_)
            refine xr_op rfl rfl (xv_move rfl ?_)
            refine xr_gd rfl rfl rfl (xv_move rfl ?_)
            refine xr_gd rfl rfl rfl (xv_faddr fl30_1 rfl ?_)
            refine xr_gd rfl rfl rfl (xv_load1 ty3 rfl rfl (by ((repeat first|exact z_0|assumption|refine z_1 ?_|(refine z_l ?_;(repeat first|exact z_0|assumption|refine z_1 ?_);done)|refine z_r ?_);done)) (by rfl) ?_)
            refine xr_gd rfl rfl rfl (xv_cmp rfl rfl (leqT_ hbd.2) ?_)
            refine xr_op rfl rfl (xv_pick rfl rfl ?_)
            refine xr_op rfl rfl (xv_assign rfl ?_)
            refine xr_end rfl ?_
            refine th_n ?_
            refine xc_ret ?_
            refine body_ret (h' := ((e12, .cells ⟨((List.range cs.length).map (lowT s cs (T ++ [hours]))).flatMap eBo⟩ 4) :: (e13, .cells ⟨((List.range cs.length).map (highT s cs (T ++ [hours]))).flatMap eBo⟩ 4) :: (b14, .cells ⟨[.bool (leastT s b (T ++ [hours]))]⟩ 4) :: (b15, .cells ⟨[.bool (mostT s b (T ++ [hours]))]⟩ 4) :: C)) rfl (ro_tmp rfl ro_nil) (by (first|((repeat first|exact s_0|exact s_1|exact s_3|refine s_4 ?_|refine s_5 ?_|refine s_6 ?_|refine s_7 ?_);done)|((repeat first|exact s_0|exact s_1|exact s_3|refine s_4 ?_|refine s_5 ?_|refine s_6 ?_|refine s_8 ?_);done))) ?_
            exact H
          · refine xc_drawX0 [(11, [(b5, fun o => o = .cells ⟨eSpan b⟩ 30 (0, 0))])] [(0, .R), (1, .S), (2, .S), (3, .S), (4, .R), (5, .S), (6, .S), (7, .R), (8, .S), (9, .S), (10, .S), (11, .S), (12, .S), (13, .S), (14, .O), (15, .O)] mixed (by kernel_rfl) (iv_cons (holds1 (by ((repeat first|exact z_0|assumption|refine z_1 ?_|(refine z_l ?_;(repeat first|exact z_0|assumption|refine z_1 ?_);done)|refine z_r ?_);done)) rfl) iv_nil) ?_
            have hlv : leastT s b (T ++ [hours]) = decide (byH s hours s.now = b.lo) := by rw [leastT_snoc, hle, hacc]; simp
            have hhv : mostT s b (T ++ [hours]) = decide (byH s hours s.now = b.hi) := by rw [mostT_snoc, hmo, hacc]; simp
            have hbd := hT.bo
            rw [← hbs] at hbd
            refine jx_R rfl rfl (.inl rfl) (xv_load1 (v := .bool false) ty4 rfl rfl (by ((repeat first|exact z_0|assumption|refine z_1 ?_|(refine z_l ?_;(repeat first|exact z_0|assumption|refine z_1 ?_);done)|refine z_r ?_);done)) (by rw [hle]; rfl) ⟨rfl, rfl⟩) ?_
            refine jx_S rfl rfl (.inl rfl) (xv_move rfl ⟨rfl, rfl⟩) ?_
            refine jx_S rfl rfl (.inr ⟨_, _, rfl, rfl⟩) (xv_move rfl ⟨rfl, rfl⟩) ?_
            refine jx_S rfl rfl (.inr ⟨_, _, rfl, rfl⟩) (xv_faddr fl30_0 rfl ⟨rfl, rfl⟩) ?_
            refine jx_R rfl rfl (.inr ⟨_, _, rfl, rfl⟩) (xv_load1 ty3 rfl rfl (by ((repeat first|exact z_0|assumption|refine z_1 ?_|(refine z_l ?_;(repeat first|exact z_0|assumption|refine z_1 ?_);done)|refine z_r ?_);done)) (by rfl) ⟨rfl, rfl⟩) ?_
            refine jx_S rfl rfl (.inr ⟨_, _, rfl, rfl⟩) (xv_cmp rfl rfl rfl ⟨rfl, rfl⟩) ?_
            refine jx_S rfl rfl (.inl rfl) (xv_pick rfl rfl ⟨rfl, rfl⟩) ?_
            refine jx_R rfl rfl (.inl rfl) (xv_load1 (v := .bool false) ty4 rfl rfl (by ((repeat first|exact z_0|assumption|refine z_1 ?_|(refine z_l ?_;(repeat first|exact z_0|assumption|refine z_1 ?_);done)|refine z_r ?_);done)) (by rw [hmo]; rfl) ⟨rfl, rfl⟩) ?_
            refine jx_S rfl rfl (.inl rfl) (xv_move rfl ⟨rfl, rfl⟩) ?_
            refine jx_S rfl rfl (.inr ⟨_, _, rfl, rfl⟩) (xv_move rfl ⟨rfl, rfl⟩) ?_
            refine jx_S rfl rfl (.inr ⟨_, _, rfl, rfl⟩) (xv_faddr fl30_1 rfl ⟨rfl, rfl⟩) ?_
            refine jx_I rfl rfl (.inr ⟨_, _, rfl, rfl⟩) (fun hh hv => by have hv2 : Holds [(b5, fun o => o = .cells ⟨eSpan b⟩ 30 (0, 0))] hh := hv; obtain ⟨o9, hm9, e9⟩ := hv2 _ _ List.mem_cons_self; subst e9; exact xv_load1 ty3 rfl rfl hm9 rfl ⟨rfl, rfl⟩) ?_
            refine jx_S rfl rfl (.inr ⟨_, _, rfl, rfl⟩) (xv_cmp rfl rfl rfl ⟨rfl, rfl⟩) ?_
            refine jx_S rfl rfl (.inl rfl) (xv_pick rfl rfl ⟨rfl, rfl⟩) ?_
            refine jx_O rfl rfl (.inl rfl) (xv_s1 (l' := [.bool (leastT s b (T ++ [hours]))]) ty4 rfl rfl rfl (by (first|(apply u_3;(repeat first|exact u_0|assumption|apply u_1|apply u_2);done)|((repeat first|exact u_0|assumption|apply u_1|apply u_2);done)|(apply u_3;apply u_3;(repeat first|exact u_0|assumption|apply u_1|apply u_2);done)|((repeat first|exact u_0|assumption|apply u_3|apply u_1);done))) rfl (by (first | decide | exact Nat.le_of_ble_eq_true rfl | (simp only [List.length_cons, List.length_nil]; omega) | (simp; done))) (by rw [hlv]; rfl) ?_)
            refine ⟨(kp_in (holds1 (by ((repeat first|exact z_0|assumption|refine z_1 ?_|(refine z_l ?_;(repeat first|exact z_0|assumption|refine z_1 ?_);done)|refine z_r ?_);done)) rfl) kp_nil), ?_⟩
            refine jx_O rfl rfl (.inl rfl) (xv_s1 (l' := [.bool (mostT s b (T ++ [hours]))]) ty4 rfl rfl rfl (by (first|(apply u_3;(repeat first|exact u_0|assumption|apply u_1|apply u_2);done)|((repeat first|exact u_0|assumption|apply u_1|apply u_2);done)|(apply u_3;apply u_3;(repeat first|exact u_0|assumption|apply u_1|apply u_2);done)|((repeat first|exact u_0|assumption|apply u_3|apply u_1);done))) rfl (by (first | decide | exact Nat.le_of_ble_eq_true rfl | (simp only [List.length_cons, List.length_nil]; omega) | (simp; done))) (by rw [hhv]; rfl) ?_)
            refine ⟨(kp_go (by kernel_rfl) kp_nil), ?_⟩
            refine jx_end ?_
            refine th_n ?_
            refine xc_seq (xc_region ?_)
            refine xr_op rfl rfl (xv_move rfl ?_)
            refine xr_op rfl rfl (xv_faddr fl30_0 rfl ?_)
            refine xr_op rfl rfl (xv_load1 ty3 rfl rfl (by ((repeat first|exact z_0|assumption|refine z_1 ?_|(refine z_l ?_;(repeat first|exact z_0|assumption|refine z_1 ?_);done)|refine z_r ?_);done)) (by rfl) ?_)
            refine xr_op rfl rfl (xv_cmp rfl rfl (geqT_ hbd.1) ?_)
            refine xr_op rfl rfl (xv_move rfl ?_)
            refine xr_gd rfl rfl rfl (xv_move rfl ?_)
            refine xr_gd rfl rfl rfl (xv_faddr fl30_1 rfl ?_)
            refine xr_gd rfl rfl rfl (xv_load1 ty3 rfl rfl (by ((repeat first|exact z_0|assumption|refine z_1 ?_|(refine z_l ?_;(repeat first|exact z_0|assumption|refine z_1 ?_);done)|refine z_r ?_);done)) (by rfl) ?_)
            refine xr_gd rfl rfl rfl (xv_cmp rfl rfl (leqT_ hbd.2) ?_)
            refine xr_op rfl rfl (xv_pick rfl rfl ?_)
            refine xr_op rfl rfl (xv_assign rfl ?_)
            refine xr_end rfl ?_
            refine th_n ?_
            refine xc_ret ?_
            refine body_ret (h' := ((e12, .cells ⟨((List.range cs.length).map (lowT s cs (T ++ [hours]))).flatMap eBo⟩ 4) :: (e13, .cells ⟨((List.range cs.length).map (highT s cs (T ++ [hours]))).flatMap eBo⟩ 4) :: (b14, .cells ⟨[.bool (leastT s b (T ++ [hours]))]⟩ 4) :: (b15, .cells ⟨[.bool (mostT s b (T ++ [hours]))]⟩ 4) :: C)) rfl (ro_tmp rfl ro_nil) (by (first|((repeat first|exact s_0|exact s_1|exact s_3|refine s_4 ?_|refine s_5 ?_|refine s_6 ?_|refine s_7 ?_);done)|((repeat first|exact s_0|exact s_1|exact s_3|refine s_4 ?_|refine s_5 ?_|refine s_6 ?_|refine s_8 ?_);done))) ?_
            exact H

theorem try_c {s : Slot} {w : List Int} {cs : List Span} {b : Span} (hsm : Small s) (hd : errD s = 0) (hcs : cs = coinsS s) (hbs : b = boughtS s) (hwl : w.length ≤ 9) : ∀ d, TryOk s w cs b d := by
  intro d
  induction d using Nat.strongRecOn with
  | ind d ih => exact try_step hsm hd hcs hbs hwl ih

end Go.Proofs.Ytlcdbjgfeoagbaa
