/-
  The blend and the yield as the program sums them, over the layers that are drawn from.
-/
import Derived.Test.YtmaldhbjhomdkaaHW
set_option linter.all false
namespace Go.Proofs.Ytmaldhbjhomdkaa.Coal
open Go Go.H
theorem flat1 {α : Type} {h : Hp} {enc : α → List Value} {b o f : Nat} {xs : List α} (H : SlV h 1 enc (some ⟨b, o, none⟩) xs) (n : Nat) : SlV h 1 enc (some ⟨b, o + f * 1, none⟩) ((xs.drop f).take n) := (H.drop f).take n
theorem ShedV.cut {h : Hp} {y : Yard} {vs : List (List Int)} {b : Nat} {la : Option Addr} {lc : Nat} {bs : List Nat} {bo oo : Nat} {dc : Nat} {ds : List PH} (H : ShedV h y vs b la lc bs (some ⟨bo, oo, none⟩) dc ds) (hg : GoodYard y) (f n : Nat) :
    SubV h y ((vs.drop f).take n) (some ⟨bo, oo + f * 1, none⟩) ((ds.drop f).take n) := by
  have h1 := H.inv.few
  have h2 := opn_le y.moves
  have h3 := hg.2.2.2
  refine ⟨flat1 H.draws n, fun z hz => H.parts z (List.mem_of_mem_drop (List.mem_of_mem_take hz)), by rw [List.map_take, List.map_drop, H.are, List.map_take, List.map_drop], fun v hv => H.inv.len v (List.mem_of_mem_drop (List.mem_of_mem_take hv)), fun v hv => H.inv.bd v (List.mem_of_mem_drop (List.mem_of_mem_take hv)), ?_, by omega⟩
  rw [List.length_take, List.length_drop]; omega
theorem partsN_len (y : Yard) (us : List (List Int)) (i : Nat) : (partsN y us i).length ≤ i := by
  have := List.length_filterMap_le (fun j : Nat => if takenR us j > 0 then some (contF 6 (y.moves.take y.moves.length) (j : Int), takenR us j) else none) (List.range i)
  rwa [List.length_range] at this
theorem partsL_mem {y : Yard} {us : List (List Int)} {x : List Int × Int} (h : x ∈ partsL y us) : ∃ j : Nat, j < (opn y.moves).1 ∧ x = (contF 6 (y.moves.take y.moves.length) (j : Int), takenR us j) ∧ takenR us j > 0 := by
  unfold partsL partsN at h
  rw [List.mem_filterMap] at h
  obtain ⟨j, hj, he⟩ := h
  rw [List.mem_range] at hj
  split at he
  · cases he; exact ⟨j, hj, rfl, by assumption⟩
  · cases he
theorem partsL_ok {y : Yard} {us : List (List Int)} {x : List Int × Int} (hg : GoodYard y) (hb : ∀ v ∈ us, ∀ z ∈ v, 0 ≤ z ∧ z ≤ 1048576) (hf : us.length ≤ 32) (h : x ∈ partsL y us) : x.1.length = 6 ∧ (∀ z ∈ x.1, 0 ≤ z ∧ z ≤ 33554432) ∧ 0 < x.2 ∧ x.2 ≤ 1048576 * (us.length : Int) := by
  obtain ⟨j, hj, rfl, h0⟩ := partsL_mem h
  have ht := taken_bd hb j
  have hc := contF_bd (j := (j : Int)) (movesOk_le hg.2.2.1.2 (movesOk_mono y.moves.length hg.2.1))
  refine ⟨contF_len _ _ _, fun z hz => ?_, h0, ht.2⟩
  have := hc z hz
  have h3 := hg.2.2.2
  rw [List.length_take, Nat.min_self] at this
  omega
theorem c6_pad {y : Yard} (hg : GoodYard y) (j : Nat) : contF 6 (y.moves.take y.moves.length) (j : Int) = contE y j ++ List.replicate (6 - y.coals.length) 0 := by
  have := contF_pad (q := 6 - y.coals.length) (j := (j : Int)) (movesOk_mono y.moves.length hg.2.1)
  rwa [show y.coals.length + (6 - y.coals.length) = 6 by have := hg.2.2.1.2; omega] at this
theorem c6_sum {y : Yard} (hg : GoodYard y) (j : Nat) : sumI (contF 6 (y.moves.take y.moves.length) (j : Int)) = sumI (contE y j) := by rw [c6_pad hg, sumI_app, sumI_rep]; omega
theorem c6_get {y : Yard} (hg : GoodYard y) (j : Nat) {i : Nat} (hi : i < y.coals.length) : (contF 6 (y.moves.take y.moves.length) (j : Int)).getD i 0 = (contE y j).getD i 0 := by
  rw [c6_pad hg, List.getD_eq_getElem?_getD, List.getElem?_append_left (by rw [contE_len]; exact hi), ← List.getD_eq_getElem?_getD]
theorem contE_nn {y : Yard} (hg : GoodYard y) (j : Nat) : ∀ x ∈ contE y j, 0 ≤ x := fun x hx => (contF_bd (j := (j : Int)) (movesOk_mono y.moves.length hg.2.1) x hx).1
def blS (i : Nat) (l : List (List Int × Int)) : Span := l.foldl (fun a x => ⟨a.lo + max 0 (x.2 - (sumI x.1 - x.1.getD i 0)), a.hi + min x.2 (x.1.getD i 0)⟩) ⟨0, 0⟩
theorem blS_snoc (i : Nat) (l : List (List Int × Int)) (x : List Int × Int) : blS i (l ++ [x]) = ⟨(blS i l).lo + max 0 (x.2 - (sumI x.1 - x.1.getD i 0)), (blS i l).hi + min x.2 (x.1.getD i 0)⟩ := by unfold blS; rw [List.foldl_append]; rfl
theorem blS_take {i k : Nat} {l : List (List Int × Int)} {x : List Int × Int} (h : l[k]? = some x) : blS i (l.take (k + 1)) = ⟨(blS i (l.take k)).lo + max 0 (x.2 - (sumI x.1 - x.1.getD i 0)), (blS i (l.take k)).hi + min x.2 (x.1.getD i 0)⟩ := by
  rw [List.take_add_one, h]; exact blS_snoc _ _ _
theorem blS_parts {y : Yard} {us : List (List Int)} (hg : GoodYard y) (hb : ∀ v ∈ us, ∀ z ∈ v, 0 ≤ z ∧ z ≤ 1048576) {i : Nat} (hi : i < y.coals.length) : ∀ j, blS i (partsN y us j) = bSp (takenR us) (contE y) j i
  | 0 => rfl
  | j + 1 => by
    have ih := blS_parts hg hb hi j
    have ht := taken_bd hb j
    have hs := getD_sum (contE_nn hg j) i
    have h5 : 0 ≤ (contE y j).getD i 0 := by
      rw [List.getD_eq_getElem?_getD]
      cases hq : (contE y j)[i]? with
      | none => simp
      | some z => simpa using contE_nn hg j z (List.mem_of_getElem? hq)
    rw [partsN_succ]
    split
    · rw [blS_snoc, ih, c6_sum hg, c6_get hg j hi]; rfl
    · have h0 : takenR us j = 0 := by omega
      rw [ih]
      unfold bSp
      rw [bLo, bHi, h0]
      congr 1 <;> omega
theorem taken_one (v : List Int) : takenR [v] = fun j => v.getD j 0 := funext fun j => by unfold takenR; simp
end Go.Proofs.Ytmaldhbjhomdkaa.Coal
namespace Go.Proofs.Ytmaldhbjhomdkaa.Coal
open Go Go.H
theorem SubV.sub {h g : Hp} {y : Yard} {us : List (List Int)} {a : Option Addr} {es : List PH} (H : SubV h y us a es) (hs : h ⊆ g) : SubV g y us a es :=
  ⟨H.sl.sub hs, fun z hz => (H.parts z hz).sub hs, H.are, H.len, H.bd, H.few, H.lay⟩
end Go.Proofs.Ytmaldhbjhomdkaa.Coal

/-
  The program's yield: shares in order, one after the other, are a greedy choice.
-/
set_option linter.all false
namespace Go.Proofs.Ytmaldhbjhomdkaa.Coal
open Go Go.H
theorem perm_lift {α β : Type} {f : α → β} {ys xs : List β} (h : ys.Perm xs) : ∀ T : List α, T.map f = ys → ∃ T' : List α, T'.Perm T ∧ T'.map f = xs := by
  induction h with
  | nil => intro T hT; exact ⟨T, .refl _, hT⟩
  | cons x _ ih =>
    intro T hT
    cases T with
    | nil => cases hT
    | cons t T =>
      rw [List.map_cons] at hT
      injection hT with h1 h2
      obtain ⟨T', hp, he⟩ := ih T h2
      exact ⟨t :: T', hp.cons t, by rw [List.map_cons, he, h1]⟩
  | swap x y l =>
    intro T hT
    match T, hT with
    | s :: t :: T, hT =>
      rw [List.map_cons, List.map_cons] at hT
      injection hT with h1 h2
      injection h2 with h2 h3
      exact ⟨t :: s :: T, .swap _ _ _, by rw [List.map_cons, List.map_cons, h1, h2, h3]⟩
  | trans _ _ ih1 ih2 =>
    intro T hT
    obtain ⟨T1, p1, e1⟩ := ih1 T hT
    obtain ⟨T2, p2, e2⟩ := ih2 T1 e1
    exact ⟨T2, p2.trans p1, e2⟩
theorem perm_sum {a b : List Int} (h : a.Perm b) : a.sum = b.sum := by
  induction h with
  | nil => rfl
  | cons x _ ih => rw [List.sum_cons, List.sum_cons, ih]
  | swap x y l => simp only [List.sum_cons]; omega
  | trans _ _ h1 h2 => exact h1.trans h2
def fstT : List Share → Int → List (Share × Int)
  | [], _ => []
  | s :: l, n => (s, min n s.tons) :: fstT l (n - min n s.tons)
theorem fstT_map : ∀ (l : List Share) (n : Int), (fstT l n).map Prod.fst = l
  | [], _ => rfl
  | s :: l, n => by rw [fstT, List.map_cons, fstT_map l]
def dotT (T : List (Share × Int)) : Int := (T.map fun z => z.2 * z.1.each).sum
def sumT (T : List (Share × Int)) : Int := (T.map Prod.snd).sum
theorem fstP_T : ∀ (l : List Share) (a n : Int), l.foldl (fun z x => (z.1 + min z.2 x.tons * x.each, z.2 - min z.2 x.tons)) (a, n) = (a + dotT (fstT l n), n - sumT (fstT l n))
  | [], a, n => by simp [fstT, dotT, sumT]
  | s :: l, a, n => by
    rw [List.foldl_cons, fstP_T l, fstT]
    have e1 : dotT ((s, min n s.tons) :: fstT l (n - min n s.tons)) = min n s.tons * s.each + dotT (fstT l (n - min n s.tons)) := by simp [dotT]
    have e2 : sumT ((s, min n s.tons) :: fstT l (n - min n s.tons)) = min n s.tons + sumT (fstT l (n - min n s.tons)) := by simp [sumT]
    rw [e1, e2]
    dsimp only
    rw [Int.add_assoc, Int.sub_sub]
theorem fstT_bd : ∀ {l : List Share} {n : Int}, 0 ≤ n → (∀ x ∈ l, 0 ≤ x.tons) → (∀ z ∈ fstT l n, 0 ≤ z.2 ∧ z.2 ≤ z.1.tons ∧ (0 < z.2 → 0 < n)) ∧ 0 ≤ n - sumT (fstT l n)
  | [], n, hn, _ => ⟨fun z hz => by simp [fstT] at hz, by simp [fstT, sumT]; exact hn⟩
  | s :: l, n, hn, h => by
    have hs := h s List.mem_cons_self
    obtain ⟨i1, i2⟩ := fstT_bd (l := l) (n := n - min n s.tons) (by omega) fun x hx => h x (List.mem_cons_of_mem _ hx)
    have e2 : sumT (fstT (s :: l) n) = min n s.tons + sumT (fstT l (n - min n s.tons)) := by simp [fstT, sumT]
    refine ⟨fun z hz => ?_, by omega⟩
    rw [fstT] at hz
    rcases List.mem_cons.1 hz with rfl | hz
    · dsimp only; omega
    · have := i1 z hz; omega
theorem fstT_sum : ∀ {l : List Share} {n : Int}, 0 ≤ n → (∀ x ∈ l, 0 ≤ x.tons) → n ≤ sumI (l.map Share.tons) → sumT (fstT l n) = n
  | [], n, hn, _, h2 => by simp [fstT, sumT, sumI] at h2 ⊢; omega
  | s :: l, n, hn, h, h2 => by
    have hs := h s List.mem_cons_self
    have e2 : sumT (fstT (s :: l) n) = min n s.tons + sumT (fstT l (n - min n s.tons)) := by simp [fstT, sumT]
    have e3 : sumI ((s :: l).map Share.tons) = s.tons + sumI (l.map Share.tons) := by simp [sumI]
    have hl := sumI_nn (l := l.map Share.tons) fun x hx => by
      obtain ⟨z, hz, rfl⟩ := List.mem_map.1 hx
      exact h z (List.mem_cons_of_mem _ hz)
    have ih := fstT_sum (l := l) (n := n - min n s.tons) (by omega) (fun x hx => h x (List.mem_cons_of_mem _ hx)) (by omega)
    rw [e2, ih]; omega
theorem fstT_fst : ∀ {l : List Share} {n : Int}, 0 ≤ n → (∀ x ∈ l, 0 ≤ x.tons) → l.Pairwise (fun a b => a.each ≤ b.each) → ∀ s ∈ fstT l n, ∀ t ∈ fstT l n, s.1.each < t.1.each → 0 < t.2 → s.2 = s.1.tons
  | [], n, _, _, _, s, hs, _, _, _, _ => by simp [fstT] at hs
  | x :: l, n, hn, h, hp, s, hs, t, ht, hlt, h0 => by
    have hx := h x List.mem_cons_self
    have hl := fun z hz => h z (List.mem_cons_of_mem x hz)
    have hp := List.pairwise_cons.1 hp
    rw [fstT] at hs ht
    have hmem : ∀ {z : Share × Int} {m : Int}, z ∈ fstT l m → z.1 ∈ l := fun {z m} hz => by
      have := List.mem_map_of_mem (f := Prod.fst) hz
      rwa [fstT_map] at this
    rcases List.mem_cons.1 hs with e1 | hs <;> rcases List.mem_cons.1 ht with e2 | ht
    · subst e1 e2; omega
    · subst e1
      have := ((fstT_bd (l := l) (n := n - min n x.tons) (by omega) hl).1 t ht).2.2 h0
      dsimp only at this ⊢; omega
    · subst e2
      have := hp.1 s.1 (hmem hs)
      dsimp only at hlt; omega
    · exact fstT_fst (by omega) hl hp.2 s hs t ht hlt h0
theorem greedy_T {T : List (Share × Int)} {n : Int} (h1 : ∀ z ∈ T, 0 ≤ z.2 ∧ z.2 ≤ z.1.tons) (h2 : sumT T = n) (h3 : ∀ s ∈ T, ∀ t ∈ T, s.1.each < t.1.each → 0 < t.2 → s.2 = s.1.tons) :
    Greedy (T.map fun z => z.1.tons) (T.map fun z => z.1.each) n (T.map Prod.snd) := by
  refine ⟨by simp, fun i a r ha hr => ?_, h2, fun i j a r ei b ej ha hr hei hb hej hlt h0 => ?_⟩
  · rw [List.getElem?_map] at ha hr
    cases hz : T[i]? with
    | none => rw [hz] at ha; cases ha
    | some z =>
      rw [hz] at ha hr; cases ha; cases hr
      exact h1 z (List.mem_of_getElem? hz)
  · rw [List.getElem?_map] at ha hr hei hb hej
    cases hz : T[i]? with
    | none => rw [hz] at ha; cases ha
    | some z =>
      cases hw : T[j]? with
      | none => rw [hw] at hb; cases hb
      | some w =>
        rw [hz] at ha hr hei; rw [hw] at hb hej
        cases ha; cases hr; cases hei; cases hb; cases hej
        exact h3 z (List.mem_of_getElem? hz) w (List.mem_of_getElem? hw) hlt h0
theorem dot_T : ∀ (T : List (Share × Int)), dotI (T.map Prod.snd) (T.map fun z => z.1.each) = dotT T
  | [] => rfl
  | z :: T => by
    have e : dotT (z :: T) = z.2 * z.1.each + dotT T := by simp [dotT]
    rw [List.map_cons, List.map_cons, dot_cons, dot_T T, e]
theorem fst_gval {xs ys : List Share} {n : Int} (hp : ys.Perm xs) (hs : ys.Pairwise (fun a b => a.each ≤ b.each)) (h0 : 0 ≤ n) (ht : ∀ x ∈ xs, 0 ≤ x.tons) (hn : n ≤ sumI (xs.map Share.tons)) :
    (fstP ys n).1 = gval (xs.map Share.tons) (xs.map Share.each) n := by
  have hty : ∀ x ∈ ys, 0 ≤ x.tons := fun x hx => ht x (hp.mem_iff.1 hx)
  obtain ⟨T', p', e'⟩ := perm_lift hp (fstT ys n) (fstT_map ys n)
  have hsum : sumI (ys.map Share.tons) = sumI (xs.map Share.tons) := perm_sum (hp.map Share.tons)
  have g := greedy_T (T := T') (n := n) (fun z hz => by
    have := (fstT_bd h0 hty).1 z (p'.mem_iff.1 hz)
    exact ⟨this.1, this.2.1⟩) (by
    unfold sumT
    rw [perm_sum (p'.map Prod.snd)]
    exact fstT_sum h0 hty (by omega)) fun s hs2 t ht2 hlt hp2 => fstT_fst h0 hty hs s (p'.mem_iff.1 hs2) t (p'.mem_iff.1 ht2) hlt hp2
  have r1 : T'.map (fun z => z.1.tons) = xs.map Share.tons := by rw [← e', List.map_map]; rfl
  have r2 : T'.map (fun z => z.1.each) = xs.map Share.each := by rw [← e', List.map_map]; rfl
  rw [r1, r2] at g
  rw [← gval_eq (by simp) g, ← r2, dot_T]
  unfold fstP
  rw [fstP_T]
  dsimp only
  unfold dotT
  rw [perm_sum (p'.map fun z => z.2 * z.1.each)]; omega
def negS (s : Share) : Share := ⟨s.tons, -s.each⟩
theorem fstP_neg (l : List Share) (n : Int) : (fstP (l.map negS) n).1 = -(fstP l n).1 := by
  have key : ∀ (l : List Share) (n : Int), dotT (fstT (l.map negS) n) = -dotT (fstT l n) := by
    intro l
    induction l with
    | nil => intro n; rfl
    | cons s l ih =>
      intro n
      rw [List.map_cons, fstT, fstT]
      have e1 : ∀ (z : Share × Int) T, dotT (z :: T) = z.2 * z.1.each + dotT T := fun z T => by simp [dotT]
      rw [e1, e1]
      have e2 : (negS s).tons = s.tons := rfl
      have e3 : (negS s).each = -s.each := rfl
      dsimp only
      rw [e2, e3, ih, Int.mul_neg, Int.neg_add]
  unfold fstP
  rw [fstP_T, fstP_T, key]; dsimp only; omega
theorem fst_gvalR {xs ys : List Share} {n : Int} (hp : ys.Perm xs) (hs : ys.Pairwise (fun a b => a.each ≤ b.each)) (h0 : 0 ≤ n) (ht : ∀ x ∈ xs, 0 ≤ x.tons) (hn : n ≤ sumI (xs.map Share.tons)) :
    (fstP ys.reverse n).1 = -gval (xs.map Share.tons) (xs.map fun x => -x.each) n := by
  have h1 := fst_gval (xs := xs.map negS) (ys := ys.reverse.map negS) (n := n) (((List.reverse_perm ys).trans hp).map negS)
    (by
      rw [List.pairwise_map, List.pairwise_reverse]
      exact hs.imp fun h => by show -_ ≤ -_; omega) h0 (fun x hx => by
      obtain ⟨z, hz, rfl⟩ := List.mem_map.1 hx
      exact ht z hz) (by rw [List.map_map]; exact hn)
  rw [fstP_neg, List.map_map, List.map_map] at h1
  have e : (Share.tons ∘ negS) = Share.tons := rfl
  have e2 : (Share.each ∘ negS) = fun x => -x.each := rfl
  rw [e, e2] at h1
  omega
def shL (y : Yard) (g : Span → Int) (w : Int) (c : List Int) (i : Nat) : List Share := (List.range i).map fun j => ⟨c.getD j 0, g (ofF (y.coals.getD j default) w)⟩
theorem shL_len (y : Yard) (g : Span → Int) (w : Int) (c : List Int) (i : Nat) : (shL y g w c i).length = i := by simp [shL]
theorem shL_snoc {y : Yard} {g : Span → Int} {w : Int} {c : List Int} {i : Nat} {a : Int} {o : Coal} (hc : c[i]? = some a) (ho : y.coals[i]? = some o) : shL y g w c (i + 1) = shL y g w c i ++ [⟨a, g (ofF o w)⟩] := by
  unfold shL
  rw [List.range_succ, List.map_append, List.map_singleton]
  congr 3
  · rw [List.getD_eq_getElem?_getD, hc]; rfl
  · rw [List.getD_eq_getElem?_getD, ho]; rfl
theorem shL_flat {y : Yard} {g : Span → Int} {w : Int} {c : List Int} {i : Nat} {a : Int} {o : Coal} (hc : c[i]? = some a) (ho : y.coals[i]? = some o) : (shL y g w c (i + 1)).flatMap eShare = (shL y g w c i).flatMap eShare ++ [I a, I (g (ofF o w))] := by
  rw [shL_snoc hc ho, List.flatMap_append]; rfl
theorem map_getD {α β : Type} {l : List α} {d : α} {n : Nat} (hn : n ≤ l.length) (f : α → β) : (List.range n).map (fun j => f (l.getD j d)) = (l.take n).map f := by
  refine List.ext_getElem? fun i => ?_
  by_cases hi : i < n
  · rw [List.getElem?_map, List.getElem?_range hi, List.getElem?_map, List.getElem?_take_of_lt hi, Option.map_some, List.getD_eq_getElem?_getD, List.getElem?_eq_getElem (by omega)]; rfl
  · rw [List.getElem?_eq_none (by simp; omega), List.getElem?_eq_none (by simp; omega)]
theorem shL_tons {y : Yard} {g : Span → Int} {w : Int} {c : List Int} (h : y.coals.length ≤ c.length) : (shL y g w c y.coals.length).map Share.tons = c.take y.coals.length := by
  unfold shL
  rw [List.map_map]
  have := map_getD (d := (0 : Int)) h (fun x => x)
  rw [List.map_id'' (fun _ => rfl)] at this
  exact this
theorem shL_each {y : Yard} {g : Span → Int} {w : Int} {c : List Int} (f : Int → Int) : (shL y g w c y.coals.length).map (fun s => f s.each) = y.coals.map fun o => f (g (ofF o w)) := by
  unfold shL
  rw [List.map_map]
  have := map_getD (d := (default : Coal)) (Nat.le_refl y.coals.length) (fun o => f (g (ofF o w)))
  rw [List.take_length] at this
  exact this
theorem shL_ok {y : Yard} {g : Span → Int} {w : Int} {c : List Int} {i : Nat} (hg : GoodYard y) (hg2 : ∀ s, spanOk s → 0 ≤ g s ∧ g s ≤ 100000) (h0 : 0 ≤ w) (h1 : w ≤ 3) (hc : ∀ z ∈ c, 0 ≤ z) (hi : i ≤ y.coals.length) : ∀ x ∈ shL y g w c i, ShareOk x := fun x hx => by
  obtain ⟨j, hj, rfl⟩ := List.mem_map.1 hx
  rw [List.mem_range] at hj
  have hjl : j < y.coals.length := by omega
  have e : y.coals.getD j default = y.coals[j] := by rw [List.getD_eq_getElem?_getD, List.getElem?_eq_getElem hjl]; rfl
  have hs := hg2 _ (ofF_ok (hg.1 _ (List.getElem_mem hjl)) h0 h1)
  refine ⟨?_, ?_, ?_⟩
  · dsimp only
    rw [List.getD_eq_getElem?_getD]
    cases hq : c[j]? with
    | none => simp
    | some z => simpa using hc z (List.mem_of_getElem? hq)
  · dsimp only; rw [e]; omega
  · dsimp only; rw [e]; omega
noncomputable def fLo (y : Yard) (w : Int) (x : List Int × Int) : Int := gval (x.1.take y.coals.length) (lows y w) x.2
noncomputable def fHi (y : Yard) (w : Int) (x : List Int × Int) : Int := -gval (x.1.take y.coals.length) (highs y w) x.2
noncomputable def ylS (y : Yard) (w : Int) (l : List (List Int × Int)) : Span := l.foldl (fun a x => ⟨a.lo + fLo y w x, a.hi + fHi y w x⟩) ⟨0, 0⟩
theorem ylS_snoc (y : Yard) (w : Int) (l : List (List Int × Int)) (x : List Int × Int) : ylS y w (l ++ [x]) = ⟨(ylS y w l).lo + fLo y w x, (ylS y w l).hi + fHi y w x⟩ := by unfold ylS; rw [List.foldl_append]; rfl
theorem ylS_take {y : Yard} {w : Int} {k : Nat} {l : List (List Int × Int)} {x : List Int × Int} (h : l[k]? = some x) : ylS y w (l.take (k + 1)) = ⟨(ylS y w (l.take k)).lo + fLo y w x, (ylS y w (l.take k)).hi + fHi y w x⟩ := by
  rw [List.take_add_one, h]; exact ylS_snoc _ _ _ _
theorem gval_0 {room each : List Int} (he : each.length = room.length) (hb : ∀ b ∈ each, -100000 ≤ b ∧ b ≤ 100000) : gval room each 0 = 0 := by
  have := gval_bd he hb (Int.le_refl 0); omega
theorem c6_take {y : Yard} (hg : GoodYard y) (j : Nat) : (contF 6 (y.moves.take y.moves.length) (j : Int)).take y.coals.length = contE y j := by
  rw [c6_pad hg, List.take_append_of_le_length (by rw [contE_len]; exact Nat.le_refl _), List.take_of_length_le (by rw [contE_len]; exact Nat.le_refl _)]
theorem ylS_parts {y : Yard} {us : List (List Int)} {w : Int} (hg : GoodYard y) (hb : ∀ v ∈ us, ∀ z ∈ v, 0 ≤ z ∧ z ≤ 1048576) (h0 : 0 ≤ w) (h1 : w ≤ 3) : ∀ j, ylS y w (partsN y us j) = ⟨yLo y w (takenR us) j, yHi y w (takenR us) j⟩
  | 0 => rfl
  | j + 1 => by
    have ih := ylS_parts hg hb h0 h1 j
    have ht := taken_bd hb j
    rw [partsN_succ]
    split
    · rw [ylS_snoc, ih]
      unfold fLo fHi
      dsimp only
      rw [c6_take hg]; rfl
    · have hz : takenR us j = 0 := by omega
      rw [ih, yLo, yHi, hz, gval_0 (by rw [lows_len, contE_len]) (lows_bd hg.1 h0 h1), gval_0 (by rw [highs_len, contE_len]) (highs_bd hg.1 h0 h1)]
      congr 1 <;> omega
theorem f_bd {y : Yard} {w : Int} {x : List Int × Int} (hg : GoodYard y) (h0 : 0 ≤ w) (h1 : w ≤ 3) (h6 : x.1.length = 6) (hn : 0 ≤ x.2) (hn2 : x.2 ≤ 33554432) : (-3355443200000 ≤ fLo y w x ∧ fLo y w x ≤ 3355443200000) ∧ -3355443200000 ≤ fHi y w x ∧ fHi y w x ≤ 3355443200000 := by
  have hl : (x.1.take y.coals.length).length = y.coals.length := by rw [List.length_take, h6]; have := hg.2.2.1.2; omega
  have a := gval_bd (room := x.1.take y.coals.length) (each := lows y w) (by rw [lows_len, hl]) (lows_bd hg.1 h0 h1) hn
  have b := gval_bd (room := x.1.take y.coals.length) (each := highs y w) (by rw [highs_len, hl]) (highs_bd hg.1 h0 h1) hn
  unfold fLo fHi
  omega
theorem ylS_bd {y : Yard} {w : Int} (hg : GoodYard y) (h0 : 0 ≤ w) (h1 : w ≤ 3) {l : List (List Int × Int)} (h : ∀ x ∈ l, x.1.length = 6 ∧ 0 ≤ x.2 ∧ x.2 ≤ 33554432) : (-3355443200000 * (l.length : Int) ≤ (ylS y w l).lo ∧ (ylS y w l).lo ≤ 3355443200000 * (l.length : Int)) ∧ -3355443200000 * (l.length : Int) ≤ (ylS y w l).hi ∧ (ylS y w l).hi ≤ 3355443200000 * (l.length : Int) := by
  induction l using snoc_ind with
  | h0 => simp [ylS]
  | h1 l x ih =>
    have ih := ih fun z hz => h z (List.mem_append_left _ hz)
    obtain ⟨a, b, c⟩ := h x (List.mem_append_right _ List.mem_cons_self)
    have := f_bd hg h0 h1 a b c
    rw [ylS_snoc, List.length_append, List.length_singleton]
    dsimp only
    omega
theorem low_val {y : Yard} {w n : Int} {c : List Int} {ys : List Share} (hg : GoodYard y) (h6 : c.length = 6) (hc : ∀ z ∈ c, 0 ≤ z) (h0 : 0 ≤ n) (hn : n ≤ sumI (c.take y.coals.length)) (hp : ys.Perm (shL y Span.lo w c y.coals.length)) (hs : ys.Pairwise (fun a b => ¬ b.each - a.each < 0)) : (fstP ys n).1 = fLo y w (c, n) := by
  have hl := hg.2.2.1.2
  have e1 := shL_tons (y := y) (g := Span.lo) (w := w) (c := c) (by omega)
  have e2 := shL_each (y := y) (g := Span.lo) (w := w) (c := c) id
  rw [fst_gval hp (hs.imp fun h => by omega) h0 (fun x hx => by
    have hm := List.mem_map_of_mem (f := Share.tons) hx
    rw [e1] at hm
    exact hc _ (List.mem_of_mem_take hm)) (by rw [e1]; exact hn), e1]
  unfold fLo lows
  congr 1
theorem high_val {y : Yard} {w n : Int} {c : List Int} {ys : List Share} (hg : GoodYard y) (h6 : c.length = 6) (hc : ∀ z ∈ c, 0 ≤ z) (h0 : 0 ≤ n) (hn : n ≤ sumI (c.take y.coals.length)) (hp : ys.Perm (shL y Span.hi w c y.coals.length)) (hs : ys.Pairwise (fun a b => ¬ b.each - a.each < 0)) : (fstP ys.reverse n).1 = fHi y w (c, n) := by
  have hl := hg.2.2.1.2
  have e1 := shL_tons (y := y) (g := Span.hi) (w := w) (c := c) (by omega)
  have e2 := shL_each (y := y) (g := Span.hi) (w := w) (c := c) (fun x => -x)
  rw [fst_gvalR hp (hs.imp fun h => by omega) h0 (fun x hx => by
    have hm := List.mem_map_of_mem (f := Share.tons) hx
    rw [e1] at hm
    exact hc _ (List.mem_of_mem_take hm)) (by rw [e1]; exact hn), e1, e2]
  unfold fHi highs
  rfl
end Go.Proofs.Ytmaldhbjhomdkaa.Coal
namespace Go.Proofs.Ytmaldhbjhomdkaa.Coal
open Go Go.H
theorem parts_need {y : Yard} {vs : List (List Int)} {f m : Nat} {x : List Int × Int} (hg : GoodYard y) (hP : PInv y.coals.length y.moves (opn y.moves).1 y.moves.length vs) (hx : x ∈ partsL y ((vs.drop f).take m)) : x.2 ≤ sumI (x.1.take y.coals.length) := by
  obtain ⟨j, hj, rfl, _⟩ := partsL_mem hx
  have h1 := (taken_part hP.bd f m j).2
  have h2 := room_nn hP j
  dsimp only
  rw [c6_take hg]
  unfold roomR at h2
  unfold contE
  omega
def cmS (a b : Share) : Int := a.each - b.each
theorem cmS_swo : Go.Sort.SWO (ltc cmS) := by
  have e : ∀ x y, ltc cmS x y = decide (x.each < y.each) := fun x y => by unfold ltc cmS; exact decide_eq_decide.2 (by omega)
  refine ⟨fun x => ?_, fun x y z => ?_, fun x y z => ?_⟩ <;> simp only [e, decide_eq_true_eq, decide_eq_false_iff_not] <;> omega
theorem permF {V W R : Hp} {m p q b c d z : Nat × Obj} : List.Perm ((V ++ (W ++ (p :: q :: b :: c :: R))) ++ [m, d, z]) (m :: (V ++ (W ++ (d :: p :: q :: b :: c :: z :: R)))) := by
  classical
  refine List.perm_iff_count.2 fun a => ?_
  simp only [List.count_append, List.count_cons, List.count_nil]; omega
theorem permG {V W R : Hp} {x y m p q b c d z : Nat × Obj} : List.Perm ((W ++ (x :: (V ++ (y :: p :: q :: b :: c :: R)))) ++ [m, d, z]) (x :: y :: m :: (V ++ (W ++ (d :: p :: q :: b :: c :: z :: R)))) := by
  classical
  refine List.perm_iff_count.2 fun a => ?_
  simp only [List.count_append, List.count_cons, List.count_nil]; omega
end Go.Proofs.Ytmaldhbjhomdkaa.Coal

/-
  Whether a draw can have so much of each coal: any coals together need no more than all layers can give of them.
-/
set_option linter.all false
namespace Go.Proofs.Ytmaldhbjhomdkaa.Coal
open Go Go.H
def eR (x : List Int × Int) : List Value := [I x.2]
def eM (x : List Int × Int) : List Value := (List.range 6).map fun i => I (x.1.getD i 0)
def lyr (l : List (List Int × Int)) (k : Nat) : List Int × Int := l.getD k ([], 0)
theorem lyr_at {l : List (List Int × Int)} {k : Nat} {x : List Int × Int} (h : l[k]? = some x) : lyr l k = x := by unfold lyr; rw [List.getD_eq_getElem?_getD, h]; rfl
def mnS (l : List (List Int × Int)) (own : List Int) : Nat → Int
  | 0 => 0
  | k + 1 => mnS l own k + min (lyr l k).2 (own.getD k 0)
def ownN (l : List (List Int × Int)) (c : Nat) (own : List Int) (k : Nat) : List Int := (List.range own.length).map fun j => if j < k then own.getD j 0 + (lyr l j).1.getD c 0 else own.getD j 0
theorem ownN_len (l : List (List Int × Int)) (c : Nat) (own : List Int) (k : Nat) : (ownN l c own k).length = own.length := by simp [ownN]
def fitsF (l : List (List Int × Int)) : List Int → Nat → Int → List Int → Bool
  | [], _, need, own => decide (need ≤ mnS l own l.length)
  | t :: r, c, need, own => fitsF l r (c + 1) need own && fitsF l r (c + 1) (need + t) (ownN l c own l.length)
def allT (l : List (List Int × Int)) : Int := (l.map Prod.snd).sum
def canB (l : List (List Int × Int)) (ts : List Int) : Bool := if ∀ t ∈ ts, 0 ≤ t ∧ t ≤ allT l then decide (sumI ts = allT l) && fitsF l ts 0 0 (List.replicate l.length 0) else false
section
variable {y : Yard} {draw : Int} {ts : List Int} {vs : List (List Int)} {v : List Int}
end
theorem canB_in {l : List (List Int × Int)} {ts : List Int} (h : ∀ t ∈ ts, 0 ≤ t ∧ t ≤ allT l) : canB l ts = (decide (sumI ts = allT l) && fitsF l ts 0 0 (List.replicate l.length 0)) := by
  unfold canB; exact if_pos h
structure FitsC (core : Hp) (l : List (List Int × Int)) (ts : List Int) (bt br bm bf : Nat) (ta : Option Addr) (tc : Nat) (ra : Option Addr) (rc : Nat) (ma : Option Addr) (mc : Nat) : Prop where
  t : (bt, .cells ⟨[.slice ta ts.length tc]⟩ 26 (0, 0)) ∈ core
  r : (br, .cells ⟨[.slice ra l.length rc]⟩ 26 (0, 0)) ∈ core
  m : (bm, .cells ⟨[.slice ma l.length mc]⟩ 90100 (0, 0)) ∈ core
  f : (bf, .cells ⟨[.func (.func 90047) ⟨[]⟩ ⟨[.pointer (some ⟨bt, 0, none⟩), .pointer (some ⟨br, 0, none⟩), .pointer (some ⟨bm, 0, none⟩), .pointer (some ⟨bf, 0, none⟩)]⟩]⟩ 90101 (0, 0)) ∈ core
  tv : SlV core 1 eI ta ts
  rs : SlV core 1 eR ra l
  ms : SlV core 6 eM ma l
  ok : ∀ x ∈ l, x.1.length = 6 ∧ (∀ z ∈ x.1, 0 ≤ z ∧ z ≤ 33554432) ∧ 0 < x.2 ∧ x.2 ≤ 33554432
  few : l.length ≤ 32
  len : ts.length ≤ 6
  tb : ∀ t ∈ ts, 0 ≤ t ∧ t ≤ 1073741824
theorem FitsC.sub {core g : Hp} {l : List (List Int × Int)} {ts : List Int} {bt br bm bf : Nat} {ta : Option Addr} {tc : Nat} {ra : Option Addr} {rc : Nat} {ma : Option Addr} {mc : Nat} (H : FitsC core l ts bt br bm bf ta tc ra rc ma mc) (hs : core ⊆ g) : FitsC g l ts bt br bm bf ta tc ra rc ma mc :=
  ⟨hs H.t, hs H.r, hs H.m, hs H.f, H.tv.sub hs, H.rs.sub hs, H.ms.sub hs, H.ok, H.few, H.len, H.tb⟩
end Go.Proofs.Ytmaldhbjhomdkaa.Coal

/-
  What the program asks of any coals together; a division answers it; what it says of one coal.
-/
set_option linter.all false
namespace Go.Proofs.Ytmaldhbjhomdkaa.Coal
open Go Go.H
def sF (f : Nat → Int) : Nat → Int
  | 0 => 0
  | n + 1 => sF f n + f n
theorem sF_congr {f g : Nat → Int} : ∀ {n : Nat}, (∀ i, i < n → f i = g i) → sF f n = sF g n
  | 0, _ => rfl
  | n + 1, h => by rw [sF, sF, sF_congr fun i hi => h i (by omega), h n (by omega)]
theorem sF_le {f g : Nat → Int} : ∀ {n : Nat}, (∀ i, i < n → f i ≤ g i) → sF f n ≤ sF g n
  | 0, _ => Int.le_refl _
  | n + 1, h => by
    have := sF_le (n := n) fun i hi => h i (by omega)
    have := h n (by omega)
    rw [sF, sF]; omega
theorem sF_zero : ∀ n, sF (fun _ => 0) n = 0
  | 0 => rfl
  | n + 1 => by rw [sF, sF_zero n]; rfl
theorem sF_nn {f : Nat → Int} {n : Nat} (h : ∀ i, i < n → 0 ≤ f i) : 0 ≤ sF f n := by
  have := sF_le (f := fun _ => 0) h
  rwa [sF_zero] at this
theorem sF_add (f g : Nat → Int) : ∀ n, sF (fun i => f i + g i) n = sF f n + sF g n
  | 0 => rfl
  | n + 1 => by rw [sF, sF, sF, sF_add f g n]; omega
theorem sF_sub (f g : Nat → Int) : ∀ n, sF (fun i => f i - g i) n = sF f n - sF g n
  | 0 => rfl
  | n + 1 => by rw [sF, sF, sF, sF_sub f g n]; omega
theorem sF_shift (f : Nat → Int) : ∀ n, sF f (n + 1) = f 0 + sF (fun i => f (i + 1)) n
  | 0 => by simp [sF]
  | n + 1 => by rw [sF, sF_shift f n, sF]; omega
theorem sF_comm (f : Nat → Nat → Int) (m : Nat) : ∀ n, sF (fun i => sF (fun j => f j i) m) n = sF (fun j => sF (fun i => f j i) n) m
  | 0 => by
    show (0 : Int) = _
    exact (sF_zero m).symm
  | n + 1 => by
    rw [sF, sF_comm f m n, ← sF_add]; rfl
theorem sF_one {f : Nat → Int} {w : Nat} : ∀ {n : Nat}, sF (fun i => if i = w then f i else 0) n = if w < n then f w else 0
  | 0 => rfl
  | n + 1 => by
    rw [sF, sF_one]
    by_cases h : w < n
    · rw [if_pos h, if_neg (by omega), if_pos (by omega)]; omega
    · by_cases h2 : n = w
      · subst h2; rw [if_neg h, if_pos rfl, if_pos (by omega)]; omega
      · rw [if_neg h, if_neg h2, if_neg (by omega)]; rfl
theorem sumI_sF : ∀ (l : List Int), sumI l = sF (fun i => l.getD i 0) l.length
  | [] => rfl
  | x :: l => by
    have e : sumI (x :: l) = x + sumI l := by unfold sumI; rw [List.sum_cons]
    rw [e, List.length_cons, sF_shift, sumI_sF l]
    rfl
theorem allT_sF (l : List (List Int × Int)) : allT l = sF (fun j => (lyr l j).2) l.length := by
  have := sumI_sF (l.map Prod.snd)
  rw [List.length_map] at this
  refine this.trans (sF_congr fun i hi => ?_)
  rw [List.getD_eq_getElem?_getD, List.getElem?_map, List.getElem?_eq_getElem hi, lyr_at (List.getElem?_eq_getElem hi)]; rfl
theorem mnS_sF (l : List (List Int × Int)) (own : List Int) : ∀ k, mnS l own k = sF (fun j => min (lyr l j).2 (own.getD j 0)) k
  | 0 => rfl
  | k + 1 => by rw [mnS, sF, mnS_sF l own k]
theorem ownN_getD {l : List (List Int × Int)} {c : Nat} {own : List Int} {k j : Nat} (hj : j < own.length) (hk : j < k) : (ownN l c own k).getD j 0 = own.getD j 0 + (lyr l j).1.getD c 0 := by
  rw [List.getD_eq_getElem?_getD]
  unfold ownN
  rw [List.getElem?_map, List.getElem?_range hj, Option.map_some, if_pos hk]; rfl
theorem fits_iff {l : List (List Int × Int)} : ∀ (r : List Int) (c : Nat) (need : Int) (own : List Int), own.length = l.length →
    (fitsF l r c need own = true ↔ ∀ S : Nat → Bool, need + sF (fun i => if S (c + i) then r.getD i 0 else 0) r.length ≤ sF (fun j => min (lyr l j).2 (own.getD j 0 + sF (fun i => if S (c + i) then (lyr l j).1.getD (c + i) 0 else 0) r.length)) l.length)
  | [], c, need, own, ho => by
    rw [fitsF, mnS_sF, decide_eq_true_eq]
    simp only [List.length_nil, sF, Int.add_zero]
    exact ⟨fun h _ => h, fun h => h fun _ => false⟩
  | t :: r, c, need, own, ho => by
    have i1 := fits_iff (l := l) r (c + 1) need own ho
    have i2 := fits_iff (l := l) r (c + 1) (need + t) (ownN l c own l.length) (by rw [ownN_len]; exact ho)
    rw [fitsF, Bool.and_eq_true, i1, i2]
    have e1 : ∀ S : Nat → Bool, sF (fun i => if S (c + i) then (t :: r).getD i 0 else 0) (t :: r).length = (if S c then t else 0) + sF (fun i => if S (c + 1 + i) then r.getD i 0 else 0) r.length := fun S => by
      rw [List.length_cons, sF_shift]
      refine congr (congrArg _ rfl) (sF_congr fun i _ => ?_)
      rw [show c + (i + 1) = c + 1 + i by omega]; rfl
    have e2 : ∀ (S : Nat → Bool) (j : Nat), sF (fun i => if S (c + i) then (lyr l j).1.getD (c + i) 0 else 0) (t :: r).length = (if S c then (lyr l j).1.getD c 0 else 0) + sF (fun i => if S (c + 1 + i) then (lyr l j).1.getD (c + 1 + i) 0 else 0) r.length := fun S j => by
      rw [List.length_cons, sF_shift]
      refine congr (congrArg _ rfl) (sF_congr fun i _ => ?_)
      rw [show c + (i + 1) = c + 1 + i by omega]
    have e3 : ∀ S : Nat → Bool, sF (fun j => min (lyr l j).2 ((ownN l c own l.length).getD j 0 + sF (fun i => if S (c + 1 + i) then (lyr l j).1.getD (c + 1 + i) 0 else 0) r.length)) l.length = sF (fun j => min (lyr l j).2 (own.getD j 0 + ((lyr l j).1.getD c 0 + sF (fun i => if S (c + 1 + i) then (lyr l j).1.getD (c + 1 + i) 0 else 0) r.length))) l.length := fun S =>
      sF_congr fun j hj => by rw [ownN_getD (by omega) hj, Int.add_assoc]
    constructor
    · rintro ⟨h1, h2⟩ S
      rw [e1]
      simp only [e2]
      by_cases hs : S c = true
      · have := h2 S
        rw [e3] at this
        simp only [hs, if_true]
        omega
      · have := h1 S
        simp only [hs]
        simp only [Bool.false_eq_true, if_false, Int.zero_add]
        omega
    · intro h
      refine ⟨fun S => ?_, fun S => ?_⟩
      · obtain ⟨S', hS⟩ : ∃ S' : Nat → Bool, S' = fun i => if i = c then false else S i := ⟨_, rfl⟩
        have k0 : S' c = false := by rw [hS]; exact if_pos rfl
        have k : ∀ i, S' (c + 1 + i) = S (c + 1 + i) := fun i => by rw [hS]; exact if_neg (by omega)
        have := h S'
        rw [e1] at this
        simp only [e2, k0, k, Bool.false_eq_true, if_false, Int.zero_add] at this
        exact this
      · obtain ⟨S', hS⟩ : ∃ S' : Nat → Bool, S' = fun i => if i = c then true else S i := ⟨_, rfl⟩
        have k0 : S' c = true := by rw [hS]; exact if_pos rfl
        have k : ∀ i, S' (c + 1 + i) = S (c + 1 + i) := fun i => by rw [hS]; exact if_neg (by omega)
        have := h S'
        rw [e1] at this
        simp only [e2, k0, k, if_true] at this
        rw [e3]; omega
def Hall (n m : Nat) (t room : Nat → Int) (C : Nat → Nat → Int) : Prop := ∀ S : Nat → Bool, sF (fun i => if S i then t i else 0) n ≤ sF (fun j => min (room j) (sF (fun i => if S i then C j i else 0) n)) m
def roomL (l : List (List Int × Int)) (j : Nat) : Int := (lyr l j).2
def contL (l : List (List Int × Int)) (j i : Nat) : Int := (lyr l j).1.getD i 0
theorem canB_iff {l : List (List Int × Int)} {ts : List Int} : canB l ts = true ↔ (∀ t ∈ ts, 0 ≤ t ∧ t ≤ allT l) ∧ sumI ts = allT l ∧ Hall ts.length l.length (fun i => ts.getD i 0) (roomL l) (contL l) := by
  have hf := fits_iff (l := l) ts 0 0 (List.replicate l.length 0) (by simp)
  have e : ∀ (S : Nat → Bool), sF (fun j => min (lyr l j).2 ((List.replicate l.length (0 : Int)).getD j 0 + sF (fun i => if S (0 + i) then (lyr l j).1.getD (0 + i) 0 else 0) ts.length)) l.length = sF (fun j => min (roomL l j) (sF (fun i => if S i then contL l j i else 0) ts.length)) l.length := fun S =>
    sF_congr fun j hj => by
      have : (List.replicate l.length (0 : Int)).getD j 0 = 0 := by simp [List.getD_eq_getElem?_getD, hj]
      rw [this, Int.zero_add]
      simp only [Nat.zero_add]; rfl
  have e0 : ∀ S : Nat → Bool, 0 + sF (fun i => if S (0 + i) then ts.getD i 0 else 0) ts.length = sF (fun i => if S i then ts.getD i 0 else 0) ts.length := fun S => by simp only [Nat.zero_add, Int.zero_add]
  by_cases h : ∀ t ∈ ts, 0 ≤ t ∧ t ≤ allT l
  · rw [canB_in h, Bool.and_eq_true, decide_eq_true_eq, hf]
    simp only [e, e0]
    exact ⟨fun ⟨a, b⟩ => ⟨h, a, b⟩, fun ⟨_, a, b⟩ => ⟨a, b⟩⟩
  · unfold canB
    rw [if_neg h]
    exact ⟨fun q => absurd q Bool.false_ne_true, fun q => absurd q.1 h⟩
theorem div_hall {n m : Nat} {room : Nat → Int} {C x : Nat → Nat → Int} (hb : ∀ j i, j < m → i < n → 0 ≤ x j i ∧ x j i ≤ C j i) (hr : ∀ j, j < m → sF (x j) n = room j) : Hall n m (fun i => sF (fun j => x j i) m) room C := fun S => by
  have e : sF (fun i => if S i then sF (fun j => x j i) m else 0) n = sF (fun j => sF (fun i => if S i then x j i else 0) n) m := by
    rw [← sF_comm (fun j i => if S i then x j i else 0) m n]
    refine sF_congr fun i _ => ?_
    by_cases h : S i = true
    · simp only [h, if_true]
    · simp only [h]; simp only [Bool.false_eq_true, if_false]; exact (sF_zero m).symm
  rw [e]
  refine sF_le fun j hj => ?_
  have h1 : sF (fun i => if S i then x j i else 0) n ≤ sF (fun i => if S i then C j i else 0) n := sF_le fun i hi => by
    have := hb j i hj hi
    split <;> omega
  have h2 : sF (fun i => if S i then x j i else 0) n ≤ sF (x j) n := sF_le fun i hi => by
    have := hb j i hj hi
    split <;> omega
  rw [hr j hj] at h2
  omega
theorem can_div {l : List (List Int × Int)} {ts : List Int} {x : Nat → Nat → Int} (ht : ∀ i, i < ts.length → ts.getD i 0 = sF (fun j => x j i) l.length) (hb : ∀ j i, j < l.length → i < ts.length → 0 ≤ x j i ∧ x j i ≤ contL l j i) (hr : ∀ j, j < l.length → sF (x j) ts.length = roomL l j) : canB l ts = true := by
  have hs : sumI ts = allT l := by
    rw [sumI_sF, allT_sF, sF_congr ht, sF_comm]
    exact sF_congr fun j hj => hr j hj
  have hn : ∀ t ∈ ts, 0 ≤ t := fun t h => by
    obtain ⟨i, hi⟩ := List.getElem?_of_mem h
    have hlt := (List.getElem?_eq_some_iff.1 hi).1
    have := ht i hlt
    rw [List.getD_eq_getElem?_getD, hi] at this
    rw [show t = sF (fun j => x j i) l.length from this]
    exact sF_nn fun j hj => (hb j i hj hlt).1
  refine canB_iff.2 ⟨fun t h => ⟨hn t h, ?_⟩, hs, fun S => ?_⟩
  · rw [← hs]
    obtain ⟨i, hi⟩ := List.getElem?_of_mem h
    have := getD_sum hn i
    rw [List.getD_eq_getElem?_getD, hi] at this
    exact this
  · have := div_hall hb hr S
    rw [sF_congr (g := fun i => if S i then sF (fun j => x j i) l.length else 0) fun i hi => by dsimp only; rw [ht i hi]]
    exact this
theorem blS_sF (w : Nat) (l : List (List Int × Int)) : ∀ k, k ≤ l.length → (blS w (l.take k)).hi = sF (fun j => min (roomL l j) (contL l j w)) k ∧ (blS w (l.take k)).lo = sF (fun j => max 0 (roomL l j - (sumI (lyr l j).1 - contL l j w))) k
  | 0, _ => ⟨rfl, rfl⟩
  | k + 1, h => by
    obtain ⟨a, b⟩ := blS_sF w l k (by omega)
    obtain ⟨x, hx⟩ : ∃ x, l[k]? = some x := ⟨_, List.getElem?_eq_getElem (by omega)⟩
    rw [blS_take hx, sF, sF, ← a, ← b]
    unfold roomL contL
    rw [lyr_at hx]
    exact ⟨rfl, rfl⟩
theorem can_blend {l : List (List Int × Int)} {ts : List Int} {w : Nat} (h : canB l ts = true) (hw : w < ts.length) (hc : ∀ j, j < l.length → sF (contL l j) ts.length = sumI (lyr l j).1) : (blS w l).lo ≤ ts.getD w 0 ∧ ts.getD w 0 ≤ (blS w l).hi := by
  obtain ⟨_, hs, hh⟩ := canB_iff.1 h
  obtain ⟨e1, e2⟩ := blS_sF w l l.length (Nat.le_refl _)
  rw [List.take_length] at e1 e2
  rw [e1, e2]
  constructor
  · have h1 := hh fun i => !decide (i = w)
    have k1 : ∀ f : Nat → Int, sF (fun i => if (!decide (i = w)) = true then f i else 0) ts.length = sF f ts.length - f w := fun f => by
      have a : sF (fun i => (if i = w then f i else 0)) ts.length + sF (fun i => if (!decide (i = w)) = true then f i else 0) ts.length = sF f ts.length := by
        rw [← sF_add]
        exact sF_congr fun i _ => by by_cases hi : i = w <;> simp [hi]
      rw [sF_one, if_pos hw] at a; omega
    rw [k1, ← sumI_sF, hs, allT_sF] at h1
    have h2 : sF (fun j => min (roomL l j) (sF (fun i => if (!decide (i = w)) = true then contL l j i else 0) ts.length)) l.length = sF (fun j => roomL l j - max 0 (roomL l j - (sumI (lyr l j).1 - contL l j w))) l.length := sF_congr fun j hj => by
      rw [k1, hc j hj]; omega
    rw [h2, sF_sub] at h1
    have h3 : sF (fun j => (lyr l j).2) l.length = sF (roomL l) l.length := rfl
    omega
  · have h1 := hh fun i => decide (i = w)
    have k1 : ∀ f : Nat → Int, sF (fun i => if decide (i = w) = true then f i else 0) ts.length = f w := fun f => by
      have := sF_one (f := f) (w := w) (n := ts.length)
      rw [if_pos hw] at this
      rw [← this]
      exact sF_congr fun i _ => by by_cases hi : i = w <;> simp [hi]
    rw [k1] at h1
    refine Int.le_trans h1 (Int.le_of_eq (sF_congr fun j _ => ?_))
    rw [k1]
end Go.Proofs.Ytmaldhbjhomdkaa.Coal

/-
  The ends of a blend: with so much of one coal, and of the others, one after the other, as much as can be.
-/
set_option linter.all false
namespace Go.Proofs.Ytmaldhbjhomdkaa.Coal
open Go Go.H
theorem vecR_sum (room : Nat → Int) (t : Int) : ∀ L, sumI (vecR room L t).1 = t - (vecR room L t).2
  | 0 => by show (0 : Int) = t - t; omega
  | L + 1 => by
    rw [vecR, sumI_app, vecR_sum room t L]
    show _ + (min (room L) (vecR room L t).2 + 0) = _
    dsimp only; omega
theorem parts_all {n : Nat} {ms : List Move} {L : Nat} (hm : movesOk n 0 ms) : ∀ (k : Nat) (prev : List (List Int)), k ≤ ms.length → partsR n ms L k = some prev → PInv n ms L k prev ∧ ∀ v ∈ prev, 1 ≤ sumI v
  | 0, prev, _, h => by
    cases h
    exact ⟨pinv_0, fun v hv => (List.not_mem_nil hv).elim⟩
  | k + 1, prev, hk, h => by
    obtain ⟨m, hm2⟩ : ∃ m, ms[k]? = some m := ⟨_, List.getElem?_eq_getElem (by omega)⟩
    cases hp : partsR n ms L k with
    | none => rw [parts_end hp (Nat.le_succ k)] at h; cases h
    | some p =>
      obtain ⟨H, hs⟩ := parts_all hm k p (by omega) hp
      by_cases hc : m.coal = -1
      · by_cases h2 : (vecR (roomR n ms k p) L m.tons).2 > 0
        · rw [parts_bad hp hm2 hc h2] at h; cases h
        · rw [parts_more hp hm2 hc h2] at h
          cases h
          refine ⟨H.more hm hm2 hc h2, fun v hv => ?_⟩
          rcases List.mem_append.1 hv with hv | hv
          · exact hs v hv
          · rw [List.mem_singleton.1 hv, vecR_sum]
            obtain ⟨_, _, t1, t2⟩ := movesOk_at hm hm2
            omega
      · rw [parts_skip hp hm2 hc] at h
        cases h
        exact ⟨H.skip hm hm2 hc, hs⟩
theorem partsL_nz (y : Yard) (v : List Int) : partsL y [v] = (nzF (fun i => v.getD i 0) (opn y.moves).1).map fun p => (contF 6 (y.moves.take y.moves.length) p.layer, p.tons) := by
  unfold partsL partsN nzF
  rw [taken_one, List.map_filterMap]
  refine congrArg (fun g => List.filterMap g (List.range (opn y.moves).1)) (funext fun j => ?_)
  dsimp only
  split <;> rfl
def nW (side : Nat) (c : List Int) (tn : Int) (w : Nat) : Int := if side = 1 then min tn (c.getD w 0) else max 0 (tn - (sumI c - c.getD w 0))
def grE (c : List Int) (w : Nat) (need : Int) : Nat → Int
  | 0 => need
  | k + 1 => if k = w then grE c w need k else grE c w need k - min (grE c w need k) (c.getD k 0)
def uX (side : Nat) (c : List Int) (tn : Int) (w i : Nat) : Int := if i = w then nW side c tn w else min (grE c w (tn - nW side c tn w) i) (c.getD i 0)
theorem grE_w {c : List Int} {w : Nat} {need : Int} : grE c w need (w + 1) = grE c w need w := by rw [grE, if_pos rfl]
theorem grE_o {c : List Int} {w k : Nat} {need : Int} (h : k ≠ w) : grE c w need (k + 1) = grE c w need k - min (grE c w need k) (c.getD k 0) := by rw [grE, if_neg h]
theorem getD_nn {c : List Int} (h : ∀ z ∈ c, 0 ≤ z) (i : Nat) : 0 ≤ c.getD i 0 := by
  rw [List.getD_eq_getElem?_getD]
  cases hg : c[i]? with
  | none => simp
  | some z => simpa using h z (List.mem_of_getElem? hg)
theorem grE_val {c : List Int} {w : Nat} {need : Int} (h : ∀ z ∈ c, 0 ≤ z) (hn : 0 ≤ need) : ∀ k, grE c w need k = max 0 (need - sF (fun i => if i = w then 0 else c.getD i 0) k) ∧ 0 ≤ sF (fun i => if i = w then 0 else c.getD i 0) k
  | 0 => by simp [grE, sF]; omega
  | k + 1 => by
    obtain ⟨a, b⟩ := grE_val (w := w) h hn k
    have hc := getD_nn h k
    by_cases hk : k = w
    · subst hk
      rw [grE_w, a, sF, if_pos rfl, Int.add_zero]
      exact ⟨rfl, b⟩
    · rw [grE_o hk, a, sF, if_neg hk]
      omega
theorem rest_sum {c : List Int} {w : Nat} (hw : w < c.length) : sF (fun i => if i = w then 0 else c.getD i 0) c.length = sumI c - c.getD w 0 := by
  have h1 := sF_one (f := fun i => c.getD i 0) (w := w) (n := c.length)
  rw [if_pos hw] at h1
  have h2 : sF (fun i => if i = w then c.getD i 0 else 0) c.length + sF (fun i => if i = w then 0 else c.getD i 0) c.length = sF (fun i => c.getD i 0) c.length := by
    rw [← sF_add]
    exact sF_congr fun i _ => by by_cases hi : i = w <;> simp [hi]
  rw [sumI_sF c]
  omega
section
variable {side : Nat} {c : List Int} {tn : Int} {w : Nat}
theorem nW_bd (h : ∀ z ∈ c, 0 ≤ z) (h0 : 0 ≤ tn) (h1 : tn ≤ sumI c) : 0 ≤ nW side c tn w ∧ nW side c tn w ≤ c.getD w 0 ∧ nW side c tn w ≤ tn ∧ tn - nW side c tn w ≤ sumI c - c.getD w 0 := by
  have hc := getD_nn h w
  have hs := getD_sum h w
  unfold nW
  split <;> omega
theorem uX_bd (h : ∀ z ∈ c, 0 ≤ z) (h0 : 0 ≤ tn) (h1 : tn ≤ sumI c) (i : Nat) : 0 ≤ uX side c tn w i ∧ uX side c tn w i ≤ c.getD i 0 := by
  obtain ⟨a, b, d, e⟩ := nW_bd (side := side) (w := w) h h0 h1
  have hc := getD_nn h i
  have hg := (grE_val (w := w) h (show 0 ≤ tn - nW side c tn w by omega) i).1
  unfold uX
  split
  · rename_i hi; subst hi; exact ⟨a, b⟩
  · omega
theorem uX_run (h : ∀ z ∈ c, 0 ≤ z) (h0 : 0 ≤ tn) (h1 : tn ≤ sumI c) : ∀ k, sF (fun i => if i = w then 0 else uX side c tn w i) k = (tn - nW side c tn w) - grE c w (tn - nW side c tn w) k
  | 0 => by simp [sF, grE]
  | k + 1 => by
    rw [sF, uX_run h h0 h1 k]
    by_cases hk : k = w
    · subst hk; rw [if_pos rfl, grE_w]; omega
    · rw [if_neg hk, grE_o hk]
      unfold uX
      rw [if_neg hk]; omega
theorem uX_sum (h : ∀ z ∈ c, 0 ≤ z) (h0 : 0 ≤ tn) (h1 : tn ≤ sumI c) (hw : w < c.length) : sF (uX side c tn w) c.length = tn := by
  obtain ⟨a, b, d, e⟩ := nW_bd (side := side) (w := w) h h0 h1
  have hg := (grE_val (w := w) h (show 0 ≤ tn - nW side c tn w by omega) c.length).1
  rw [rest_sum hw] at hg
  have hr := uX_run (side := side) (w := w) h h0 h1 c.length
  have h3 := sF_one (f := uX side c tn w) (w := w) (n := c.length)
  rw [if_pos hw] at h3
  have h2 : sF (fun i => if i = w then uX side c tn w i else 0) c.length + sF (fun i => if i = w then 0 else uX side c tn w i) c.length = sF (uX side c tn w) c.length := by
    rw [← sF_add]
    exact sF_congr fun i _ => by by_cases hi : i = w <;> simp [hi]
  have h4 : uX side c tn w w = nW side c tn w := by unfold uX; exact if_pos rfl
  omega
end
def cPt (y : Yard) (P : List Part) (j : Nat) : List Int := contF y.coals.length (y.moves.take y.moves.length) (P.getD j ⟨0, 0⟩).layer
def tPt (P : List Part) (j : Nat) : Int := (P.getD j ⟨0, 0⟩).tons
def xE (y : Yard) (P : List Part) (side w j i : Nat) : Int := uX side (cPt y P j) (tPt P j) w i
def lE (y : Yard) (P : List Part) (side w k : Nat) : List Int := (List.range y.coals.length).map fun i => sF (fun j => xE y P side w j i) k
theorem lE_len (y : Yard) (P : List Part) (side w k : Nat) : (lE y P side w k).length = y.coals.length := by simp [lE]
section
variable {y : Yard} {P : List Part} {side w k i : Nat}
theorem lE_get (h : i < y.coals.length) : (lE y P side w k)[i]? = some (sF (fun j => xE y P side w j i) k) := by simp [lE, h]
end
theorem part_at {P : List Part} {k : Nat} {p : Part} (h : P[k]? = some p) : P.getD k ⟨0, 0⟩ = p := by rw [List.getD_eq_getElem?_getD, h]; rfl
structure EndsV (y : Yard) (v : List Int) (P : List Part) : Prop where
  gy : GoodYard y
  is : P = nzF (fun i => v.getD i 0) (opn y.moves).1
  nn : ∀ x ∈ v, 0 ≤ x ∧ x ≤ 1048576
  le : ∀ j, v.getD j 0 ≤ sumI (contE y j)
section
variable {y : Yard} {v : List Int} {P : List Part}
theorem EndsV.at (H : EndsV y v P) {k : Nat} {p : Part} (h : P[k]? = some p) : (1 ≤ p.tons ∧ p.tons ≤ 1048576) ∧ 0 ≤ p.layer ∧ p.layer < ((opn y.moves).1 : Int) ∧ p.tons ≤ sumI (cPt y P k) ∧ (cPt y P k).length = y.coals.length ∧ ∀ z ∈ cPt y P k, 0 ≤ z ∧ z ≤ 33554432 := by
  have hm := List.mem_of_getElem? h
  rw [H.is] at hm
  obtain ⟨a, b, c, d⟩ := nzF_mem hm
  have hg := getD_bd (B := 1048576) (by decide) H.nn p.layer.toNat
  have hl := H.le p.layer.toNat
  have e : cPt y P k = contE y p.layer.toNat := by unfold cPt contE; rw [part_at h, show ((p.layer.toNat : Nat) : Int) = p.layer by omega]
  have hc := contF_bd (j := ((p.layer.toNat : Nat) : Int)) (movesOk_mono y.moves.length H.gy.2.1)
  have h32 := H.gy.2.2.2
  refine ⟨by omega, b, c, by rw [e]; omega, by rw [e]; exact contE_len _ _, fun z hz => ?_⟩
  rw [e] at hz
  have := hc z hz
  rw [List.length_take, Nat.min_self] at this
  omega
theorem EndsV.lyr (H : EndsV y v P) {k : Nat} {p : Part} (h : P[k]? = some p) : lyr (partsL y [v]) k = (contF 6 (y.moves.take y.moves.length) p.layer, p.tons) := by
  refine lyr_at ?_
  rw [partsL_nz, ← H.is, List.getElem?_map, h]; rfl
theorem EndsV.len (H : EndsV y v P) : (partsL y [v]).length = P.length := by rw [partsL_nz, ← H.is, List.length_map]
theorem EndsV.room (H : EndsV y v P) {k : Nat} (h : k < P.length) : roomL (partsL y [v]) k = tPt P k := by
  have hk := List.getElem?_eq_getElem h
  unfold roomL tPt
  rw [H.lyr hk, part_at hk]
theorem EndsV.cont (H : EndsV y v P) {k i : Nat} (h : k < P.length) (hi : i < y.coals.length) : contL (partsL y [v]) k i = (cPt y P k).getD i 0 := by
  have hk := List.getElem?_eq_getElem h
  obtain ⟨_, h1, _⟩ := H.at hk
  unfold contL cPt
  rw [H.lyr hk, part_at hk]
  have := c6_get H.gy (P[k].layer.toNat) hi
  unfold contE at this
  rw [show ((P[k].layer.toNat : Nat) : Int) = P[k].layer by omega] at this
  exact this
theorem EndsV.csum (H : EndsV y v P) {k : Nat} (h : k < P.length) : sumI (Go.Proofs.Ytmaldhbjhomdkaa.Coal.lyr (partsL y [v]) k).1 = sumI (cPt y P k) := by
  have hk := List.getElem?_eq_getElem h
  obtain ⟨_, h1, _⟩ := H.at hk
  unfold cPt
  rw [H.lyr hk, part_at hk]
  have := c6_sum H.gy (P[k].layer.toNat)
  unfold contE at this
  rw [show ((P[k].layer.toNat : Nat) : Int) = P[k].layer by omega] at this
  exact this
theorem EndsV.sums (H : EndsV y v P) : ∀ j, j < (partsL y [v]).length → sF (contL (partsL y [v]) j) y.coals.length = sumI (Go.Proofs.Ytmaldhbjhomdkaa.Coal.lyr (partsL y [v]) j).1 := fun j hj => by
  rw [H.len] at hj
  have hk := List.getElem?_eq_getElem hj
  obtain ⟨_, _, _, _, hl, _⟩ := H.at hk
  rw [H.csum hj, sumI_sF, hl]
  exact sF_congr fun i hi => H.cont hj hi
theorem EndsV.xbd (H : EndsV y v P) {side w k : Nat} (h : k < P.length) (i : Nat) : (0 ≤ xE y P side w k i ∧ xE y P side w k i ≤ (cPt y P k).getD i 0) ∧ xE y P side w k i ≤ 33554432 := by
  have hk := List.getElem?_eq_getElem h
  obtain ⟨ht, _, _, hs, hl, hz⟩ := H.at hk
  have e : tPt P k = P[k].tons := by unfold tPt; rw [part_at hk]
  have hu := uX_bd (side := side) (w := w) (tn := tPt P k) (fun z hq => (hz z hq).1) (by rw [e]; omega) (by rw [e]; exact hs) i
  have hc := getD_bd (B := 33554432) (by decide) hz i
  unfold xE
  exact ⟨hu, by omega⟩
theorem EndsV.can (H : EndsV y v P) {side w : Nat} (hw : w < y.coals.length) : canB (partsL y [v]) (lE y P side w P.length) = true := by
  refine can_div (x := xE y P side w) (fun i hi => ?_) (fun j i hj hi => ?_) fun j hj => ?_
  · rw [lE_len] at hi
    rw [List.getD_eq_getElem?_getD, lE_get hi, H.len]; rfl
  · rw [H.len] at hj; rw [lE_len] at hi
    rw [H.cont hj hi]
    exact (H.xbd hj i).1
  · rw [H.len] at hj
    have hk := List.getElem?_eq_getElem hj
    obtain ⟨ht, _, _, hs, hl, hz⟩ := H.at hk
    have e : tPt P j = P[j].tons := by unfold tPt; rw [part_at hk]
    rw [lE_len, H.room hj, ← hl]
    exact uX_sum (fun z hq => (hz z hq).1) (by rw [e]; omega) (by rw [e]; exact hs) (by rw [hl]; exact hw)
def endE (y : Yard) (v : List Int) (side w : Nat) : Int := if side = 1 then (blS w (partsL y [v])).hi else (blS w (partsL y [v])).lo
theorem EndsV.end (H : EndsV y v P) {side w : Nat} (hw : w < y.coals.length) : sF (fun j => xE y P side w j w) P.length = endE y v side w := by
  obtain ⟨e1, e2⟩ := blS_sF w (partsL y [v]) _ (Nat.le_refl _)
  rw [List.take_length, H.len] at e1 e2
  have hx : ∀ j, xE y P side w j w = nW side (cPt y P j) (tPt P j) w := fun j => by unfold xE uX; exact if_pos rfl
  unfold endE
  split
  · rename_i hs
    rw [e1]
    refine sF_congr fun j hj => ?_
    rw [hx, H.room hj, H.cont hj hw]
    unfold nW; exact if_pos hs
  · rename_i hs
    rw [e2]
    refine sF_congr fun j hj => ?_
    rw [hx, H.room hj, H.cont hj hw, H.csum hj]
    unfold nW; exact if_neg hs
end
end Go.Proofs.Ytmaldhbjhomdkaa.Coal

/-
  The least is the least: no other choice costs less; two draws together cost no less than each by itself.
-/
set_option linter.all false
namespace Go.Proofs.Ytmaldhbjhomdkaa.Coal
open Go Go.H
theorem greedy_ex {room each : List Int} {need : Int} (he : each.length = room.length) (hr : ∀ z ∈ room, 0 ≤ z) (h0 : 0 ≤ need) (hn : need ≤ sumI room) : ∃ x, Greedy room each need x := by
  have e1 : (List.zipWith Share.mk room each).map Share.tons = room := by
    rw [List.map_zipWith]
    refine List.ext_getElem? fun i => ?_
    rw [List.getElem?_zipWith]
    by_cases hi : i < room.length
    · rw [List.getElem?_eq_getElem hi, List.getElem?_eq_getElem (by omega)]
    · rw [List.getElem?_eq_none (by omega), List.getElem?_eq_none (by omega)]
  have e2 : (List.zipWith Share.mk room each).map Share.each = each := by
    rw [List.map_zipWith]
    refine List.ext_getElem? fun i => ?_
    rw [List.getElem?_zipWith]
    by_cases hi : i < room.length
    · rw [List.getElem?_eq_getElem hi, List.getElem?_eq_getElem (by omega)]
    · rw [List.getElem?_eq_none (by omega), List.getElem?_eq_none (by omega)]
  obtain ⟨xs, hxs⟩ : ∃ xs, xs = List.zipWith Share.mk room each := ⟨_, rfl⟩
  rw [← hxs] at e1 e2
  have hp := List.mergeSort_perm xs (fun a b => decide (a.each ≤ b.each))
  have hs := List.pairwise_mergeSort (le := fun a b : Share => decide (a.each ≤ b.each)) (by intro a b c; simp only [decide_eq_true_eq]; omega) (by intro a b; simp only [Bool.or_eq_true, decide_eq_true_eq]; omega) xs
  obtain ⟨ys, hys⟩ : ∃ ys, ys = xs.mergeSort (fun a b => decide (a.each ≤ b.each)) := ⟨_, rfl⟩
  rw [← hys] at hp hs
  have hs2 : ys.Pairwise (fun a b => a.each ≤ b.each) := hs.imp fun h => by simpa using h
  have htx : ∀ x ∈ xs, 0 ≤ x.tons := fun x hx => hr _ (by rw [← e1]; exact List.mem_map_of_mem hx)
  have hty : ∀ x ∈ ys, 0 ≤ x.tons := fun x hx => htx x (hp.mem_iff.1 hx)
  obtain ⟨T', p', e'⟩ := perm_lift hp (fstT ys need) (fstT_map ys need)
  have hsum : sumI (ys.map Share.tons) = sumI room := by rw [← e1]; exact perm_sum (hp.map Share.tons)
  have g := greedy_T (T := T') (n := need) (fun z hz => by
    have := (fstT_bd h0 hty).1 z (p'.mem_iff.1 hz)
    exact ⟨this.1, this.2.1⟩) (by
    unfold sumT
    rw [perm_sum (p'.map Prod.snd)]
    exact fstT_sum h0 hty (by omega)) fun s hs2' t ht2 hlt hp2 => fstT_fst h0 hty hs2 s (p'.mem_iff.1 hs2') t (p'.mem_iff.1 ht2) hlt hp2
  have r1 : T'.map (fun z => z.1.tons) = room := by rw [← e1, ← e', List.map_map]; rfl
  have r2 : T'.map (fun z => z.1.each) = each := by rw [← e2, ← e', List.map_map]; rfl
  rw [r1, r2] at g
  exact ⟨_, g⟩
theorem dot_sF : ∀ {x e : List Int}, x.length = e.length → dotI x e = sF (fun i => x.getD i 0 * e.getD i 0) x.length
  | [], [], _ => rfl
  | a :: x, b :: e, h => by
    rw [dot_cons, dot_sF (by simpa using h), List.length_cons, sF_shift]
    rfl
theorem sF_mul (c : Int) (f : Nat → Int) : ∀ n, sF (fun i => f i * c) n = sF f n * c
  | 0 => by simp [sF]
  | n + 1 => by rw [sF, sF, sF_mul c f n, Int.add_mul]
theorem sF_eq0 {f : Nat → Int} : ∀ {n : Nat}, (∀ i, i < n → 0 ≤ f i) → sF f n = 0 → ∀ i, i < n → f i = 0
  | 0, _, _, i, hi => absurd hi (Nat.not_lt_zero _)
  | n + 1, h, hs, i, hi => by
    have h1 := sF_nn (n := n) fun j hj => h j (by omega)
    have h2 := h n (by omega)
    rw [sF] at hs
    by_cases hq : i < n
    · exact sF_eq0 (fun j hj => h j (by omega)) (by omega) i hq
    · obtain rfl : i = n := by omega
      omega
theorem argmax (p : Nat → Prop) [DecidablePred p] (e : Nat → Int) : ∀ n, (∃ i, i < n ∧ p i) → ∃ i, i < n ∧ p i ∧ ∀ j, j < n → p j → e j ≤ e i
  | 0, ⟨i, hi, _⟩ => absurd hi (Nat.not_lt_zero _)
  | n + 1, ⟨i, hi, hpi⟩ => by
    by_cases h : ∃ i, i < n ∧ p i
    · obtain ⟨k, hk, hpk, hm⟩ := argmax p e n h
      by_cases hn : p n ∧ e k < e n
      · refine ⟨n, by omega, hn.1, fun j hj hpj => ?_⟩
        by_cases hjn : j < n
        · have := hm j hjn hpj; omega
        · obtain rfl : j = n := by omega
          exact Int.le_refl _
      · refine ⟨k, by omega, hpk, fun j hj hpj => ?_⟩
        by_cases hjn : j < n
        · exact hm j hjn hpj
        · obtain rfl : j = n := by omega
          rcases Int.lt_or_le (e k) (e j) with q | q
          · exact absurd ⟨hpj, q⟩ hn
          · exact q
    · have hin : i = n := by
        by_cases hq : i < n
        · exact absurd ⟨i, hq, hpi⟩ h
        · omega
      subst hin
      refine ⟨i, by omega, hpi, fun j hj hpj => ?_⟩
      by_cases hjn : j < i
      · exact absurd ⟨j, hjn, hpj⟩ h
      · obtain rfl : j = i := by omega
        exact Int.le_refl _
theorem gval_le {room each : List Int} {need : Int} {x' : Nat → Int} (he : each.length = room.length) (hr : ∀ i, i < room.length → 0 ≤ x' i ∧ x' i ≤ room.getD i 0) (hs : sF x' room.length = need) : gval room each need ≤ sF (fun i => x' i * each.getD i 0) room.length := by
  have hrn : ∀ z ∈ room, 0 ≤ z := fun z hz => by
    obtain ⟨i, hi⟩ := List.getElem?_of_mem hz
    have := hr i (List.getElem?_eq_some_iff.1 hi).1
    rw [List.getD_eq_getElem?_getD, hi] at this
    have h2 : x' i ≤ z := this.2
    omega
  have hn0 : 0 ≤ need := by rw [← hs]; exact sF_nn fun i hi => (hr i hi).1
  have hn1 : need ≤ sumI room := by rw [← hs, sumI_sF]; exact sF_le fun i hi => (hr i hi).2
  obtain ⟨x, g⟩ := greedy_ex he hrn hn0 hn1
  rw [← gval_eq he g, dot_sF (by rw [g.len, he]), g.len]
  have hxs : sF (fun i => x.getD i 0) room.length = need := by rw [← g.len, ← sumI_sF]; exact g.sum
  have hat : ∀ i, i < room.length → x[i]? = some (x.getD i 0) ∧ room[i]? = some (room.getD i 0) ∧ each[i]? = some (each.getD i 0) := fun i hi => by
    have h1 : i < x.length := by rw [g.len]; exact hi
    refine ⟨?_, ?_, ?_⟩
    · rw [List.getD_eq_getElem?_getD, List.getElem?_eq_getElem h1]; rfl
    · rw [List.getD_eq_getElem?_getD, List.getElem?_eq_getElem hi]; rfl
    · rw [List.getD_eq_getElem?_getD, List.getElem?_eq_getElem (by omega)]; rfl
  have hxb : ∀ i, i < room.length → 0 ≤ x.getD i 0 ∧ x.getD i 0 ≤ room.getD i 0 := fun i hi => g.bd i _ _ (hat i hi).1 (hat i hi).2.1
  by_cases hp : ∃ i, i < room.length ∧ 0 < x.getD i 0
  · obtain ⟨k, hk, hpk, hm⟩ := argmax (fun i => 0 < x.getD i 0) (fun i => each.getD i 0) room.length hp
    have key : sF (fun i => x.getD i 0 * (each.getD i 0 - each.getD k 0)) room.length ≤ sF (fun i => x' i * (each.getD i 0 - each.getD k 0)) room.length := sF_le fun i hi => by
      have hb := hxb i hi
      have hb2 := hr i hi
      rcases Int.lt_trichotomy (each.getD i 0) (each.getD k 0) with q | q | q
      · have hf := g.fst i k _ _ _ _ _ (hat i hi).1 (hat i hi).2.1 (hat i hi).2.2 (hat k hk).1 (hat k hk).2.2 q hpk
        rw [hf]
        exact Int.mul_le_mul_of_nonpos_right hb2.2 (by omega)
      · rw [q, Int.sub_self, Int.mul_zero, Int.mul_zero]; exact Int.le_refl _
      · have hz : x.getD i 0 = 0 := by
          rcases Int.lt_or_le 0 (x.getD i 0) with q2 | q2
          · have := hm i hi q2; omega
          · omega
        rw [hz, Int.zero_mul]
        exact Int.mul_nonneg hb2.1 (by omega)
    have e : ∀ f : Nat → Int, sF (fun i => f i * (each.getD i 0 - each.getD k 0)) room.length = sF (fun i => f i * each.getD i 0) room.length - sF f room.length * each.getD k 0 := fun f => by
      rw [← sF_mul, ← sF_sub]
      exact sF_congr fun i _ => by rw [Int.mul_sub]
    rw [e, e (fun i => x' i)] at key
    have hx'' : sF (fun i => x' i) room.length = need := hs
    rw [hxs, hx''] at key
    omega
  · have hz : ∀ i, i < room.length → x.getD i 0 = 0 := fun i hi => by
      have := hxb i hi
      rcases Int.lt_or_le 0 (x.getD i 0) with q | q
      · exact absurd ⟨i, hi, q⟩ hp
      · omega
    have hn : need = 0 := by
      rw [← hxs, sF_congr (g := fun _ => 0) hz]; exact sF_zero _
    have hz2 := sF_eq0 (fun i hi => (hr i hi).1) (by rw [hs, hn])
    rw [sF_congr (g := fun _ => 0) fun i hi => by rw [hz i hi, Int.zero_mul], sF_congr (f := fun i => x' i * each.getD i 0) (g := fun _ => 0) fun i hi => by rw [hz2 i hi, Int.zero_mul]]
    exact Int.le_refl _
def takF (x : Nat → Int) (a : Int) : Nat → Int × Int
  | 0 => (0, a)
  | i + 1 => (min (x i) (takF x a i).2, (takF x a i).2 - min (x i) (takF x a i).2)
def takX (x : Nat → Int) (a : Int) (i : Nat) : Int := min (x i) (takF x a i).2
theorem takF_run {x : Nat → Int} {a : Int} (hx : ∀ i, 0 ≤ x i) (ha : 0 ≤ a) : ∀ n, sF (takX x a) n = a - (takF x a n).2 ∧ 0 ≤ (takF x a n).2 ∧ (takF x a n).2 = max 0 (a - sF x n)
  | 0 => by simp [sF, takF]; omega
  | n + 1 => by
    obtain ⟨h1, h2, h3⟩ := takF_run hx ha n
    have hn := hx n
    have hs := sF_nn (f := x) (n := n) fun i _ => hx i
    rw [sF, sF, takF, h1]
    unfold takX
    dsimp only
    omega
theorem gval_split {room each : List Int} {a b : Int} (he : each.length = room.length) (hr : ∀ z ∈ room, 0 ≤ z) (ha : 0 ≤ a) (hb : 0 ≤ b) (hs : a + b ≤ sumI room) : gval room each a + gval room each b ≤ gval room each (a + b) := by
  obtain ⟨x, g⟩ := greedy_ex he hr (show 0 ≤ a + b by omega) hs
  rw [← gval_eq he g, dot_sF (by rw [g.len, he]), g.len]
  have hxn : ∀ i, 0 ≤ x.getD i 0 := getD_nn fun z hz => by
    obtain ⟨i, hi⟩ := List.getElem?_of_mem hz
    obtain ⟨r, hr2⟩ : ∃ r, room[i]? = some r := ⟨_, List.getElem?_eq_getElem (by have := (List.getElem?_eq_some_iff.1 hi).1; rw [g.len] at this; exact this)⟩
    exact (g.bd i z r hi hr2).1
  have hxs : sF (fun i => x.getD i 0) room.length = a + b := by rw [← g.len, ← sumI_sF]; exact g.sum
  have hxr : ∀ i, i < room.length → x.getD i 0 ≤ room.getD i 0 := fun i hi => by
    have h1 : x[i]? = some (x.getD i 0) := by rw [List.getD_eq_getElem?_getD, List.getElem?_eq_getElem (by rw [g.len]; exact hi)]; rfl
    have h2 : room[i]? = some (room.getD i 0) := by rw [List.getD_eq_getElem?_getD, List.getElem?_eq_getElem hi]; rfl
    exact (g.bd i _ _ h1 h2).2
  obtain ⟨t1, t2, t3⟩ := takF_run hxn ha room.length
  rw [hxs] at t3
  have ht0 : (takF (fun i => x.getD i 0) a room.length).2 = 0 := by omega
  rw [ht0] at t1
  have hk : ∀ i, 0 ≤ takX (fun i => x.getD i 0) a i ∧ takX (fun i => x.getD i 0) a i ≤ x.getD i 0 := fun i => by
    have := (takF_run hxn ha i).2.1
    have := hxn i
    unfold takX; dsimp only; omega
  have g1 := gval_le (x' := takX (fun i => x.getD i 0) a) (need := a) he (fun i hi => ⟨(hk i).1, by have := (hk i).2; have := hxr i hi; omega⟩) (by rw [t1]; omega)
  have g2 := gval_le (x' := fun i => x.getD i 0 - takX (fun i => x.getD i 0) a i) (need := b) he (fun i hi => ⟨by have := (hk i).2; omega, by have := (hk i).1; have := hxr i hi; omega⟩) (by rw [sF_sub, hxs, t1]; omega)
  have e : sF (fun i => x.getD i 0 * each.getD i 0) room.length = sF (fun i => takX (fun i => x.getD i 0) a i * each.getD i 0) room.length + sF (fun i => (x.getD i 0 - takX (fun i => x.getD i 0) a i) * each.getD i 0) room.length := by
    rw [← sF_add]
    exact sF_congr fun i _ => by rw [Int.sub_mul]; omega
  omega
end Go.Proofs.Ytmaldhbjhomdkaa.Coal

/-
  A division of all draws: what each draw had, and what it gives, is within what the program says.
-/
set_option linter.all false
namespace Go.Proofs.Ytmaldhbjhomdkaa.Coal
open Go Go.H
def vAt (vs : List (List Int)) (d k : Nat) : Int := (vs.getD d []).getD k 0
structure DivX (y : Yard) (vs : List (List Int)) (X : Nat → Nat → Nat → Int) : Prop where
  nn : ∀ d k i, 0 ≤ X d k i
  row : ∀ d k, d < vs.length → k < (opn y.moves).1 → sF (X d k) y.coals.length = vAt vs d k
  col : ∀ k i, k < (opn y.moves).1 → i < y.coals.length → sF (fun d => X d k i) vs.length ≤ (contE y k).getD i 0
def lD (y : Yard) (X : Nat → Nat → Nat → Int) (d i : Nat) : Int := sF (fun k => X d k i) (opn y.moves).1
def lDL (y : Yard) (X : Nat → Nat → Nat → Int) (d : Nat) : List Int := (List.range y.coals.length).map (lD y X d)
theorem lDL_len (y : Yard) (X : Nat → Nat → Nat → Int) (d : Nat) : (lDL y X d).length = y.coals.length := by simp [lDL]
theorem lDL_get {y : Yard} {X : Nat → Nat → Nat → Int} {d i : Nat} (h : i < y.coals.length) : (lDL y X d)[i]? = some (lD y X d i) := by simp [lDL, h]
theorem lDL_getD {y : Yard} {X : Nat → Nat → Nat → Int} {d i : Nat} (h : i < y.coals.length) : (lDL y X d).getD i 0 = lD y X d i := by rw [List.getD_eq_getElem?_getD, lDL_get h]; rfl
theorem sF_part {f : Nat → Int} {n d : Nat} (h : ∀ i, 0 ≤ f i) (hd : d < n) : f d ≤ sF f n := by
  induction n with
  | zero => omega
  | succ n ih =>
    have h1 := sF_nn (f := f) (n := n) fun i _ => h i
    have h2 := h n
    rw [sF]
    by_cases hq : d < n
    · have := ih hq; omega
    · obtain rfl : d = n := by omega
      omega
theorem sF_mono {f : Nat → Int} (h : ∀ i, 0 ≤ f i) : ∀ {m n : Nat}, m ≤ n → sF f m ≤ sF f n := fun {m n} hmn => by
  induction n with
  | zero => obtain rfl : m = 0 := by omega
            exact Int.le_refl _
  | succ n ih =>
    by_cases hq : m ≤ n
    · have := ih hq; have := h n; rw [sF]; omega
    · obtain rfl : m = n + 1 := by omega
      exact Int.le_refl _
theorem sF_off (f : Nat → Int) (a : Nat) : ∀ m, sF f (a + m) = sF f a + sF (fun q => f (a + q)) m
  | 0 => by simp [sF]
  | m + 1 => by rw [← Nat.add_assoc, sF, sF_off f a m, sF]; omega
theorem sF_window {f : Nat → Int} {a m n : Nat} (h : ∀ i, 0 ≤ f i) (hm : a + m ≤ n) : sF (fun q => f (a + q)) m ≤ sF f n := by
  have h1 := sF_off f a m
  have h2 := sF_nn (f := f) (n := a) fun i _ => h i
  have h3 := sF_mono h hm
  omega
theorem nz_sum {f g : Nat → Int} (h : ∀ j, ¬ g j > 0 → f j = 0) : ∀ L, sF (fun k => f ((nzF g L).getD k ⟨0, 0⟩).layer.toNat) (nzF g L).length = sF f L
  | 0 => rfl
  | L + 1 => by
    have ih := nz_sum h L
    rw [nzF_succ, sF]
    by_cases hp : g L > 0
    · rw [if_pos hp, List.length_append, List.length_singleton, sF]
      have e1 : sF (fun k => f ((nzF g L ++ [(⟨(L : Int), g L⟩ : Part)]).getD k (⟨0, 0⟩ : Part)).layer.toNat) (nzF g L).length = sF (fun k => f ((nzF g L).getD k ⟨0, 0⟩).layer.toNat) (nzF g L).length := sF_congr fun k hk => by
        rw [List.getD_eq_getElem?_getD, List.getElem?_append_left hk, ← List.getD_eq_getElem?_getD]
      have e2 : (nzF g L ++ [(⟨(L : Int), g L⟩ : Part)]).getD (nzF g L).length ⟨0, 0⟩ = ⟨(L : Int), g L⟩ := by
        rw [List.getD_eq_getElem?_getD, List.getElem?_append_right (Nat.le_refl _), Nat.sub_self]; rfl
      rw [e1, ih, e2]
      dsimp only
      rw [Int.toNat_natCast]
    · rw [if_neg hp, ih, h L hp, Int.add_zero]
section
variable {y : Yard} {vs : List (List Int)} {X : Nat → Nat → Nat → Int}
theorem DivX.le (H : DivX y vs X) {d k i : Nat} (hd : d < vs.length) (hk : k < (opn y.moves).1) (hi : i < y.coals.length) : X d k i ≤ (contE y k).getD i 0 :=
  Int.le_trans (sF_part (f := fun d => X d k i) (fun d => H.nn d k i) hd) (H.col k i hk hi)
theorem DivX.zero (H : DivX y vs X) {d k : Nat} (hd : d < vs.length) (hk : k < (opn y.moves).1) (h0 : ¬ vAt vs d k > 0) : ∀ i, i < y.coals.length → X d k i = 0 := by
  have hr := H.row d k hd hk
  have hn := sF_nn (f := X d k) (n := y.coals.length) fun i _ => H.nn d k i
  exact sF_eq0 (fun i _ => H.nn d k i) (by omega)
theorem vAt_eq {d : Nat} {v : List Int} (hv : vs[d]? = some v) (k : Nat) : vAt vs d k = v.getD k 0 := by
  unfold vAt
  have e : vs.getD d [] = v := by rw [List.getD_eq_getElem?_getD, hv]; rfl
  rw [e]
theorem DivX.can (H : DivX y vs X) {d : Nat} {v : List Int} (hE : EndsV y v (nzF (fun i => v.getD i 0) (opn y.moves).1)) (hv : vs[d]? = some v) : canB (partsL y [v]) (lDL y X d) = true := by
  have hd := (List.getElem?_eq_some_iff.1 hv).1
  have hat : ∀ j, j < (nzF (fun i => v.getD i 0) (opn y.moves).1).length → ((nzF (fun i => v.getD i 0) (opn y.moves).1).getD j ⟨0, 0⟩).layer.toNat < (opn y.moves).1 ∧ cPt y (nzF (fun i => v.getD i 0) (opn y.moves).1) j = contE y ((nzF (fun i => v.getD i 0) (opn y.moves).1).getD j ⟨0, 0⟩).layer.toNat ∧ tPt (nzF (fun i => v.getD i 0) (opn y.moves).1) j = v.getD ((nzF (fun i => v.getD i 0) (opn y.moves).1).getD j ⟨0, 0⟩).layer.toNat 0 := fun j hj => by
    have hk := List.getElem?_eq_getElem hj
    obtain ⟨a, b, c, e⟩ := nzF_mem (List.mem_of_getElem? hk)
    unfold cPt tPt contE
    rw [part_at hk]
    refine ⟨by omega, by rw [show (((nzF (fun i => v.getD i 0) (opn y.moves).1)[j].layer.toNat : Nat) : Int) = (nzF (fun i => v.getD i 0) (opn y.moves).1)[j].layer by omega], e⟩
  refine can_div (x := fun j i => X d ((nzF (fun i => v.getD i 0) (opn y.moves).1).getD j ⟨0, 0⟩).layer.toNat i) (fun i hi => ?_) (fun j i hj hi => ?_) fun j hj => ?_
  · rw [lDL_len] at hi
    rw [lDL_getD hi, hE.len]
    unfold lD
    have hz : ∀ j, ¬ v.getD j 0 > 0 → (if j < (opn y.moves).1 then X d j i else 0) = 0 := fun j hj => by
      split
      · rename_i hl
        exact H.zero hd hl (by rw [vAt_eq hv]; exact hj) i hi
      · rfl
    have := nz_sum (f := fun j => if j < (opn y.moves).1 then X d j i else 0) (g := fun i => v.getD i 0) hz (opn y.moves).1
    rw [sF_congr (f := fun j => if j < (opn y.moves).1 then X d j i else 0) (g := fun k => X d k i) fun k hk => if_pos hk] at this
    rw [← this]
    refine sF_congr fun k hk => ?_
    exact if_pos (hat k hk).1
  · rw [hE.len] at hj
    rw [lDL_len] at hi
    obtain ⟨h1, h2, _⟩ := hat j hj
    rw [hE.cont hj hi, h2]
    exact ⟨H.nn _ _ _, H.le hd h1 hi⟩
  · rw [hE.len] at hj
    obtain ⟨h1, _, h3⟩ := hat j hj
    rw [lDL_len, hE.room hj, h3, ← vAt_eq hv]
    exact H.row d _ hd h1
theorem DivX.blend (H : DivX y vs X) {d w : Nat} {v : List Int} (hE : EndsV y v (nzF (fun i => v.getD i 0) (opn y.moves).1)) (hv : vs[d]? = some v) (hw : w < y.coals.length) : (bSp (takenR [v]) (contE y) (opn y.moves).1 w).lo ≤ lD y X d w ∧ lD y X d w ≤ (bSp (takenR [v]) (contE y) (opn y.moves).1 w).hi := by
  have h := can_blend (H.can hE hv) (w := w) (by rw [lDL_len]; exact hw) (by rw [lDL_len]; exact hE.sums)
  rw [lDL_getD hw] at h
  have e := blS_parts (us := [v]) hE.gy (fun v9 h9 => by rw [List.mem_singleton.1 h9]; exact hE.nn) hw (opn y.moves).1
  unfold partsL at h
  rw [e] at h
  exact h
def nS (vs : List (List Int)) (f m k : Nat) : Int := sF (fun q => vAt vs (f + q) k) m
noncomputable def gS (y : Yard) (each : List Int) (vs : List (List Int)) (f m : Nat) : Int := sF (fun k => gval (contE y k) each (nS vs f m k)) (opn y.moves).1
theorem DivX.cost (H : DivX y vs X) {each : List Int} {R : Nat → Nat → Int} {f m : Nat} (he : each.length = y.coals.length) (hm : f + m ≤ vs.length) (hR : ∀ q i, q < m → i < y.coals.length → each.getD i 0 ≤ R (f + q) i) :
    gS y each vs f m ≤ sF (fun q => sF (fun i => lD y X (f + q) i * R (f + q) i) y.coals.length) m := by
  have h1 : ∀ k, k < (opn y.moves).1 → gval (contE y k) each (nS vs f m k) ≤ sF (fun q => sF (fun i => X (f + q) k i * R (f + q) i) y.coals.length) m := fun k hk => by
    have g := gval_le (room := contE y k) (each := each) (need := nS vs f m k) (x' := fun i => sF (fun q => X (f + q) k i) m) (by rw [contE_len, he]) (fun i hi => by
      rw [contE_len] at hi
      refine ⟨sF_nn fun q _ => H.nn _ _ _, ?_⟩
      exact Int.le_trans (sF_window (f := fun d => X d k i) (fun d => H.nn d k i) hm) (H.col k i hk hi)) (by
      rw [contE_len, sF_comm (fun q i => X (f + q) k i) m]
      exact sF_congr fun q hq => H.row (f + q) k (by omega) hk)
    rw [contE_len] at g
    refine Int.le_trans g ?_
    rw [← sF_comm (fun q i => X (f + q) k i * R (f + q) i) m y.coals.length]
    refine sF_le fun i hi => ?_
    rw [← sF_mul]
    exact sF_le fun q hq => Int.mul_le_mul_of_nonneg_left (hR q i hq hi) (H.nn _ _ _)
  refine Int.le_trans (sF_le h1) ?_
  rw [sF_comm (fun q k => sF (fun i => X (f + q) k i * R (f + q) i) y.coals.length) m]
  refine sF_le fun q hq => ?_
  rw [← sF_comm (fun k i => X (f + q) k i * R (f + q) i) (opn y.moves).1 y.coals.length]
  refine sF_le fun i hi => ?_
  unfold lD
  rw [← sF_mul]
  exact Int.le_refl _
theorem DivX.need (H : DivX y vs X) {f m k : Nat} (hm : f + m ≤ vs.length) (hk : k < (opn y.moves).1) : 0 ≤ nS vs f m k ∧ nS vs f m k ≤ sumI (contE y k) := by
  have e : nS vs f m k = sF (fun i => sF (fun q => X (f + q) k i) m) y.coals.length := by
    rw [sF_comm (fun q i => X (f + q) k i) m]
    exact (sF_congr fun q hq => H.row (f + q) k (by omega) hk).symm
  refine ⟨by rw [e]; exact sF_nn fun i _ => sF_nn fun q _ => H.nn _ _ _, ?_⟩
  rw [e, sumI_sF, contE_len]
  exact sF_le fun i hi => Int.le_trans (sF_window (f := fun d => X d k i) (fun d => H.nn d k i) hm) (H.col k i hk hi)
theorem DivX.split (H : DivX y vs X) {each : List Int} (hg : GoodYard y) (he : each.length = y.coals.length) : ∀ m, m ≤ vs.length → sF (fun d => gS y each vs d 1) m ≤ gS y each vs 0 m
  | 0, _ => by
    rw [sF]
    unfold gS nS
    refine sF_nn fun k hk => ?_
    have hz : sF (fun q => vAt vs (0 + q) k) 0 = 0 := rfl
    rw [hz]
    have := gval_le (room := contE y k) (each := each) (need := 0) (x' := fun _ => 0) (by rw [contE_len, he]) (fun i hi => ⟨Int.le_refl _, getD_nn (contE_nn hg k) i⟩) (sF_zero _)
    have h2 := gval_split (room := contE y k) (each := each) (a := 0) (b := 0) (by rw [contE_len, he]) (contE_nn hg k) (Int.le_refl _) (Int.le_refl _) (sumI_nn (contE_nn hg k))
    obtain ⟨x, g⟩ := greedy_ex (room := contE y k) (each := each) (need := 0) (by rw [contE_len, he]) (contE_nn hg k) (Int.le_refl _) (sumI_nn (contE_nn hg k))
    have h3 := gval_eq (by rw [contE_len, he]) g
    have hx : ∀ i, i < x.length → x.getD i 0 = 0 := sF_eq0 (fun i hi => by
      have h1 : x[i]? = some (x.getD i 0) := by rw [List.getD_eq_getElem?_getD, List.getElem?_eq_getElem hi]; rfl
      obtain ⟨r, hr⟩ : ∃ r, (contE y k)[i]? = some r := ⟨_, List.getElem?_eq_getElem (by rw [← g.len]; exact hi)⟩
      exact (g.bd i _ r h1 hr).1) (by rw [← sumI_sF]; exact g.sum)
    rw [← h3, dot_sF (by rw [g.len, contE_len, he]), sF_congr (g := fun _ => 0) fun i hi => by rw [hx i hi, Int.zero_mul], sF_zero]
    exact Int.le_refl _
  | m + 1, hm => by
    have ih := DivX.split H hg he m (by omega)
    rw [sF]
    refine Int.le_trans (Int.add_le_add_right ih _) ?_
    unfold gS
    rw [← sF_add]
    refine sF_le fun k hk => ?_
    have h1 := H.need (f := 0) (m := m) (by omega) hk
    have h2 := H.need (f := m) (m := 1) (by omega) hk
    have h3 := H.need (f := 0) (m := m + 1) (by omega) hk
    have e : nS vs 0 (m + 1) k = nS vs 0 m k + nS vs m 1 k := by
      unfold nS
      rw [sF]
      show _ + vAt vs (0 + m) k = _ + (0 + vAt vs (m + 0) k)
      rw [Nat.zero_add, Nat.add_zero, Int.zero_add]
    rw [e] at h3 ⊢
    exact gval_split (by rw [contE_len, he]) (contE_nn hg k) h1.1 h2.1 h3.2
end
theorem taken_sF : ∀ (us : List (List Int)) (k : Nat), takenR us k = sF (fun q => (us.getD q []).getD k 0) us.length
  | [], k => rfl
  | u :: us, k => by
    have e : takenR (u :: us) k = u.getD k 0 + takenR us k := by unfold takenR; rw [List.map_cons, List.sum_cons]
    rw [e, taken_sF us k, List.length_cons, sF_shift]; rfl
theorem needF_nS {vs : List (List Int)} {f m : Nat} (hm : f + (m + 1) ≤ vs.length) : needF vs f ((f : Int) + m) = nS vs f (m + 1) := funext fun k => by
  unfold needF nS
  rw [taken_sF, show ((f : Int)).toNat = f by omega, show ((f : Int) + m).toNat + 1 - f = m + 1 by omega, List.length_take, List.length_drop, show min (m + 1) (vs.length - f) = m + 1 by omega]
  refine sF_congr fun q hq => ?_
  unfold vAt
  congr 1
  rw [List.getD_eq_getElem?_getD, List.getElem?_take_of_lt hq, List.getElem?_drop, ← List.getD_eq_getElem?_getD]
theorem yLo_sF (y : Yard) (w : Int) (need : Nat → Int) : ∀ L, yLo y w need L = sF (fun k => gval (contE y k) (lows y w) (need k)) L
  | 0 => rfl
  | L + 1 => by rw [yLo, yLo_sF y w need L, sF]
theorem yHi_sF (y : Yard) (w : Int) (need : Nat → Int) : ∀ L, yHi y w need L = -sF (fun k => gval (contE y k) (highs y w) (need k)) L
  | 0 => rfl
  | L + 1 => by rw [yHi, yHi_sF y w need L, sF]; omega
theorem lows_get {y : Yard} {w : Int} {i : Nat} {c : Coal} (h : y.coals[i]? = some c) : (lows y w).getD i 0 = (ofF c w).lo := by
  rw [List.getD_eq_getElem?_getD]; unfold lows; rw [List.getElem?_map, h]; rfl
theorem highs_get {y : Yard} {w : Int} {i : Nat} {c : Coal} (h : y.coals[i]? = some c) : (highs y w).getD i 0 = -(ofF c w).hi := by
  rw [List.getD_eq_getElem?_getD]; unfold highs; rw [List.getElem?_map, h]; rfl
def RatesOk (y : Yard) (w : Int) (R : Nat → Nat → Int) : Prop := ∀ d i c, y.coals[i]? = some c → (ofF c w).lo ≤ R d i ∧ R d i ≤ (ofF c w).hi
def ownD (y : Yard) (X : Nat → Nat → Nat → Int) (R : Nat → Nat → Int) (d : Nat) : Int := sF (fun i => lD y X d i * R d i) y.coals.length
section
variable {y : Yard} {vs : List (List Int)} {X : Nat → Nat → Nat → Int} {R : Nat → Nat → Int} {w : Int}
theorem DivX.within (H : DivX y vs X) (hR : RatesOk y w R) {f m : Nat} (hm : f + (m + 1) ≤ vs.length) : yLo y w (needF vs f ((f : Int) + m)) (opn y.moves).1 ≤ sF (fun q => ownD y X R (f + q)) (m + 1) ∧ sF (fun q => ownD y X R (f + q)) (m + 1) ≤ yHi y w (needF vs f ((f : Int) + m)) (opn y.moves).1 := by
  have hc : ∀ i, i < y.coals.length → ∃ c, y.coals[i]? = some c := fun i hi => ⟨_, List.getElem?_eq_getElem hi⟩
  rw [needF_nS hm, yLo_sF, yHi_sF]
  constructor
  · exact H.cost (R := R) (lows_len y w) hm fun q i _ hi => by
      obtain ⟨c, hc⟩ := hc i hi
      rw [lows_get hc]; exact (hR (f + q) i c hc).1
  · have := H.cost (R := fun d i => -R d i) (highs_len y w) hm fun q i _ hi => by
      obtain ⟨c, hc⟩ := hc i hi
      rw [highs_get hc]; have := (hR (f + q) i c hc).2; omega
    have e : sF (fun q => sF (fun i => lD y X (f + q) i * -R (f + q) i) y.coals.length) (m + 1) = -sF (fun q => ownD y X R (f + q)) (m + 1) := by
      have h0 : ∀ g : Nat → Int, ∀ n, sF (fun i => -g i) n = -sF g n := fun g n => by
        have := sF_sub (fun _ => 0) g n
        rw [sF_zero] at this
        rw [← Int.zero_sub, ← this]
        exact sF_congr fun i _ => by omega
      rw [← h0]
      refine sF_congr fun q _ => ?_
      unfold ownD
      rw [← h0]
      exact sF_congr fun i _ => Int.mul_neg _ _
    rw [e] at this
    unfold gS at this
    omega
theorem DivX.sums (H : DivX y vs X) (hg : GoodYard y) {m : Nat} (hm : m + 1 ≤ vs.length) : sF (fun d => yLo y w (needF vs d d) (opn y.moves).1) (m + 1) ≤ yLo y w (needF vs 0 m) (opn y.moves).1 ∧ yHi y w (needF vs 0 m) (opn y.moves).1 ≤ sF (fun d => yHi y w (needF vs d d) (opn y.moves).1) (m + 1) := by
  have e1 : ∀ d, d < m + 1 → needF vs d d = nS vs d 1 := fun d hd => by
    have := needF_nS (vs := vs) (f := d) (m := 0) (by omega)
    simpa using this
  have e2 : needF vs 0 m = nS vs 0 (m + 1) := by
    have := needF_nS (vs := vs) (f := 0) (m := m) (by omega)
    simpa using this
  rw [e2, yLo_sF, yHi_sF]
  constructor
  · have := H.split (each := lows y w) hg (lows_len y w) (m + 1) hm
    refine Int.le_trans (Int.le_of_eq (sF_congr fun d hd => ?_)) this
    rw [e1 d hd, yLo_sF]; rfl
  · have := H.split (each := highs y w) hg (highs_len y w) (m + 1) hm
    have h0 : ∀ g : Nat → Int, ∀ n, sF (fun i => -g i) n = -sF g n := fun g n => by
      have := sF_sub (fun _ => 0) g n
      rw [sF_zero] at this
      rw [← Int.zero_sub, ← this]
      exact sF_congr fun i _ => by omega
    have e3 : sF (fun d => yHi y w (needF vs d d) (opn y.moves).1) (m + 1) = -sF (fun d => gS y (highs y w) vs d 1) (m + 1) := by
      rw [← h0]
      refine sF_congr fun d hd => ?_
      rw [e1 d hd, yHi_sF]; rfl
    rw [e3]
    unfold gS at this ⊢
    omega
end
end Go.Proofs.Ytmaldhbjhomdkaa.Coal

/-
  The division by remainders: what holds while it is made.
-/
set_option linter.all false
namespace Go.Proofs.Ytmaldhbjhomdkaa.Coal
open Go Go.H
structure DV (y : Yard) (vs : List (List Int)) (k d : Nat) (X : Nat → Nat → Nat → Int) : Prop where
  nn : ∀ d k i, 0 ≤ X d k i
  old : ∀ d' k', d' < vs.length → k' < k → sF (X d' k') y.coals.length = vAt vs d' k'
  row : ∀ d', d' < d → sF (X d' k) y.coals.length = vAt vs d' k
  z1 : ∀ d' i, d < d' → X d' k i = 0
  z2 : ∀ d' k' i, k < k' → X d' k' i = 0
  col : ∀ k' i, k' ≤ k → i < y.coals.length → sF (fun d' => X d' k' i) vs.length ≤ (contE y k').getD i 0
  cur : sF (X d k) y.coals.length ≤ vAt vs d k
def leftD (y : Yard) (vs : List (List Int)) (X : Nat → Nat → Nat → Int) (k i : Nat) : Int := (contE y k).getD i 0 - sF (fun d' => X d' k i) vs.length
def needD (y : Yard) (vs : List (List Int)) (X : Nat → Nat → Nat → Int) (k d : Nat) : Int := vAt vs d k - sF (X d k) y.coals.length
section
variable {y : Yard} {vs : List (List Int)} {X : Nat → Nat → Nat → Int} {k d i : Nat} {m : Int}
theorem DV.left (H : DV y vs k d X) (hi : i < y.coals.length) : 0 ≤ leftD y vs X k i ∧ leftD y vs X k i ≤ (contE y k).getD i 0 := by
  have := H.col k i (Nat.le_refl _) hi
  have := sF_nn (f := fun d' => X d' k i) (n := vs.length) fun d' _ => H.nn d' k i
  unfold leftD; omega
theorem DV.need0 (H : DV y vs k d X) : 0 ≤ needD y vs X k d ∧ needD y vs X k d ≤ vAt vs d k := by
  have := H.cur
  have := sF_nn (f := X d k) (n := y.coals.length) fun i _ => H.nn d k i
  unfold needD; omega
theorem DV.done (H : DV y vs (opn y.moves).1 0 X) : DivX y vs X :=
  ⟨H.nn, fun d k hd hk => H.old d k hd hk, fun k i hk hi => H.col k i (by omega) hi⟩
end
end Go.Proofs.Ytmaldhbjhomdkaa.Coal
namespace Go.Proofs.Ytmaldhbjhomdkaa.Coal
open Go Go.H
end Go.Proofs.Ytmaldhbjhomdkaa.Coal
namespace Go.Proofs.Ytmaldhbjhomdkaa.Coal
open Go Go.H
end Go.Proofs.Ytmaldhbjhomdkaa.Coal
