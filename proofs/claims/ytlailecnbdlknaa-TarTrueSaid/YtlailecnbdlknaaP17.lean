/-
  What truly comes out of the stills, beside the least and the most; what was sold.
-/
import Derived.Test.YtlailecnbdlknaaP15
import Derived.Test.YtlailecnbdlknaaP20
set_option linter.all false
namespace Go.Proofs.Ytlailecnbdlknaa
open Go Go.H
def ll (L : Lo) (n : Nat) : List Int := (List.range n).map L
theorem ll_len {L : Lo} {n : Nat} : (ll L n).length = n := by simp [ll]
theorem ll_at {L : Lo} {n k : Nat} (h : k < n) : (ll L n)[k]? = some (L k) := by simp [ll, h]
theorem ll_set {L : Lo} {n k : Nat} {v : Int} : (ll L n).set k v = ll (upd L k v) n := by
  refine List.ext_getElem? fun i => ?_
  rw [List.getElem?_set, ll_len]
  by_cases hi : i < n
  · rw [ll_at hi, ll_at hi]
    by_cases hk : k = i
    · subst hk; rw [if_pos rfl, if_pos hi, upd_same]
    · rw [if_neg hk, upd_other _ _ (Ne.symm hk)]
  · rw [List.getElem?_eq_none (by rw [ll_len]; omega), List.getElem?_eq_none (by rw [ll_len]; omega)]
    split
    · rename_i hk; subst hk; rw [if_neg hi]
    · rfl
theorem li_get {L : Lo} {n k : Nat} {sp : List Value} (h : k < n) : ((ll L n).flatMap eI ++ sp)[0 + k * 1]? = some (I (L k)) := ints_at (zs := []) (ll_at h)
theorem li_set {L : Lo} {n k : Nat} {v : Int} {sp : List Value} (h : k < n) : ((ll L n).flatMap eI ++ sp).set (0 + k * 1) (I v) = (ll (upd L k v) n).flatMap eI ++ sp := by
  rw [ints_set (by rw [ll_len]; exact h), ll_set]
theorem li_lt {L : Lo} {n k : Nat} {sp : List Value} (h : k < n) : 0 + k * 1 < ((ll L n).flatMap eI ++ sp).length := len_ints (by rw [ll_len]; exact h)
theorem stock_ll (y : Yard) : y.stock = ll (loOf (newG y)) y.stock.length := by
  refine List.ext_getElem? fun i => ?_
  by_cases hi : i < y.stock.length
  · rw [ll_at hi]; simp [loOf, newG, hi]
  · rw [List.getElem?_eq_none (by omega), List.getElem?_eq_none (by rw [ll_len]; omega)]
def Within (G : Goods) (T : Lo) : Prop := ∀ j, (G j).lo ≤ T j ∧ T j ≤ (G j).hi
def Bd (r : Nat) (L : Lo) : Prop := ∀ j, -((1 + (r : Int)) * 1048576) ≤ L j ∧ L j ≤ (1 + (r : Int)) * 1048576
def PB (r j : Nat) (L : Lo) : Prop := ∀ i, -((2 + (r : Int)) * 1048576) ≤ L i ∧ L i ≤ (2 + (r : Int)) * 1048576 ∧ (j ≤ i → L i ≤ (1 + (r : Int)) * 1048576)
theorem within_new {y : Yard} : Within (newG y) (loOf (newG y)) := fun j => by
  simp only [loOf, newG]
  split <;> exact ⟨Int.le_refl _, Int.le_refl _⟩
theorem bd_new {y : Yard} (hy : GoodYard y) : Bd 0 (loOf (newG y)) := fun j => by
  have := GB.new hy j
  simp only [loOf]
  omega
theorem Bd.pb {r : Nat} {L : Lo} {k : Nat} {v : Int} (h : Bd r L) (h0 : 0 ≤ v) (h1 : v ≤ 1048576) : PB r 0 (upd L k (L k - v)) := fun i => by
  have h2 := h i
  have h3 := h k
  simp only [upd]
  split
  · rename_i hi; subst hi; omega
  · omega
theorem PB.step {r j : Nat} {L : Lo} {v : Int} (h : PB r j L) (h0 : 0 ≤ v) (h1 : v ≤ 1048576) : PB r (j + 1) (upd L j (L j + v)) := fun i => by
  have h2 := h i
  have h3 := (h j).2.2 (Nat.le_refl _)
  have h4 := (h j).1
  simp only [upd]
  split
  · rename_i hi; subst hi; refine ⟨by omega, by omega, fun hji => by omega⟩
  · rename_i hi; exact ⟨h2.1, h2.2.1, fun hji => h2.2.2 (by omega)⟩
theorem PB.bd {r j : Nat} {L : Lo} (h : PB r j L) : Bd (r + 1) L := fun i => by
  have := h i
  push_cast
  omega
theorem Within.take {x : Still} {G : Goods} {T : Lo} (h : Within G T) : Within (takeG x 1 G) (upd T x.in_.toNat (T x.in_.toNat - x.takes)) := fun j => by
  have h1 := h j
  simp only [takeG, upd, Int.mul_one]
  split
  · rename_i hj; subst hj; dsimp only; omega
  · exact h1
theorem Within.add {x : Still} {G : Goods} {T : Lo} {j : Nat} {s : Span} {v : Int} (h : Within (addG x 1 G j) T) (hs : x.out[j]? = some s) (h0 : s.lo ≤ v) (h1 : v ≤ s.hi) : Within (addG x 1 G (j + 1)) (upd T j (T j + v)) := fun i => by
  have h2 := h i
  rw [add1_succ hs]
  simp only [upd]
  split
  · rename_i hi; subst hi; dsimp only; omega
  · exact h2
theorem lo_take {x : Still} {G : Goods} : loOf (takeG x 1 G) = upd (loOf G) x.in_.toNat (loOf G x.in_.toNat - x.takes) := by rw [take1, loOf_upd]; rfl
theorem lo_add {x : Still} {G : Goods} {j : Nat} {s : Span} (hs : x.out[j]? = some s) : loOf (addG x 1 G (j + 1)) = upd (loOf (addG x 1 G j)) j (loOf (addG x 1 G j) j + s.lo) := by rw [add1_succ hs, loOf_upd]; rfl
/-- What a flag tells: was there too little. -/
def Fe (y : Yard) (plan : List Int) (k : Nat) (G : Goods) (sh : Bool) : Prop := (sh = false → afterG y.stills plan (newG y) = afterG (y.stills.drop k) (plan.drop k) G ∧ GB k G) ∧ (sh = true → afterG y.stills plan (newG y) = none)
def Fi (y : Yard) (plan : List Int) (k : Nat) (x : Still) (n : Int) (G : Goods) (sh : Bool) : Prop := (sh = false → canWork x n G = true ∧ afterG y.stills plan (newG y) = afterG (y.stills.drop k) (plan.drop k) G ∧ GB k G) ∧ (sh = true → afterG y.stills plan (newG y) = none)
theorem Fe.start {y : Yard} {plan : List Int} {k : Nat} {x : Still} {G : Goods} {sh : Bool} (h : Fe y plan k G sh) : Fi y plan k x ((0 : Nat) : Int) G sh :=
  ⟨fun hs => ⟨can_zero ((h.1 hs).2 _).1, h.1 hs⟩, h.2⟩
theorem Fi.step {y : Yard} {plan : List Int} {k : Nat} {x : Still} {n : Nat} {t : Int} {G : Goods} {T : Lo} {lk sh : Bool} {l : Int} {m : Nat} (h : Fi y plan k x n G sh) (hx : stillOk m l x) (h0 : 0 ≤ x.in_) (hk : y.stills[k]? = some x) (ht : plan[k]? = some t) (hn : (n : Int) + 1 ≤ t) (hw : Within (workG x n G) T) (hf : lk = true → sh = true) :
    Fi y plan k x ((n : Int) + 1) G (sh || decide ((workG x n G x.in_.toNat).lo < x.takes)) ∧ ((lk || decide (T x.in_.toNat < x.takes)) = true → (sh || decide ((workG x n G x.in_.toNat).lo < x.takes)) = true) := by
  have hcs := can_succ (t := (n : Int)) (g := G) (out_in hx h0)
  have hwi := hw x.in_.toNat
  refine ⟨?_, fun hq => ?_⟩
  · cases sh with
    | true => exact ⟨fun hq => by simp at hq, fun _ => h.2 rfl⟩
    | false =>
      obtain ⟨h1, h2, h3⟩ := h.1 rfl
      by_cases hlt : (workG x n G x.in_.toNat).lo < x.takes
      · refine ⟨fun hq => by simp [hlt] at hq, fun _ => ?_⟩
        have hcx : canWork x t G = false := by
          cases hq5 : canWork x t G with
          | false => rfl
          | true =>
            have := canWork_le (x := x) (g := G) (a := (n : Int) + 1) (b := t) hx.2.1.1 hn hq5
            rw [hcs, decide_eq_true_eq] at this
            omega
        rw [h2, after_step hk ht, hcx]; rfl
      · exact ⟨fun _ => ⟨by rw [hcs]; exact decide_eq_true (by omega), h2, h3⟩, fun hq => by simp [hlt] at hq⟩
  · cases sh with
    | true => rfl
    | false =>
      have hl : lk = false := by
        cases lk with
        | false => rfl
        | true => exact absurd (hf rfl) (by simp)
      subst hl
      simp only [Bool.false_or, decide_eq_true_eq] at hq ⊢
      omega
theorem Fi.done {y : Yard} {plan : List Int} {k : Nat} {x : Still} {t : Int} {G : Goods} {sh : Bool} {l : Int} {m : Nat} (h : Fi y plan k x t G sh) (hx : stillOk m l x) (h0 : 0 ≤ t) (h8 : t ≤ 8) (hk : y.stills[k]? = some x) (ht : plan[k]? = some t) : Fe y plan (k + 1) (workG x t G) sh :=
  ⟨fun hs => by
    obtain ⟨h1, h2, h3⟩ := h.1 hs
    exact ⟨by rw [h2, after_step hk ht, h1]; rfl, h3.work hx h1 h0 h8⟩, h.2⟩
/-! what was sold -/
def sF (sold : List Int) (i : Int) : Int := sold.getD i.toNat 0
theorem sF_at {sold : List Int} {i : Nat} {t : Int} (h : sold[i]? = some t) : sF sold i = t := by simp [sF, List.getD, h]
structure SoldR (ss : List Sale) (is : List Int) (st st' : Sell) : Prop where
  len : st'.sold.length = st.sold.length
  other : ∀ k : Nat, (∀ i ∈ is, i.toNat ≠ k) → st'.sold[k]? = st.sold[k]?
  bd : ∀ i ∈ is, 0 ≤ sF st'.sold i ∧ sF st'.sold i ≤ mo ss i
  use : ∀ d, loOf st'.g d = loOf st.g d - useF ss (sF st'.sold) is d
  rev : st'.rev.sum = st.rev.sum + valF ss (sF st'.sold) is
  left : ∀ i ∈ is, sF st'.sold i < mo ss i → loOf st'.g (gd ss i) = 0
  pair : ∀ i ∈ is, ∀ k ∈ is, gd ss i = gd ss k → pr ss k < pr ss i → sF st'.sold i < mo ss i → sF st'.sold k = 0
  nn : ∀ d, 0 ≤ loOf st'.g d
theorem useF_ge {ss : List Sale} {s : Int → Int} : ∀ {is : List Int} {i : Int}, (∀ j ∈ is, 0 ≤ s j) → i ∈ is → s i ≤ useF ss s is (gd ss i)
  | [], i, _, h => by cases h
  | j :: is, i, hs, h => by
    have h1 := useF_nn (ss := ss) (is := is) (d := gd ss i) (fun k hk => hs k (List.mem_cons_of_mem _ hk))
    have h2 := hs j List.mem_cons_self
    simp only [useF]
    rcases List.mem_cons.1 h with rfl | h
    · simp only [if_true]; omega
    · have := useF_ge (ss := ss) (fun k hk => hs k (List.mem_cons_of_mem _ hk)) h
      split <;> omega
theorem sells_spec {ss : List Sale} {P : Int} : ∀ {is : List Int} {st : Sell}, OkS ss is P → is.Nodup → (∀ i ∈ is, 0 ≤ i ∧ i.toNat < st.sold.length) → is.Pairwise (fun a b => pr ss b ≤ pr ss a) → (∀ j, 0 ≤ loOf st.g j) → SoldR ss is st (sells ss is st)
  | [], st, _, _, _, _, hn => ⟨rfl, fun _ _ => rfl, fun i h => absurd h List.not_mem_nil, fun d => by simp [useF, sells], by simp [valF, sells], fun i h => absurd h List.not_mem_nil, fun i h => absurd h List.not_mem_nil, hn⟩
  | i :: is, st, h, hd, hr, hs, hn => by
    rw [List.nodup_cons] at hd
    rw [List.pairwise_cons] at hs
    have hi := hr i List.mem_cons_self
    have hm := h.mo i List.mem_cons_self
    have hL := hn (gd ss i)
    have hN : sellN ss st i = min (mo ss i) (loOf st.g (gd ss i)) := rfl
    have hg1 : loOf (sell1 ss st i).g = upd (loOf st.g) (gd ss i) (loOf st.g (gd ss i) - sellN ss st i) := loOf_upd
    have hl1 : (sell1 ss st i).sold.length = st.sold.length := by simp [sell1]
    have ih := sells_spec (is := is) (st := sell1 ss st i) h.tail hd.2 (fun j hj => by rw [hl1]; exact hr j (List.mem_cons_of_mem _ hj)) hs.2 (fun j => by
      rw [hg1]; exact upd_nn hn (by omega) j)
    have hsi : sF (sells ss is (sell1 ss st i)).sold i = sellN ss st i := by
      have h1 := ih.other i.toNat (fun j hj he => hd.1 (by
        have := (hr j (List.mem_cons_of_mem _ hj)).1
        have : j = i := by omega
        exact this ▸ hj))
      have h2 : (sell1 ss st i).sold[i.toNat]? = some (sellN ss st i) := List.getElem?_set_self hi.2
      simp only [sF, List.getD]
      rw [h1, h2]; rfl
    have hun := useF_nn (ss := ss) (s := sF (sells ss is (sell1 ss st i)).sold) (is := is) (d := gd ss i) (fun j hj => (ih.bd j hj).1)
    have huse := ih.use
    have hzero : sellN ss st i < mo ss i → loOf (sell1 ss st i).g (gd ss i) = 0 := fun hlt => by rw [hg1, upd_same]; omega
    refine ⟨ih.len.trans hl1, fun k hk => ?_, fun j hj => ?_, fun d => ?_, ?_, fun j hj hlt => ?_, fun j hj k hk hgd hpr hlt => ?_, ih.nn⟩
    · have h1 := ih.other k (fun j hj => hk j (List.mem_cons_of_mem _ hj))
      have h2 : (sell1 ss st i).sold[k]? = st.sold[k]? := List.getElem?_set_ne (hk i List.mem_cons_self)
      exact h1.trans h2
    · rcases List.mem_cons.1 hj with rfl | hj
      · show 0 ≤ sF (sells ss is (sell1 ss st j)).sold j ∧ _
        rw [show sells ss (j :: is) st = sells ss is (sell1 ss st j) from rfl, hsi]; omega
      · exact ih.bd j hj
    · show loOf (sells ss is (sell1 ss st i)).g d = loOf st.g d - ((if gd ss i = d then sF (sells ss is (sell1 ss st i)).sold i else 0) + useF ss (sF (sells ss is (sell1 ss st i)).sold) is d)
      rw [huse d, hg1, hsi]
      simp only [upd]
      by_cases hgd : gd ss i = d
      · subst hgd; simp only [if_true]; omega
      · rw [if_neg hgd, if_neg (Ne.symm hgd)]; omega
    · show (sells ss is (sell1 ss st i)).rev.sum = st.rev.sum + (sF (sells ss is (sell1 ss st i)).sold i * pr ss i + valF ss (sF (sells ss is (sell1 ss st i)).sold) is)
      rw [ih.rev, hsi]
      have h1 : (sell1 ss st i).rev.sum = st.rev.sum + sellN ss st i * pr ss i := by simp [sell1, pr]
      omega
    · rcases List.mem_cons.1 hj with rfl | hj
      · have hlt' : sF (sells ss is (sell1 ss st j)).sold j < mo ss j := hlt
        rw [hsi] at hlt'
        have h1 := hzero hlt'
        have h2 := huse (gd ss j)
        have h3 := ih.nn (gd ss j)
        show loOf (sells ss is (sell1 ss st j)).g (gd ss j) = 0
        omega
      · exact ih.left j hj hlt
    · have hlt' : sF (sells ss is (sell1 ss st i)).sold j < mo ss j := hlt
      show sF (sells ss is (sell1 ss st i)).sold k = 0
      rcases List.mem_cons.1 hj with hje | hj
      · rcases List.mem_cons.1 hk with hke | hk
        · rw [hje, hke] at hpr; omega
        · rw [hje, hsi] at hlt'
          have h1 := hzero hlt'
          have h2 := huse (gd ss i)
          have h3 := ih.nn (gd ss i)
          have h4 := useF_ge (ss := ss) (fun z hz => (ih.bd z hz).1) hk
          rw [← hgd, hje] at h4
          have h5 := (ih.bd k hk).1
          omega
      · rcases List.mem_cons.1 hk with hke | hk
        · have := hs.1 j hj
          rw [hke] at hpr; omega
        · exact ih.pair j hj k hk hgd hpr hlt'
theorem useF_append {ss : List Sale} {s : Int → Int} {d : Nat} : ∀ {a b : List Int}, useF ss s (a ++ b) d = useF ss s a d + useF ss s b d
  | [], b => by simp [useF]
  | x :: a, b => by simp only [List.cons_append, useF]; rw [useF_append]; omega
theorem valF_append {ss : List Sale} {s : Int → Int} : ∀ {a b : List Int}, valF ss s (a ++ b) = valF ss s a + valF ss s b
  | [], b => by simp [valF]
  | x :: a, b => by simp only [List.cons_append, valF]; rw [valF_append]; omega
/-- What was sold of a valid yard. -/
structure SoldY (y : Yard) (g : Goods) (L1 : Lo) (sold : List Int) : Prop where
  len : sold.length = y.sales.length
  bd : ∀ (i : Nat) (x : Sale) (t : Int), y.sales[i]? = some x → sold[i]? = some t → 0 ≤ t ∧ t ≤ x.most
  use : ∀ d, L1 d = loOf g d - useF y.sales (sF sold) (nums y.sales.length) d
  nn : ∀ d, 0 ≤ L1 d
  left : ∀ (i : Nat) (x : Sale) (t : Int), y.sales[i]? = some x → sold[i]? = some t → t < x.most → L1 x.good.toNat = 0
  pair : ∀ (i k : Nat) (x z : Sale) (t u : Int), y.sales[i]? = some x → y.sales[k]? = some z → sold[i]? = some t → sold[k]? = some u → x.good = z.good → z.price < x.price → t < x.most → u = 0
theorem sold_y {y : Yard} {plan : List Int} {g : Goods} (hy : GoodYard y) (hb : GB y.stills.length g) : SoldY y g (loOf (sellY y g).g) (sellY y g).sold ∧ (∀ p, incomeY y p g = (pays y.stills p).sum + valF y.sales (sF (sellY y g).sold) (nums y.sales.length)) := by
  have hR : SoldR y.sales (ord y.sales) (st0 y g) (sellY y g) := sells_spec hy.okS (ord_nodup _) (fun i hi => by
    have := mem_ord hi
    exact ⟨this.1, by simp only [st0, List.length_replicate]; exact this.2.2⟩) (ord_price _) hb.lo
  have hmem : ∀ {i : Nat} {x : Sale}, y.sales[i]? = some x → (i : Int) ∈ ord y.sales := fun hx => mem_ord_of (List.getElem?_eq_some_iff.1 hx).1
  have hs : ∀ {i : Nat} {x : Sale}, y.sales[i]? = some x → sale y.sales (i : Int).toNat = x := fun hx => by rw [Int.toNat_natCast]; exact sale_at hx
  refine ⟨⟨by rw [hR.len]; simp [st0], fun i x t hx ht => ?_, fun d => ?_, hR.nn, fun i x t hx ht hlt => ?_, fun i k x z t u hx hz ht hu hg hp hlt => ?_⟩, fun p => ?_⟩
  · have := hR.bd i (hmem hx)
    rw [sF_at ht] at this
    unfold mo at this
    rw [hs hx] at this
    exact this
  · rw [hR.use d, useF_perm (ord_perm _)]; rfl
  · have := hR.left i (hmem hx)
    rw [sF_at ht] at this
    unfold mo gd at this
    rw [hs hx] at this
    exact this hlt
  · have := hR.pair i (hmem hx) k (hmem hz)
    rw [sF_at ht, sF_at hu] at this
    unfold mo gd pr at this
    rw [hs hx, hs hz] at this
    exact this (by rw [hg]) hp hlt
  · have := hR.rev
    unfold incomeY
    rw [List.sum_append, this, valF_perm (ord_perm _)]
    simp [st0]
theorem useF_bd {y : Yard} {sold : List Int} {P : Int} {d : Nat} (hb : ∀ i : Nat, 0 ≤ sF sold i ∧ sF sold i ≤ 1048576) : ∀ m : Nat, 0 ≤ useF y.sales (sF sold) (nums m) d ∧ useF y.sales (sF sold) (nums m) d ≤ m * 1048576
  | 0 => by simp [nums, useF]
  | m + 1 => by
    have ih := useF_bd (P := P) (y := y) (d := d) hb m
    have h1 := hb m
    rw [nums_succ, useF_append]
    simp only [useF]
    split <;> (push_cast; omega)
theorem valF_bd {y : Yard} {sold : List Int} (hb : ∀ i : Nat, 0 ≤ sF sold i ∧ sF sold i ≤ 1048576) : ∀ m : Nat, (∀ i : Nat, i < m → 0 ≤ pr y.sales i ∧ pr y.sales i ≤ 1000000) → 0 ≤ valF y.sales (sF sold) (nums m) ∧ valF y.sales (sF sold) (nums m) ≤ m * 1048576000000
  | 0, _ => by simp [nums, valF]
  | m + 1, hp => by
    have ih := valF_bd hb m (fun i hi => hp i (by omega))
    have h1 := hb m
    have h2 := hp m (by omega)
    have h3 := mul_bd h1.1 h1.2 h2.1 h2.2
    rw [nums_succ, valF_append]
    simp only [valF]
    push_cast
    omega
theorem sold_bd {y : Yard} {g : Goods} {L1 : Lo} {sold : List Int} (hy : GoodYard y) (H : SoldY y g L1 sold) (i : Nat) : 0 ≤ sF sold i ∧ sF sold i ≤ 1048576 := by
  cases h : sold[i]? with
  | none => simp [sF, List.getD, h]
  | some t =>
    have hl := (List.getElem?_eq_some_iff.1 h).1
    rw [H.len] at hl
    have h1 := H.bd i y.sales[i] t (List.getElem?_eq_getElem hl) h
    have h2 := (hy.sales _ (List.getElem_mem hl)).2.1
    rw [sF_at h]
    omega
theorem price_bd {y : Yard} (hy : GoodYard y) {i : Nat} (hi : i < y.sales.length) : 0 ≤ pr y.sales i ∧ pr y.sales i ≤ 1000000 := by
  unfold pr
  rw [Int.toNat_natCast, sale_at (List.getElem?_eq_getElem hi)]
  exact (hy.sales _ (List.getElem_mem hi)).2.2
def afterS (y : Yard) (sold : List Int) (L : Lo) (m : Nat) : Lo := fun d => L d - useF y.sales (sF sold) (nums m) d
theorem afterS_zero {y : Yard} {sold : List Int} {L : Lo} : afterS y sold L 0 = L := by funext d; simp [afterS, nums, useF]
theorem afterS_succ {y : Yard} {sold : List Int} {L : Lo} {m : Nat} {x : Sale} {t : Int} (hx : y.sales[m]? = some x) (ht : sold[m]? = some t) : upd (afterS y sold L m) x.good.toNat (afterS y sold L m x.good.toNat - t) = afterS y sold L (m + 1) := by
  have hg : gd y.sales (m : Int) = x.good.toNat := by unfold gd; rw [Int.toNat_natCast, sale_at hx]
  funext d
  simp only [afterS, nums_succ, useF_append, useF, hg, sF_at ht, upd]
  by_cases h : d = x.good.toNat
  · subst h; simp only [if_true]; omega
  · rw [if_neg h, if_neg (Ne.symm h)]; omega
end Go.Proofs.Ytlailecnbdlknaa
