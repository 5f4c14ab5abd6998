/-
  What the reference's functions of the goods compute, step by step.
-/
import Derived.Test.YtlailecnbdlknaaP9
import Derived.Test.YtlailecnbdlknaaP8
set_option linter.all false
namespace Go.Proofs.Ytlailecnbdlknaa
open Go Go.H
theorem flat_splice {α : Type} {enc : α → List Value} {sz : Nat} (henc : ∀ x, (enc x).length = sz) (sp : List Value) (s : α) : ∀ (xs : List α) (k : Nat), k < xs.length → splice (xs.flatMap enc ++ sp) (0 + k * sz) (enc s) = (xs.set k s).flatMap enc ++ sp
  | [], k, h => by simp at h
  | x :: xs, 0, h => by
    have : (enc x).length = (enc s).length := by rw [henc, henc]
    simp only [splice, Nat.zero_mul, Nat.add_zero, Nat.zero_add, List.take_zero, List.nil_append, List.flatMap_cons, List.set_cons_zero, List.append_assoc, ← this, List.drop_left]
  | x :: xs, k + 1, h => by
    have ih := flat_splice henc sp s xs k (by simpa using h)
    have e : 0 + (k + 1) * sz = (enc x).length + (0 + k * sz) := by rw [henc, Nat.add_mul]; omega
    simp only [splice] at ih ⊢
    rw [e, List.flatMap_cons, List.set_cons_succ, List.flatMap_cons, List.append_assoc, List.append_assoc, List.take_append, Nat.add_assoc, List.drop_append]
    have e1 : List.take ((enc x).length + (0 + k * sz)) (enc x) = enc x := List.take_of_length_le (by omega)
    have e2 : List.drop ((enc x).length + (0 + k * sz + (enc s).length)) (enc x) = [] := List.drop_eq_nil_of_le (by omega)
    rw [e1, e2, Nat.add_sub_cancel_left, Nat.add_sub_cancel_left]
    simp only [List.append_assoc, List.nil_append] at ih ⊢
    rw [← ih]
theorem gl_at {g : Goods} {n k : Nat} (h : k < n) : (gl g n)[k]? = some (g k) := by simp [gl, h]
theorem gl_set {g : Goods} {n k : Nat} {s : Span} : (gl g n).set k s = gl (upd g k s) n := by
  refine List.ext_getElem? fun i => ?_
  rw [List.getElem?_set]
  by_cases hi : i < n
  · rw [gl_at hi, gl_len]
    by_cases hk : k = i
    · subst hk; rw [if_pos rfl, if_pos hi, gl_at hi, upd_same]
    · rw [if_neg hk, gl_at hi, upd_other _ _ (Ne.symm hk)]
  · have h1 : (gl g n)[i]? = none := List.getElem?_eq_none (by rw [gl_len]; omega)
    have h2 : (gl (upd g k s) n)[i]? = none := List.getElem?_eq_none (by rw [gl_len]; omega)
    rw [h1, h2, gl_len]
    split
    · rename_i hk; subst hk; rw [if_neg hi]
    · rfl
theorem gl_succ {g : Goods} {k : Nat} : gl g (k + 1) = gl g k ++ [g k] := by simp [gl, List.range_succ]
theorem gs_get {g : Goods} {n k j : Nat} {sp : List Value} {v : Value} (h : k < n) (hj : (eSpan (g k))[j]? = some v) : ((gl g n).flatMap eSpan ++ sp)[0 + k * 2 + j]? = some v := take_get (flat_at eSpan_len sp (gl g n) k (gl_at h)) hj
theorem gs_getA {g : Goods} {n k : Nat} {sp : List Value} (h : k < n) : (((gl g n).flatMap eSpan ++ sp).drop (0 + k * 2)).take 2 = eSpan (g k) := flat_at eSpan_len sp (gl g n) k (gl_at h)
theorem gs_splice {g : Goods} {n k : Nat} {s : Span} {sp : List Value} (h : k < n) : splice ((gl g n).flatMap eSpan ++ sp) (0 + k * 2) (eSpan s) = (gl (upd g k s) n).flatMap eSpan ++ sp := by
  rw [flat_splice eSpan_len sp s (gl g n) k (by rw [gl_len]; exact h), gl_set]
theorem gs_set0 {g : Goods} {n k : Nat} {a : Int} {sp : List Value} (h : k < n) : ((gl g n).flatMap eSpan ++ sp).set (0 + k * 2 + 0) (I a) = (gl (upd g k ⟨a, (g k).hi⟩) n).flatMap eSpan ++ sp := by
  rw [← gl_set]
  exact set_flat eSpan_len (x := g k) (y := ⟨a, (g k).hi⟩) sp (j := 0) (by omega) rfl (gl g n) k (gl_at h)
theorem gs_len {g : Goods} {n : Nat} {sp : List Value} : ((gl g n).flatMap eSpan ++ sp).length = n * 2 + sp.length := by rw [List.length_append, flat_lenM eSpan_len, gl_len]
theorem gs_room {g : Goods} {n k : Nat} {sp : List Value} (h : k < n) : Nat.ble (0 + k * 2 + 2) ((gl g n).flatMap eSpan ++ sp).length = true := by rw [gs_len, Nat.ble_eq]; omega
theorem gs_lt {g : Goods} {n k j : Nat} {sp : List Value} (h : k < n) (hj : j < 2) : 0 + k * 2 + j < ((gl g n).flatMap eSpan ++ sp).length := by rw [gs_len]; omega
theorem Vec.pos {V : Vec} {sz n : Nat} {xs : List Value} (h : V.ok sz n xs) (hn : 0 < n) : ∃ b cap sp, V = .at b cap sp := by
  cases V with
  | nil => exact absurd h.2 (by omega)
  | «at» b cap sp => exact ⟨b, cap, sp, rfl⟩
/-! a still worked time by time -/
theorem span_ext {a b : Span} (h1 : a.lo = b.lo) (h2 : a.hi = b.hi) : a = b := by cases a; cases b; simp_all
theorem work_zero {x : Still} {g : Goods} : workG x ((0 : Nat) : Int) g = g := by
  funext j
  simp only [workG, addG, takeG, Int.natCast_zero, Int.mul_zero, Int.zero_mul, Int.sub_zero, Int.add_zero]
  split <;> (try split) <;> rfl
theorem take1 {x : Still} {g : Goods} : takeG x 1 g = upd g x.in_.toNat ⟨(g x.in_.toNat).lo - x.takes, (g x.in_.toNat).hi - x.takes⟩ := by rw [takeG_eq, Int.mul_one]
theorem add1_succ {x : Still} {g : Goods} {k : Nat} {s : Span} (hs : x.out[k]? = some s) : addG x 1 g (k + 1) = upd (addG x 1 g k) k ⟨(addG x 1 g k k).lo + s.lo, (addG x 1 g k k).hi + s.hi⟩ := by
  rw [addG_succ hs, Int.one_mul, Int.one_mul]
theorem work_succ {x : Still} {t : Int} {g : Goods} : workG x (t + 1) g = workG x 1 (workG x t g) := by
  funext j
  simp only [workG, addG, takeG, Int.mul_add, Int.add_mul, Int.mul_one, Int.one_mul]
  split <;> split <;> (refine span_ext ?_ ?_ <;> dsimp only <;> omega)
theorem work_in {x : Still} {t : Int} {g : Goods} (hz : ∀ s, x.out[x.in_.toNat]? = some s → s = ⟨0, 0⟩) : (workG x t g x.in_.toNat).lo = (g x.in_.toNat).lo - x.takes * t := by
  have hd : x.out.getD x.in_.toNat ⟨0, 0⟩ = ⟨0, 0⟩ := by
    simp only [List.getD]
    cases h : x.out[x.in_.toNat]? with
    | none => rfl
    | some s => exact hz s h
  simp only [workG, addG, takeG, hd]
  split <;> simp
theorem out_in {n : Nat} {l : Int} {x : Still} (hx : stillOk n l x) (h0 : 0 ≤ x.in_) : ∀ s, x.out[x.in_.toNat]? = some s → s = ⟨0, 0⟩ := fun s hs => by
  rcases (hx.2.2.2.2.2 _ s hs).2 with h | h
  · omega
  · exact h
theorem can_zero {x : Still} {g : Goods} (h : 0 ≤ (g x.in_.toNat).lo) : canWork x ((0 : Nat) : Int) g = true := by simp [canWork, h]
theorem can_succ {x : Still} {t : Int} {g : Goods} (hz : ∀ s, x.out[x.in_.toNat]? = some s → s = ⟨0, 0⟩) : canWork x (t + 1) g = decide (x.takes ≤ (workG x t g x.in_.toNat).lo) := by
  rw [work_in hz]
  simp only [canWork, Int.mul_add, Int.mul_one]
  congr 1
  exact propext ⟨fun h => by omega, fun h => by omega⟩
/-! the sale that comes first -/
def eBo (b : Bool) : List Value := [.bool b]
theorem eBo_len (x : Bool) : (eBo x).length = 1 := rfl
def NextK (ss : List Sale) (op : List Bool) (k : Nat) (r : Int) : Prop := (r = -1 ∧ ∀ i : Nat, i < k → op[i]? ≠ some true) ∨ (∃ b : Nat, r = b ∧ b < k ∧ op[b]? = some true ∧ ∀ j : Nat, j < k → op[j]? = some true → j ≠ b → cmpS ss b j < 0)
theorem NextK.zero {ss : List Sale} {op : List Bool} : NextK ss op 0 (-1) := .inl ⟨rfl, fun i h => absurd h (Nat.not_lt_zero _)⟩
theorem NextK.lt {ss : List Sale} {op : List Bool} {k : Nat} {r : Int} (H : NextK ss op k r) (h0 : 0 ≤ r) : r.toNat < k ∧ r.toNat < op.length := by
  rcases H with ⟨rfl, _⟩ | ⟨b, rfl, h1, h2, _⟩
  · omega
  · exact ⟨by omega, by have := (List.getElem?_eq_some_iff.1 h2).1; omega⟩
theorem lt_succ_or {j k : Nat} (h : j < k + 1) : j < k ∨ j = k := by omega
theorem NextK.skip {ss : List Sale} {op : List Bool} {k : Nat} {r : Int} (H : NextK ss op k r) (hk : op[k]? = some false) : NextK ss op (k + 1) r := by
  rcases H with ⟨h1, h2⟩ | ⟨b, h1, h2, h3, h4⟩
  · refine .inl ⟨h1, fun i hi => ?_⟩
    rcases lt_succ_or hi with hi | rfl
    · exact h2 i hi
    · rw [hk]; simp
  · refine .inr ⟨b, h1, by omega, h3, fun j hj hq hn => ?_⟩
    rcases lt_succ_or hj with hj | rfl
    · exact h4 j hj hq hn
    · rw [hk] at hq; cases hq
theorem NextK.first {ss : List Sale} {op : List Bool} {k : Nat} {r : Int} (H : NextK ss op k r) (hk : op[k]? = some true) (hr : r < 0) : NextK ss op (k + 1) k := by
  rcases H with ⟨h1, h2⟩ | ⟨b, h1, h2, h3, h4⟩
  · refine .inr ⟨k, rfl, by omega, hk, fun j hj hq hn => ?_⟩
    rcases lt_succ_or hj with hj | rfl
    · exact absurd hq (h2 j hj)
    · exact absurd rfl hn
  · omega
theorem NextK.better {ss : List Sale} {op : List Bool} {k : Nat} {r : Int} {x z : Sale} (H : NextK ss op k r) (hk : op[k]? = some true) (hr : 0 ≤ r) (hx : ss[k]? = some x) (hz : ss[r.toNat]? = some z) (hp : z.price < x.price) : NextK ss op (k + 1) k := by
  rcases H with ⟨h1, h2⟩ | ⟨b, h1, h2, h3, h4⟩
  · omega
  · refine .inr ⟨k, rfl, by omega, hk, fun j hj hq hn => ?_⟩
    rcases lt_succ_or hj with hj | rfl
    · subst h1
      rw [Int.toNat_natCast] at hz
      rw [cmpS_neg, Int.toNat_natCast, Int.toNat_natCast, sale_at hx]
      by_cases hjb : j = b
      · subst hjb; rw [sale_at hz]; omega
      · have := h4 j hj hq hjb
        rw [cmpS_neg, Int.toNat_natCast, Int.toNat_natCast, sale_at hz] at this
        omega
    · exact absurd rfl hn
theorem NextK.keep {ss : List Sale} {op : List Bool} {k : Nat} {r : Int} {x z : Sale} (H : NextK ss op k r) (hr : 0 ≤ r) (hx : ss[k]? = some x) (hz : ss[r.toNat]? = some z) (hp : x.price ≤ z.price) : NextK ss op (k + 1) r := by
  rcases H with ⟨h1, h2⟩ | ⟨b, h1, h2, h3, h4⟩
  · omega
  · refine .inr ⟨b, h1, by omega, h3, fun j hj hq hn => ?_⟩
    rcases lt_succ_or hj with hj | rfl
    · exact h4 j hj hq hn
    · subst h1
      rw [Int.toNat_natCast] at hz
      rw [cmpS_neg, Int.toNat_natCast, Int.toNat_natCast, sale_at hx, sale_at hz]
      omega
def opens (ss : List Sale) (m : Nat) : List Bool := (List.range ss.length).map fun (i : Nat) => !((ord ss).take m).contains (i : Int)
theorem opens_len {ss : List Sale} {m : Nat} : (opens ss m).length = ss.length := by simp [opens]
theorem opens_at {ss : List Sale} {m i : Nat} (h : i < ss.length) : (opens ss m)[i]? = some (!((ord ss).take m).contains (i : Int)) := by simp [opens, h]
theorem ord_nodup (ss : List Sale) : (ord ss).Nodup := by
  refine (List.Perm.nodup_iff (isortI_perm _ _)).2 ?_
  unfold nums
  rw [List.nodup_iff_pairwise_ne, List.pairwise_map]
  exact List.pairwise_lt_range.imp (fun h => by omega)
theorem ord_sorted (ss : List Sale) : (ord ss).Pairwise (fun a b => ¬ cmpS ss b a < 0) := isortI_sorted (cmpS_ok ss) _
theorem mem_ord_of {ss : List Sale} {i : Nat} (h : i < ss.length) : (i : Int) ∈ ord ss := by
  refine (isortI_perm _ _).mem_iff.2 ?_
  simp only [nums, List.mem_map, List.mem_range]
  exact ⟨i, h, rfl⟩
theorem opens_true {ss : List Sale} {m i : Nat} : (opens ss m)[i]? = some true ↔ ∃ k, m ≤ k ∧ (ord ss)[k]? = some (i : Int) := by
  constructor
  · intro h
    have hi : i < ss.length := by have := (List.getElem?_eq_some_iff.1 h).1; rwa [opens_len] at this
    rw [opens_at hi] at h
    obtain ⟨k, hk⟩ := List.getElem?_of_mem (mem_ord_of hi)
    refine ⟨k, ?_, hk⟩
    refine Nat.le_of_not_lt fun hkm => ?_
    have : (i : Int) ∈ (ord ss).take m := List.mem_of_getElem? (i := k) (by rw [List.getElem?_take_of_lt hkm]; exact hk)
    simp [this] at h
  · rintro ⟨k, hk, hi⟩
    have hi2 := (mem_ord (List.mem_of_getElem? hi)).2.2
    rw [Int.toNat_natCast] at hi2
    rw [opens_at hi2]
    have : (i : Int) ∉ (ord ss).take m := fun hmem => by
      obtain ⟨j, hj⟩ := List.getElem?_of_mem hmem
      have hjm : j < m := by have := (List.getElem?_eq_some_iff.1 hj).1; simp at this; omega
      rw [List.getElem?_take_of_lt hjm] at hj
      have h1 := (List.getElem?_eq_some_iff.1 hi).1
      have := (List.getElem?_inj h1 (ord_nodup ss)).1 (hi.trans hj.symm)
      omega
    simp [this]
def nextAt (ss : List Sale) (m : Nat) : Int := ((ord ss)[m]?).getD (-1)
theorem next_eq {ss : List Sale} {m : Nat} {r : Int} (H : NextK ss (opens ss m) ss.length r) : r = nextAt ss m := by
  unfold nextAt
  cases hm : (ord ss)[m]? with
  | none =>
    have hl := List.getElem?_eq_none_iff.1 hm
    rcases H with ⟨h1, _⟩ | ⟨b, h1, h2, h3, h4⟩
    · exact h1
    · obtain ⟨k, hk, hb⟩ := opens_true.1 h3
      have := (List.getElem?_eq_some_iff.1 hb).1
      omega
  | some x =>
    obtain ⟨x0, x1, x2⟩ := mem_ord (List.mem_of_getElem? hm)
    obtain ⟨n, rfl⟩ := Int.eq_ofNat_of_zero_le x0
    have hon : (opens ss m)[n]? = some true := opens_true.2 ⟨m, Nat.le_refl _, hm⟩
    rcases H with ⟨h1, h2⟩ | ⟨b, h1, h2, h3, h4⟩
    · exact absurd hon (h2 n (by omega))
    · by_cases hbn : n = b
      · rw [h1, hbn]; rfl
      · have h5 := h4 n (by omega) hon hbn
        obtain ⟨k, hk, hb⟩ := opens_true.1 h3
        have hlt : m < k := by
          rcases Nat.lt_or_eq_of_le hk with h | rfl
          · exact h
          · rw [hm] at hb; cases hb; omega
        have hp := List.pairwise_iff_getElem.1 (ord_sorted ss) m k (List.getElem?_eq_some_iff.1 hm).1 (List.getElem?_eq_some_iff.1 hb).1 hlt
        rw [(List.getElem?_eq_some_iff.1 hm).2, (List.getElem?_eq_some_iff.1 hb).2] at hp
        exact absurd h5 hp
theorem opens_zero {ss : List Sale} : opens ss 0 = List.replicate ss.length true := by
  refine List.ext_getElem? fun i => ?_
  by_cases h : i < ss.length
  · rw [opens_at h]; simp [h]
  · rw [List.getElem?_eq_none (by rw [opens_len]; omega), List.getElem?_eq_none (by simp; omega)]
theorem opens_succ {ss : List Sale} {m : Nat} {i : Int} (h : (ord ss)[m]? = some i) : (opens ss m).set i.toNat false = opens ss (m + 1) := by
  obtain ⟨i0, i1, i2⟩ := mem_ord (List.mem_of_getElem? h)
  refine List.ext_getElem? fun j => ?_
  rw [List.getElem?_set, opens_len]
  by_cases hj : j < ss.length
  · rw [opens_at hj, opens_at hj, List.take_add_one, h]
    by_cases hij : i.toNat = j
    · have : i = (j : Int) := by omega
      subst this
      rw [if_pos (Int.toNat_natCast j), if_pos i2]; simp
    · have : (j : Int) ≠ i := by omega
      rw [if_neg hij]; simp [this]
  · rw [List.getElem?_eq_none (by rw [opens_len]; omega), List.getElem?_eq_none (by rw [opens_len]; omega)]
    split
    · rename_i hij; subst hij; omega
    · rfl
end Go.Proofs.Ytlailecnbdlknaa
