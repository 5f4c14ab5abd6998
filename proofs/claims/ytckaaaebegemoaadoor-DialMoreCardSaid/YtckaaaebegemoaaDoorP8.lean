/-
  The gas of hours as a sum over the pairs of readings; hours that are parted; a reading more.
-/
import Derived.Test.YtckaaaebegemoaaDoorP7
set_option linter.all false
namespace Go.Proofs.YtckaaaebegemoaaDoor
open Go Go.H
def cl (f t x : Int) : Int := max f (min t x)
def pc (d : Dial) (f t : Int) (a b : Card) (s : Span) : Span := partF d (cl f t b.hour - cl f t a.hour) (b.hour - a.hour - (cl f t b.hour - cl f t a.hour)) s
/-- From a reading on, to the last hour. -/
def gQ (d : Dial) (f t : Int) (a : Card) : List Card → List Span → Span
  | b :: l, s :: out => ⟨(pc d f t a b s).lo + (gQ d f t b l out).lo, (pc d f t a b s).hi + (gQ d f t b l out).hi⟩
  | _, _ => ⟨d.rate.lo * (t - cl f t a.hour), d.rate.hi * (t - cl f t a.hour)⟩
def sm (g : Nat → Int) : Nat → Int
  | 0 => 0
  | k + 1 => sm g k + g k
theorem sm_shift (g : Nat → Int) : ∀ k, sm g (k + 1) = g 0 + sm (fun i => g (i + 1)) k
  | 0 => by simp [sm]
  | k + 1 => by
    have ih := sm_shift g k
    show sm g (k + 1) + g (k + 1) = g 0 + (sm (fun i => g (i + 1)) k + g (k + 1))
    omega
def pcI (d : Dial) (f t : Int) (l : List Card) (out : List Span) (i : Nat) : Span := match l[i]?, l[i + 1]?, out[i]? with
  | some a, some b, some s => pc d f t a b s
  | _, _, _ => ⟨0, 0⟩
theorem pcI_at {d : Dial} {f t : Int} {l : List Card} {out : List Span} {i : Nat} {a b : Card} {s : Span} (ha : l[i]? = some a) (hb : l[i + 1]? = some b) (hs : out[i]? = some s) : pcI d f t l out i = pc d f t a b s := by
  unfold pcI; rw [ha, hb, hs]
theorem pairs_inv {d : Dial} {a b : Card} {l : List Card} {out : List Span} (h : pairsL d (a :: b :: l) = some out) : ∃ s o, btw d a b = some s ∧ pairsL d (b :: l) = some o ∧ out = s :: o := by
  simp only [pairsL] at h
  cases hb : btw d a b with
  | none => rw [hb] at h; cases h
  | some s =>
    rw [hb] at h
    obtain ⟨o, ho, rfl⟩ := Option.map_eq_some_iff.1 h
    exact ⟨s, o, rfl, ho, rfl⟩
theorem gasK_sm {d : Dial} {l : List Card} {out : List Span} {f t : Int} (hd : dialOk d) (hr : Rise l) (hft : f ≤ t) (hp : pairsL d l = some out) : ∀ k, k ≤ out.length →
    (sumS (gasK d f t l out k).1).lo = sm (fun i => (pcI d f t l out i).lo) k ∧ (sumS (gasK d f t l out k).1).hi = sm (fun i => (pcI d f t l out i).hi) k
  | 0, _ => ⟨rfl, rfl⟩
  | k + 1, hk => by
    have hlen := pairs_len hp
    have ih := gasK_sm hd hr hft hp k (by omega)
    have ha := List.getElem?_eq_getElem (l := l) (i := k) (by omega)
    have hb := List.getElem?_eq_getElem (l := l) (i := k + 1) (by omega)
    have hs := List.getElem?_eq_getElem (l := out) (i := k) (by omega)
    rw [gasK_succ ha hb hs]
    have hab := hr.get (Nat.lt_succ_self k) ha hb
    have hS := btw_some hd (Int.le_of_lt hab) (pairs_get hp ha hb hs)
    show _ = sm _ k + (pcI d f t l out k).lo ∧ _ = sm _ k + (pcI d f t l out k).hi
    rw [pcI_at ha hb hs]
    generalize l[k] = a at *
    generalize l[k + 1] = b at *
    generalize out[k] = s at *
    unfold pc
    by_cases hlap : lapH f t a.hour b.hour ≤ 0
    · rw [if_pos hlap, show cl f t b.hour - cl f t a.hour = 0 by unfold cl; unfold lapH at hlap; omega]
      unfold partF
      rw [Int.mul_zero, Int.mul_zero, Int.sub_zero]
      dsimp only
      have := Int.mul_le_mul_of_nonneg_right hd.2.2.2.1 (show 0 ≤ b.hour - a.hour by omega)
      omega
    · rw [if_neg hlap, show cl f t b.hour - cl f t a.hour = lapH f t a.hour b.hour by unfold cl; unfold lapH at *; omega]
      dsimp only
      rw [sumS_snoc]
      dsimp only
      omega
theorem gQ_sm {d : Dial} {f t : Int} : ∀ {l : List Card} {a : Card} {out : List Span}, pairsL d (a :: l) = some out →
    (gQ d f t a l out).lo = sm (fun i => (pcI d f t (a :: l) out i).lo) l.length + d.rate.lo * (t - uH f t (a :: l) l.length) ∧ (gQ d f t a l out).hi = sm (fun i => (pcI d f t (a :: l) out i).hi) l.length + d.rate.hi * (t - uH f t (a :: l) l.length)
  | [], a, out, h => by
    have e : uH f t [a] ([] : List Card).length = cl f t a.hour := uH_at rfl
    rw [e]
    simp only [gQ, sm, List.length_nil, Int.zero_add, and_self]
  | b :: l, a, out, h => by
    obtain ⟨s, o, h1, h2, rfl⟩ := pairs_inv h
    obtain ⟨i1, i2⟩ := gQ_sm (f := f) (t := t) h2
    have e : uH f t (a :: b :: l) (b :: l).length = uH f t (b :: l) l.length := by unfold uH; rw [List.length_cons, List.getElem?_cons_succ]
    rw [e]
    show (pc d f t a b s).lo + (gQ d f t b l o).lo = sm _ (l.length + 1) + _ ∧ (pc d f t a b s).hi + (gQ d f t b l o).hi = sm _ (l.length + 1) + _
    rw [i1, i2, sm_shift, sm_shift]
    have e0 : pcI d f t (a :: b :: l) (s :: o) 0 = pc d f t a b s := pcI_at rfl rfl rfl
    have e1 : ∀ i, pcI d f t (a :: b :: l) (s :: o) (i + 1) = pcI d f t (b :: l) o i := fun i => by unfold pcI; simp only [List.getElem?_cons_succ]
    simp only [e0, e1]
    omega
theorem gas_gQ {d : Dial} {l : List Card} {out : List Span} {f t : Int} {a : Card} (hd : dialOk d) (hr : Rise (a :: l)) (hft : f ≤ t) (hp : pairsL d (a :: l) = some out) :
    gasR d f t (a :: l) out = ⟨d.rate.lo * (cl f t a.hour - f) + (gQ d f t a l out).lo, d.rate.hi * (cl f t a.hour - f) + (gQ d f t a l out).hi⟩ := by
  have hlen := pairs_len hp
  have hlen : out.length = l.length := hlen
  obtain ⟨k1, k2⟩ := gasK_sm hd hr hft hp out.length (Nat.le_refl _)
  have k3 := (gasK_in hd hr hft hp out.length (Nat.le_refl _)).1
  obtain ⟨q1, q2⟩ := gQ_sm (f := f) (t := t) hp
  unfold gasR
  rw [k1, k2, k3, q1, q2, hlen]
  have e0 : uH f t (a :: l) 0 = cl f t a.hour := uH_at rfl
  rw [e0]
  generalize uH f t (a :: l) l.length = u
  have r1 : d.rate.lo * (t - f - (u - cl f t a.hour)) = d.rate.lo * (cl f t a.hour - f) + d.rate.lo * (t - u) := by rw [← Int.mul_add]; congr 1; omega
  have r2 : d.rate.hi * (t - f - (u - cl f t a.hour)) = d.rate.hi * (cl f t a.hour - f) + d.rate.hi * (t - u) := by rw [← Int.mul_add]; congr 1; omega
  rw [r1, r2]
  congr 1 <;> omega
theorem gas_nil {d : Dial} {out : List Span} {f t : Int} (hp : pairsL d [] = some out) : gasR d f t [] out = ⟨d.rate.lo * (t - f), d.rate.hi * (t - f)⟩ := by
  have : out = [] := by simpa [pairsL] using hp.symm
  subst this
  unfold gasR gasK sumS
  simp
/-! ### Hours that are parted -/
/-! ### Cards in another order -/
end Go.Proofs.YtckaaaebegemoaaDoor
