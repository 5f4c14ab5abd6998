/-
  Stokes that are later by a number, or in another order: the plain part of RetortSwap.
-/
import Derived.Test.YtjmailhoidenaaaP02e
import Derived.Test.YtjmailhoidenaaaP02h
set_option linter.all false
namespace Go.Proofs.Ytjmailhoidenaaa
open Go Go.H
def zov : Oven := ⟨0, 0, 0, 0, 0⟩
def sh (d : Int) (x : Stoke) : Stoke := { x with hour := x.hour + d }
def shO (d : Int) (o : Oven) : Oven := { o with since := o.since + d }
theorem doStoke_of {w : House} {S : St} {x : Stoke} {o' : Oven} (hg : goodStoke x) (hl : S.last ≤ x.hour) (hga : S.done x.hour < w.gang) (ho : ovDo w (S.ov x.ret.toNat) x = .ok o') : ∃ S', doStoke w S x = .ok S' ∧ S'.ov = upd S.ov x.ret.toNat o' ∧ S'.done = setd S.done x.hour (S.done x.hour + 1) ∧ S'.last = x.hour := by
  obtain ⟨S1, hk⟩ := kindDo_of ho
  have hd := doOk hg (by omega) (by omega) hk
  refine ⟨_, hd, ?_, rfl, rfl⟩
  obtain ⟨o2, h1, h2, _, _⟩ := kindDo_good hk
  rw [ho] at h1
  cases h1
  exact h2
/-- Beside a house whose stokes are all later by a number. -/
structure Sim (d : Int) (S S' : St) : Prop where
  ov : ∀ i, (S.ov i = zov ∧ S'.ov i = zov) ∨ S'.ov i = shO d (S.ov i)
  done : ∀ h, S'.done (h + d) = S.done h
  last : (S.last = 0 ∧ S'.last = 0) ∨ S'.last = S.last + d
theorem ovDo_sh {w : House} {o o2 o' : Oven} {d : Int} {x : Stoke} (hd : 0 ≤ d) (hx : 0 ≤ x.hour) (ho : (o = zov ∧ o2 = zov) ∨ o2 = shO d o) (h : ovDo w o x = .ok o') : ovDo w o2 (sh d x) = .ok (shO d o') := by
  have hst : o2.state = o.state ∧ o2.tons = o.tons ∧ o2.runs = o.runs ∧ o2.cool = o.cool := by
    rcases ho with ⟨rfl, rfl⟩ | rfl <;> exact ⟨rfl, rfl, rfl, rfl⟩
  obtain ⟨e1, e2, e3, e4⟩ := hst
  have hsc : ∀ z : Int, ¬ x.hour < o.since + z → ¬ x.hour + d < o2.since + z := fun z hz => by
    rcases ho with ⟨h1, h2⟩ | h1
    · rw [h1] at hz; rw [h2]; simp only [zov] at hz ⊢; omega
    · rw [h1]; simp only [shO]; omega
  have hs0 : ¬ x.hour < o.since → ¬ x.hour + d < o2.since := fun hz => by have := hsc 0; omega
  unfold ovDo at h ⊢
  have hk : (sh d x).kind = x.kind := rfl
  have hh : (sh d x).hour = x.hour + d := rfl
  have ht : (sh d x).tons = x.tons := rfl
  rw [hk, hh, ht, e1, e2, e3, e4]
  by_cases k0 : x.kind = 0
  · rw [if_pos k0] at h ⊢
    by_cases s0 : o.state ≠ 0
    · rw [if_pos s0] at h; cases h
    rw [if_neg s0] at h ⊢
    by_cases t0 : x.hour < o.since
    · rw [if_pos t0] at h; cases h
    rw [if_neg t0] at h
    rw [if_neg (hs0 t0)]
    by_cases r0 : w.runs ≤ o.runs
    · rw [if_pos r0] at h; cases h
    rw [if_neg r0] at h ⊢
    cases h; rfl
  rw [if_neg k0] at h ⊢
  by_cases k1 : x.kind = 1
  · rw [if_pos k1] at h ⊢
    by_cases s0 : o.state ≠ 1
    · rw [if_pos s0] at h; cases h
    rw [if_neg s0] at h ⊢
    by_cases t0 : x.hour < o.since + w.least
    · rw [if_pos t0] at h; cases h
    rw [if_neg t0] at h
    rw [if_neg (hsc _ t0)]
    cases h; rfl
  rw [if_neg k1] at h ⊢
  by_cases k2 : x.kind = 2
  · rw [if_pos k2] at h ⊢
    by_cases s0 : o.state ≠ 0
    · rw [if_pos s0] at h; cases h
    rw [if_neg s0] at h ⊢
    by_cases t0 : x.hour < o.since
    · rw [if_pos t0] at h; cases h
    rw [if_neg t0] at h
    rw [if_neg (hs0 t0)]
    cases h
    simp only [shO]
    congr 2
    omega
  rw [if_neg k2] at h ⊢
  by_cases k3 : x.kind = 3
  · rw [if_pos k3] at h ⊢
    by_cases s0 : o.state ≠ 0
    · rw [if_pos s0] at h; cases h
    rw [if_neg s0] at h ⊢
    by_cases t0 : x.hour < o.since
    · rw [if_pos t0] at h; cases h
    rw [if_neg t0] at h
    rw [if_neg (hs0 t0)]
    cases h; rfl
  rw [if_neg k3] at h ⊢
  by_cases s0 : o.state ≠ 2
  · rw [if_pos s0] at h; cases h
  rw [if_neg s0] at h ⊢
  cases h; rfl
theorem Sim.step {w : House} {d : Int} {S S' S1 : St} {x : Stoke} (hd : 0 ≤ d) (H : Sim d S S') (h : doStoke w S x = .ok S1) (hb : x.hour + d ≤ 1048576) : ∃ S1', doStoke w S' (sh d x) = .ok S1' ∧ Sim d S1 S1' := by
  obtain ⟨g1, g2, g3, o', g4, g5, g6, g7⟩ := doStoke_good h
  have hx0 := g1.1.1
  have hgood : goodStoke (sh d x) := ⟨⟨by show 0 ≤ x.hour + d; omega, hb⟩, g1.2.1, g1.2.2.1, g1.2.2.2⟩
  have ho : ovDo w (S'.ov (sh d x).ret.toNat) (sh d x) = .ok (shO d o') := ovDo_sh hd hx0 (H.ov _) g4
  have hlast : S'.last ≤ (sh d x).hour := by
    show S'.last ≤ x.hour + d
    rcases H.last with ⟨e1, e2⟩ | e1 <;> omega
  have hga : S'.done (sh d x).hour < w.gang := by
    show S'.done (x.hour + d) < w.gang
    rw [H.done]; exact g3
  obtain ⟨S1', e1, e2, e3, e4⟩ := doStoke_of hgood hlast hga ho
  refine ⟨S1', e1, ?_, ?_, ?_⟩
  · intro i
    rw [e2, g5]
    show _ ∨ upd S'.ov x.ret.toNat (shO d o') i = shO d (upd S.ov x.ret.toNat o' i)
    by_cases hi : i = x.ret.toNat
    · right; subst hi; rw [upd_same, upd_same]
    · have := H.ov i
      simp only [upd, if_neg hi]
      have hi2 : ¬ i = (sh d x).ret.toNat := hi
      rw [if_neg hi2]
      exact this
  · intro h'
    rw [e3, g6]
    show setd S'.done (x.hour + d) (S'.done (x.hour + d) + 1) (h' + d) = _
    rw [H.done]
    simp only [setd]
    by_cases hh : h' = x.hour
    · subst hh; simp
    · rw [if_neg hh, if_neg (by omega)]; exact H.done h'
  · right
    rw [e4, g7]; rfl
theorem playFrom_sh {w : House} {d : Int} (hd : 0 ≤ d) : ∀ (l : List Stoke) {S S' S1 : St} {k : Nat}, Sim d S S' → (∀ x ∈ l, x.hour + d ≤ 1048576) → playFrom w S l k = .ok S1 → ∃ S1', playFrom w S' (l.map (sh d)) k = .ok S1' ∧ Sim d S1 S1'
  | [], S, S', S1, k, H, _, hh => by cases hh; exact ⟨S', rfl, H⟩
  | x :: l, S, S', S1, k, H, hb, hh => by
    simp only [playFrom] at hh
    split at hh
    · cases hh
    · rename_i S2 h2
      obtain ⟨S2', e1, e2⟩ := H.step hd h2 (hb x List.mem_cons_self)
      obtain ⟨S3', e3, e4⟩ := playFrom_sh hd l e2 (fun y hy => hb y (List.mem_cons_of_mem _ hy)) hh
      exact ⟨S3', by simp only [List.map_cons, playFrom, e1]; exact e3, e4⟩
theorem play_sh {w : House} {d : Int} {l : List Stoke} {S : St} (hd : 0 ≤ d) (hb : ∀ x ∈ l, x.hour + d ≤ 1048576) (h : play w l = .ok S) : ∃ S', play w (l.map (sh d)) = .ok S' ∧ Sim d S S' := by
  have hp := play_ok h
  obtain ⟨S', e1, e2⟩ := playFrom_sh hd l (S := .init) (S' := .init) ⟨fun i => .inl ⟨rfl, rfl⟩, fun h => rfl, .inl ⟨rfl, rfl⟩⟩ hb (play_from h)
  refine ⟨S', ?_, e2⟩
  unfold play
  rw [if_neg (by simpa using hp.1), if_neg (by rw [List.length_map]; omega)]
  exact e1
/-! ### The gas of what is later -/
def shR (d : Int) (r : Run) : Run := ⟨r.tons, r.from_ + d, if r.until_ = 4194304 then 4194304 else r.until_ + d⟩
theorem endFrom_sh {d r : Int} : ∀ {t : List Stoke}, (∀ x ∈ t, x.hour ≠ 4194304) → endFrom r (t.map (sh d)) = if endFrom r t = 4194304 then 4194304 else endFrom r t + d
  | [], _ => by simp [endFrom]
  | y :: t, h => by
    have hy := h y List.mem_cons_self
    by_cases hq : y.ret = r ∧ y.kind = 1
    · rw [List.map_cons, endFrom_yes (y := sh d y) hq, endFrom_yes hq, if_neg hy]; rfl
    · rw [List.map_cons, endFrom_no (y := sh d y) hq, endFrom_no hq, endFrom_sh (fun x hx => h x (List.mem_cons_of_mem _ hx))]
theorem runsP_sh {d : Int} : ∀ {l : List Stoke}, (∀ x ∈ l, x.hour ≠ 4194304) → runsP (l.map (sh d)) = (runsP l).map (shR d)
  | [], _ => rfl
  | x :: t, h => by
    have ht := fun y hy => h y (List.mem_cons_of_mem _ hy)
    rw [List.map_cons, runsP_cons, runsP_cons, runsP_sh ht, List.map_append]
    congr 1
    show (if x.kind = 0 then _ else _) = _
    split
    · simp only [List.map_cons, List.map_nil, shR]
      congr 2
      show endFrom x.ret (t.map (sh d)) = _
      rw [endFrom_sh ht]
    · rfl
theorem gasFrom_sh {d : Int} {r : Run} (hd : 0 ≤ d) (h0 : 0 ≤ r.from_) : ∀ (k : Nat) (cs : List Span), r.from_ + d + k + cs.length ≤ 1048577 → (gasFrom (shR d r) k cs).map (·.2) = (gasFrom r k cs).map (·.2)
  | _, [], _ => rfl
  | k, c :: cs, hb => by
    simp only [List.length_cons] at hb
    simp only [gasFrom, List.map_append]
    rw [gasFrom_sh hd h0 (k + 1) cs (by omega)]
    congr 1
    have e1 : (shR d r).from_ = r.from_ + d := rfl
    by_cases hu : r.until_ = 4194304
    · have e2 : (shR d r).until_ = 4194304 := by simp only [shR]; rw [if_pos hu]
      rw [if_pos ⟨by omega, by omega, by omega⟩, if_pos ⟨by omega, by omega, by omega⟩]; rfl
    · have e2 : (shR d r).until_ = r.until_ + d := by simp only [shR]; rw [if_neg hu]
      by_cases hlt : r.from_ + (k : Int) < r.until_
      · rw [if_pos ⟨by omega, by omega, by omega⟩, if_pos ⟨hlt, by omega, by omega⟩]; rfl
      · rw [if_neg (fun hq => by omega), if_neg (fun hq => hlt hq.1)]
theorem gasRuns_sh {d : Int} {curve : List Span} (hd : 0 ≤ d) : ∀ (rs : List Run), (∀ r ∈ rs, 0 ≤ r.from_ ∧ r.from_ + d + curve.length ≤ 1048577) → (gasRuns curve (rs.map (shR d))).map (·.2) = (gasRuns curve rs).map (·.2)
  | [], _ => rfl
  | r :: rs, hb => by
    have h0 := hb r List.mem_cons_self
    simp only [List.map_cons, gasRuns, List.map_append]
    rw [gasFrom_sh hd h0.1 0 curve (by omega), gasRuns_sh hd rs (fun q hq => hb q (List.mem_cons_of_mem _ hq))]
theorem pick_all2 {l : List (Int × Span)} (h : ∀ x ∈ l, 0 ≤ x.1 ∧ x.1 ≤ 1048576) : pick 0 1048576 l = l.map (·.2) := by
  unfold pick
  rw [List.filter_eq_self.2 (fun x hx => by have := h x hx; simp [this])]
theorem make_all {w : House} {l : List Stoke} {S : St} (h : play w l = .ok S) : makeS w S 0 1048576 = sumS ((gasRuns w.curve (runsP l)).map (·.2)) := by
  unfold makeS
  rw [play_gas h, pick_all2 (fun x hx => by obtain ⟨r, _, h1⟩ := gasRuns_mem x hx; exact h1.2.2)]
theorem make_sh {w : House} {d : Int} {l : List Stoke} {S S' : St} (hd : 0 ≤ d) (h : play w l = .ok S) (h' : play w (l.map (sh d)) = .ok S') (hb : ∀ x ∈ l, x.hour + d + w.curve.length ≤ 1048577) : makeS w S' 0 1048576 = makeS w S 0 1048576 := by
  have hg := (play_after h).good
  rw [make_all h, make_all h', runsP_sh (fun x hx => by have := (hg x hx).1; omega), gasRuns_sh hd _ (fun r hr => by
    obtain ⟨x, hx, hk, hf⟩ := runsP_mem r hr
    have h1 := hb x hx
    have h2 := (hg x hx).1
    rw [hf]; omega)]
/-! ### Two stokes in the other order -/
structure Same (S S' : St) : Prop where
  ov : S'.ov = S.ov
  done : S'.done = S.done
  last : S'.last = S.last
theorem Same.step {w : House} {S S' S1 : St} {x : Stoke} (H : Same S S') (h : doStoke w S x = .ok S1) : ∃ S1', doStoke w S' x = .ok S1' ∧ Same S1 S1' := by
  obtain ⟨g1, g2, g3, o', g4, g5, g6, g7⟩ := doStoke_good h
  obtain ⟨S1', e1, e2, e3, e4⟩ := doStoke_of (S := S') g1 (by rw [H.last]; exact g2) (by rw [H.done]; exact g3) (by rw [H.ov]; exact g4)
  exact ⟨S1', e1, by rw [e2, g5, H.ov], by rw [e3, g6, H.done], by rw [e4, g7]⟩
theorem playFrom_same {w : House} : ∀ (l : List Stoke) {S S' S1 : St} {k : Nat}, Same S S' → playFrom w S l k = .ok S1 → ∃ S1', playFrom w S' l k = .ok S1' ∧ Same S1 S1'
  | [], S, S', S1, k, H, hh => by cases hh; exact ⟨S', rfl, H⟩
  | x :: l, S, S', S1, k, H, hh => by
    simp only [playFrom] at hh
    split at hh
    · cases hh
    · rename_i S2 h2
      obtain ⟨S2', e1, e2⟩ := H.step h2
      obtain ⟨S3', e3, e4⟩ := playFrom_same l e2 hh
      exact ⟨S3', by simp only [playFrom, e1]; exact e3, e4⟩
theorem swap_two {w : House} {S S1 S2 : St} {a b : Stoke} (hh : a.hour = b.hour) (hr : a.ret ≠ b.ret) (h1 : doStoke w S a = .ok S1) (h2 : doStoke w S1 b = .ok S2) : ∃ S1' S2', doStoke w S b = .ok S1' ∧ doStoke w S1' a = .ok S2' ∧ Same S2 S2' := by
  obtain ⟨a1, a2, a3, oa, a4, a5, a6, a7⟩ := doStoke_good h1
  obtain ⟨b1, b2, b3, ob, b4, b5, b6, b7⟩ := doStoke_good h2
  have ha8 := a1.2.1
  have hb8 := b1.2.1
  have hne : a.ret.toNat ≠ b.ret.toNat := by omega
  have hne' : b.ret.toNat ≠ a.ret.toNat := fun hq => hne hq.symm
  rw [a5] at b4
  simp only [upd, if_neg hne'] at b4
  rw [a6, hh] at b3
  simp only [setd, if_true] at b3
  rw [a7] at b2
  obtain ⟨S1', e1, e2, e3, e4⟩ := doStoke_of (S := S) (x := b) b1 (by omega) (by omega) b4
  have e5 : S1'.ov a.ret.toNat = S.ov a.ret.toNat := by rw [e2]; simp only [upd, if_neg hne]
  obtain ⟨S2', f1, f2, f3, f4⟩ := doStoke_of (S := S1') (x := a) a1 (by omega) (by rw [e3, hh]; simp only [setd, if_true]; omega) (by rw [e5]; exact a4)
  refine ⟨S1', S2', e1, f1, ?_, ?_, by rw [f4, b7]; exact hh⟩
  · rw [f2, b5, e2, a5]
    funext i
    simp only [upd]
    by_cases i1 : i = a.ret.toNat
    · subst i1; rw [if_pos rfl, if_neg hne, if_pos rfl]
    · rw [if_neg i1, if_neg i1]
  · rw [f3, b6, e3, a6, hh]
theorem endFrom_swap {r : Int} {a b : Stoke} {t : List Stoke} (hr : a.ret ≠ b.ret) : ∀ (l : List Stoke), endFrom r (l ++ b :: a :: t) = endFrom r (l ++ a :: b :: t)
  | [] => by
    simp only [List.nil_append]
    by_cases ha : a.ret = r ∧ a.kind = 1
    · have hb : ¬ (b.ret = r ∧ b.kind = 1) := fun hq => hr (ha.1.trans hq.1.symm)
      rw [endFrom_yes ha, endFrom_no hb, endFrom_yes ha]
    · rw [endFrom_no ha]
      by_cases hb : b.ret = r ∧ b.kind = 1
      · rw [endFrom_yes hb, endFrom_yes hb]
      · rw [endFrom_no hb, endFrom_no hb, endFrom_no ha]
  | x :: l => by
    simp only [List.cons_append]
    by_cases hx : x.ret = r ∧ x.kind = 1
    · rw [endFrom_yes hx, endFrom_yes hx]
    · rw [endFrom_no hx, endFrom_no hx, endFrom_swap hr l]
theorem sum_swap {curve : List Span} {a b : Stoke} {t : List Stoke} (hr : a.ret ≠ b.ret) : ∀ (l : List Stoke), sumS ((gasRuns curve (runsP (l ++ b :: a :: t))).map (·.2)) = sumS ((gasRuns curve (runsP (l ++ a :: b :: t))).map (·.2))
  | [] => by
    have hap : ∀ (u v : List Run), gasRuns curve (u ++ v) = gasRuns curve u ++ gasRuns curve v := by
      intro u v
      induction u with
      | nil => rfl
      | cons q u ih => simp only [List.cons_append, gasRuns, ih, List.append_assoc]
    simp only [List.nil_append]
    rw [runsP_cons, runsP_cons, runsP_cons, runsP_cons]
    have e1 : endFrom b.ret (a :: t) = endFrom b.ret t := endFrom_no (fun hq => hr hq.1)
    have e2 : endFrom a.ret (b :: t) = endFrom a.ret t := endFrom_no (fun hq => hr hq.1.symm)
    rw [e1, e2]
    simp only [hap, List.map_append, sumS_append]
    exact Span.ext' (by simp only [addS]; omega) (by simp only [addS]; omega)
  | x :: l => by
    have hap : ∀ (u v : List Run), gasRuns curve (u ++ v) = gasRuns curve u ++ gasRuns curve v := by
      intro u v
      induction u with
      | nil => rfl
      | cons q u ih => simp only [List.cons_append, gasRuns, ih, List.append_assoc]
    simp only [List.cons_append]
    rw [runsP_cons, runsP_cons, endFrom_swap hr l]
    simp only [hap, List.map_append, sumS_append]
    rw [sum_swap hr l]
theorem swap_law {w : House} {l t : List Stoke} {a b : Stoke} {S : St} (hh : a.hour = b.hour) (hr : a.ret ≠ b.ret) (h : play w (l ++ a :: b :: t) = .ok S) : ∃ S', play w (l ++ b :: a :: t) = .ok S' ∧ S'.ov = S.ov ∧ makeS w S' 0 1048576 = makeS w S 0 1048576 := by
  have hp := play_ok h
  have h1 := play_from h
  rw [playFrom_append] at h1
  cases h2 : playFrom w .init l 0 with
  | error e => rw [h2] at h1; cases h1
  | ok S0 =>
    rw [h2] at h1
    simp only [playFrom] at h1
    cases h3 : doStoke w S0 a with
    | error e => rw [h3] at h1; cases h1
    | ok S1 =>
      rw [h3] at h1
      simp only at h1
      cases h4 : doStoke w S1 b with
      | error e => rw [h4] at h1; cases h1
      | ok S2 =>
        rw [h4] at h1
        simp only at h1
        obtain ⟨S1', S2', e1, e2, e3⟩ := swap_two hh hr h3 h4
        obtain ⟨S', e4, e5⟩ := playFrom_same t e3 h1
        have hpl : play w (l ++ b :: a :: t) = .ok S' := by
          unfold play
          rw [if_neg (by simpa using hp.1), if_neg (by have := hp.2; simp only [List.length_append, List.length_cons] at this ⊢; omega), playFrom_append, h2]
          simp only [playFrom, e1, e2]
          exact e4
        exact ⟨S', hpl, e5.ov, by rw [make_all hpl, make_all h, sum_swap hr]⟩
/-! ### What comes before an error -/
theorem playFrom_take {w : House} : ∀ (l : List Stoke) {S : St} {j i : Nat} {e : Int} (k : Nat), playFrom w S l j = .error (i, e) → k ≤ i - j → ∃ S', playFrom w S (l.take k) j = .ok S'
  | [], S, j, i, e, k, hh, _ => by cases hh
  | x :: l, S, j, i, e, 0, hh, _ => ⟨S, rfl⟩
  | x :: l, S, j, i, e, k + 1, hh, hk => by
    simp only [playFrom] at hh
    split at hh
    · cases hh; omega
    · rename_i S1 h1
      obtain ⟨S', h2⟩ := playFrom_take l k hh (by omega)
      exact ⟨S', by simp only [List.take_succ_cons, playFrom, h1]; exact h2⟩
/-- An error's place and kind. -/
theorem play_error {w : House} {l : List Stoke} {i : Nat} {e : Int} (h : play w l = .error (i, e)) : (¬ goodHouse w ∧ i = 0 ∧ e = 1) ∨ (goodHouse w ∧ i = 0 ∧ e = 3 ∧ 48 < l.length) ∨ (goodHouse w ∧ l.length ≤ 48 ∧ i < l.length ∧ playFrom w .init l 0 = .error (i, e)) := by
  unfold play at h
  split at h
  · rename_i hg; cases h; exact .inl ⟨hg, rfl, rfl⟩
  · rename_i hg
    have hg' : goodHouse w := by simpa using hg
    split at h
    · cases h; exact .inr (.inl ⟨hg', rfl, rfl, by omega⟩)
    · have := playFrom_err h
      exact .inr (.inr ⟨hg', by omega, by omega, h⟩)
theorem play_before {w : House} {l : List Stoke} {i : Nat} {e : Int} (h : play w l = .error (i, e)) (hg : goodHouse w) {k : Nat} (hk : k ≤ i) : ∃ S, play w (l.take k) = .ok S := by
  have hgo : ∀ {S}, playFrom w .init (l.take k) 0 = .ok S → k ≤ 48 → play w (l.take k) = .ok S := fun h1 h2 => by
    unfold play
    rw [if_neg (by simpa using hg), if_neg (by rw [List.length_take]; omega)]
    exact h1
  rcases play_error h with ⟨h1, _⟩ | ⟨_, rfl, _, _⟩ | ⟨_, h1, h2, h3⟩
  · exact absurd hg h1
  · have : k = 0 := by omega
    subst this
    exact ⟨.init, hgo rfl (by decide)⟩
  · obtain ⟨S', h4⟩ := playFrom_take l k h3 (by omega)
    exact ⟨S', hgo h4 (by omega)⟩
end Go.Proofs.Ytjmailhoidenaaa
