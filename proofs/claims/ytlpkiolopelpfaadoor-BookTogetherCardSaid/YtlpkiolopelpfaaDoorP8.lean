/-
  The pen: half bytes, numbers to the base 8.
-/
import Derived.Test.YtlpkiolopelpfaaDoorD
set_option linter.all false
namespace Go.Proofs.YtlpkiolopelpfaaDoor
open Go Go.H
structure Pen where
  bs : List Int
  up : Nat
  wt : Bool
def Pen.half (p : Pen) (x : Nat) : Pen := if p.wt then ⟨p.bs ++ [((16 * p.up + x : Nat) : Int)], x, false⟩ else ⟨p.bs, x, true⟩
def octs (n more : Nat) : List Nat := (if h : 8 ≤ n then octs (n / 8) 8 else []) ++ [n % 8 + more]
termination_by n
decreasing_by omega
def Pen.halves (p : Pen) (l : List Nat) : Pen := l.foldl Pen.half p
def Pen.nums (p : Pen) (l : List Nat) : Pen := l.foldl (fun q n => q.halves (octs n 0)) p
structure Pen.Ok (p : Pen) : Prop where
  up : p.up < 16
  bs : ∀ x ∈ p.bs, 0 ≤ x ∧ x ≤ 255
theorem Pen.Ok.half {p : Pen} (h : p.Ok) {x : Nat} (hx : x < 16) : (p.half x).Ok := by
  unfold Pen.half
  split
  · refine ⟨hx, fun y hy => ?_⟩
    rcases List.mem_append.1 hy with hy | hy
    · exact h.bs y hy
    · have := h.up; rw [List.mem_singleton.1 hy]; omega
  · exact ⟨hx, h.bs⟩
theorem octs_lt {n more : Nat} (hm : more = 0 ∨ more = 8) : ∀ x ∈ octs n more, x < 16 := by
  induction n using Nat.strongRecOn generalizing more with
  | _ n ih =>
    intro x hx
    rw [octs] at hx
    rcases List.mem_append.1 hx with hx | hx
    · split at hx
      · exact ih (n / 8) (by omega) (.inr rfl) x hx
      · cases hx
    · rw [List.mem_singleton.1 hx]; omega
theorem Pen.Ok.halves {p : Pen} (h : p.Ok) : ∀ {l : List Nat}, (∀ x ∈ l, x < 16) → (p.halves l).Ok := by
  intro l hl
  induction l generalizing p with
  | nil => exact h
  | cons x l ih => exact ih (h.half (hl x List.mem_cons_self)) fun y hy => hl y (List.mem_cons_of_mem _ hy)
theorem Pen.half_len (p : Pen) (x : Nat) : (p.half x).bs.length ≤ p.bs.length + 1 ∧ p.bs.length ≤ (p.half x).bs.length := by unfold Pen.half; split <;> simp
theorem Pen.halves_len (p : Pen) : ∀ l : List Nat, (p.halves l).bs.length ≤ p.bs.length + l.length ∧ p.bs.length ≤ (p.halves l).bs.length := by
  intro l
  induction l generalizing p with
  | nil => exact ⟨Nat.le_refl _, Nat.le_refl _⟩
  | cons x l ih =>
    have h1 := p.half_len x
    have h2 := ih (p.half x)
    simp only [List.length_cons]
    unfold Pen.halves at h2 ⊢
    simp only [List.foldl_cons]
    omega
theorem Pen.halves_app (p : Pen) (l m : List Nat) : p.halves (l ++ m) = (p.halves l).halves m := List.foldl_append
theorem octs_len {n : Nat} : ∀ k more, n < 8 ^ k → (octs n more).length ≤ max k 1 := by
  induction n using Nat.strongRecOn with
  | _ n ih =>
    intro k more hk
    rw [octs]
    split
    · rename_i h
      cases k with
      | zero => omega
      | succ k =>
        have hk' : n / 8 < 8 ^ k := by rw [Nat.pow_succ] at hk; omega
        have h2 := ih (n / 8) (by omega) k 8 hk'
        have h1 : 1 ≤ k := by
          rcases Nat.eq_zero_or_pos k with h0 | h0
          · subst h0; omega
          · exact h0
        rw [List.length_append, List.length_singleton]
        omega
    · simp; omega
theorem octs_big {n more : Nat} (h : 8 ≤ n) : octs n more = octs (n / 8) 8 ++ [n % 8 + more] := by rw [octs, dif_pos h]
theorem octs_small {n more : Nat} (h : ¬ 8 ≤ n) : octs n more = [n % 8 + more] := by rw [octs, dif_neg h]; rfl
def penL (V : Vec) (p : Pen) : List Value := [V.val p.bs.length, I 0, .int .i8 0, U8 p.up, .bool p.wt]
structure PenV (V : Vec) (p : Pen) : Prop where
  ok : V.ok 1 p.bs.length (p.bs.flatMap eB)
  nil : p.bs = [] → V = .nil
  pok : p.Ok
  len : p.bs.length ≤ 100000
  cap : V.capOk
theorem eB_flen (l : List Int) : (l.flatMap eB).length = l.length := by
  have := flat_lenM eB_len l
  omega
theorem PenV.halfF {V : Vec} {bs : List Int} {up x : Nat} (h : PenV V ⟨bs, up, false⟩) (hx : x < 16) : PenV V (Pen.half ⟨bs, up, false⟩ x) := ⟨h.ok, h.nil, h.pok.half hx, h.len, h.cap⟩
theorem PenV.halfT {V V2 : Vec} {bs : List Int} {up x : Nat} (h : PenV V ⟨bs, up, true⟩) (hl : bs.length < 100000) (hx : x < 16) (hV : V2.ok 1 (bs.length + 1) ((bs ++ [((16 * up + x : Nat) : Int)]).flatMap eB)) (hc : V2.capOk) : PenV V2 (Pen.half ⟨bs, up, true⟩ x) where
  ok := by rw [show (Pen.half ⟨bs, up, true⟩ x).bs = bs ++ [((16 * up + x : Nat) : Int)] from rfl, List.length_append]; exact hV
  nil := fun hq => by
    rw [show (Pen.half ⟨bs, up, true⟩ x).bs = bs ++ [((16 * up + x : Nat) : Int)] from rfl] at hq
    exact absurd hq (by simp)
  pok := h.pok.half hx
  len := by rw [show (Pen.half ⟨bs, up, true⟩ x).bs = bs ++ [((16 * up + x : Nat) : Int)] from rfl, List.length_append, List.length_singleton]; omega
  cap := hc
theorem bits_or {a b : Nat} (ha : a < 16) (hb : b < 16) : IntKind.u8.wrap (((BitVec.ofInt IntKind.u8.bits (IntKind.u8.wrap ((a : Int) * 2 ^ 4)) ||| BitVec.ofInt IntKind.u8.bits (b : Int)).toNat : Nat) : Int) = ((16 * a + b : Nat) : Int) := by
  have h : ∀ a : Fin 16, ∀ b : Fin 16, IntKind.u8.wrap (((BitVec.ofInt IntKind.u8.bits (IntKind.u8.wrap (((a : Nat) : Int) * 2 ^ 4)) ||| BitVec.ofInt IntKind.u8.bits ((b : Nat) : Int)).toNat : Nat) : Int) = ((16 * (a : Nat) + (b : Nat) : Nat) : Int) := by decide +kernel
  exact h ⟨a, ha⟩ ⟨b, hb⟩
theorem bits_or8 {a m : Nat} (ha : a < 8) (hm : m = 0 ∨ m = 8) : IntKind.u8.wrap (((BitVec.ofInt IntKind.u8.bits (a : Int) ||| BitVec.ofInt IntKind.u8.bits (m : Int)).toNat : Nat) : Int) = ((a + m : Nat) : Int) := by
  have h : ∀ a : Fin 8, IntKind.u8.wrap (((BitVec.ofInt IntKind.u8.bits ((a : Nat) : Int) ||| BitVec.ofInt IntKind.u8.bits ((0 : Nat) : Int)).toNat : Nat) : Int) = (((a : Nat) + 0 : Nat) : Int) ∧ IntKind.u8.wrap (((BitVec.ofInt IntKind.u8.bits ((a : Nat) : Int) ||| BitVec.ofInt IntKind.u8.bits ((8 : Nat) : Int)).toNat : Nat) : Int) = (((a : Nat) + 8 : Nat) : Int) := by decide +kernel
  rcases hm with rfl | rfl
  · exact (h ⟨a, ha⟩).1
  · exact (h ⟨a, ha⟩).2
def sgn (d : Int) : Int := if d < 0 then -2 * d - 1 else 2 * d
def chk (xs : List Sight) : Nat → Int
  | 0 => 0
  | k + 1 => chk xs k + (match xs[k]? with | some x => x.hour + x.height * ((k : Int) + 1) | none => 0)
theorem chk_succ {xs : List Sight} {k : Nat} {x : Sight} (h : xs[k]? = some x) : chk xs (k + 1) = chk xs k + (x.hour + x.height * ((k : Int) + 1)) := by simp [chk, h]
end Go.Proofs.YtlpkiolopelpfaaDoor

/-
  The bytes of a log.
-/
set_option linter.all false
namespace Go.Proofs.YtlpkiolopelpfaaDoor
open Go Go.H
theorem Pen.nums_app (p : Pen) (l m : List Nat) : p.nums (l ++ m) = (p.nums l).nums m := List.foldl_append
theorem Pen.nums_snoc (p : Pen) (l : List Nat) (n : Nat) : p.nums (l ++ [n]) = (p.nums l).halves (octs n 0) := by rw [Pen.nums_app]; rfl
theorem octs_len21 {n more : Nat} (h : n ≤ 4611686018427387904) : (octs n more).length ≤ 21 := by
  have := octs_len (n := n) 21 more (by omega)
  omega
theorem Pen.nums_len (p : Pen) : ∀ l : List Nat, (∀ n ∈ l, n ≤ 4611686018427387904) → (p.nums l).bs.length ≤ p.bs.length + 21 * l.length := by
  intro l hl
  induction l generalizing p with
  | nil => exact Nat.le_refl _
  | cons n l ih =>
    have h1 := (p.halves_len (octs n 0)).1
    have h2 := octs_len21 (more := 0) (hl n List.mem_cons_self)
    have h3 := ih (p.halves (octs n 0)) fun m hm => hl m (List.mem_cons_of_mem _ hm)
    rw [List.length_cons]
    show ((p.halves (octs n 0)).nums l).bs.length ≤ _
    omega
def pen0 : Pen := ⟨[], 0, false⟩
def prevS (xs : List Sight) : Nat → Sight
  | 0 => ⟨-1, 0⟩
  | k + 1 => xs.getD k ⟨0, 0⟩
theorem prevS_succ {xs : List Sight} {k : Nat} {x : Sight} (h : xs[k]? = some x) : prevS xs (k + 1) = x := by
  show xs.getD k _ = x
  rw [List.getD_eq_getElem?_getD, h]; rfl
def logL (xs : List Sight) : Nat → List Int
  | 0 => []
  | k + 1 => logL xs k ++ [(prevS xs (k + 1)).hour - (prevS xs k).hour - 1, sgn ((prevS xs (k + 1)).height - (prevS xs k).height)]
theorem logL_len (xs : List Sight) : ∀ k, (logL xs k).length = 2 * k
  | 0 => rfl
  | k + 1 => by rw [logL, List.length_append, logL_len xs k]; rfl
def logN (xs : List Sight) (k : Nat) : List Int := (xs.length : Int) :: logL xs k
def logP (xs : List Sight) : Pen := pen0.nums ((logN xs xs.length ++ [chk xs xs.length % 61]).map Int.toNat)
def logB (xs : List Sight) : List Int := if (logP xs).wt then ((logP xs).half 0).bs else (logP xs).bs
theorem sgn_bd {d : Int} (h : -100000 ≤ d ∧ d ≤ 100000) : 0 ≤ sgn d ∧ sgn d ≤ 200000 := by unfold sgn; split <;> omega
theorem chk_bd {xs : List Sight} (hok : ∀ x ∈ xs, sightOk x) (hl : xs.length ≤ 60) : ∀ k, k ≤ xs.length → 0 ≤ chk xs k ∧ chk xs k ≤ 7248576 * (k : Int)
  | 0, _ => ⟨Int.le_refl _, Int.le_refl _⟩
  | k + 1, hk => by
    obtain ⟨x, hx⟩ : ∃ x, xs[k]? = some x := ⟨_, List.getElem?_eq_getElem (by omega)⟩
    obtain ⟨h1, h2⟩ := chk_bd hok hl k (by omega)
    obtain ⟨⟨a1, a2⟩, b1, b2⟩ := hok x (List.mem_of_getElem? hx)
    rw [chk_succ hx]
    have h3 : 0 ≤ x.height * ((k : Int) + 1) := Int.mul_nonneg b1 (by omega)
    have h4 : x.height * ((k : Int) + 1) ≤ 100000 * 60 := Int.mul_le_mul b2 (by omega) (by omega) (by omega)
    push_cast
    omega
theorem prevS_bd {xs : List Sight} (hok : ∀ x ∈ xs, sightOk x) : ∀ k, k ≤ xs.length → (-1 ≤ (prevS xs k).hour ∧ (prevS xs k).hour ≤ 1048576) ∧ 0 ≤ (prevS xs k).height ∧ (prevS xs k).height ≤ 100000
  | 0, _ => by unfold prevS; dsimp only; omega
  | k + 1, hk => by
    obtain ⟨x, hx⟩ : ∃ x, xs[k]? = some x := ⟨_, List.getElem?_eq_getElem (by omega)⟩
    rw [prevS_succ hx]
    obtain ⟨⟨a1, a2⟩, b1, b2⟩ := hok x (List.mem_of_getElem? hx)
    omega
theorem prevS_lt {xs : List Sight} (hok : ∀ x ∈ xs, sightOk x) (ha : Asc ltSight xs xs.length) {k : Nat} (hk : k < xs.length) : (prevS xs k).hour < (prevS xs (k + 1)).hour := by
  obtain ⟨x, hx⟩ : ∃ x, xs[k]? = some x := ⟨_, List.getElem?_eq_getElem hk⟩
  rw [prevS_succ hx]
  cases k with
  | zero => have := (hok x (List.mem_of_getElem? hx)).1.1; show -1 < _; omega
  | succ k =>
    obtain ⟨y, hy⟩ : ∃ y, xs[k]? = some y := ⟨_, List.getElem?_eq_getElem (by omega)⟩
    rw [prevS_succ hy]
    exact ha k y x (by omega) hy hx
theorem logL_bd {xs : List Sight} (hok : ∀ x ∈ xs, sightOk x) (ha : Asc ltSight xs xs.length) : ∀ k, k ≤ xs.length → ∀ n ∈ logL xs k, 0 ≤ n ∧ n ≤ 2000000
  | 0, _ => fun n hn => by cases hn
  | k + 1, hk => fun n hn => by
    rw [logL] at hn
    have h0 := prevS_bd hok k (by omega)
    have h1 := prevS_bd hok (k + 1) hk
    have h2 := prevS_lt hok ha (k := k) (by omega)
    rcases List.mem_append.1 hn with hn | hn
    · exact logL_bd hok ha k (by omega) n hn
    · simp only [List.mem_cons, List.not_mem_nil, or_false] at hn
      rcases hn with rfl | rfl
      · omega
      · have := sgn_bd (d := (prevS xs (k + 1)).height - (prevS xs k).height) (by omega)
        omega
theorem logN_bd {xs : List Sight} (hok : ∀ x ∈ xs, sightOk x) (ha : Asc ltSight xs xs.length) (hl : xs.length ≤ 60) {k : Nat} (hk : k ≤ xs.length) : ∀ n ∈ logN xs k, 0 ≤ n ∧ n ≤ 2000000 := fun n hn => by
  rcases List.mem_cons.1 hn with rfl | hn
  · omega
  · exact logL_bd hok ha k hk n hn
theorem nums_room {l : List Int} (hb : ∀ n ∈ l, 0 ≤ n ∧ n ≤ 2000000) (hl : l.length ≤ 200) : (pen0.nums (l.map Int.toNat)).bs.length ≤ 4200 := by
  have := pen0.nums_len (l.map Int.toNat) (fun n hn => by
    obtain ⟨m, hm, rfl⟩ := List.mem_map.1 hn
    have := hb m hm
    omega)
  rw [List.length_map] at this
  have h0 : pen0.bs.length = 0 := rfl
  omega
theorem perm1 {α : Type} {q r : α} {l g : List α} : List.Perm (q :: (l ++ r :: g)) (r :: q :: (l ++ g)) :=
  (List.Perm.cons q List.perm_middle).trans (List.Perm.swap r q _)
theorem perm2 {α : Type} {q r s : α} {l g : List α} : List.Perm (q :: (l ++ r :: s :: g)) (r :: s :: q :: (l ++ g)) :=
  perm1.trans (List.Perm.cons r perm1)
theorem penV0 : PenV .nil pen0 := ⟨⟨rfl, rfl⟩, fun _ => rfl, ⟨by decide, fun x hx => by cases hx⟩, by decide, trivial⟩
end Go.Proofs.YtlpkiolopelpfaaDoor

/-
  A log is never empty.
-/
set_option linter.all false
namespace Go.Proofs.YtlpkiolopelpfaaDoor
open Go Go.H
def Pen.cnt (p : Pen) : Nat := 2 * p.bs.length + (if p.wt then 1 else 0)
theorem Pen.cnt_half (p : Pen) (x : Nat) : (p.half x).cnt = p.cnt + 1 := by
  unfold Pen.half Pen.cnt
  cases h : p.wt
  · simp
  · simp; omega
theorem Pen.cnt_halves (p : Pen) : ∀ l : List Nat, (p.halves l).cnt = p.cnt + l.length := fun l => by
  induction l generalizing p with
  | nil => rfl
  | cons x l ih => rw [show p.halves (x :: l) = (p.half x).halves l from rfl, ih, Pen.cnt_half, List.length_cons]; omega
theorem octs_pos {n more : Nat} : 1 ≤ (octs n more).length := by
  by_cases h : 8 ≤ n
  · rw [octs_big h, List.length_append, List.length_singleton]; omega
  · rw [octs_small h]; exact Nat.le_refl _
theorem Pen.cnt_nums (p : Pen) : ∀ l : List Nat, p.cnt + l.length ≤ (p.nums l).cnt := fun l => by
  induction l generalizing p with
  | nil => exact Nat.le_refl _
  | cons n l ih =>
    have h1 := ih (p.halves (octs n 0))
    rw [Pen.cnt_halves] at h1
    have h2 := octs_pos (n := n) (more := 0)
    rw [show p.nums (n :: l) = (p.halves (octs n 0)).nums l from rfl, List.length_cons]
    omega
theorem logP_pos (xs : List Sight) : 1 ≤ (logP xs).bs.length := by
  have h := pen0.cnt_nums ((logN xs xs.length ++ [chk xs xs.length % 61]).map Int.toNat)
  have h9 : (logN xs xs.length).length = (logL xs xs.length).length + 1 := rfl
  rw [List.length_map, List.length_append, List.length_singleton, h9] at h
  have h2 : 2 ≤ (logP xs).cnt := by unfold logP; omega
  unfold Pen.cnt at h2
  split at h2 <;> omega
theorem logP_len {xs : List Sight} (hok : ∀ x ∈ xs, sightOk x) (ha : Asc ltSight xs xs.length) (hl : xs.length ≤ 60) : (logP xs).bs.length ≤ 4200 := by
  have hc := chk_bd hok hl xs.length (Nat.le_refl _)
  refine nums_room (l := logN xs xs.length ++ [chk xs xs.length % 61]) (fun n hn => ?_) ?_
  · rcases List.mem_append.1 hn with hn | hn
    · exact logN_bd hok ha hl (Nat.le_refl _) n hn
    · rw [List.mem_singleton.1 hn]
      omega
  · rw [List.length_append, logN, List.length_cons, logL_len]; simp; omega
theorem logN_succ (xs : List Sight) (k : Nat) : logN xs (k + 1) = logN xs k ++ [(prevS xs (k + 1)).hour - (prevS xs k).hour - 1, sgn ((prevS xs (k + 1)).height - (prevS xs k).height)] := rfl
theorem half_T {p : Pen} (h : p.wt = true) (x : Nat) : (p.half x).bs.length = p.bs.length + 1 := by unfold Pen.half; rw [if_pos h]; simp
end Go.Proofs.YtlpkiolopelpfaaDoor

/-
  Half bytes read; numbers out of them.
-/
set_option linter.all false
namespace Go.Proofs.YtlpkiolopelpfaaDoor
open Go Go.H
def hvL (bs : List Int) : List Int := bs.flatMap fun b => [b / 16, b % 16]
theorem hvL_len (bs : List Int) : (hvL bs).length = 2 * bs.length := by
  induction bs with
  | nil => rfl
  | cons b bs ih => rw [show hvL (b :: bs) = b / 16 :: b % 16 :: hvL bs from rfl, List.length_cons, List.length_cons, ih, List.length_cons]; omega
theorem hvL_get {bs : List Int} {k : Nat} {b : Int} (h : bs[k]? = some b) : (hvL bs)[2 * k]? = some (b / 16) ∧ (hvL bs)[2 * k + 1]? = some (b % 16) := by
  induction bs generalizing k with
  | nil => simp at h
  | cons x bs ih =>
    rw [show hvL (x :: bs) = x / 16 :: x % 16 :: hvL bs from rfl]
    cases k with
    | zero => cases h; exact ⟨rfl, rfl⟩
    | succ k =>
      have := ih (k := k) h
      rw [show 2 * (k + 1) = 2 * k + 1 + 1 by omega, List.getElem?_cons_succ, List.getElem?_cons_succ, show 2 * k + 1 + 1 + 1 = (2 * k + 1) + 1 + 1 by omega, List.getElem?_cons_succ, List.getElem?_cons_succ]
      exact this
theorem hvL_bd {bs : List Int} (hb : ∀ b ∈ bs, 0 ≤ b ∧ b ≤ 255) : ∀ x ∈ hvL bs, 0 ≤ x ∧ x ≤ 15 := fun x hx => by
  obtain ⟨b, hbm, hx⟩ := List.mem_flatMap.1 hx
  have := hb b hbm
  simp only [List.mem_cons, List.not_mem_nil, or_false] at hx
  rcases hx with rfl | rfl <;> omega
def rdN : List Int → Nat → Int → Option (Int × List Int)
  | [], _, _ => none
  | x :: t, i, n => if i < 12 ∧ (0 < i ∨ x ≠ 8) then (if x < 8 then some (8 * n + x % 8, t) else rdN t (i + 1) (8 * n + x % 8)) else none
abbrev rd (hs : List Int) : Option (Int × List Int) := rdN hs 0 0
theorem rdN_bd {i : Nat} {n m : Int} : ∀ {hs t : List Int}, rdN hs i n = some (m, t) → (∀ x ∈ hs, 0 ≤ x ∧ x ≤ 15) → 0 ≤ n → n < 8 ^ i → (0 ≤ m ∧ m < 8 ^ 12) ∧ t.length < hs.length ∧ ∃ k, t = hs.drop k := by
  intro hs
  induction hs generalizing i n with
  | nil => intro t h; cases h
  | cons x hs ih =>
    intro t h hb h0 h1
    rw [rdN] at h
    have hx := hb x List.mem_cons_self
    split at h
    · rename_i hc
      have hp : (8 : Int) ^ (i + 1) = 8 ^ i * 8 := Int.pow_succ ..
      have hle : 8 * n + x % 8 < 8 ^ (i + 1) := by rw [hp]; omega
      have hmono : ∀ j, j ≤ 12 → (8 : Int) ^ j ≤ 8 ^ 12 := fun j hj => by
        have := Nat.pow_le_pow_right (n := 8) (by decide) hj
        exact_mod_cast this
      split at h
      · cases h
        have := hmono (i + 1) (by omega)
        refine ⟨⟨by omega, by omega⟩, by simp, 1, rfl⟩
      · obtain ⟨q1, q2, k, q3⟩ := ih h (fun y hy => hb y (List.mem_cons_of_mem _ hy)) (by omega) hle
        refine ⟨q1, by rw [List.length_cons]; omega, k + 1, q3⟩
    · cases h
theorem pow_mono {i j : Nat} (h : i ≤ j) : (8 : Int) ^ i ≤ 8 ^ j := by
  have h7 : ((8 ^ i : Nat) : Int) ≤ ((8 ^ j : Nat) : Int) := by exact_mod_cast Nat.pow_le_pow_right (n := 8) (by decide) h
  rw [Int.natCast_pow, Int.natCast_pow] at h7
  exact h7
theorem pow_bd {n : Int} {i : Nat} (h : n < 8 ^ i) (hi : i ≤ 12) : n < 68719476736 :=
  Int.lt_of_lt_of_le h (Int.le_trans (pow_mono hi) (by decide))
theorem rd_bd {m : Int} {hs t : List Int} (h : rd hs = some (m, t)) (hb : ∀ x ∈ hs, 0 ≤ x ∧ x ≤ 15) : (0 ≤ m ∧ m < 68719476736) ∧ t.length < hs.length ∧ ∀ x ∈ t, 0 ≤ x ∧ x ≤ 15 := by
  obtain ⟨q1, q2, k, rfl⟩ := rdN_bd h hb (Int.le_refl _) (by decide)
  exact ⟨⟨q1.1, by have := q1.2; simpa using this⟩, q2, fun x hx => hb x (List.mem_of_mem_drop hx)⟩
abbrev mis : List PanicEntry := [{ v := .iface 108 (.agg #[.int .i64 8]), recovered := false }]
def eEye (a : Option Addr) (c tot : Nat) (hs : List Int) : List Value := [.slice a hs.length c, I ((tot : Int) - hs.length)]
structure EyeV (h : Hp) (a : Option Addr) (c tot : Nat) (hs : List Int) : Prop where
  sl : SlV h 1 eB a hs
  cap : hs.length ≤ c
  tot : hs.length ≤ tot
  bd : ∀ x ∈ hs, 0 ≤ x ∧ x ≤ 15
theorem EyeV.sub {h g : Hp} {a : Option Addr} {c tot : Nat} {hs : List Int} (H : EyeV h a c tot hs) (hs' : h ⊆ g) : EyeV g a c tot hs := ⟨H.sl.sub hs', H.cap, H.tot, H.bd⟩
theorem bits_lo {x : Int} (h : 0 ≤ x ∧ x ≤ 15) : IntKind.u8.wrap (((BitVec.ofInt IntKind.u8.bits x &&& BitVec.ofInt IntKind.u8.bits 7).toNat : Nat) : Int) = x % 8 := by
  have h9 : ∀ a : Fin 16, IntKind.u8.wrap (((BitVec.ofInt IntKind.u8.bits ((a : Nat) : Int) &&& BitVec.ofInt IntKind.u8.bits 7).toNat : Nat) : Int) = ((a : Nat) : Int) % 8 := by decide +kernel
  have := h9 ⟨x.toNat, by omega⟩
  simp only [Int.toNat_of_nonneg h.1] at this
  exact this
theorem bits_15 {x : Int} (h : 0 ≤ x ∧ x ≤ 255) : IntKind.u8.wrap (((BitVec.ofInt IntKind.u8.bits x &&& BitVec.ofInt IntKind.u8.bits 15).toNat : Nat) : Int) = x % 16 := by
  have h9 : ∀ a : Fin 256, IntKind.u8.wrap (((BitVec.ofInt IntKind.u8.bits ((a : Nat) : Int) &&& BitVec.ofInt IntKind.u8.bits 15).toNat : Nat) : Int) = ((a : Nat) : Int) % 16 := by decide +kernel
  have := h9 ⟨x.toNat, by omega⟩
  simp only [Int.toNat_of_nonneg h.1] at this
  exact this
theorem shr4 {x : Int} (h : 0 ≤ x) : x.fdiv (2 ^ 4) = x / 16 := Int.fdiv_eq_ediv_of_nonneg _ (by decide)
end Go.Proofs.YtlpkiolopelpfaaDoor

/-
  A log read.
-/
set_option linter.all false
namespace Go.Proofs.YtlpkiolopelpfaaDoor
open Go Go.H
theorem perm_rd {α : Type} {e l b q : α} {v h : List α} : List.Perm (e :: l :: b :: q :: (v ++ h)) (b :: q :: (v ++ e :: l :: h)) :=
  by
    refine List.Perm.trans (l₂ := b :: q :: e :: l :: (v ++ h)) ?_ (List.Perm.cons b (List.Perm.cons q ?_))
    · exact (List.perm_append_comm (l₁ := [e, l]) (l₂ := [b, q])).append_right (v ++ h)
    · exact ((List.perm_append_comm (l₁ := [e, l]) (l₂ := v)).append_right h).trans (by simp)
theorem perm1' {α : Type} {q r : α} {l g : List α} : List.Perm (q :: (l ++ r :: g)) (l ++ r :: q :: g) :=
  by simpa using (List.perm_middle (a := q) (l₁ := l ++ [r]) (l₂ := g)).symm
def nxS (x : Sight) (p d : Int) : Sight := ⟨x.hour + (p + 1), if d % 2 = 0 then x.height + d / 2 else x.height - (d + 1) / 2⟩
def rdA : Nat → List Sight → Sight → List Int → Option (List Sight × List Int)
  | 0, acc, _, hs => some (acc, hs)
  | k + 1, acc, x, hs => match rd hs with
    | none => none
    | some (p, t) => match rd t with
      | none => none
      | some (d, t2) => rdA k (acc ++ [nxS x p d]) (nxS x p d) t2
theorem rdA_0 {k : Nat} {acc : List Sight} {x : Sight} {hs : List Int} (h : rd hs = none) : rdA (k + 1) acc x hs = none := by rw [rdA, h]
theorem rdA_1 {k : Nat} {acc : List Sight} {x : Sight} {hs t : List Int} {p : Int} (h : rd hs = some (p, t)) (h2 : rd t = none) : rdA (k + 1) acc x hs = none := by rw [rdA, h]; dsimp only; rw [h2]
theorem rdA_2 {k : Nat} {acc : List Sight} {x : Sight} {hs t t2 : List Int} {p d : Int} (h : rd hs = some (p, t)) (h2 : rd t = some (d, t2)) : rdA (k + 1) acc x hs = rdA k (acc ++ [nxS x p d]) (nxS x p d) t2 := by rw [rdA, h]; dsimp only; rw [h2]
def endOk (n : Nat) : List Int → Bool
  | [] => decide (n % 2 = 0)
  | [x] => decide (n % 2 = 1) && decide (x = 0)
  | _ => false
theorem end_1 {n : Nat} (h : ((n : Int) - (([] : List Int).length : Nat)) % 2 = 1) : ¬ endOk (n - ([] : List Int).length) [] = true := by
  simp only [List.length_nil] at h
  simp [endOk]; omega
theorem end_2 {n : Nat} {x : Int} {t : List Int} (hx : x ≠ 0) : ¬ endOk n (x :: t) = true := by
  cases t <;> simp [endOk, hx]
theorem end_3 {n : Nat} {x : Int} {t : List Int} (ht : t.length ≠ 0) : ¬ endOk n (x :: t) = true := by
  cases t with
  | nil => simp at ht
  | cons y t => simp [endOk]
theorem end_4 {n : Nat} {t : List Int} (hl : t.length ≤ n) (h : ¬ ((n : Int) - (t.length : Nat)) % 2 = 1) (ht : t.length ≠ 0) : ¬ endOk (n - t.length) t = true := by
  match t, hl, h, ht with
  | [x], hl, h, _ => simp [endOk] at h ⊢; simp at hl; omega
  | _ :: _ :: _, _, _, _ => simp [endOk]
theorem end_5 {n : Nat} {x : Int} {t : List Int} (hl : (x :: t).length ≤ n) (h : ((n : Int) - ((x :: t).length : Nat)) % 2 = 1) (hx : x = 0) (ht : t.length = 0) : endOk (n - (x :: t).length) (x :: t) = true := by
  obtain rfl : t = [] := List.length_eq_zero_iff.1 ht
  subst hx
  simp [endOk] at h hl ⊢; omega
theorem end_6 {n : Nat} {t : List Int} (h : ¬ ((n : Int) - (t.length : Nat)) % 2 = 1) (ht : t.length = 0) : endOk (n - t.length) t = true := by
  obtain rfl : t = [] := List.length_eq_zero_iff.1 ht
  simp [endOk] at h ⊢; omega
open Classical in
noncomputable def rdLog (hs : List Int) : Option (List Sight) := match rd hs with
  | none => none
  | some (cnt, t) => if cnt ≤ 60 then (match rdA cnt.toNat [] ⟨-1, 0⟩ t with
    | none => none
    | some (l, t2) => if errL 60 sightOk ltSight l = 0 then (match rd t2 with
      | none => none
      | some (c, t3) => if c = chk l l.length % 61 ∧ endOk (hs.length - t3.length) t3 = true then some l else none) else none) else none
section
variable {hs t t2 t3 : List Int} {cnt c : Int} {l : List Sight}
theorem rdLog_0 (h : rd hs = none) : rdLog hs = none := by unfold rdLog; rw [h]
theorem rdLog_1 (h : rd hs = some (cnt, t)) (h2 : ¬ cnt ≤ 60) : rdLog hs = none := by unfold rdLog; rw [h]; exact if_neg h2
theorem rdLog_2 (h : rd hs = some (cnt, t)) (h2 : cnt ≤ 60) (h3 : rdA cnt.toNat [] ⟨-1, 0⟩ t = none) : rdLog hs = none := by unfold rdLog; rw [h]; dsimp only; rw [if_pos h2, h3]
theorem rdLog_3 (h : rd hs = some (cnt, t)) (h2 : cnt ≤ 60) (h3 : rdA cnt.toNat [] ⟨-1, 0⟩ t = some (l, t2)) (h4 : ¬ errL 60 sightOk ltSight l = 0) : rdLog hs = none := by unfold rdLog; rw [h]; dsimp only; rw [if_pos h2, h3]; exact if_neg h4
theorem rdLog_4 (h : rd hs = some (cnt, t)) (h2 : cnt ≤ 60) (h3 : rdA cnt.toNat [] ⟨-1, 0⟩ t = some (l, t2)) (h4 : errL 60 sightOk ltSight l = 0) (h5 : rd t2 = none) : rdLog hs = none := by unfold rdLog; rw [h]; dsimp only; rw [if_pos h2, h3]; dsimp only; rw [if_pos h4, h5]
theorem rdLog_5 (h : rd hs = some (cnt, t)) (h2 : cnt ≤ 60) (h3 : rdA cnt.toNat [] ⟨-1, 0⟩ t = some (l, t2)) (h4 : errL 60 sightOk ltSight l = 0) (h5 : rd t2 = some (c, t3)) (h6 : ¬ (c = chk l l.length % 61 ∧ endOk (hs.length - t3.length) t3 = true)) : rdLog hs = none := by unfold rdLog; rw [h]; dsimp only; rw [if_pos h2, h3]; dsimp only; rw [if_pos h4, h5]; exact if_neg h6
theorem rdLog_6 (h : rd hs = some (cnt, t)) (h2 : cnt ≤ 60) (h3 : rdA cnt.toNat [] ⟨-1, 0⟩ t = some (l, t2)) (h4 : errL 60 sightOk ltSight l = 0) (h5 : rd t2 = some (c, t3)) (h6 : c = chk l l.length % 61 ∧ endOk (hs.length - t3.length) t3 = true) : rdLog hs = some l := by unfold rdLog; rw [h]; dsimp only; rw [if_pos h2, h3]; dsimp only; rw [if_pos h4, h5]; exact if_pos h6
end
end Go.Proofs.YtlpkiolopelpfaaDoor

/-
  The reference's way to the bytes of a log: all half bytes first.
-/
set_option linter.all false
namespace Go.Proofs.YtlpkiolopelpfaaDoor
open Go Go.H
def pk : List Nat → List Int
  | a :: b :: l => ((16 * a + b : Nat) : Int) :: pk l
  | _ => []
theorem pk_app : ∀ {l : List Nat} (m : List Nat), l.length % 2 = 0 → pk (l ++ m) = pk l ++ pk m
  | [], m, _ => rfl
  | [_], m, h => by simp at h
  | a :: b :: l, m, h => by
    rw [List.cons_append, List.cons_append, pk, pk, pk_app m (by simp at h; omega)]; rfl
theorem halves_pk : ∀ l : List Nat, (pen0.halves l).bs = pk l ∧ (pen0.halves l).wt = decide (l.length % 2 = 1) ∧ (l.length % 2 = 1 → ∃ m x, l = m ++ [x] ∧ (pen0.halves l).up = x ∧ pk l = pk m ∧ m.length % 2 = 0) := by
  intro l
  obtain ⟨n, hn⟩ : ∃ n, l.length = n := ⟨_, rfl⟩
  induction n generalizing l with
  | zero => obtain rfl := List.length_eq_zero_iff.1 hn; exact ⟨rfl, rfl, fun h => by simp at h⟩
  | succ n ih =>
    obtain ⟨m, x, rfl⟩ : ∃ m x, l = m ++ [x] := ⟨l.dropLast, l.getLast (fun h => by subst h; simp at hn), (List.dropLast_concat_getLast _).symm⟩
    have hm : m.length = n := by simpa using hn
    obtain ⟨h1, h2, h3⟩ := ih m hm
    have e : pen0.halves (m ++ [x]) = (pen0.halves m).half x := by rw [Pen.halves_app]; rfl
    rw [e]
    by_cases hw : m.length % 2 = 1
    · obtain ⟨m', y, rfl, hu, hp, he⟩ := h3 hw
      have hwt : (pen0.halves (m' ++ [y])).wt = true := by rw [h2]; exact decide_eq_true hw
      unfold Pen.half
      rw [if_pos hwt]
      dsimp only
      rw [h1, hu, hp]
      refine ⟨?_, ?_, fun h => ?_⟩
      · rw [List.append_assoc, pk_app _ he]; rfl
      · rw [List.length_append, List.length_singleton, decide_eq_false (by omega)]
      · rw [List.length_append, List.length_singleton] at h; omega
    · have hwt : (pen0.halves m).wt = false := by rw [h2]; exact decide_eq_false hw
      have ev : m.length % 2 = 0 := by omega
      unfold Pen.half
      rw [hwt]
      simp only [Bool.false_eq_true, if_false]
      have e2 : pk (m ++ [x]) = pk m := by rw [pk_app _ ev]; simp [pk]
      refine ⟨by rw [h1, e2], ?_, fun _ => ⟨m, x, rfl, rfl, e2, ev⟩⟩
      rw [List.length_append, List.length_singleton, decide_eq_true (by omega)]
theorem nums_halves (p : Pen) : ∀ l : List Nat, p.nums l = p.halves (l.flatMap fun n => octs n 0) := fun l => by
  induction l generalizing p with
  | nil => rfl
  | cons n l ih => rw [List.flatMap_cons, Pen.halves_app, ← ih]; rfl
def logA (xs : List Sight) : List Int := logN xs xs.length ++ [chk xs xs.length % 61]
def hvA (l : List Int) : List Nat := l.flatMap fun n => octs n.toNat 0
def padL (l : List Nat) : List Nat := if l.length % 2 = 1 then l ++ [0] else l
theorem padL_even (l : List Nat) : (padL l).length % 2 = 0 := by
  unfold padL
  split
  · rw [List.length_append, List.length_singleton]; omega
  · omega
theorem logB_eq (xs : List Sight) : logB xs = pk (padL (hvA (logA xs))) := by
  have e : logP xs = pen0.halves (hvA (logA xs)) := by
    unfold logP hvA logA
    rw [nums_halves, List.flatMap_map]
  obtain ⟨h1, h2, h3⟩ := halves_pk (hvA (logA xs))
  unfold logB padL
  rw [e, h2]
  by_cases hw : (hvA (logA xs)).length % 2 = 1
  · rw [if_pos (decide_eq_true hw), if_pos hw]
    obtain ⟨h4, _, _⟩ := halves_pk (hvA (logA xs) ++ [0])
    rw [← h4, Pen.halves_app]; rfl
  · rw [if_neg (by simpa using hw), if_neg hw, h1]
theorem hvA_lt (l : List Int) : ∀ x ∈ hvA l, x < 16 := fun x hx => by
  obtain ⟨n, _, hx⟩ := List.mem_flatMap.1 hx
  exact octs_lt (.inl rfl) x hx
theorem logA_bd {xs : List Sight} (hok : ∀ x ∈ xs, sightOk x) (ha : Asc ltSight xs xs.length) (hl : xs.length ≤ 60) : ∀ n ∈ logA xs, 0 ≤ n ∧ n ≤ 2000000 := fun n hn => by
  have hc := chk_bd hok hl xs.length (Nat.le_refl _)
  rcases List.mem_append.1 hn with hn | hn
  · exact logN_bd hok ha hl (Nat.le_refl _) n hn
  · rw [List.mem_singleton.1 hn]; omega
theorem padL_lt {l : List Nat} (h : ∀ x ∈ l, x < 16) : ∀ x ∈ padL l, x < 16 := fun x hx => by
  unfold padL at hx
  split at hx
  · rcases List.mem_append.1 hx with hx | hx
    · exact h x hx
    · rw [List.mem_singleton.1 hx]; decide
  · exact h x hx
end Go.Proofs.YtlpkiolopelpfaaDoor

/-
  A log that is written and read is what it was; and no other bytes are read.
-/
set_option linter.all false
namespace Go.Proofs.YtlpkiolopelpfaaDoor
open Go Go.H
abbrev cs (l : List Nat) : List Int := l.map fun z : Nat => (z : Int)
theorem cs_app (l m : List Nat) : cs (l ++ m) = cs l ++ cs m := List.map_append
theorem rdN_octs8 : ∀ n : Nat, 1 ≤ n → ∀ (j : Nat) (t : List Int), n < 8 ^ j → j ≤ 11 → ∃ i, 1 ≤ i ∧ i ≤ j ∧ rdN (cs (octs n 8) ++ t) 0 0 = rdN t i n := by
  intro n
  induction n using Nat.strongRecOn with
  | _ n ih =>
    intro h1 j t hj hj11
    by_cases h : 8 ≤ n
    · obtain ⟨j', rfl⟩ : ∃ j', j = j' + 1 := ⟨j - 1, by
        rcases Nat.eq_zero_or_pos j with h0 | h0
        · subst h0; omega
        · omega⟩
      have hk : n / 8 < 8 ^ j' := by rw [Nat.pow_succ] at hj; omega
      obtain ⟨i, i1, i2, hi⟩ := ih (n / 8) (by omega) (by omega) j' (((n % 8 + 8 : Nat) : Int) :: t) hk (by omega)
      refine ⟨i + 1, by omega, by omega, ?_⟩
      rw [octs_big h, cs_app, List.append_assoc]
      show rdN (cs (octs (n / 8) 8) ++ (((n % 8 + 8 : Nat) : Int) :: t)) 0 0 = _
      rw [hi, rdN, if_pos ⟨by omega, .inl (by omega)⟩, if_neg (by omega)]
      congr 1
      omega
    · refine ⟨1, Nat.le_refl _, ?_, ?_⟩
      · rcases Nat.eq_zero_or_pos j with h0 | h0
        · subst h0; omega
        · exact h0
      · rw [octs_small h]
        show rdN (((n % 8 + 8 : Nat) : Int) :: t) 0 0 = _
        rw [rdN, if_pos ⟨by decide, .inr (by omega)⟩, if_neg (by omega)]
        congr 1
        omega
theorem rd_octs {n : Nat} (h : n ≤ 2000000) (t : List Int) : rd (cs (octs n 0) ++ t) = some ((n : Int), t) := by
  by_cases h8 : 8 ≤ n
  · obtain ⟨i, i1, i2, hi⟩ := rdN_octs8 (n / 8) (by omega) 7 (((n % 8 + 0 : Nat) : Int) :: t) (by omega) (by decide)
    rw [octs_big h8, cs_app, List.append_assoc]
    show rdN (cs (octs (n / 8) 8) ++ (((n % 8 + 0 : Nat) : Int) :: t)) 0 0 = _
    rw [hi, rdN, if_pos ⟨by omega, .inl (by omega)⟩, if_pos (by omega)]
    congr 2
    omega
  · rw [octs_small h8]
    show rdN (((n % 8 + 0 : Nat) : Int) :: t) 0 0 = _
    rw [rdN, if_pos ⟨by decide, .inr (by omega)⟩, if_pos (by omega)]
    congr 2
    omega
def strS : Sight → List Sight → List Int
  | _, [] => []
  | p, x :: xs => (x.hour - p.hour - 1) :: sgn (x.height - p.height) :: strS x xs
theorem strS_snoc : ∀ (p : Sight) (xs : List Sight) (x : Sight), strS p (xs ++ [x]) = strS p xs ++ [x.hour - ((xs.getLast?).getD p).hour - 1, sgn (x.height - ((xs.getLast?).getD p).height)]
  | p, [], x => rfl
  | p, y :: xs, x => by
    show _ :: _ :: strS y (xs ++ [x]) = _
    rw [strS_snoc y xs x]
    have e : ((y :: xs).getLast?).getD p = (xs.getLast?).getD y := by cases xs <;> simp [List.getLast?_cons]
    rw [e]; rfl
theorem logL_str (xs : List Sight) : ∀ k, k ≤ xs.length → logL xs k = strS ⟨-1, 0⟩ (xs.take k)
  | 0, _ => by simp [logL, strS]
  | k + 1, hk => by
    obtain ⟨x, hx⟩ : ∃ x, xs[k]? = some x := ⟨_, List.getElem?_eq_getElem (by omega)⟩
    have e : ((xs.take k).getLast?).getD ⟨-1, 0⟩ = prevS xs k := by
      cases k with
      | zero => simp [prevS]
      | succ k =>
        obtain ⟨y, hy⟩ : ∃ y, xs[k]? = some y := ⟨_, List.getElem?_eq_getElem (by omega)⟩
        rw [prevS_succ hy, List.take_add_one, hy]; simp
    rw [logL, logL_str xs k (by omega), List.take_add_one, hx, show (some x).toList = [x] from rfl, strS_snoc, e, prevS_succ hx]
theorem logA_str (xs : List Sight) : logA xs = (xs.length : Int) :: (strS ⟨-1, 0⟩ xs ++ [chk xs xs.length % 61]) := by
  unfold logA logN
  rw [logL_str xs xs.length (Nat.le_refl _), List.take_length]; rfl
theorem nxS_of (p x : Sight) : nxS p (x.hour - p.hour - 1) (sgn (x.height - p.height)) = x := by
  unfold nxS sgn
  have : p.hour + (x.hour - p.hour - 1 + 1) = x.hour := by omega
  cases x with
  | mk a b =>
    simp only [Sight.mk.injEq]
    refine ⟨by omega, ?_⟩
    split <;> split <;> omega
theorem hvA_cons (n : Int) (l : List Int) : hvA (n :: l) = octs n.toNat 0 ++ hvA l := rfl
theorem hvA_app (l m : List Int) : hvA (l ++ m) = hvA l ++ hvA m := by unfold hvA; rw [List.flatMap_append]
theorem rdA_str : ∀ (xs acc : List Sight) (p : Sight) (t : List Int), (∀ n ∈ strS p xs, 0 ≤ n ∧ n ≤ 2000000) → rdA xs.length acc p (cs (hvA (strS p xs)) ++ t) = some (acc ++ xs, t)
  | [], acc, p, t, _ => by simp [rdA, strS, hvA]
  | x :: xs, acc, p, t, hb => by
    have h1 := hb (x.hour - p.hour - 1) List.mem_cons_self
    have h2 := hb (sgn (x.height - p.height)) (List.mem_cons_of_mem _ List.mem_cons_self)
    rw [show strS p (x :: xs) = (x.hour - p.hour - 1) :: sgn (x.height - p.height) :: strS x xs from rfl, hvA_cons, hvA_cons, cs_app, cs_app, List.append_assoc, List.append_assoc, List.length_cons]
    have r1 := rd_octs (n := (x.hour - p.hour - 1).toNat) (by omega) (cs (octs (sgn (x.height - p.height)).toNat 0) ++ (cs (hvA (strS x xs)) ++ t))
    have r2 := rd_octs (n := (sgn (x.height - p.height)).toNat) (by omega) (cs (hvA (strS x xs)) ++ t)
    rw [Int.toNat_of_nonneg h1.1] at r1
    rw [Int.toNat_of_nonneg h2.1] at r2
    rw [rdA_2 r1 r2, nxS_of, rdA_str xs (acc ++ [x]) x t fun n hn => hb n (List.mem_cons_of_mem _ (List.mem_cons_of_mem _ hn))]
    simp
theorem hvL_pk : ∀ {l : List Nat}, l.length % 2 = 0 → (∀ x ∈ l, x < 16) → hvL (pk l) = cs l
  | [], _, _ => rfl
  | [_], h, _ => by simp at h
  | a :: b :: l, h, hb => by
    have ha := hb a List.mem_cons_self
    have hb' := hb b (List.mem_cons_of_mem _ List.mem_cons_self)
    rw [pk, show hvL (((16 * a + b : Nat) : Int) :: pk l) = ((16 * a + b : Nat) : Int) / 16 :: ((16 * a + b : Nat) : Int) % 16 :: hvL (pk l) from rfl, hvL_pk (by simp at h; omega) fun x hx => hb x (List.mem_cons_of_mem _ (List.mem_cons_of_mem _ hx))]
    show _ = ((a : Nat) : Int) :: ((b : Nat) : Int) :: cs l
    congr 1
    · omega
    · congr 1; omega
end Go.Proofs.YtlpkiolopelpfaaDoor

/-
  The reference reads what the program reads.
-/
set_option linter.all false
namespace Go.Proofs.YtlpkiolopelpfaaDoor
open Go Go.H
def refP : List Int → Int → List Int
  | [], _ => []
  | h :: t, n => if h < 8 then min 1073741824 (8 * n + h % 8) :: refP t 0 else refP t (min 1073741824 (8 * n + h % 8))
theorem padL_cs (l : List Nat) : ∃ p : List Int, cs (padL l) = cs l ++ p ∧ endOk l.length p = true ∧ (p = [] ∨ p = [0]) := by
  unfold padL
  split
  · exact ⟨[0], by rw [cs_app]; rfl, by simp [endOk]; assumption, .inr rfl⟩
  · exact ⟨[], by simp, by simp [endOk]; omega, .inl rfl⟩
section
variable {l : List Sight} (he : errL 60 sightOk ltSight l = 0)
include he
theorem log_bd : ∀ n ∈ logA l, 0 ≤ n ∧ n ≤ 2000000 := by
  obtain ⟨h1, h2, h3⟩ := errL_is he
  exact logA_bd h2 h3 h1
theorem hv_log : hvL (logB l) = cs (padL (hvA (logA l))) := by
  rw [logB_eq]
  exact hvL_pk (padL_even _) (padL_lt (hvA_lt _))
theorem rd_log : rdLog (hvL (logB l)) = some l := by
  obtain ⟨h1, h2, h3⟩ := errL_is he
  have hb := log_bd he
  obtain ⟨p, hp, hend, hp0⟩ := padL_cs (hvA (logA l))
  have hs : hvL (logB l) = cs (octs l.length 0) ++ (cs (hvA (strS ⟨-1, 0⟩ l)) ++ (cs (octs (chk l l.length % 61).toNat 0) ++ p)) := by
    rw [hv_log he, hp, logA_str, hvA_cons, hvA_app, cs_app, cs_app, List.append_assoc, List.append_assoc, Int.toNat_natCast]
    congr 3
    simp [hvA]
  have hc := chk_bd h2 h1 l.length (Nat.le_refl _)
  have r1 := rd_octs (n := l.length) (by omega) (cs (hvA (strS ⟨-1, 0⟩ l)) ++ (cs (octs (chk l l.length % 61).toNat 0) ++ p))
  rw [← hs] at r1
  have r2 := rdA_str l [] ⟨-1, 0⟩ (cs (octs (chk l l.length % 61).toNat 0) ++ p) fun n hn => hb n (by rw [logA_str]; exact List.mem_cons_of_mem _ (List.mem_append_left _ hn))
  have r3 := rd_octs (n := (chk l l.length % 61).toNat) (by omega) p
  rw [Int.toNat_of_nonneg (by omega)] at r3
  refine rdLog_6 r1 (by omega) (by rw [Int.toNat_natCast]; exact r2) he r3 ⟨rfl, ?_⟩
  have e : (hvL (logB l)).length - p.length = (hvA (logA l)).length := by
    rw [hv_log he, hp, List.length_append, List.length_map]; omega
  rw [e]; exact hend
end
end Go.Proofs.YtlpkiolopelpfaaDoor
