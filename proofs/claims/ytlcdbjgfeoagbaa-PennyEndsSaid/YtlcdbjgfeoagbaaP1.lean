/-
  Facts on the types and functions of this seat.
-/
import Derived.Test.YtlcdbjgfeoagbaaHG
import Derived.Test.YtlcdbjgfeoagbaaProg
import Derived.KernelRfl
import Derived.Sort.AssemblyPlain
import Derived.Sort.LotD1
import Derived.Scope
namespace Go.Proofs.Ytlcdbjgfeoagbaa
open Go.H
open Go
theorem ty3 : TyOk Try.prog 3 ⟨1, 8, (Go.TypeDesc.int Go.IntKind.i64), (Go.Value.int Go.IntKind.i64 0)⟩ := ⟨Try.underlying3, by kernel_rfl⟩
theorem ty4 : TyOk Try.prog 4 ⟨1, 1, Go.TypeDesc.bool, (Go.Value.bool false)⟩ := ⟨Try.underlying4, by kernel_rfl⟩
theorem ty22 : TyOk Try.prog 22 ⟨1, 24, (Go.TypeDesc.slice 54), (Go.Value.slice none 0 0)⟩ := ⟨Try.underlying22, by kernel_rfl⟩
theorem ty23 : TyOk Try.prog 23 ⟨1, 24, (Go.TypeDesc.slice 42), (Go.Value.slice none 0 0)⟩ := ⟨Try.underlying23, by kernel_rfl⟩
theorem ty25 : TyOk Try.prog 25 ⟨6, 80, (Go.TypeDesc.struct #[{ name := "Start", type := 3, offset := 0, embedded := false, tag := "", pkgPath := "", byteOffset := 0 }, { name := "Hold", type := 3, offset := 1, embedded := false, tag := "", pkgPath := "", byteOffset := 8 }, { name := "Coins", type := 3, offset := 2, embedded := false, tag := "", pkgPath := "", byteOffset := 16 }, { name := "Now", type := 3, offset := 3, embedded := false, tag := "", pkgPath := "", byteOffset := 24 }, { name := "Tariffs", type := 22, offset := 4, embedded := false, tag := "", pkgPath := "", byteOffset := 32 }, { name := "Marks", type := 23, offset := 5, embedded := false, tag := "", pkgPath := "", byteOffset := 56 }]), (Go.Value.agg #[Go.Value.int Go.IntKind.i64 0, Go.Value.int Go.IntKind.i64 0, Go.Value.int Go.IntKind.i64 0, Go.Value.int Go.IntKind.i64 0, Go.Value.slice none 0 0, Go.Value.slice none 0 0])⟩ := ⟨Try.underlying25, by kernel_rfl⟩
theorem ty26 : TyOk Try.prog 26 ⟨1, 24, (Go.TypeDesc.slice 3), (Go.Value.slice none 0 0)⟩ := ⟨Try.underlying26, by kernel_rfl⟩
theorem ty29 : TyOk Try.prog 29 ⟨2, 16, (Go.TypeDesc.struct #[{ name := "Lo", type := 3, offset := 0, embedded := false, tag := "", pkgPath := "", byteOffset := 0 }, { name := "Hi", type := 3, offset := 1, embedded := false, tag := "", pkgPath := "", byteOffset := 8 }]), (Go.Value.agg #[Go.Value.int Go.IntKind.i64 0, Go.Value.int Go.IntKind.i64 0])⟩ := ⟨Try.underlying29, by kernel_rfl⟩
theorem ty30 : TyOk Try.prog 30 ⟨2, 16, (Go.TypeDesc.struct #[{ name := "Lo", type := 3, offset := 0, embedded := false, tag := "", pkgPath := "", byteOffset := 0 }, { name := "Hi", type := 3, offset := 1, embedded := false, tag := "", pkgPath := "", byteOffset := 8 }]), (Go.Value.agg #[Go.Value.int Go.IntKind.i64 0, Go.Value.int Go.IntKind.i64 0])⟩ := ⟨Try.underlying30, by kernel_rfl⟩
theorem ty35 : TyOk Try.prog 35 ⟨1, 24, (Go.TypeDesc.slice 30), (Go.Value.slice none 0 0)⟩ := ⟨Try.underlying35, by kernel_rfl⟩
theorem ty42 : TyOk Try.prog 42 ⟨2, 16, (Go.TypeDesc.struct #[{ name := "Hour", type := 3, offset := 0, embedded := false, tag := "", pkgPath := "", byteOffset := 0 }, { name := "Used", type := 3, offset := 1, embedded := false, tag := "", pkgPath := "", byteOffset := 8 }]), (Go.Value.agg #[Go.Value.int Go.IntKind.i64 0, Go.Value.int Go.IntKind.i64 0])⟩ := ⟨Try.underlying42, by kernel_rfl⟩
theorem ty54 : TyOk Try.prog 54 ⟨2, 16, (Go.TypeDesc.struct #[{ name := "From", type := 3, offset := 0, embedded := false, tag := "", pkgPath := "", byteOffset := 0 }, { name := "Feet", type := 3, offset := 1, embedded := false, tag := "", pkgPath := "", byteOffset := 8 }]), (Go.Value.agg #[Go.Value.int Go.IntKind.i64 0, Go.Value.int Go.IntKind.i64 0])⟩ := ⟨Try.underlying54, by kernel_rfl⟩
theorem ty55 : TyOk Try.prog 55 ⟨1, 24, (Go.TypeDesc.slice 4), (Go.Value.slice none 0 0)⟩ := ⟨Try.underlying55, by kernel_rfl⟩
theorem ty56 : TyOk Try.prog 56 ⟨1, 8, (Go.TypeDesc.func #[3, 26] #[4] false), Go.Value.nilFunc⟩ := ⟨Try.underlying56, by kernel_rfl⟩
theorem ty60 : TyOk Try.prog 60 ⟨1, 8, (Go.TypeDesc.pointer 70), (Go.Value.pointer none)⟩ := ⟨Try.underlying60, by kernel_rfl⟩
theorem ty79 : TyOk Try.prog 79 ⟨10, 80, (Go.TypeDesc.array 5 30), (Go.Value.agg #[Go.Value.int Go.IntKind.i64 0, Go.Value.int Go.IntKind.i64 0, Go.Value.int Go.IntKind.i64 0, Go.Value.int Go.IntKind.i64 0, Go.Value.int Go.IntKind.i64 0, Go.Value.int Go.IntKind.i64 0, Go.Value.int Go.IntKind.i64 0, Go.Value.int Go.IntKind.i64 0, Go.Value.int Go.IntKind.i64 0, Go.Value.int Go.IntKind.i64 0])⟩ := ⟨Try.underlying79, by kernel_rfl⟩
theorem ty100 : TyOk Try.prog 100 ⟨1, 8, (Go.TypeDesc.func #[103, 3] #[] false), Go.Value.nilFunc⟩ := ⟨Try.underlying100, by kernel_rfl⟩
theorem ty101 : TyOk Try.prog 101 ⟨1, 8, (Go.TypeDesc.func #[3, 3, 3, 103] #[] false), Go.Value.nilFunc⟩ := ⟨Try.underlying101, by kernel_rfl⟩
theorem ty103 : TyOk Try.prog 103 ⟨5, 40, (Go.TypeDesc.array 5 3), (Go.Value.agg #[Go.Value.int Go.IntKind.i64 0, Go.Value.int Go.IntKind.i64 0, Go.Value.int Go.IntKind.i64 0, Go.Value.int Go.IntKind.i64 0, Go.Value.int Go.IntKind.i64 0])⟩ := ⟨Try.underlying103, by kernel_rfl⟩
theorem fl25_0 : FldOk Try.prog 25 0 0 1 false := ⟨_, _, Try.underlying25, rfl, rfl, _, ty3, rfl, rfl⟩
theorem fl25_1 : FldOk Try.prog 25 1 1 1 false := ⟨_, _, Try.underlying25, rfl, rfl, _, ty3, rfl, rfl⟩
theorem fl25_2 : FldOk Try.prog 25 2 2 1 false := ⟨_, _, Try.underlying25, rfl, rfl, _, ty3, rfl, rfl⟩
theorem fl25_3 : FldOk Try.prog 25 3 3 1 false := ⟨_, _, Try.underlying25, rfl, rfl, _, ty3, rfl, rfl⟩
theorem fl25_4 : FldOk Try.prog 25 4 4 1 false := ⟨_, _, Try.underlying25, rfl, rfl, _, ty22, rfl, rfl⟩
theorem fl25_5 : FldOk Try.prog 25 5 5 1 false := ⟨_, _, Try.underlying25, rfl, rfl, _, ty23, rfl, rfl⟩
theorem fl29_0 : FldOk Try.prog 29 0 0 1 false := ⟨_, _, Try.underlying29, rfl, rfl, _, ty3, rfl, rfl⟩
theorem fl29_1 : FldOk Try.prog 29 1 1 1 false := ⟨_, _, Try.underlying29, rfl, rfl, _, ty3, rfl, rfl⟩
theorem fl30_0 : FldOk Try.prog 30 0 0 1 false := ⟨_, _, Try.underlying30, rfl, rfl, _, ty3, rfl, rfl⟩
theorem fl30_1 : FldOk Try.prog 30 1 1 1 false := ⟨_, _, Try.underlying30, rfl, rfl, _, ty3, rfl, rfl⟩
theorem fl42_0 : FldOk Try.prog 42 0 0 1 false := ⟨_, _, Try.underlying42, rfl, rfl, _, ty3, rfl, rfl⟩
theorem fl42_1 : FldOk Try.prog 42 1 1 1 false := ⟨_, _, Try.underlying42, rfl, rfl, _, ty3, rfl, rfl⟩
theorem fl54_0 : FldOk Try.prog 54 0 0 1 false := ⟨_, _, Try.underlying54, rfl, rfl, _, ty3, rfl, rfl⟩
theorem fl54_1 : FldOk Try.prog 54 1 1 1 false := ⟨_, _, Try.underlying54, rfl, rfl, _, ty3, rfl, rfl⟩
theorem fl70_0 : FldOk Try.prog 70 0 0 6 true := ⟨_, _, Try.underlying70, rfl, rfl, _, ty25, rfl, rfl⟩
theorem fl70_1 : FldOk Try.prog 70 1 6 1 false := ⟨_, _, Try.underlying70, rfl, rfl, _, ty23, rfl, rfl⟩
theorem fl81_0 : FldOk Try.prog 81 0 0 1 false := ⟨_, _, Try.underlying81, rfl, rfl, _, ty4, rfl, rfl⟩
theorem fl81_1 : FldOk Try.prog 81 1 1 10 true := ⟨_, _, Try.underlying81, rfl, rfl, _, ty79, rfl, rfl⟩
theorem fl81_2 : FldOk Try.prog 81 2 11 2 true := ⟨_, _, Try.underlying81, rfl, rfl, _, ty30, rfl, rfl⟩
theorem sl22 : SlT Try.prog 22 54 := Try.underlying22
theorem sl23 : SlT Try.prog 23 42 := Try.underlying23
theorem bt25 : BtOk Try.prog 25 [Go.Value.int Go.IntKind.i64 0, Go.Value.int Go.IntKind.i64 0, Go.Value.int Go.IntKind.i64 0, Go.Value.int Go.IntKind.i64 0, Go.Value.slice none 0 0, Go.Value.slice none 0 0] (fun i => (#[(0, 1), (1, 1), (2, 1), (3, 1), (4, 1), (5, 1)] : Array (Nat × Nat))[i]?) := fun _ => by kernel_rfl
theorem sl26 : SlT Try.prog 26 3 := Try.underlying26
theorem bt29 : BtOk Try.prog 29 [Go.Value.int Go.IntKind.i64 0, Go.Value.int Go.IntKind.i64 0] (fun i => (#[(0, 1), (1, 1)] : Array (Nat × Nat))[i]?) := fun _ => by kernel_rfl
theorem bt30 : BtOk Try.prog 30 [Go.Value.int Go.IntKind.i64 0, Go.Value.int Go.IntKind.i64 0] (fun i => (#[(0, 1), (1, 1)] : Array (Nat × Nat))[i]?) := fun _ => by kernel_rfl
theorem sl35 : SlT Try.prog 35 30 := Try.underlying35
theorem bt42 : BtOk Try.prog 42 [Go.Value.int Go.IntKind.i64 0, Go.Value.int Go.IntKind.i64 0] (fun i => (#[(0, 1), (1, 1)] : Array (Nat × Nat))[i]?) := fun _ => by kernel_rfl
theorem bt54 : BtOk Try.prog 54 [Go.Value.int Go.IntKind.i64 0, Go.Value.int Go.IntKind.i64 0] (fun i => (#[(0, 1), (1, 1)] : Array (Nat × Nat))[i]?) := fun _ => by kernel_rfl
theorem sl55 : SlT Try.prog 55 4 := Try.underlying55
theorem bt70 : BtOk Try.prog 70 [Go.Value.int Go.IntKind.i64 0, Go.Value.int Go.IntKind.i64 0, Go.Value.int Go.IntKind.i64 0, Go.Value.int Go.IntKind.i64 0, Go.Value.slice none 0 0, Go.Value.slice none 0 0, Go.Value.slice none 0 0] (fun i => (#[(0, 6), (6, 1)] : Array (Nat × Nat))[i]?) := fun _ => by kernel_rfl
theorem bt81 : BtOk Try.prog 81 [Go.Value.bool false, Go.Value.int Go.IntKind.i64 0, Go.Value.int Go.IntKind.i64 0, Go.Value.int Go.IntKind.i64 0, Go.Value.int Go.IntKind.i64 0, Go.Value.int Go.IntKind.i64 0, Go.Value.int Go.IntKind.i64 0, Go.Value.int Go.IntKind.i64 0, Go.Value.int Go.IntKind.i64 0, Go.Value.int Go.IntKind.i64 0, Go.Value.int Go.IntKind.i64 0, Go.Value.int Go.IntKind.i64 0, Go.Value.int Go.IntKind.i64 0] (fun i => (#[(0, 1), (1, 10), (11, 2)] : Array (Nat × Nat))[i]?) := fun _ => by kernel_rfl
theorem sl82 : SlT Try.prog 82 26 := Try.underlying82
theorem bt103 : BtOk Try.prog 103 [Go.Value.int Go.IntKind.i64 0, Go.Value.int Go.IntKind.i64 0, Go.Value.int Go.IntKind.i64 0, Go.Value.int Go.IntKind.i64 0, Go.Value.int Go.IntKind.i64 0] (fun i => some (i * 1, 1)) := fun _ => by kernel_rfl
theorem fq3 : Flat Try.prog 1 3 1 false := flat_int Try.underlying3
theorem fq30 : Flat Try.prog 2 30 2 true := flat_struct Try.underlying30 (by kernel_rfl) (.cons (by decide) rfl ty3 rfl (fq3.le rfl) (by decide) rfl (.cons (by decide) rfl ty3 rfl (fq3.le rfl) (by decide) rfl .nil))
theorem eg30 : Try.prog.eqGuardType Try.prog.depth 30 = false := by kernel_rfl
theorem mixed : Try.prog.follows .mixedOrders = true := by kernel_rfl
theorem hb3 : HasBody Try.prog 3 := Try.call3
theorem hb4 : HasBody Try.prog 4 := Try.call4
theorem hb5 : HasBody Try.prog 5 := Try.call5
theorem hb6 : HasBody Try.prog 6 := Try.call6
theorem hb7 : HasBody Try.prog 7 := Try.call7
theorem hb8 : HasBody Try.prog 8 := Try.call8
theorem hb9 : HasBody Try.prog 9 := Try.call9
theorem hb10 : HasBody Try.prog 10 := Try.call10
theorem hb11 : HasBody Try.prog 11 := Try.call11
theorem hb12 : HasBody Try.prog 12 := Try.call12
theorem hb13 : HasBody Try.prog 13 := Try.call13
theorem hb15 : HasBody Try.prog 15 := Try.call15
theorem hb16 : HasBody Try.prog 16 := Try.call16
theorem hb17 : HasBody Try.prog 17 := Try.call17
theorem hb18 : HasBody Try.prog 18 := Try.call18
theorem hb20 : HasBody Try.prog 20 := Try.call20
theorem hb22 : HasBody Try.prog 22 := Try.call22
theorem hb23 : HasBody Try.prog 23 := Try.call23
theorem hb24 : HasBody Try.prog 24 := Try.call24
theorem hb27 : HasBody Try.prog 27 := Try.call27
theorem hb28 : HasBody Try.prog 28 := Try.call28
theorem hb29 : HasBody Try.prog 29 := Try.call29
theorem hb30 : HasBody Try.prog 30 := Try.call30
theorem hb31 : HasBody Try.prog 31 := Try.call31
theorem hb32 : HasBody Try.prog 32 := Try.call32
theorem hb33 : HasBody Try.prog 33 := Try.call33
theorem hb34 : HasBody Try.prog 34 := Try.call34
theorem hb35 : HasBody Try.prog 35 := Try.call35
theorem hb36 : HasBody Try.prog 36 := Try.call36
theorem hb37 : HasBody Try.prog 37 := Try.call37
theorem hb38 : HasBody Try.prog 38 := Try.call38
theorem hb39 : HasBody Try.prog 39 := Try.call39
theorem hb40 : HasBody Try.prog 40 := Try.call40
theorem hb41 : HasBody Try.prog 41 := Try.call41
theorem hb42 : HasBody Try.prog 42 := Try.call42
theorem hb43 : HasBody Try.prog 43 := Try.call43
theorem hb44 : HasBody Try.prog 44 := Try.call44
theorem hb45 : HasBody Try.prog 45 := Try.call45
theorem hb46 : HasBody Try.prog 46 := Try.call46
theorem hb47 : HasBody Try.prog 47 := Try.call47
theorem hb48 : HasBody Try.prog 48 := Try.call48
theorem hb49 : HasBody Try.prog 49 := Try.call49
theorem hb50 : HasBody Try.prog 50 := Try.call50
theorem hb51 : HasBody Try.prog 51 := Try.call51
theorem hb52 : HasBody Try.prog 52 := Try.call52
theorem hb54 : HasBody Try.prog 54 := Try.call54
theorem hb55 : HasBody Try.prog 55 := Try.call55
theorem hb56 : HasBody Try.prog 56 := Try.call56
theorem hb58 : HasBody Try.prog 58 := Try.call58
theorem hb59 : HasBody Try.prog 59 := Try.call59
theorem hb60 : HasBody Try.prog 60 := Try.call60
theorem hb61 : HasBody Try.prog 61 := Try.call61
theorem hb62 : HasBody Try.prog 62 := Try.call62
theorem hb63 : HasBody Try.prog 63 := Try.call63
theorem hb64 : HasBody Try.prog 64 := Try.call64
theorem hb65 : HasBody Try.prog 65 := Try.call65
theorem hb66 : HasBody Try.prog 66 := Try.call66
theorem hb67 : HasBody Try.prog 67 := Try.call67
theorem hb78 : HasBody Try.prog 78 := Try.call78
theorem hb79 : HasBody Try.prog 79 := Try.call79
theorem hb80 : HasBody Try.prog 80 := Try.call80
theorem hb81 : HasBody Try.prog 81 := Try.call81
theorem hb82 : HasBody Try.prog 82 := Try.call82
theorem hb83 : HasBody Try.prog 83 := Try.call83
theorem hb84 : HasBody Try.prog 84 := Try.call84
theorem hb85 : HasBody Try.prog 85 := Try.call85
theorem hb98 : HasBody Try.prog 98 := Try.call98
theorem hb99 : HasBody Try.prog 99 := Try.call99
end Go.Proofs.Ytlcdbjgfeoagbaa

/-
  Sorting: an array in a block; the kit's plain functions of the sort, one step at a time.
-/
set_option linter.all false
namespace Go.H
open Go Go.Sort
variable {α : Type} [Inhabited α]
def ltc (cm : α → α → Int) : α → α → Bool := fun x y => decide (cm x y < 0)
theorem ltc_T {cm : α → α → Int} {x y : α} (h : cm x y < 0) : ltc cm x y = true := decide_eq_true h
theorem ltc_F {cm : α → α → Int} {x y : α} (h : 0 ≤ cm x y) : ltc cm x y = false := decide_eq_false (by omega)
structure Arr (N : Nat) (p : α → Prop) (d : Array α) : Prop where
  size : d.size = N
  all : ∀ i, i < N → p d[i]!
theorem get_set {d : Array α} {i j : Nat} {v : α} (hi : i < d.size) : (d.setIfInBounds i v)[j]! = if i = j then v else d[j]! := by
  simp only [getElem!_def, Array.getElem?_setIfInBounds]
  by_cases h : i = j
  · subst h; simp [hi]
  · simp [h]
theorem Arr.set {N : Nat} {p : α → Prop} {d : Array α} {i : Nat} {v : α} (H : Arr N p d) (hi : i < N) (hv : p v) : Arr N p (d.setIfInBounds i v) :=
  ⟨by rw [Array.size_setIfInBounds]; exact H.size, fun j hj => by
    rw [get_set (by rw [H.size]; exact hi)]
    split
    · exact hv
    · exact H.all j hj⟩
theorem Arr.swp {N : Nat} {p : α → Prop} {d : Array α} {i j : Nat} (H : Arr N p d) (hi : i < N) (hj : j < N) : Arr N p (swp d i j) := (H.set hi (H.all j hj)).set hj (H.all i hi)
section
variable {enc : α → List Value} {sz : Nat}
theorem ca_list {d : Array α} {k : Nat} (h : k < d.size) : d.toList[k]? = some d[k]! := by
  rw [Array.getElem?_toList, getElem!_def]
  simp [h]
theorem ca_get (henc : ∀ x, (enc x).length = sz) {d : Array α} {k : Nat} {sp : List Value} (h : k < d.size) : ((d.toList.flatMap enc ++ sp).drop (0 + k * sz)).take sz = enc d[k]! := flat_at henc sp d.toList k (ca_list h)
theorem ca_splice (henc : ∀ x, (enc x).length = sz) {d : Array α} {k : Nat} {y : α} {sp : List Value} (h : k < d.size) : splice (d.toList.flatMap enc ++ sp) (0 + k * sz) (enc y) = (d.setIfInBounds k y).toList.flatMap enc ++ sp := by
  rw [splice_flat henc sp d.toList k (by simpa using h), Array.toList_setIfInBounds]
theorem ca_len (henc : ∀ x, (enc x).length = sz) {d : Array α} {sp : List Value} : (d.toList.flatMap enc ++ sp).length = d.size * sz + sp.length := by rw [List.length_append, flat_lenM henc]; simp
theorem ca_room (henc : ∀ x, (enc x).length = sz) {d : Array α} {k : Nat} {sp : List Value} (h : k < d.size) : Nat.ble (0 + k * sz + sz) (d.toList.flatMap enc ++ sp).length = true := by
  rw [ca_len henc, Nat.ble_eq]
  have := Nat.mul_le_mul_right sz (show k + 1 ≤ d.size from h)
  rw [Nat.add_mul] at this
  omega
end
section
variable {lt : α → α → Bool}
theorem insInner_stop {a j : Nat} {d : Array α} (h : j ≤ a ∨ lt d[j]! d[j - 1]! = false) : insInner lt a j d = d := by
  cases j with
  | zero => rfl
  | succ j =>
    simp only [Nat.add_sub_cancel] at h
    unfold insInner
    rw [if_neg]
    rcases h with h | h
    · simp; omega
    · simp [h]
theorem insInner_step {a j : Nat} {d : Array α} (h1 : a < j) (h2 : lt d[j]! d[j - 1]! = true) : insInner lt a j d = insInner lt a (j - 1) (swp d j (j - 1)) := by
  cases j with
  | zero => omega
  | succ j =>
    simp only [Nat.add_sub_cancel] at h2 ⊢
    rw [insInner, if_pos (by simp [h2]; omega)]
theorem insOuter_stop {a b i : Nat} {d : Array α} (h : b ≤ i) : insOuter lt a b i d = d := by rw [insOuter, if_neg (by omega)]
theorem insOuter_step {a b i : Nat} {d : Array α} (h : i < b) : insOuter lt a b i d = insOuter lt a b (i + 1) (insInner lt a i d) := by rw [insOuter, if_pos h]
end
section
variable {lt : α → α → Bool}
theorem pdq_ins {d : Array α} {a b limit : Nat} {wb wp : Bool} (h : b - a ≤ 12) : pdq lt d a b limit wb wp = insertionSort lt d a b := by rw [pdq, if_pos h]
section
variable {d : Array α} {a b limit : Nat} {wb wp : Bool} (h : ¬ b - a ≤ 12) (h0 : ¬ limit = 0) (h50 : b - a < 50)
include h h0 h50
end
structure PdqS (α : Type) where
  a : Nat
  b : Nat
  lim : Nat
  wb : Bool
  wp : Bool
  d : Array α
end
end Go.H

/-
  Rules: words of 64 bits; bytes of a text that is known.
-/
set_option linter.all false
namespace Go.H
open Go
variable {P : Program} {r : Option Nat} {E : Env} {h : Hp}
variable {K : Value → Hp → Prop} {T : List PanicEntry → Hp → Prop} {dst : Option Nat} {ty : TypeId} {pos : String} {af : Array Edge} {gd : Option (Nat × Bool)}
abbrev U (w : UInt64) : Value := .int .u64 (w.toNat : Int)
theorem xv_shrU {xt yt : TypeId} {x y : Operand} {yk : IntKind} {w w' : UInt64} {s : Nat} (hx : ev E x = some (U w)) (hy : ev E y = some (.int yk (s : Int))) (hs : s < 64) (hw : w >>> (UInt64.ofNat s) = w') (H : K (U w') h) : XV P r ⟨dst, .binOp .shr xt x y yt, ty, pos, af, gd⟩ K T E h :=
  xv_of_run (by simp [plainOp]) fun W ρ ho he => ⟨_, h, W, by
    rw [run_bin (he _ _ hx) (he _ _ hy) (fun _ => by simp [eqGuard])]
    have h1 : ¬ ((s : Int) < 0) := by omega
    have h2 : min (s : Int).toNat IntKind.u64.bits = s := by simp [IntKind.bits]; omega
    have h3 : (w.toNat : Int).fdiv (2 ^ s) = (w'.toNat : Int) := by
      have hq : (UInt64.ofNat s).toNat % 64 = s := by rw [UInt64.toNat_ofNat']; omega
      rw [← hw, UInt64.toNat_shiftRight, hq, Nat.shiftRight_eq_div_pow]
      rw [Int.fdiv_eq_ediv_of_nonneg _ (by exact Int.le_of_lt (Int.pow_pos (by decide)))]
      push_cast
      rfl
    simp only [binOp, Op.shift, if_neg h1, h2, h3]
    rfl, H, .refl ho⟩
theorem xv_indexT {x y : Operand} {t : TypeId} {s : ByteArray} {k : IntKind} {i : Int} {f : Nat → Nat} {m : Nat} (ht : P.underlying t = some .string) (hx : ev E x = some (.string s)) (hy : ev E y = some (.int k i)) (h0 : 0 ≤ i) (h1 : i < m) (h2 : (List.range m).all (fun j => if h : j < s.size then s[j] == UInt8.ofNat (f j) else false) = true)
    (H : K (.int .u8 (((UInt8.ofNat (f i.toNat)).toNat : Nat) : Int)) h) : XV P r ⟨dst, .index t x y, ty, pos, af, gd⟩ K T E h :=
  xv_of_run (by simp [plainOp]) fun w ρ ho he => by
    have hs := List.all_eq_true.1 h2 i.toNat (List.mem_range.2 (by omega))
    have hlt : i.toNat < s.size := by
      by_cases hlt : i.toNat < s.size
      · exact hlt
      · rw [dif_neg hlt] at hs; cases hs
    rw [dif_pos hlt] at hs
    have hv := eq_of_beq hs
    refine ⟨_, h, w, ?_, H, .refl ho⟩
    simp [execOp, he _ _ hx, he _ _ hy, Instr.index, asIntOf, run_underlying ht, h0, hlt, hv]
theorem len8 : ∀ {n : Nat}, n ≤ 49 → (UInt8.ofNat (Go.Sort.bitsLen n)).toNat = Go.Sort.bitsLen n ∧ Go.Sort.bitsLen n ≤ 6 := fun {n} h => by
  have hb : Go.Sort.bitsLen n ≤ 6 := (Go.Sort.bitsLen_le_iff n 6).2 (by omega)
  exact ⟨by rw [UInt8.toNat_ofNat']; omega, hb⟩
end Go.H

/-
  Rules: maps with structs as keys (sets), calls of methods through interfaces.
-/
set_option linter.all false
namespace Go.H
open Go
section
variable {P : Program} {r : Option Nat} {E : Env} {h : Hp}
variable {K : Value → Hp → Prop} {T : List PanicEntry → Hp → Prop} {dst : Option Nat} {ty : TypeId} {pos : String} {af : Array Edge} {gd : Option (Nat × Bool)}
theorem SlV.drop {α : Type} {sz : Nat} {enc : α → List Value} {b o : Nat} {xs : List α} (H : SlV h sz enc (some ⟨b, o, none⟩) xs) (k : Nat) : SlV h sz enc (some ⟨b, o + k * sz, none⟩) (xs.drop k) := by
  rcases H with rfl | ⟨b2, o2, l, t, fz, h1, h2, h3⟩
  · exact .inl (by simp)
  · cases h1
    refine .inr ⟨b, o + k * sz, l, t, fz, rfl, h2, fun i x hx => ?_⟩
    rw [List.getElem?_drop] at hx
    have := h3 (k + i) x hx
    rw [Nat.add_mul] at this
    rw [Nat.add_assoc]; exact this
def dropA (a : Option Addr) (c m sz : Nat) : Option Addr := if c = m then a else a.map fun z => z.add (m * sz)
theorem slv_dropA {α : Type} {enc : α → List Value} {a : Option Addr} {c m sz : Nat} {l : List α} (hl : SlV h sz enc a l) (hc : l.length ≤ c) : SlV h sz enc (dropA a c m sz) (l.drop m) := by
  by_cases hlt : m < l.length
  · obtain ⟨b, o, li, t9, fz, ha, hm, hx9⟩ := hl.at hlt
    subst ha
    unfold dropA
    split
    · omega
    · have := SlV.drop hl m
      have e : (⟨b, o, none⟩ : Addr).add (m * sz) = ⟨b, o + m * sz, none⟩ := addr_add _ _ _
      simp only [Option.map_some, e]
      exact this
  · exact .inl (List.drop_eq_nil_of_le (by omega))
theorem xv_sliceFrom {x y : Operand} {t e : TypeId} {d : TD} {a : Option Addr} {n c m sz : Nat} {k : IntKind} {i : Int} (ht : SlT P t e) (hd : TyOk P e d) (hsz : d.size = sz) (hx : ev E x = some (.slice a n c)) (hy : ev E y = some (.int k i)) (hm : i.toNat = m) (h0 : 0 ≤ i) (h1 : i ≤ n)
    (H : K (.slice (dropA a c m sz) (n - m) (c - m)) h) : XV P r ⟨dst, .slice t x (some y) none none, ty, pos, af, gd⟩ K T E h := by
  subst hsz hm
  refine xv_of_run (by simp [plainOp]) fun w ρ ho he => ⟨_, h, w, ?_, H, .refl ho⟩
  have hb := run_sliceBoundH (P := P) (k := k) (y := n) (code := .sliceB) (w := w) h0 h1
  simp only [execOp, he _ _ hx, Option.map_none, Option.map_some, he _ _ hy]
  simp [Instr.sliceAt, run_underlying ht, Instr.slice, Instr.sliceBounds, hb, hd.run_size, dropA]
end
end Go.H

/-
  Code with labels that nothing jumps to.
-/
set_option linter.all false
namespace Go
section
variable {P : Program} {F : Fence} {n : Nat} {b : Frame} {a : Act} {k : List Item} {cs : List Frame} {w : World} {Q : Exit → Act → World → Prop}
theorem stepR_scope {c : Code} : step P (lone (b.atR a (.code (.scope c) :: k)) cs w) = .next (lone (b.atR a (.code c :: .inScope c :: k)) cs w) :=
  step_lone_go (by simp [stepG, stepG.exec, Frame.atR])
theorem stepR_inScope {c : Code} : step P (lone (b.atR a (.inScope c :: k)) cs w) = .next (lone (b.atR a k) cs w) :=
  step_lone_go (by simp [stepG, stepG.exec, Frame.atR])
theorem wpIn_scope {c : Code} (h : c.wpIn F n P (Exit.noGoto Q) a w) : (Code.scope c).wpIn F n P Q a w := by
  intro b k cs hro hb hr
  have h0 : (lone (b.atR a (.code (.scope c) :: k)) cs w).fenced P F := fenced_calm hb hr rfl
  obtain ⟨e, a₁, w₁, hq, harr⟩ := h b (.inScope c :: k) cs hro hb hr
  cases e with
  | normal => exact ⟨.normal, a₁, w₁, hq, .head h0 stepR_scope (StepsIn.trans harr (.one (fenced_calm hb hr rfl) stepR_inScope))⟩
  | exit id =>
    have hx : exitTo id (.inScope c :: k) = exitTo id k := by simp [exitTo]
    exact ⟨.exit id, a₁, w₁, hq, fun k' hk => .head h0 stepR_scope (harr.1 k' (by rw [hx]; exact hk)),
      fun hr' hk => let ⟨k₁, h1, h2⟩ := harr.2 hr' (by rw [hx]; exact hk); ⟨k₁, h1, .head h0 stepR_scope h2⟩⟩
  | goto l => exact hq.elim
  | ret => exact ⟨_, a₁, w₁, hq, .of_steps (.one h0 stepR_scope) harr⟩
  | panic ch => exact ⟨_, a₁, w₁, hq, .of_steps (.one h0 stepR_scope) harr⟩
  | outgrown => exact ⟨_, a₁, w₁, hq, .of_steps (.one h0 stepR_scope) harr⟩
end
end Go
namespace Go.H
open Go
variable {P : Program} {r : Option Nat} {N : Nat} {Q : Post} {E : Env} {D : List Deferred} {h : Hp}
def Sc (Q : Post) : Post
  | .goto _, _, _, _ => False
  | e, E, D, h => Q e E D h
theorem xc_scope {c : Code} (H : XC P r N c (Sc Q) E D h) : XC P r N (.scope c) Q E D h := by
  intro w a ho ha hd
  refine wpIn_scope (wpIn_mono (H w a ho ha hd) ?_)
  rintro e a' w' ⟨E', h', q, x⟩
  cases e with
  | goto l => exact q.elim
  | _ => exact ⟨E', h', q, x⟩
theorem xc_label {l : Nat} (H : Q .normal E D h) : XC P r N (.label l) Q E D h :=
  fun w a ho ha hd => wpIn_label ⟨E, h, by rw [hd]; exact H, ha, .refl ho⟩
theorem sc_n (H : Q .normal E D h) : Sc Q .normal E D h := H
end Go.H
namespace Go.H
open Go
section
variable {P : Program} {r : Option Nat} {E : Env} {h : Hp} {K : Value → Hp → Prop} {T : List PanicEntry → Hp → Prop} {dst : Option Nat} {ty : TypeId} {pos : String} {af : Array Edge} {gd : Option (Nat × Bool)}
theorem Upd.same {b : Nat} {o : Obj} {h h' : Hp} (H : Upd h b o o h') : h' = h := by
  have : ∀ o2, Upd h b o o2 h' → o2 = o → h' = h := by
    intro o2 H2
    induction H2 with
    | here => intro e; subst e; rfl
    | there _ ih => intro e; rw [ih (by subst e; rename_i a; exact a) e]
  exact this o H rfl
end
end Go.H
namespace Go.H
open Go
section
variable {P : Program} {r : Option Nat} {E : Env} {h : Hp} {K : Value → Hp → Prop} {T : List PanicEntry → Hp → Prop} {dst : Option Nat} {ty : TypeId} {pos : String} {af : Array Edge} {gd : Option (Nat × Bool)}
theorem mv2 {x1 x2 y : Nat × Obj} {K : Hp} : List.Perm (y :: x1 :: x2 :: K) (x1 :: x2 :: y :: K) := (List.perm_middle (l₁ := [x1, x2]) (a := y) (l₂ := K)).symm
end
end Go.H
namespace Go.H
open Go
section
variable {P : Program} {r : Option Nat} {E : Env} {h : Hp} {K : Value → Hp → Prop} {T : List PanicEntry → Hp → Prop} {dst : Option Nat} {ty : TypeId} {pos : String} {af : Array Edge} {gd : Option (Nat × Bool)}
end
end Go.H
namespace Go.H
end Go.H
namespace Go.H
open Go
end Go.H

/-
  The data of a slot meter, as plain structures; their cells.
-/
set_option linter.all false
namespace Go.Proofs.Ytlcdbjgfeoagbaa
open Go Go.H
structure Span where
  lo : Int
  hi : Int
  deriving DecidableEq, Inhabited
structure Tariff where
  frm : Int
  feet : Int
  deriving DecidableEq, Inhabited
structure Mark where
  hour : Int
  used : Int
  deriving DecidableEq, Inhabited
structure Slot where
  start : Int
  hold : Int
  coins : Int
  now : Int
  ta : Option Addr
  tc : Nat
  tars : List Tariff
  ma : Option Addr
  mc : Nat
  marks : List Mark
abbrev I (n : Int) : Value := .int .i64 n
def eI (n : Int) : List Value := [I n]
def eSpan (s : Span) : List Value := [I s.lo, I s.hi]
def eTariff (t : Tariff) : List Value := [I t.frm, I t.feet]
def eMark (m : Mark) : List Value := [I m.hour, I m.used]
def eSlot (s : Slot) : List Value := [I s.start, I s.hold, I s.coins, I s.now, .slice s.ta s.tars.length s.tc, .slice s.ma s.marks.length s.mc]
structure SlotV (h : Hp) (s : Slot) : Prop where
  tars : SlV h 2 eTariff s.ta s.tars
  marks : SlV h 2 eMark s.ma s.marks
theorem SlotV.sub {h g : Hp} {s : Slot} (H : SlotV h s) (hs : h ⊆ g) : SlotV g s := ⟨H.tars.sub hs, H.marks.sub hs⟩
structure Small (s : Slot) : Prop where
  tars : s.tars.length ≤ 1000
  marks : s.marks.length ≤ 1000
theorem eI_len (x : Int) : (eI x).length = 1 := rfl
theorem eSpan_len (x : Span) : (eSpan x).length = 2 := rfl
theorem eTariff_len (x : Tariff) : (eTariff x).length = 2 := rfl
theorem eMark_len (x : Mark) : (eMark x).length = 2 := rfl
theorem eI_1 (x : Int) : (eI x).all Value.oneCell' = true := rfl
theorem eSpan_1 (x : Span) : (eSpan x).all Value.oneCell' = true := rfl
theorem eMark_1 (x : Mark) : (eMark x).all Value.oneCell' = true := rfl
def tarOk (hold now last : Int) (t : Tariff) : Prop := (last + 1 ≤ t.frm ∧ t.frm ≤ now) ∧ (1 ≤ t.feet ∧ t.feet ≤ hold)
instance (hold now last : Int) (t : Tariff) : Decidable (tarOk hold now last t) := by unfold tarOk; infer_instance
def tarsOk (hold now : Int) : Int → List Tariff → Prop
  | _, [] => True
  | last, t :: l => tarOk hold now last t ∧ tarsOk hold now t.frm l
def decTars (hold now : Int) : ∀ (last : Int) (l : List Tariff), Decidable (tarsOk hold now last l)
  | _, [] => isTrue trivial
  | last, t :: l => by unfold tarsOk; exact @instDecidableAnd _ _ _ (decTars hold now t.frm l)
instance (hold now last : Int) (l : List Tariff) : Decidable (tarsOk hold now last l) := decTars hold now last l
def markOk (now : Int) (m : Mark) : Prop := (0 ≤ m.hour ∧ m.hour ≤ now) ∧ (0 ≤ m.used ∧ m.used ≤ 1073741824)
instance (now : Int) (m : Mark) : Decidable (markOk now m) := by unfold markOk; infer_instance
def numsOk (s : Slot) : Prop := (1 ≤ s.hold ∧ s.hold ≤ 10000) ∧ (0 ≤ s.start ∧ s.start ≤ s.hold) ∧ (0 ≤ s.coins ∧ s.coins ≤ 24) ∧ (0 ≤ s.now ∧ s.now ≤ 1048576)
instance (s : Slot) : Decidable (numsOk s) := by unfold numsOk; infer_instance
def sizesOk (s : Slot) : Prop := (1 ≤ s.tars.length ∧ s.tars.length ≤ 5) ∧ s.marks.length ≤ 12
instance (s : Slot) : Decidable (sizesOk s) := by unfold sizesOk; infer_instance
def frm0 (s : Slot) : Prop := (s.tars.map Tariff.frm).head? = some 0
instance (s : Slot) : Decidable (frm0 s) := by unfold frm0; infer_instance
def GoodSlot (s : Slot) : Prop := numsOk s ∧ sizesOk s ∧ frm0 s ∧ tarsOk s.hold s.now (-1) s.tars ∧ ∀ m ∈ s.marks, markOk s.now m
instance (s : Slot) : Decidable (GoodSlot s) := by unfold GoodSlot; infer_instance
end Go.Proofs.Ytlcdbjgfeoagbaa

/-
  Slot meters, lists of numbers, marks, as a law's arguments read.
-/
set_option linter.all false
namespace Go.Proofs.Ytlcdbjgfeoagbaa
open Go Go.H
set_option maxRecDepth 100000
section
variable {H : Type} {enc : TypeId × Value → H} {w : World} {sp : Nat → Bool} {held : Bool}
theorem cells3 : Try.prog.cellsOf 3 = 1 := by kernel_rfl
theorem cells22 : Try.prog.cellsOf 22 = 1 := by kernel_rfl
theorem cells23 : Try.prog.cellsOf 23 = 1 := by kernel_rfl
theorem cells25 : Try.prog.cellsOf 25 = 6 := by kernel_rfl
theorem cells42 : Try.prog.cellsOf 42 = 2 := by kernel_rfl
theorem cells54 : Try.prog.cellsOf 54 = 2 := by kernel_rfl
theorem open_i {n : Nat} {l : List Value} {y : DataW H × List MemPlace} (h : DataW.trod enc Try.prog w 0 sp held n 3 l = some y) : ∃ i : Int, l = [I i] := by
  obtain ⟨i, e, _⟩ := open_num Try.underlying3 h
  exact ⟨i, e⟩
theorem open_tariff (n : Nat) (l : List Value) (y : DataW H × List MemPlace) (h : DataW.trod enc Try.prog w 0 sp held n 54 l = some y) : ∃ x, l = eTariff x := by
  obtain ⟨hl, hf⟩ := trod_struct_open Try.underlying54 h
  rw [cells54] at hl
  obtain ⟨a, b, rfl⟩ := list2 hl
  obtain ⟨_, _, h1⟩ := hf _ (List.mem_cons_self)
  obtain ⟨_, _, h2⟩ := hf _ (List.mem_cons_of_mem _ List.mem_cons_self)
  simp only [cells3] at h1 h2
  obtain ⟨a, e1⟩ := open_i h1
  obtain ⟨b, e2⟩ := open_i h2
  cases e1; cases e2
  exact ⟨⟨a, b⟩, rfl⟩
theorem open_mark (n : Nat) (l : List Value) (y : DataW H × List MemPlace) (h : DataW.trod enc Try.prog w 0 sp held n 42 l = some y) : ∃ x, l = eMark x := by
  obtain ⟨hl, hf⟩ := trod_struct_open Try.underlying42 h
  rw [cells42] at hl
  obtain ⟨a, b, rfl⟩ := list2 hl
  obtain ⟨_, _, h1⟩ := hf _ (List.mem_cons_self)
  obtain ⟨_, _, h2⟩ := hf _ (List.mem_cons_of_mem _ List.mem_cons_self)
  simp only [cells3] at h1 h2
  obtain ⟨a, e1⟩ := open_i h1
  obtain ⟨b, e2⟩ := open_i h2
  cases e1; cases e2
  exact ⟨⟨a, b⟩, rfl⟩
variable {v : Value} {d : DataW H} {ps : List MemPlace} {r : Reach} {b : Nat}
theorem list6 {α : Type} {l : List α} (h : l.length = 6) : ∃ a b c d e f, l = [a, b, c, d, e, f] := by
  match l, h with
  | [a, b, c, d, e, f], _ => exact ⟨a, b, c, d, e, f, rfl⟩
theorem open_slot (hv : Value.okWide Try.prog w r b 25 v) (h : DataW.Trod enc Try.prog w 0 sp held 25 v d ps) : ∃ y : Slot, v = .agg ⟨eSlot y⟩ ∧ SlotV (full w) y ∧ y.tars.length ≤ 9223372036854775807 ∧ y.marks.length ≤ 9223372036854775807 := by
  obtain ⟨n, hn⟩ := h
  unfold Value.okWide at hv
  rw [Try.underlying25] at hv
  obtain ⟨⟨cs⟩, rfl, _, _⟩ := hv
  obtain ⟨hl, hf⟩ := trod_struct_open Try.underlying25 hn
  rw [cells25] at hl
  obtain ⟨c0, c1, c2, c3, c4, c5, rfl⟩ := list6 hl
  obtain ⟨_, _, h1⟩ := hf _ (List.mem_cons_self)
  obtain ⟨_, _, h2⟩ := hf _ (List.mem_cons_of_mem _ List.mem_cons_self)
  obtain ⟨_, _, h3⟩ := hf _ (List.mem_cons_of_mem _ (List.mem_cons_of_mem _ List.mem_cons_self))
  obtain ⟨_, _, h4⟩ := hf _ (List.mem_cons_of_mem _ (List.mem_cons_of_mem _ (List.mem_cons_of_mem _ List.mem_cons_self)))
  obtain ⟨_, _, h5⟩ := hf _ (List.mem_cons_of_mem _ (List.mem_cons_of_mem _ (List.mem_cons_of_mem _ (List.mem_cons_of_mem _ List.mem_cons_self))))
  obtain ⟨_, _, h6⟩ := hf _ (List.mem_cons_of_mem _ (List.mem_cons_of_mem _ (List.mem_cons_of_mem _ (List.mem_cons_of_mem _ (List.mem_cons_of_mem _ List.mem_cons_self)))))
  simp only [cells3, cells22, cells23] at h1 h2 h3 h4 h5 h6
  obtain ⟨x1, e1⟩ := open_i h1
  obtain ⟨x2, e2⟩ := open_i h2
  obtain ⟨x3, e3⟩ := open_i h3
  obtain ⟨x4, e4⟩ := open_i h4
  obtain ⟨sa, sc, ss, e5, l1, q1⟩ := open_slv (en := eTariff) Try.underlying22 cells54 (by decide) open_tariff h5
  obtain ⟨ta, tc, ts, e6, l2, q2⟩ := open_slv (en := eMark) Try.underlying23 cells42 (by decide) open_mark h6
  cases e1; cases e2; cases e3; cases e4; cases e5; cases e6
  exact ⟨⟨x1, x2, x3, x4, sa, sc, ss, ta, tc, ts⟩, rfl, ⟨q1, q2⟩, l1, l2⟩
end
end Go.Proofs.Ytlcdbjgfeoagbaa

/-
  Marks in order, the tariff in force, the errors of a slot meter.
-/
set_option linter.all false
namespace Go.Proofs.Ytlcdbjgfeoagbaa
open Go Go.H
theorem snoc_ind {α : Type} {P : List α → Prop} (h0 : P []) (h1 : ∀ l a, P l → P (l ++ [a])) (l : List α) : P l := by
  have : ∀ r : List α, P r.reverse := fun r => by
    induction r with
    | nil => exact h0
    | cons a r ih => rw [List.reverse_cons]; exact h1 _ _ ih
  rw [← List.reverse_reverse l]; exact this _
def insM (m : Mark) : List Mark → List Mark
  | [] => [m]
  | x :: l => if x.hour ≤ m.hour then x :: insM m l else m :: x :: l
def sortM (l : List Mark) : List Mark := l.foldl (fun a m => insM m a) []
def srtd : List Mark → Prop
  | [] => True
  | x :: l => (∀ y ∈ l, x.hour ≤ y.hour) ∧ srtd l
theorem sortM_snoc (l : List Mark) (m : Mark) : sortM (l ++ [m]) = insM m (sortM l) := by unfold sortM; rw [List.foldl_append]; rfl
theorem insM_len (m : Mark) : ∀ l, (insM m l).length = l.length + 1
  | [] => rfl
  | x :: l => by
    unfold insM
    split
    · rw [List.length_cons, insM_len m l]; rfl
    · rfl
theorem insM_mem {m y : Mark} : ∀ {l}, y ∈ insM m l ↔ y = m ∨ y ∈ l
  | [] => by simp [insM]
  | x :: l => by
    unfold insM
    split
    · rw [List.mem_cons, insM_mem (l := l), List.mem_cons]
      constructor
      · rintro (h | h | h)
        · exact .inr (.inl h)
        · exact .inl h
        · exact .inr (.inr h)
      · rintro (h | h | h)
        · exact .inr (.inl h)
        · exact .inl h
        · exact .inr (.inr h)
    · rw [List.mem_cons]
theorem insM_srtd {m : Mark} : ∀ {l}, srtd l → srtd (insM m l)
  | [], _ => ⟨fun y hy => (List.not_mem_nil hy).elim, trivial⟩
  | x :: l, h => by
    unfold insM
    split
    · rename_i hx
      refine ⟨fun y hy => ?_, insM_srtd h.2⟩
      rcases insM_mem.1 hy with rfl | hy
      · exact hx
      · exact h.1 y hy
    · rename_i hx
      refine ⟨fun y hy => ?_, h⟩
      rcases List.mem_cons.1 hy with rfl | hy
      · omega
      · have := h.1 y hy; omega
theorem sortM_len (l : List Mark) : (sortM l).length = l.length := by
  induction l using snoc_ind with
  | h0 => rfl
  | h1 l m ih => rw [sortM_snoc, insM_len, ih, List.length_append]; rfl
theorem sortM_srtd (l : List Mark) : srtd (sortM l) := by
  induction l using snoc_ind with
  | h0 => trivial
  | h1 l m ih => rw [sortM_snoc]; exact insM_srtd ih
theorem sortM_mem {l : List Mark} {y : Mark} : y ∈ sortM l ↔ y ∈ l := by
  induction l using snoc_ind with
  | h0 => simp [sortM]
  | h1 l m ih => rw [sortM_snoc, insM_mem, ih]; simp [or_comm]
theorem insM_at {m : Mark} : ∀ {l : List Mark} {i : Nat}, i ≤ l.length → (∀ x, l[i - 1]? = some x → 0 < i → x.hour ≤ m.hour) → (∀ k x, i ≤ k → l[k]? = some x → m.hour < x.hour) → srtd l → insM m l = l.take i ++ m :: l.drop i
  | [], i, hi, _, _, _ => by
    obtain rfl : i = 0 := by simpa using hi
    rfl
  | x :: l, 0, _, _, h2, _ => by
    have := h2 0 x (Nat.le_refl _) rfl
    unfold insM
    rw [if_neg (by omega)]; rfl
  | x :: l, i + 1, hi, h1, h2, hs => by
    have hx : x.hour ≤ m.hour := by
      cases i with
      | zero => exact h1 x rfl (by omega)
      | succ j =>
        have hj : j < l.length := by rw [List.length_cons] at hi; omega
        have h3 := h1 l[j] (by simp [hj]) (by omega)
        have h4 := hs.1 _ (List.getElem_mem hj)
        omega
    unfold insM
    rw [if_pos hx, insM_at (i := i) (by simpa using hi) (fun z hz h0 => h1 z (by
      obtain ⟨j, rfl⟩ : ∃ j, i = j + 1 := ⟨i - 1, by omega⟩
      simpa using hz) (by omega)) (fun k z hk hz => h2 (k + 1) z (by omega) (by simpa using hz)) hs.2]
    rfl
def forceN (l : List Tariff) (hour : Int) : Nat → Nat
  | 0 => 0
  | i + 1 => match l[i]? with
    | some t => if t.frm ≤ hour then i else forceN l hour i
    | none => forceN l hour i
def force (l : List Tariff) (hour : Int) : Nat := forceN l hour l.length
theorem forceN_le (l : List Tariff) (hour : Int) : ∀ i, forceN l hour i ≤ i - 1
  | 0 => Nat.le_refl _
  | i + 1 => by
    have := forceN_le l hour i
    unfold forceN
    split
    · split <;> omega
    · omega
theorem force_lt {l : List Tariff} (h : l ≠ []) (hour : Int) : force l hour < l.length := by
  have h1 := forceN_le l hour l.length
  have h2 : 0 < l.length := List.length_pos_iff.2 h
  unfold force
  omega
def twiceB (l : List Mark) : Bool := l.any fun a => l.any fun b => decide (a.hour = b.hour ∧ a.used ≠ b.used)
def crossB (l : List Mark) : Bool := l.any fun a => l.any fun b => decide (a.hour < b.hour ∧ a.used > b.used)
def errS (s : Slot) : Int := if GoodSlot s then (if twiceB s.marks then 5 else if crossB s.marks then 7 else 0) else 1
def byH (s : Slot) (hours : List Int) (hour : Int) : Int := (hours.map fun h => if h ≤ hour then (s.tars.getD (force s.tars h) default).feet else 0).sum
def lastM (s : Slot) : Int × Bool := match (sortM s.marks).getLast? with
  | none => (0, false)
  | some m => (m.used, decide (m.hour = s.now))
def creditA (s : Slot) (bought : Int) : Span := if (lastM s).2 then ⟨s.start + bought - (lastM s).1, s.start + bought - (lastM s).1⟩ else ⟨0, min s.hold (s.start + bought - (lastM s).1)⟩
def badM (s : Slot) (by' : Int → Int) : List Mark → Option (Int × Int)
  | [] => none
  | m :: l => if s.start + by' m.hour < m.used then some (m.hour, 10) else if s.start + by' m.hour > m.used + s.hold then some (m.hour, 9) else badM s by' l
def playA (s : Slot) (hours : List Int) : Int × Span × Int × Int :=
  if errS s = 0 then (if (hours.length : Int) = s.coins ∧ ∀ h ∈ hours, 0 ≤ h ∧ h ≤ s.now then (match badM s (byH s hours) (sortM s.marks) with
    | some (h, e) => (0, ⟨0, 0⟩, h, e)
    | none => (byH s hours s.now, creditA s (byH s hours s.now), s.now, 0)) else (0, ⟨0, 0⟩, 0, 2)) else (0, ⟨0, 0⟩, 0, errS s)
end Go.Proofs.Ytlcdbjgfeoagbaa
