/-
  Facts on the types and functions of this seat.
-/
import Derived.Test.YtjmailhoidenaaaH17
import Derived.Test.YtjmailhoidenaaaProg
import Derived.KernelRfl
set_option linter.all false
namespace Go.Proofs.Ytjmailhoidenaaa
open Go.H
open Go
theorem ty1 : TyOk Try.prog 1 ⟨1, 8, (Go.TypeDesc.func #[] #[] false), Go.Value.nilFunc⟩ := ⟨Try.underlying1, by kernel_rfl⟩
theorem ty2 : TyOk Try.prog 2 ⟨1, 8, (Go.TypeDesc.int Go.IntKind.i64), (Go.Value.int Go.IntKind.i64 0)⟩ := ⟨Try.underlying2, by kernel_rfl⟩
theorem ty3 : TyOk Try.prog 3 ⟨1, 8, (Go.TypeDesc.int Go.IntKind.i64), (Go.Value.int Go.IntKind.i64 0)⟩ := ⟨Try.underlying3, by kernel_rfl⟩
theorem ty22 : TyOk Try.prog 22 ⟨1, 24, (Go.TypeDesc.slice 38), (Go.Value.slice none 0 0)⟩ := ⟨Try.underlying22, by kernel_rfl⟩
theorem ty24 : TyOk Try.prog 24 ⟨6, 64, (Go.TypeDesc.struct #[{ name := "Curve", type := 22, offset := 0, embedded := false, tag := "", pkgPath := "", byteOffset := 0 }, { name := "Least", type := 3, offset := 1, embedded := false, tag := "", pkgPath := "", byteOffset := 24 }, { name := "Runs", type := 3, offset := 2, embedded := false, tag := "", pkgPath := "", byteOffset := 32 }, { name := "Scurf", type := 3, offset := 3, embedded := false, tag := "", pkgPath := "", byteOffset := 40 }, { name := "Coolings", type := 3, offset := 4, embedded := false, tag := "", pkgPath := "", byteOffset := 48 }, { name := "Gang", type := 3, offset := 5, embedded := false, tag := "", pkgPath := "", byteOffset := 56 }]), (Go.Value.agg #[Go.Value.slice none 0 0, Go.Value.int Go.IntKind.i64 0, Go.Value.int Go.IntKind.i64 0, Go.Value.int Go.IntKind.i64 0, Go.Value.int Go.IntKind.i64 0, Go.Value.int Go.IntKind.i64 0])⟩ := ⟨Try.underlying24, by kernel_rfl⟩
theorem ty29 : TyOk Try.prog 29 ⟨5, 40, (Go.TypeDesc.struct #[{ name := "State", type := 3, offset := 0, embedded := false, tag := "", pkgPath := "", byteOffset := 0 }, { name := "Since", type := 3, offset := 1, embedded := false, tag := "", pkgPath := "", byteOffset := 8 }, { name := "Tons", type := 3, offset := 2, embedded := false, tag := "", pkgPath := "", byteOffset := 16 }, { name := "Runs", type := 3, offset := 3, embedded := false, tag := "", pkgPath := "", byteOffset := 24 }, { name := "Coolings", type := 3, offset := 4, embedded := false, tag := "", pkgPath := "", byteOffset := 32 }]), (Go.Value.agg #[Go.Value.int Go.IntKind.i64 0, Go.Value.int Go.IntKind.i64 0, Go.Value.int Go.IntKind.i64 0, Go.Value.int Go.IntKind.i64 0, Go.Value.int Go.IntKind.i64 0])⟩ := ⟨Try.underlying29, by kernel_rfl⟩
theorem ty30 : TyOk Try.prog 30 ⟨40, 320, (Go.TypeDesc.array 8 29), (Go.Value.agg #[Go.Value.int Go.IntKind.i64 0, Go.Value.int Go.IntKind.i64 0, Go.Value.int Go.IntKind.i64 0, Go.Value.int Go.IntKind.i64 0, Go.Value.int Go.IntKind.i64 0, Go.Value.int Go.IntKind.i64 0, Go.Value.int Go.IntKind.i64 0, Go.Value.int Go.IntKind.i64 0, Go.Value.int Go.IntKind.i64 0, Go.Value.int Go.IntKind.i64 0, Go.Value.int Go.IntKind.i64 0, Go.Value.int Go.IntKind.i64 0, Go.Value.int Go.IntKind.i64 0, Go.Value.int Go.IntKind.i64 0, Go.Value.int Go.IntKind.i64 0, Go.Value.int Go.IntKind.i64 0, Go.Value.int Go.IntKind.i64 0, Go.Value.int Go.IntKind.i64 0, Go.Value.int Go.IntKind.i64 0, Go.Value.int Go.IntKind.i64 0, Go.Value.int Go.IntKind.i64 0, Go.Value.int Go.IntKind.i64 0, Go.Value.int Go.IntKind.i64 0, Go.Value.int Go.IntKind.i64 0, Go.Value.int Go.IntKind.i64 0, Go.Value.int Go.IntKind.i64 0, Go.Value.int Go.IntKind.i64 0, Go.Value.int Go.IntKind.i64 0, Go.Value.int Go.IntKind.i64 0, Go.Value.int Go.IntKind.i64 0, Go.Value.int Go.IntKind.i64 0, Go.Value.int Go.IntKind.i64 0, Go.Value.int Go.IntKind.i64 0, Go.Value.int Go.IntKind.i64 0, Go.Value.int Go.IntKind.i64 0, Go.Value.int Go.IntKind.i64 0, Go.Value.int Go.IntKind.i64 0, Go.Value.int Go.IntKind.i64 0, Go.Value.int Go.IntKind.i64 0, Go.Value.int Go.IntKind.i64 0])⟩ := ⟨Try.underlying30, by kernel_rfl⟩
theorem ty31 : TyOk Try.prog 31 ⟨1, 8, (Go.TypeDesc.int Go.IntKind.i64), (Go.Value.int Go.IntKind.i64 0)⟩ := ⟨Try.underlying31, by kernel_rfl⟩
theorem ty38 : TyOk Try.prog 38 ⟨2, 16, (Go.TypeDesc.struct #[{ name := "Lo", type := 3, offset := 0, embedded := false, tag := "", pkgPath := "", byteOffset := 0 }, { name := "Hi", type := 3, offset := 1, embedded := false, tag := "", pkgPath := "", byteOffset := 8 }]), (Go.Value.agg #[Go.Value.int Go.IntKind.i64 0, Go.Value.int Go.IntKind.i64 0])⟩ := ⟨Try.underlying38, by kernel_rfl⟩
theorem ty46 : TyOk Try.prog 46 ⟨8, 64, (Go.TypeDesc.array 8 3), (Go.Value.agg #[Go.Value.int Go.IntKind.i64 0, Go.Value.int Go.IntKind.i64 0, Go.Value.int Go.IntKind.i64 0, Go.Value.int Go.IntKind.i64 0, Go.Value.int Go.IntKind.i64 0, Go.Value.int Go.IntKind.i64 0, Go.Value.int Go.IntKind.i64 0, Go.Value.int Go.IntKind.i64 0])⟩ := ⟨Try.underlying46, by kernel_rfl⟩
theorem ty48 : TyOk Try.prog 48 ⟨4, 32, (Go.TypeDesc.struct #[{ name := "Hour", type := 3, offset := 0, embedded := false, tag := "", pkgPath := "", byteOffset := 0 }, { name := "Retort", type := 3, offset := 1, embedded := false, tag := "", pkgPath := "", byteOffset := 8 }, { name := "Kind", type := 3, offset := 2, embedded := false, tag := "", pkgPath := "", byteOffset := 16 }, { name := "Tons", type := 3, offset := 3, embedded := false, tag := "", pkgPath := "", byteOffset := 24 }]), (Go.Value.agg #[Go.Value.int Go.IntKind.i64 0, Go.Value.int Go.IntKind.i64 0, Go.Value.int Go.IntKind.i64 0, Go.Value.int Go.IntKind.i64 0])⟩ := ⟨Try.underlying48, by kernel_rfl⟩
theorem ty57 : TyOk Try.prog 57 ⟨1, 8, (Go.TypeDesc.pointer 63), (Go.Value.pointer none)⟩ := ⟨Try.underlying57, by kernel_rfl⟩
theorem ty60 : TyOk Try.prog 60 ⟨1, 8, (Go.TypeDesc.map 3 3), (Go.Value.map none)⟩ := ⟨Try.underlying60, by kernel_rfl⟩
theorem ty61 : TyOk Try.prog 61 ⟨1, 24, (Go.TypeDesc.slice 86), (Go.Value.slice none 0 0)⟩ := ⟨Try.underlying61, by kernel_rfl⟩
theorem ty76 : TyOk Try.prog 76 ⟨1, 8, (Go.TypeDesc.map 3 38), (Go.Value.map none)⟩ := ⟨Try.underlying76, by kernel_rfl⟩
theorem ty78 : TyOk Try.prog 78 ⟨1, 8, (Go.TypeDesc.struct #[{ name := "e", type := 31, offset := 0, embedded := false, tag := "", pkgPath := "gasworks/retort", byteOffset := 0 }]), (Go.Value.agg #[Go.Value.int Go.IntKind.i64 0])⟩ := ⟨Try.underlying78, by kernel_rfl⟩
theorem ty86 : TyOk Try.prog 86 ⟨3, 24, (Go.TypeDesc.struct #[{ name := "tons", type := 3, offset := 0, embedded := false, tag := "", pkgPath := "gasworks/retort", byteOffset := 0 }, { name := "from", type := 3, offset := 1, embedded := false, tag := "", pkgPath := "gasworks/retort", byteOffset := 8 }, { name := "until", type := 3, offset := 2, embedded := false, tag := "", pkgPath := "gasworks/retort", byteOffset := 16 }]), (Go.Value.agg #[Go.Value.int Go.IntKind.i64 0, Go.Value.int Go.IntKind.i64 0, Go.Value.int Go.IntKind.i64 0])⟩ := ⟨Try.underlying86, by kernel_rfl⟩
theorem ty90 : TyOk Try.prog 90 ⟨1, 8, (Go.TypeDesc.func #[57, 94, 48] #[] false), Go.Value.nilFunc⟩ := ⟨Try.underlying90, by kernel_rfl⟩
theorem ty92 : TyOk Try.prog 92 ⟨5, 40, (Go.TypeDesc.array 5 90), (Go.Value.agg #[Go.Value.nilFunc, Go.Value.nilFunc, Go.Value.nilFunc, Go.Value.nilFunc, Go.Value.nilFunc])⟩ := ⟨Try.underlying92, by kernel_rfl⟩
theorem fl24_0 : FldOk Try.prog 24 0 0 1 false := ⟨_, _, Try.underlying24, rfl, rfl, _, ty22, rfl, rfl⟩
theorem fl24_1 : FldOk Try.prog 24 1 1 1 false := ⟨_, _, Try.underlying24, rfl, rfl, _, ty3, rfl, rfl⟩
theorem fl24_2 : FldOk Try.prog 24 2 2 1 false := ⟨_, _, Try.underlying24, rfl, rfl, _, ty3, rfl, rfl⟩
theorem fl24_3 : FldOk Try.prog 24 3 3 1 false := ⟨_, _, Try.underlying24, rfl, rfl, _, ty3, rfl, rfl⟩
theorem fl24_4 : FldOk Try.prog 24 4 4 1 false := ⟨_, _, Try.underlying24, rfl, rfl, _, ty3, rfl, rfl⟩
theorem fl24_5 : FldOk Try.prog 24 5 5 1 false := ⟨_, _, Try.underlying24, rfl, rfl, _, ty3, rfl, rfl⟩
theorem fl29_0 : FldOk Try.prog 29 0 0 1 false := ⟨_, _, Try.underlying29, rfl, rfl, _, ty3, rfl, rfl⟩
theorem fl29_1 : FldOk Try.prog 29 1 1 1 false := ⟨_, _, Try.underlying29, rfl, rfl, _, ty3, rfl, rfl⟩
theorem fl29_2 : FldOk Try.prog 29 2 2 1 false := ⟨_, _, Try.underlying29, rfl, rfl, _, ty3, rfl, rfl⟩
theorem fl29_3 : FldOk Try.prog 29 3 3 1 false := ⟨_, _, Try.underlying29, rfl, rfl, _, ty3, rfl, rfl⟩
theorem fl29_4 : FldOk Try.prog 29 4 4 1 false := ⟨_, _, Try.underlying29, rfl, rfl, _, ty3, rfl, rfl⟩
theorem fl38_0 : FldOk Try.prog 38 0 0 1 false := ⟨_, _, Try.underlying38, rfl, rfl, _, ty3, rfl, rfl⟩
theorem fl38_1 : FldOk Try.prog 38 1 1 1 false := ⟨_, _, Try.underlying38, rfl, rfl, _, ty3, rfl, rfl⟩
theorem fl48_0 : FldOk Try.prog 48 0 0 1 false := ⟨_, _, Try.underlying48, rfl, rfl, _, ty3, rfl, rfl⟩
theorem fl48_1 : FldOk Try.prog 48 1 1 1 false := ⟨_, _, Try.underlying48, rfl, rfl, _, ty3, rfl, rfl⟩
theorem fl48_2 : FldOk Try.prog 48 2 2 1 false := ⟨_, _, Try.underlying48, rfl, rfl, _, ty3, rfl, rfl⟩
theorem fl48_3 : FldOk Try.prog 48 3 3 1 false := ⟨_, _, Try.underlying48, rfl, rfl, _, ty3, rfl, rfl⟩
theorem fl63_0 : FldOk Try.prog 63 0 0 6 true := ⟨_, _, Try.underlying63, rfl, rfl, _, ty24, rfl, rfl⟩
theorem fl63_1 : FldOk Try.prog 63 1 6 40 true := ⟨_, _, Try.underlying63, rfl, rfl, _, ty30, rfl, rfl⟩
theorem fl63_2 : FldOk Try.prog 63 2 46 1 false := ⟨_, _, Try.underlying63, rfl, rfl, _, ty60, rfl, rfl⟩
theorem fl63_3 : FldOk Try.prog 63 3 47 1 false := ⟨_, _, Try.underlying63, rfl, rfl, _, ty3, rfl, rfl⟩
theorem fl63_4 : FldOk Try.prog 63 4 48 1 false := ⟨_, _, Try.underlying63, rfl, rfl, _, ty61, rfl, rfl⟩
theorem fl63_5 : FldOk Try.prog 63 5 49 8 true := ⟨_, _, Try.underlying63, rfl, rfl, _, ty46, rfl, rfl⟩
theorem fl78_0 : FldOk Try.prog 78 0 0 1 false := ⟨_, _, Try.underlying78, rfl, rfl, _, ty31, rfl, rfl⟩
theorem fl86_0 : FldOk Try.prog 86 0 0 1 false := ⟨_, _, Try.underlying86, rfl, rfl, _, ty3, rfl, rfl⟩
theorem fl86_1 : FldOk Try.prog 86 1 1 1 false := ⟨_, _, Try.underlying86, rfl, rfl, _, ty3, rfl, rfl⟩
theorem fl86_2 : FldOk Try.prog 86 2 2 1 false := ⟨_, _, Try.underlying86, rfl, rfl, _, ty3, rfl, rfl⟩
theorem sl22 : SlT Try.prog 22 38 := Try.underlying22
theorem bt24 : BtOk Try.prog 24 [Go.Value.slice none 0 0, Go.Value.int Go.IntKind.i64 0, Go.Value.int Go.IntKind.i64 0, Go.Value.int Go.IntKind.i64 0, Go.Value.int Go.IntKind.i64 0, Go.Value.int Go.IntKind.i64 0] (fun i => (#[(0, 1), (1, 1), (2, 1), (3, 1), (4, 1), (5, 1)] : Array (Nat × Nat))[i]?) := fun _ => by kernel_rfl
theorem sl25 : SlT Try.prog 25 48 := Try.underlying25
theorem bt29 : BtOk Try.prog 29 [Go.Value.int Go.IntKind.i64 0, Go.Value.int Go.IntKind.i64 0, Go.Value.int Go.IntKind.i64 0, Go.Value.int Go.IntKind.i64 0, Go.Value.int Go.IntKind.i64 0] (fun i => (#[(0, 1), (1, 1), (2, 1), (3, 1), (4, 1)] : Array (Nat × Nat))[i]?) := fun _ => by kernel_rfl
theorem bt30 : BtOk Try.prog 30 [Go.Value.int Go.IntKind.i64 0, Go.Value.int Go.IntKind.i64 0, Go.Value.int Go.IntKind.i64 0, Go.Value.int Go.IntKind.i64 0, Go.Value.int Go.IntKind.i64 0, Go.Value.int Go.IntKind.i64 0, Go.Value.int Go.IntKind.i64 0, Go.Value.int Go.IntKind.i64 0, Go.Value.int Go.IntKind.i64 0, Go.Value.int Go.IntKind.i64 0, Go.Value.int Go.IntKind.i64 0, Go.Value.int Go.IntKind.i64 0, Go.Value.int Go.IntKind.i64 0, Go.Value.int Go.IntKind.i64 0, Go.Value.int Go.IntKind.i64 0, Go.Value.int Go.IntKind.i64 0, Go.Value.int Go.IntKind.i64 0, Go.Value.int Go.IntKind.i64 0, Go.Value.int Go.IntKind.i64 0, Go.Value.int Go.IntKind.i64 0, Go.Value.int Go.IntKind.i64 0, Go.Value.int Go.IntKind.i64 0, Go.Value.int Go.IntKind.i64 0, Go.Value.int Go.IntKind.i64 0, Go.Value.int Go.IntKind.i64 0, Go.Value.int Go.IntKind.i64 0, Go.Value.int Go.IntKind.i64 0, Go.Value.int Go.IntKind.i64 0, Go.Value.int Go.IntKind.i64 0, Go.Value.int Go.IntKind.i64 0, Go.Value.int Go.IntKind.i64 0, Go.Value.int Go.IntKind.i64 0, Go.Value.int Go.IntKind.i64 0, Go.Value.int Go.IntKind.i64 0, Go.Value.int Go.IntKind.i64 0, Go.Value.int Go.IntKind.i64 0, Go.Value.int Go.IntKind.i64 0, Go.Value.int Go.IntKind.i64 0, Go.Value.int Go.IntKind.i64 0, Go.Value.int Go.IntKind.i64 0] (fun i => some (i * 5, 5)) := fun _ => by kernel_rfl
theorem bt38 : BtOk Try.prog 38 [Go.Value.int Go.IntKind.i64 0, Go.Value.int Go.IntKind.i64 0] (fun i => (#[(0, 1), (1, 1)] : Array (Nat × Nat))[i]?) := fun _ => by kernel_rfl
theorem bt48 : BtOk Try.prog 48 [Go.Value.int Go.IntKind.i64 0, Go.Value.int Go.IntKind.i64 0, Go.Value.int Go.IntKind.i64 0, Go.Value.int Go.IntKind.i64 0] (fun i => (#[(0, 1), (1, 1), (2, 1), (3, 1)] : Array (Nat × Nat))[i]?) := fun _ => by kernel_rfl
theorem sl61 : SlT Try.prog 61 86 := Try.underlying61
theorem bt63 : BtOk Try.prog 63 [Go.Value.slice none 0 0, Go.Value.int Go.IntKind.i64 0, Go.Value.int Go.IntKind.i64 0, Go.Value.int Go.IntKind.i64 0, Go.Value.int Go.IntKind.i64 0, Go.Value.int Go.IntKind.i64 0, Go.Value.int Go.IntKind.i64 0, Go.Value.int Go.IntKind.i64 0, Go.Value.int Go.IntKind.i64 0, Go.Value.int Go.IntKind.i64 0, Go.Value.int Go.IntKind.i64 0, Go.Value.int Go.IntKind.i64 0, Go.Value.int Go.IntKind.i64 0, Go.Value.int Go.IntKind.i64 0, Go.Value.int Go.IntKind.i64 0, Go.Value.int Go.IntKind.i64 0, Go.Value.int Go.IntKind.i64 0, Go.Value.int Go.IntKind.i64 0, Go.Value.int Go.IntKind.i64 0, Go.Value.int Go.IntKind.i64 0, Go.Value.int Go.IntKind.i64 0, Go.Value.int Go.IntKind.i64 0, Go.Value.int Go.IntKind.i64 0, Go.Value.int Go.IntKind.i64 0, Go.Value.int Go.IntKind.i64 0, Go.Value.int Go.IntKind.i64 0, Go.Value.int Go.IntKind.i64 0, Go.Value.int Go.IntKind.i64 0, Go.Value.int Go.IntKind.i64 0, Go.Value.int Go.IntKind.i64 0, Go.Value.int Go.IntKind.i64 0, Go.Value.int Go.IntKind.i64 0, Go.Value.int Go.IntKind.i64 0, Go.Value.int Go.IntKind.i64 0, Go.Value.int Go.IntKind.i64 0, Go.Value.int Go.IntKind.i64 0, Go.Value.int Go.IntKind.i64 0, Go.Value.int Go.IntKind.i64 0, Go.Value.int Go.IntKind.i64 0, Go.Value.int Go.IntKind.i64 0, Go.Value.int Go.IntKind.i64 0, Go.Value.int Go.IntKind.i64 0, Go.Value.int Go.IntKind.i64 0, Go.Value.int Go.IntKind.i64 0, Go.Value.int Go.IntKind.i64 0, Go.Value.int Go.IntKind.i64 0, Go.Value.map none, Go.Value.int Go.IntKind.i64 0, Go.Value.slice none 0 0, Go.Value.int Go.IntKind.i64 0, Go.Value.int Go.IntKind.i64 0, Go.Value.int Go.IntKind.i64 0, Go.Value.int Go.IntKind.i64 0, Go.Value.int Go.IntKind.i64 0, Go.Value.int Go.IntKind.i64 0, Go.Value.int Go.IntKind.i64 0, Go.Value.int Go.IntKind.i64 0] (fun i => (#[(0, 6), (6, 40), (46, 1), (47, 1), (48, 1), (49, 8)] : Array (Nat × Nat))[i]?) := fun _ => by kernel_rfl
theorem sl73 : SlT Try.prog 73 3 := Try.underlying73
theorem bt78 : BtOk Try.prog 78 [Go.Value.int Go.IntKind.i64 0] (fun i => (#[(0, 1)] : Array (Nat × Nat))[i]?) := fun _ => by kernel_rfl
theorem bt86 : BtOk Try.prog 86 [Go.Value.int Go.IntKind.i64 0, Go.Value.int Go.IntKind.i64 0, Go.Value.int Go.IntKind.i64 0] (fun i => (#[(0, 1), (1, 1), (2, 1)] : Array (Nat × Nat))[i]?) := fun _ => by kernel_rfl
theorem bt92 : BtOk Try.prog 92 [Go.Value.nilFunc, Go.Value.nilFunc, Go.Value.nilFunc, Go.Value.nilFunc, Go.Value.nilFunc] (fun i => some (i * 1, 1)) := fun _ => by kernel_rfl
theorem fq3 : Flat Try.prog 1 3 1 false := flat_int Try.underlying3
theorem fq29 : Flat Try.prog 2 29 5 true := flat_struct Try.underlying29 (by kernel_rfl) (.cons (by decide) rfl ty3 rfl (fq3.le rfl) (by decide) rfl (.cons (by decide) rfl ty3 rfl (fq3.le rfl) (by decide) rfl (.cons (by decide) rfl ty3 rfl (fq3.le rfl) (by decide) rfl (.cons (by decide) rfl ty3 rfl (fq3.le rfl) (by decide) rfl (.cons (by decide) rfl ty3 rfl (fq3.le rfl) (by decide) rfl .nil)))))
theorem eg29 : Try.prog.eqGuardType Try.prog.depth 29 = false := by kernel_rfl
theorem fq30 : Flat Try.prog 3 30 40 true := flat_array Try.underlying30 ty29 fq29 (by decide) rfl
theorem eg30 : Try.prog.eqGuardType Try.prog.depth 30 = false := by kernel_rfl
theorem fq38 : Flat Try.prog 2 38 2 true := flat_struct Try.underlying38 (by kernel_rfl) (.cons (by decide) rfl ty3 rfl (fq3.le rfl) (by decide) rfl (.cons (by decide) rfl ty3 rfl (fq3.le rfl) (by decide) rfl .nil))
theorem eg38 : Try.prog.eqGuardType Try.prog.depth 38 = false := by kernel_rfl
theorem mixed : Try.prog.follows .mixedOrders = true := by kernel_rfl
theorem hb3 : HasBody Try.prog 3 := Try.call3
theorem hb4 : HasBody Try.prog 4 := Try.call4
theorem hb5 : HasBody Try.prog 5 := Try.call5
theorem hb6 : HasBody Try.prog 6 := Try.call6
theorem hb7 : HasBody Try.prog 7 := Try.call7
theorem hb8 : HasBody Try.prog 8 := Try.call8
theorem hb9 : HasBody Try.prog 9 := Try.call9
theorem hb10 : HasBody Try.prog 10 := Try.call10
theorem hb11 : HasBody Try.prog 11 := Try.call11
theorem hb12 : HasBody Try.prog 12 := Try.call12
theorem hb13 : HasBody Try.prog 13 := Try.call13
theorem hb14 : HasBody Try.prog 14 := Try.call14
theorem hb15 : HasBody Try.prog 15 := Try.call15
theorem hb16 : HasBody Try.prog 16 := Try.call16
theorem hb17 : HasBody Try.prog 17 := Try.call17
theorem hb18 : HasBody Try.prog 18 := Try.call18
theorem hb19 : HasBody Try.prog 19 := Try.call19
theorem hb20 : HasBody Try.prog 20 := Try.call20
theorem hb21 : HasBody Try.prog 21 := Try.call21
theorem hb22 : HasBody Try.prog 22 := Try.call22
theorem hb23 : HasBody Try.prog 23 := Try.call23
theorem hb24 : HasBody Try.prog 24 := Try.call24
theorem hb25 : HasBody Try.prog 25 := Try.call25
theorem hb26 : HasBody Try.prog 26 := Try.call26
theorem hb27 : HasBody Try.prog 27 := Try.call27
theorem hb28 : HasBody Try.prog 28 := Try.call28
theorem hb29 : HasBody Try.prog 29 := Try.call29
theorem hb30 : HasBody Try.prog 30 := Try.call30
theorem hb31 : HasBody Try.prog 31 := Try.call31
theorem hb32 : HasBody Try.prog 32 := Try.call32
theorem hb33 : HasBody Try.prog 33 := Try.call33
theorem hb34 : HasBody Try.prog 34 := Try.call34
theorem hb35 : HasBody Try.prog 35 := Try.call35
theorem hb36 : HasBody Try.prog 36 := Try.call36
theorem hb37 : HasBody Try.prog 37 := Try.call37
theorem hb38 : HasBody Try.prog 38 := Try.call38
theorem hb39 : HasBody Try.prog 39 := Try.call39
theorem hb40 : HasBody Try.prog 40 := Try.call40
theorem hb41 : HasBody Try.prog 41 := Try.call41
theorem hb42 : HasBody Try.prog 42 := Try.call42
theorem hb43 : HasBody Try.prog 43 := Try.call43
theorem hb44 : HasBody Try.prog 44 := Try.call44
theorem hb45 : HasBody Try.prog 45 := Try.call45
theorem hb46 : HasBody Try.prog 46 := Try.call46
theorem hb47 : HasBody Try.prog 47 := Try.call47
theorem hb48 : HasBody Try.prog 48 := Try.call48
theorem hb49 : HasBody Try.prog 49 := Try.call49
theorem hb50 : HasBody Try.prog 50 := Try.call50
theorem hb51 : HasBody Try.prog 51 := Try.call51
end Go.Proofs.Ytjmailhoidenaaa
