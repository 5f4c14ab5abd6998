/-
  Facts on the types and functions of this seat.
-/
import Derived.Test.YtjbfdfmngampdaaHE
import Derived.Test.YtjbfdfmngampdaaProg
import Derived.KernelRfl
set_option linter.all false
namespace Go.Proofs.Ytjbfdfmngampdaa
open Go.H
open Go
theorem ty3 : TyOk Try.prog 3 ⟨1, 8, (Go.TypeDesc.int Go.IntKind.i64), (Go.Value.int Go.IntKind.i64 0)⟩ := ⟨Try.underlying3, by kernel_rfl⟩
theorem ty22 : TyOk Try.prog 22 ⟨1, 24, (Go.TypeDesc.slice 28), (Go.Value.slice none 0 0)⟩ := ⟨Try.underlying22, by kernel_rfl⟩
theorem ty26 : TyOk Try.prog 26 ⟨2, 16, (Go.TypeDesc.struct #[{ name := "Lo", type := 3, offset := 0, embedded := false, tag := "", pkgPath := "", byteOffset := 0 }, { name := "Hi", type := 3, offset := 1, embedded := false, tag := "", pkgPath := "", byteOffset := 8 }]), (Go.Value.agg #[Go.Value.int Go.IntKind.i64 0, Go.Value.int Go.IntKind.i64 0])⟩ := ⟨Try.underlying26, by kernel_rfl⟩
theorem ty28 : TyOk Try.prog 28 ⟨5, 40, (Go.TypeDesc.struct #[{ name := "Heat", type := 26, offset := 0, embedded := false, tag := "", pkgPath := "", byteOffset := 0 }, { name := "Volume", type := 3, offset := 2, embedded := false, tag := "", pkgPath := "", byteOffset := 16 }, { name := "Most", type := 3, offset := 3, embedded := false, tag := "", pkgPath := "", byteOffset := 24 }, { name := "Pay", type := 3, offset := 4, embedded := false, tag := "", pkgPath := "", byteOffset := 32 }]), (Go.Value.agg #[Go.Value.int Go.IntKind.i64 0, Go.Value.int Go.IntKind.i64 0, Go.Value.int Go.IntKind.i64 0, Go.Value.int Go.IntKind.i64 0, Go.Value.int Go.IntKind.i64 0])⟩ := ⟨Try.underlying28, by kernel_rfl⟩
theorem ty29 : TyOk Try.prog 29 ⟨1, 24, (Go.TypeDesc.slice 3), (Go.Value.slice none 0 0)⟩ := ⟨Try.underlying29, by kernel_rfl⟩
theorem ty36 : TyOk Try.prog 36 ⟨4, 32, (Go.TypeDesc.struct #[{ name := "Window", type := 3, offset := 0, embedded := false, tag := "", pkgPath := "", byteOffset := 0 }, { name := "Declared", type := 3, offset := 1, embedded := false, tag := "", pkgPath := "", byteOffset := 8 }, { name := "Slack", type := 3, offset := 2, embedded := false, tag := "", pkgPath := "", byteOffset := 16 }, { name := "Pay", type := 3, offset := 3, embedded := false, tag := "", pkgPath := "", byteOffset := 24 }]), (Go.Value.agg #[Go.Value.int Go.IntKind.i64 0, Go.Value.int Go.IntKind.i64 0, Go.Value.int Go.IntKind.i64 0, Go.Value.int Go.IntKind.i64 0])⟩ := ⟨Try.underlying36, by kernel_rfl⟩
theorem ty37 : TyOk Try.prog 37 ⟨1, 24, (Go.TypeDesc.slice 55), (Go.Value.slice none 0 0)⟩ := ⟨Try.underlying37, by kernel_rfl⟩
theorem ty55 : TyOk Try.prog 55 ⟨4, 32, (Go.TypeDesc.struct #[{ name := "Hour", type := 3, offset := 0, embedded := false, tag := "", pkgPath := "", byteOffset := 0 }, { name := "Station", type := 3, offset := 1, embedded := false, tag := "", pkgPath := "", byteOffset := 8 }, { name := "Heat", type := 26, offset := 2, embedded := false, tag := "", pkgPath := "", byteOffset := 16 }]), (Go.Value.agg #[Go.Value.int Go.IntKind.i64 0, Go.Value.int Go.IntKind.i64 0, Go.Value.int Go.IntKind.i64 0, Go.Value.int Go.IntKind.i64 0])⟩ := ⟨Try.underlying55, by kernel_rfl⟩
theorem ty68 : TyOk Try.prog 68 ⟨2, 16, (Go.TypeDesc.struct #[{ name := "volume", type := 3, offset := 0, embedded := false, tag := "", pkgPath := "gasworks/heat", byteOffset := 0 }, { name := "heat", type := 3, offset := 1, embedded := false, tag := "", pkgPath := "gasworks/heat", byteOffset := 8 }]), (Go.Value.agg #[Go.Value.int Go.IntKind.i64 0, Go.Value.int Go.IntKind.i64 0])⟩ := ⟨Try.underlying68, by kernel_rfl⟩
theorem ty69 : TyOk Try.prog 69 ⟨10, 80, (Go.TypeDesc.array 5 68), (Go.Value.agg #[Go.Value.int Go.IntKind.i64 0, Go.Value.int Go.IntKind.i64 0, Go.Value.int Go.IntKind.i64 0, Go.Value.int Go.IntKind.i64 0, Go.Value.int Go.IntKind.i64 0, Go.Value.int Go.IntKind.i64 0, Go.Value.int Go.IntKind.i64 0, Go.Value.int Go.IntKind.i64 0, Go.Value.int Go.IntKind.i64 0, Go.Value.int Go.IntKind.i64 0])⟩ := ⟨Try.underlying69, by kernel_rfl⟩
theorem ty73 : TyOk Try.prog 73 ⟨1, 8, (Go.TypeDesc.func #[3, 3, 3, 3, 3] #[] false), Go.Value.nilFunc⟩ := ⟨Try.underlying73, by kernel_rfl⟩
theorem ty81 : TyOk Try.prog 81 ⟨1, 8, (Go.TypeDesc.int Go.IntKind.i64), (Go.Value.int Go.IntKind.i64 0)⟩ := ⟨Try.underlying81, by kernel_rfl⟩
theorem ty85 : TyOk Try.prog 85 ⟨2, 16, (Go.TypeDesc.struct #[{ name := "all", type := 3, offset := 0, embedded := false, tag := "", pkgPath := "gasworks/heat", byteOffset := 0 }, { name := "among", type := 3, offset := 1, embedded := false, tag := "", pkgPath := "gasworks/heat", byteOffset := 8 }]), (Go.Value.agg #[Go.Value.int Go.IntKind.i64 0, Go.Value.int Go.IntKind.i64 0])⟩ := ⟨Try.underlying85, by kernel_rfl⟩
theorem ty87 : TyOk Try.prog 87 ⟨3, 24, (Go.TypeDesc.struct #[{ name := "share", type := 85, offset := 0, embedded := true, tag := "", pkgPath := "gasworks/heat", byteOffset := 0 }, { name := "pay", type := 3, offset := 2, embedded := false, tag := "", pkgPath := "gasworks/heat", byteOffset := 16 }]), (Go.Value.agg #[Go.Value.int Go.IntKind.i64 0, Go.Value.int Go.IntKind.i64 0, Go.Value.int Go.IntKind.i64 0])⟩ := ⟨Try.underlying87, by kernel_rfl⟩
theorem ty91 : TyOk Try.prog 91 ⟨2, 16, (Go.TypeDesc.struct #[{ name := "answer", type := 81, offset := 0, embedded := true, tag := "", pkgPath := "gasworks/heat", byteOffset := 0 }, { name := "hour", type := 3, offset := 1, embedded := false, tag := "", pkgPath := "gasworks/heat", byteOffset := 8 }]), (Go.Value.agg #[Go.Value.int Go.IntKind.i64 0, Go.Value.int Go.IntKind.i64 0])⟩ := ⟨Try.underlying91, by kernel_rfl⟩
theorem ty123 : TyOk Try.prog 123 ⟨1, 8, (Go.TypeDesc.int Go.IntKind.u64), (Go.Value.int Go.IntKind.u64 0)⟩ := ⟨Try.underlying123, by kernel_rfl⟩
theorem fl26_0 : FldOk Try.prog 26 0 0 1 false := ⟨_, _, Try.underlying26, rfl, rfl, _, ty3, rfl, rfl⟩
theorem fl26_1 : FldOk Try.prog 26 1 1 1 false := ⟨_, _, Try.underlying26, rfl, rfl, _, ty3, rfl, rfl⟩
theorem fl28_0 : FldOk Try.prog 28 0 0 2 true := ⟨_, _, Try.underlying28, rfl, rfl, _, ty26, rfl, rfl⟩
theorem fl28_1 : FldOk Try.prog 28 1 2 1 false := ⟨_, _, Try.underlying28, rfl, rfl, _, ty3, rfl, rfl⟩
theorem fl28_2 : FldOk Try.prog 28 2 3 1 false := ⟨_, _, Try.underlying28, rfl, rfl, _, ty3, rfl, rfl⟩
theorem fl28_3 : FldOk Try.prog 28 3 4 1 false := ⟨_, _, Try.underlying28, rfl, rfl, _, ty3, rfl, rfl⟩
theorem fl36_0 : FldOk Try.prog 36 0 0 1 false := ⟨_, _, Try.underlying36, rfl, rfl, _, ty3, rfl, rfl⟩
theorem fl36_1 : FldOk Try.prog 36 1 1 1 false := ⟨_, _, Try.underlying36, rfl, rfl, _, ty3, rfl, rfl⟩
theorem fl36_2 : FldOk Try.prog 36 2 2 1 false := ⟨_, _, Try.underlying36, rfl, rfl, _, ty3, rfl, rfl⟩
theorem fl36_3 : FldOk Try.prog 36 3 3 1 false := ⟨_, _, Try.underlying36, rfl, rfl, _, ty3, rfl, rfl⟩
theorem fl55_0 : FldOk Try.prog 55 0 0 1 false := ⟨_, _, Try.underlying55, rfl, rfl, _, ty3, rfl, rfl⟩
theorem fl55_1 : FldOk Try.prog 55 1 1 1 false := ⟨_, _, Try.underlying55, rfl, rfl, _, ty3, rfl, rfl⟩
theorem fl55_2 : FldOk Try.prog 55 2 2 2 true := ⟨_, _, Try.underlying55, rfl, rfl, _, ty26, rfl, rfl⟩
theorem fl68_0 : FldOk Try.prog 68 0 0 1 false := ⟨_, _, Try.underlying68, rfl, rfl, _, ty3, rfl, rfl⟩
theorem fl68_1 : FldOk Try.prog 68 1 1 1 false := ⟨_, _, Try.underlying68, rfl, rfl, _, ty3, rfl, rfl⟩
theorem fl85_0 : FldOk Try.prog 85 0 0 1 false := ⟨_, _, Try.underlying85, rfl, rfl, _, ty3, rfl, rfl⟩
theorem fl85_1 : FldOk Try.prog 85 1 1 1 false := ⟨_, _, Try.underlying85, rfl, rfl, _, ty3, rfl, rfl⟩
theorem fl87_0 : FldOk Try.prog 87 0 0 2 true := ⟨_, _, Try.underlying87, rfl, rfl, _, ty85, rfl, rfl⟩
theorem fl91_0 : FldOk Try.prog 91 0 0 1 false := ⟨_, _, Try.underlying91, rfl, rfl, _, ty81, rfl, rfl⟩
theorem fl91_1 : FldOk Try.prog 91 1 1 1 false := ⟨_, _, Try.underlying91, rfl, rfl, _, ty3, rfl, rfl⟩
theorem sl22 : SlT Try.prog 22 28 := Try.underlying22
theorem bt26 : BtOk Try.prog 26 [Go.Value.int Go.IntKind.i64 0, Go.Value.int Go.IntKind.i64 0] (fun i => (#[(0, 1), (1, 1)] : Array (Nat × Nat))[i]?) := fun _ => by kernel_rfl
theorem bt28 : BtOk Try.prog 28 [Go.Value.int Go.IntKind.i64 0, Go.Value.int Go.IntKind.i64 0, Go.Value.int Go.IntKind.i64 0, Go.Value.int Go.IntKind.i64 0, Go.Value.int Go.IntKind.i64 0] (fun i => (#[(0, 2), (2, 1), (3, 1), (4, 1)] : Array (Nat × Nat))[i]?) := fun _ => by kernel_rfl
theorem sl29 : SlT Try.prog 29 3 := Try.underlying29
theorem bt36 : BtOk Try.prog 36 [Go.Value.int Go.IntKind.i64 0, Go.Value.int Go.IntKind.i64 0, Go.Value.int Go.IntKind.i64 0, Go.Value.int Go.IntKind.i64 0] (fun i => (#[(0, 1), (1, 1), (2, 1), (3, 1)] : Array (Nat × Nat))[i]?) := fun _ => by kernel_rfl
theorem sl37 : SlT Try.prog 37 55 := Try.underlying37
theorem bt55 : BtOk Try.prog 55 [Go.Value.int Go.IntKind.i64 0, Go.Value.int Go.IntKind.i64 0, Go.Value.int Go.IntKind.i64 0, Go.Value.int Go.IntKind.i64 0] (fun i => (#[(0, 1), (1, 1), (2, 2)] : Array (Nat × Nat))[i]?) := fun _ => by kernel_rfl
theorem bt68 : BtOk Try.prog 68 [Go.Value.int Go.IntKind.i64 0, Go.Value.int Go.IntKind.i64 0] (fun i => (#[(0, 1), (1, 1)] : Array (Nat × Nat))[i]?) := fun _ => by kernel_rfl
theorem bt85 : BtOk Try.prog 85 [Go.Value.int Go.IntKind.i64 0, Go.Value.int Go.IntKind.i64 0] (fun i => (#[(0, 1), (1, 1)] : Array (Nat × Nat))[i]?) := fun _ => by kernel_rfl
theorem bt87 : BtOk Try.prog 87 [Go.Value.int Go.IntKind.i64 0, Go.Value.int Go.IntKind.i64 0, Go.Value.int Go.IntKind.i64 0] (fun i => (#[(0, 2), (2, 1)] : Array (Nat × Nat))[i]?) := fun _ => by kernel_rfl
theorem bt91 : BtOk Try.prog 91 [Go.Value.int Go.IntKind.i64 0, Go.Value.int Go.IntKind.i64 0] (fun i => (#[(0, 1), (1, 1)] : Array (Nat × Nat))[i]?) := fun _ => by kernel_rfl
theorem fq3 : Flat Try.prog 1 3 1 false := flat_int Try.underlying3
theorem fq26 : Flat Try.prog 2 26 2 true := flat_struct Try.underlying26 (by kernel_rfl) (.cons (by decide) rfl ty3 rfl (fq3.le rfl) (by decide) rfl (.cons (by decide) rfl ty3 rfl (fq3.le rfl) (by decide) rfl .nil))
theorem eg26 : Try.prog.eqGuardType Try.prog.depth 26 = false := by kernel_rfl
theorem mixed : Try.prog.follows .mixedOrders = true := by kernel_rfl
theorem hb3 : HasBody Try.prog 3 := Try.call3
theorem hb4 : HasBody Try.prog 4 := Try.call4
theorem hb5 : HasBody Try.prog 5 := Try.call5
theorem hb6 : HasBody Try.prog 6 := Try.call6
theorem hb7 : HasBody Try.prog 7 := Try.call7
theorem hb8 : HasBody Try.prog 8 := Try.call8
theorem hb9 : HasBody Try.prog 9 := Try.call9
theorem hb10 : HasBody Try.prog 10 := Try.call10
theorem hb11 : HasBody Try.prog 11 := Try.call11
theorem hb12 : HasBody Try.prog 12 := Try.call12
theorem hb13 : HasBody Try.prog 13 := Try.call13
theorem hb14 : HasBody Try.prog 14 := Try.call14
theorem hb15 : HasBody Try.prog 15 := Try.call15
theorem hb16 : HasBody Try.prog 16 := Try.call16
theorem hb17 : HasBody Try.prog 17 := Try.call17
theorem hb18 : HasBody Try.prog 18 := Try.call18
theorem hb19 : HasBody Try.prog 19 := Try.call19
theorem hb20 : HasBody Try.prog 20 := Try.call20
theorem hb27 : HasBody Try.prog 27 := Try.call27
theorem hb28 : HasBody Try.prog 28 := Try.call28
theorem hb29 : HasBody Try.prog 29 := Try.call29
theorem hb32 : HasBody Try.prog 32 := Try.call32
theorem hb33 : HasBody Try.prog 33 := Try.call33
theorem hb34 : HasBody Try.prog 34 := Try.call34
theorem hb35 : HasBody Try.prog 35 := Try.call35
theorem hb36 : HasBody Try.prog 36 := Try.call36
theorem hb37 : HasBody Try.prog 37 := Try.call37
theorem hb38 : HasBody Try.prog 38 := Try.call38
theorem hb40 : HasBody Try.prog 40 := Try.call40
theorem hb41 : HasBody Try.prog 41 := Try.call41
theorem hb42 : HasBody Try.prog 42 := Try.call42
theorem hb43 : HasBody Try.prog 43 := Try.call43
theorem hb47 : HasBody Try.prog 47 := Try.call47
theorem hb48 : HasBody Try.prog 48 := Try.call48
theorem hb49 : HasBody Try.prog 49 := Try.call49
theorem hb50 : HasBody Try.prog 50 := Try.call50
theorem hb51 : HasBody Try.prog 51 := Try.call51
theorem hb52 : HasBody Try.prog 52 := Try.call52
theorem hb53 : HasBody Try.prog 53 := Try.call53
theorem hb54 : HasBody Try.prog 54 := Try.call54
theorem hb55 : HasBody Try.prog 55 := Try.call55
theorem hb56 : HasBody Try.prog 56 := Try.call56
theorem hb58 : HasBody Try.prog 58 := Try.call58
theorem hb59 : HasBody Try.prog 59 := Try.call59
theorem hb60 : HasBody Try.prog 60 := Try.call60
theorem hb61 : HasBody Try.prog 61 := Try.call61
theorem hb62 : HasBody Try.prog 62 := Try.call62
theorem hb63 : HasBody Try.prog 63 := Try.call63
theorem hb64 : HasBody Try.prog 64 := Try.call64
theorem hb65 : HasBody Try.prog 65 := Try.call65
theorem hb66 : HasBody Try.prog 66 := Try.call66
theorem hb67 : HasBody Try.prog 67 := Try.call67
theorem hb68 : HasBody Try.prog 68 := Try.call68
theorem hb69 : HasBody Try.prog 69 := Try.call69
theorem hb70 : HasBody Try.prog 70 := Try.call70
theorem hb71 : HasBody Try.prog 71 := Try.call71
theorem hb72 : HasBody Try.prog 72 := Try.call72
theorem hb73 : HasBody Try.prog 73 := Try.call73
theorem hb74 : HasBody Try.prog 74 := Try.call74
theorem hb75 : HasBody Try.prog 75 := Try.call75
theorem hb76 : HasBody Try.prog 76 := Try.call76
theorem hb78 : HasBody Try.prog 78 := Try.call78
theorem hb79 : HasBody Try.prog 79 := Try.call79
theorem hb80 : HasBody Try.prog 80 := Try.call80
theorem hb81 : HasBody Try.prog 81 := Try.call81
theorem hb83 : HasBody Try.prog 83 := Try.call83
theorem hb84 : HasBody Try.prog 84 := Try.call84
end Go.Proofs.Ytjbfdfmngampdaa
