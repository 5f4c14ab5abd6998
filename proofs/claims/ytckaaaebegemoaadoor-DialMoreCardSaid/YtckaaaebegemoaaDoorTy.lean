/-
  Facts on the types and functions of this seat.
-/
import Derived.Test.YtckaaaebegemoaaDoorHE
import Derived.Test.YtckaaaebegemoaaDoorProg
import Derived.KernelRfl
set_option linter.all false
namespace Go.Proofs.YtckaaaebegemoaaDoor
open Go.H
open Go
theorem ty3 : TyOk Tryd.prog 3 ⟨1, 8, (Go.TypeDesc.int Go.IntKind.i64), (Go.Value.int Go.IntKind.i64 0)⟩ := ⟨Tryd.underlying3, by kernel_rfl⟩
theorem ty4 : TyOk Tryd.prog 4 ⟨1, 1, Go.TypeDesc.bool, (Go.Value.bool false)⟩ := ⟨Tryd.underlying4, by kernel_rfl⟩
theorem ty22 : TyOk Tryd.prog 22 ⟨1, 24, (Go.TypeDesc.slice 45), (Go.Value.slice none 0 0)⟩ := ⟨Tryd.underlying22, by kernel_rfl⟩
theorem ty23 : TyOk Tryd.prog 23 ⟨1, 24, (Go.TypeDesc.slice 59), (Go.Value.slice none 0 0)⟩ := ⟨Tryd.underlying23, by kernel_rfl⟩
theorem ty25 : TyOk Tryd.prog 25 ⟨2, 48, (Go.TypeDesc.struct #[{ name := "Dials", type := 22, offset := 0, embedded := false, tag := "", pkgPath := "", byteOffset := 0 }, { name := "Cards", type := 23, offset := 1, embedded := false, tag := "", pkgPath := "", byteOffset := 24 }]), (Go.Value.agg #[Go.Value.slice none 0 0, Go.Value.slice none 0 0])⟩ := ⟨Tryd.underlying25, by kernel_rfl⟩
theorem ty38 : TyOk Tryd.prog 38 ⟨2, 16, (Go.TypeDesc.struct #[{ name := "Lo", type := 3, offset := 0, embedded := false, tag := "", pkgPath := "", byteOffset := 0 }, { name := "Hi", type := 3, offset := 1, embedded := false, tag := "", pkgPath := "", byteOffset := 8 }]), (Go.Value.agg #[Go.Value.int Go.IntKind.i64 0, Go.Value.int Go.IntKind.i64 0])⟩ := ⟨Tryd.underlying38, by kernel_rfl⟩
theorem ty45 : TyOk Tryd.prog 45 ⟨4, 32, (Go.TypeDesc.struct #[{ name := "Digits", type := 3, offset := 0, embedded := false, tag := "", pkgPath := "", byteOffset := 0 }, { name := "Rate", type := 38, offset := 1, embedded := false, tag := "", pkgPath := "", byteOffset := 8 }, { name := "Sticks", type := 4, offset := 3, embedded := false, tag := "", pkgPath := "", byteOffset := 24 }]), (Go.Value.agg #[Go.Value.int Go.IntKind.i64 0, Go.Value.int Go.IntKind.i64 0, Go.Value.int Go.IntKind.i64 0, Go.Value.bool false])⟩ := ⟨Tryd.underlying45, by kernel_rfl⟩
theorem ty47 : TyOk Tryd.prog 47 ⟨1, 2, (Go.TypeDesc.int Go.IntKind.u16), (Go.Value.int Go.IntKind.u16 0)⟩ := ⟨Tryd.underlying47, by kernel_rfl⟩
theorem ty59 : TyOk Tryd.prog 59 ⟨3, 24, (Go.TypeDesc.struct #[{ name := "House", type := 3, offset := 0, embedded := false, tag := "", pkgPath := "", byteOffset := 0 }, { name := "Hour", type := 3, offset := 1, embedded := false, tag := "", pkgPath := "", byteOffset := 8 }, { name := "Shows", type := 3, offset := 2, embedded := false, tag := "", pkgPath := "", byteOffset := 16 }]), (Go.Value.agg #[Go.Value.int Go.IntKind.i64 0, Go.Value.int Go.IntKind.i64 0, Go.Value.int Go.IntKind.i64 0])⟩ := ⟨Tryd.underlying59, by kernel_rfl⟩
theorem ty67 : TyOk Tryd.prog 67 ⟨1, 8, (Go.TypeDesc.pointer 74), (Go.Value.pointer none)⟩ := ⟨Tryd.underlying67, by kernel_rfl⟩
theorem ty72 : TyOk Tryd.prog 72 ⟨1, 24, (Go.TypeDesc.slice 78), (Go.Value.slice none 0 0)⟩ := ⟨Tryd.underlying72, by kernel_rfl⟩
theorem ty78 : TyOk Tryd.prog 78 ⟨3, 24, (Go.TypeDesc.struct #[{ name := "House", type := 3, offset := 0, embedded := false, tag := "", pkgPath := "", byteOffset := 0 }, { name := "Hour", type := 3, offset := 1, embedded := false, tag := "", pkgPath := "", byteOffset := 8 }, { name := "Shows", type := 3, offset := 2, embedded := false, tag := "", pkgPath := "", byteOffset := 16 }]), (Go.Value.agg #[Go.Value.int Go.IntKind.i64 0, Go.Value.int Go.IntKind.i64 0, Go.Value.int Go.IntKind.i64 0])⟩ := ⟨Tryd.underlying78, by kernel_rfl⟩
theorem ty106 : TyOk Tryd.prog 106 ⟨2, 16, (Go.TypeDesc.struct #[{ name := "least", type := 3, offset := 0, embedded := false, tag := "", pkgPath := "gasworks/dial", byteOffset := 0 }, { name := "turn", type := 3, offset := 1, embedded := false, tag := "", pkgPath := "gasworks/dial", byteOffset := 8 }]), (Go.Value.agg #[Go.Value.int Go.IntKind.i64 0, Go.Value.int Go.IntKind.i64 0])⟩ := ⟨Tryd.underlying106, by kernel_rfl⟩
theorem ty109 : TyOk Tryd.prog 109 ⟨1, 8, (Go.TypeDesc.int Go.IntKind.i64), (Go.Value.int Go.IntKind.i64 0)⟩ := ⟨Tryd.underlying109, by kernel_rfl⟩
theorem ty125 : TyOk Tryd.prog 125 ⟨1, 8, (Go.TypeDesc.int Go.IntKind.u64), (Go.Value.int Go.IntKind.u64 0)⟩ := ⟨Tryd.underlying125, by kernel_rfl⟩
theorem fl25_0 : FldOk Tryd.prog 25 0 0 1 false := ⟨_, _, Tryd.underlying25, rfl, rfl, _, ty22, rfl, rfl⟩
theorem fl25_1 : FldOk Tryd.prog 25 1 1 1 false := ⟨_, _, Tryd.underlying25, rfl, rfl, _, ty23, rfl, rfl⟩
theorem fl38_0 : FldOk Tryd.prog 38 0 0 1 false := ⟨_, _, Tryd.underlying38, rfl, rfl, _, ty3, rfl, rfl⟩
theorem fl38_1 : FldOk Tryd.prog 38 1 1 1 false := ⟨_, _, Tryd.underlying38, rfl, rfl, _, ty3, rfl, rfl⟩
theorem fl45_0 : FldOk Tryd.prog 45 0 0 1 false := ⟨_, _, Tryd.underlying45, rfl, rfl, _, ty3, rfl, rfl⟩
theorem fl45_1 : FldOk Tryd.prog 45 1 1 2 true := ⟨_, _, Tryd.underlying45, rfl, rfl, _, ty38, rfl, rfl⟩
theorem fl45_2 : FldOk Tryd.prog 45 2 3 1 false := ⟨_, _, Tryd.underlying45, rfl, rfl, _, ty4, rfl, rfl⟩
theorem fl59_0 : FldOk Tryd.prog 59 0 0 1 false := ⟨_, _, Tryd.underlying59, rfl, rfl, _, ty3, rfl, rfl⟩
theorem fl59_1 : FldOk Tryd.prog 59 1 1 1 false := ⟨_, _, Tryd.underlying59, rfl, rfl, _, ty3, rfl, rfl⟩
theorem fl59_2 : FldOk Tryd.prog 59 2 2 1 false := ⟨_, _, Tryd.underlying59, rfl, rfl, _, ty3, rfl, rfl⟩
theorem fl74_0 : FldOk Tryd.prog 74 0 0 4 true := ⟨_, _, Tryd.underlying74, rfl, rfl, _, ty45, rfl, rfl⟩
theorem fl74_1 : FldOk Tryd.prog 74 1 4 1 false := ⟨_, _, Tryd.underlying74, rfl, rfl, _, ty72, rfl, rfl⟩
theorem fl78_1 : FldOk Tryd.prog 78 1 1 1 false := ⟨_, _, Tryd.underlying78, rfl, rfl, _, ty3, rfl, rfl⟩
theorem fl78_2 : FldOk Tryd.prog 78 2 2 1 false := ⟨_, _, Tryd.underlying78, rfl, rfl, _, ty3, rfl, rfl⟩
theorem fl106_0 : FldOk Tryd.prog 106 0 0 1 false := ⟨_, _, Tryd.underlying106, rfl, rfl, _, ty3, rfl, rfl⟩
theorem fl106_1 : FldOk Tryd.prog 106 1 1 1 false := ⟨_, _, Tryd.underlying106, rfl, rfl, _, ty3, rfl, rfl⟩
theorem sl22 : SlT Tryd.prog 22 45 := Tryd.underlying22
theorem sl23 : SlT Tryd.prog 23 59 := Tryd.underlying23
theorem bt25 : BtOk Tryd.prog 25 [Go.Value.slice none 0 0, Go.Value.slice none 0 0] (fun i => (#[(0, 1), (1, 1)] : Array (Nat × Nat))[i]?) := fun _ => by kernel_rfl
theorem sl28 : SlT Tryd.prog 28 38 := Tryd.underlying28
theorem sl32 : SlT Tryd.prog 32 3 := Tryd.underlying32
theorem bt38 : BtOk Tryd.prog 38 [Go.Value.int Go.IntKind.i64 0, Go.Value.int Go.IntKind.i64 0] (fun i => (#[(0, 1), (1, 1)] : Array (Nat × Nat))[i]?) := fun _ => by kernel_rfl
theorem bt45 : BtOk Tryd.prog 45 [Go.Value.int Go.IntKind.i64 0, Go.Value.int Go.IntKind.i64 0, Go.Value.int Go.IntKind.i64 0, Go.Value.bool false] (fun i => (#[(0, 1), (1, 2), (3, 1)] : Array (Nat × Nat))[i]?) := fun _ => by kernel_rfl
theorem sl46 : SlT Tryd.prog 46 47 := Tryd.underlying46
theorem bt59 : BtOk Tryd.prog 59 [Go.Value.int Go.IntKind.i64 0, Go.Value.int Go.IntKind.i64 0, Go.Value.int Go.IntKind.i64 0] (fun i => (#[(0, 1), (1, 1), (2, 1)] : Array (Nat × Nat))[i]?) := fun _ => by kernel_rfl
theorem sl72 : SlT Tryd.prog 72 78 := Tryd.underlying72
theorem bt74 : BtOk Tryd.prog 74 [Go.Value.int Go.IntKind.i64 0, Go.Value.int Go.IntKind.i64 0, Go.Value.int Go.IntKind.i64 0, Go.Value.bool false, Go.Value.slice none 0 0] (fun i => (#[(0, 4), (4, 1)] : Array (Nat × Nat))[i]?) := fun _ => by kernel_rfl
theorem bt106 : BtOk Tryd.prog 106 [Go.Value.int Go.IntKind.i64 0, Go.Value.int Go.IntKind.i64 0] (fun i => (#[(0, 1), (1, 1)] : Array (Nat × Nat))[i]?) := fun _ => by kernel_rfl
theorem fq3 : Flat Tryd.prog 1 3 1 false := flat_int Tryd.underlying3
theorem fq38 : Flat Tryd.prog 2 38 2 true := flat_struct Tryd.underlying38 (by kernel_rfl) (.cons (by decide) rfl ty3 rfl (fq3.le rfl) (by decide) rfl (.cons (by decide) rfl ty3 rfl (fq3.le rfl) (by decide) rfl .nil))
theorem eg38 : Tryd.prog.eqGuardType Tryd.prog.depth 38 = false := by kernel_rfl
theorem fq59 : Flat Tryd.prog 2 59 3 true := flat_struct Tryd.underlying59 (by kernel_rfl) (.cons (by decide) rfl ty3 rfl (fq3.le rfl) (by decide) rfl (.cons (by decide) rfl ty3 rfl (fq3.le rfl) (by decide) rfl (.cons (by decide) rfl ty3 rfl (fq3.le rfl) (by decide) rfl .nil)))
theorem mixed : Tryd.prog.follows .mixedOrders = true := by kernel_rfl
theorem hb3 : HasBody Tryd.prog 3 := Tryd.call3
theorem hb4 : HasBody Tryd.prog 4 := Tryd.call4
theorem hb6 : HasBody Tryd.prog 6 := Tryd.call6
theorem hb7 : HasBody Tryd.prog 7 := Tryd.call7
theorem hb8 : HasBody Tryd.prog 8 := Tryd.call8
theorem hb10 : HasBody Tryd.prog 10 := Tryd.call10
theorem hb11 : HasBody Tryd.prog 11 := Tryd.call11
theorem hb13 : HasBody Tryd.prog 13 := Tryd.call13
theorem hb15 : HasBody Tryd.prog 15 := Tryd.call15
theorem hb16 : HasBody Tryd.prog 16 := Tryd.call16
theorem hb17 : HasBody Tryd.prog 17 := Tryd.call17
theorem hb19 : HasBody Tryd.prog 19 := Tryd.call19
theorem hb21 : HasBody Tryd.prog 21 := Tryd.call21
theorem hb22 : HasBody Tryd.prog 22 := Tryd.call22
theorem hb23 : HasBody Tryd.prog 23 := Tryd.call23
theorem hb24 : HasBody Tryd.prog 24 := Tryd.call24
theorem hb25 : HasBody Tryd.prog 25 := Tryd.call25
theorem hb26 : HasBody Tryd.prog 26 := Tryd.call26
theorem hb28 : HasBody Tryd.prog 28 := Tryd.call28
theorem hb30 : HasBody Tryd.prog 30 := Tryd.call30
theorem hb31 : HasBody Tryd.prog 31 := Tryd.call31
theorem hb32 : HasBody Tryd.prog 32 := Tryd.call32
theorem hb33 : HasBody Tryd.prog 33 := Tryd.call33
theorem hb36 : HasBody Tryd.prog 36 := Tryd.call36
theorem hb37 : HasBody Tryd.prog 37 := Tryd.call37
theorem hb40 : HasBody Tryd.prog 40 := Tryd.call40
theorem hb41 : HasBody Tryd.prog 41 := Tryd.call41
theorem hb42 : HasBody Tryd.prog 42 := Tryd.call42
theorem hb43 : HasBody Tryd.prog 43 := Tryd.call43
theorem hb44 : HasBody Tryd.prog 44 := Tryd.call44
theorem hb45 : HasBody Tryd.prog 45 := Tryd.call45
theorem hb46 : HasBody Tryd.prog 46 := Tryd.call46
theorem hb47 : HasBody Tryd.prog 47 := Tryd.call47
theorem hb48 : HasBody Tryd.prog 48 := Tryd.call48
theorem hb50 : HasBody Tryd.prog 50 := Tryd.call50
theorem hb51 : HasBody Tryd.prog 51 := Tryd.call51
theorem hb52 : HasBody Tryd.prog 52 := Tryd.call52
theorem hb53 : HasBody Tryd.prog 53 := Tryd.call53
theorem hb54 : HasBody Tryd.prog 54 := Tryd.call54
theorem hb55 : HasBody Tryd.prog 55 := Tryd.call55
theorem hb56 : HasBody Tryd.prog 56 := Tryd.call56
theorem hb57 : HasBody Tryd.prog 57 := Tryd.call57
theorem hb58 : HasBody Tryd.prog 58 := Tryd.call58
theorem hb59 : HasBody Tryd.prog 59 := Tryd.call59
theorem hb60 : HasBody Tryd.prog 60 := Tryd.call60
theorem hb61 : HasBody Tryd.prog 61 := Tryd.call61
theorem hb62 : HasBody Tryd.prog 62 := Tryd.call62
theorem hb63 : HasBody Tryd.prog 63 := Tryd.call63
theorem hb64 : HasBody Tryd.prog 64 := Tryd.call64
theorem hb65 : HasBody Tryd.prog 65 := Tryd.call65
theorem hb66 : HasBody Tryd.prog 66 := Tryd.call66
theorem hb67 : HasBody Tryd.prog 67 := Tryd.call67
theorem hb68 : HasBody Tryd.prog 68 := Tryd.call68
theorem hb70 : HasBody Tryd.prog 70 := Tryd.call70
theorem hb71 : HasBody Tryd.prog 71 := Tryd.call71
theorem hb72 : HasBody Tryd.prog 72 := Tryd.call72
theorem hb73 : HasBody Tryd.prog 73 := Tryd.call73
theorem hb74 : HasBody Tryd.prog 74 := Tryd.call74
theorem hb76 : HasBody Tryd.prog 76 := Tryd.call76
theorem hb77 : HasBody Tryd.prog 77 := Tryd.call77
theorem hb93 : HasBody Tryd.prog 93 := Tryd.call93
theorem hb94 : HasBody Tryd.prog 94 := Tryd.call94
end Go.Proofs.YtckaaaebegemoaaDoor
