/-
  Facts on the types and functions of this seat.
-/
import Derived.Test.YtmaldhbjhomdkaaHT
import Derived.Test.YtmaldhbjhomdkaaProg
import Derived.KernelRfl
import Derived.Test.YtmaldhbjhomdkaaCoalP23
import Derived.Test.YtmaldhbjhomdkaaCoalP12
namespace Go.Proofs.Ytmaldhbjhomdkaa
open Go.H
open Go
theorem ty3 : TyOk Try.prog 3 ⟨1, 8, (Go.TypeDesc.int Go.IntKind.i64), (Go.Value.int Go.IntKind.i64 0)⟩ := ⟨Try.underlying3, by kernel_rfl⟩
theorem ty4 : TyOk Try.prog 4 ⟨1, 1, Go.TypeDesc.bool, (Go.Value.bool false)⟩ := ⟨Try.underlying4, by kernel_rfl⟩
theorem ty22 : TyOk Try.prog 22 ⟨1, 24, (Go.TypeDesc.slice 52), (Go.Value.slice none 0 0)⟩ := ⟨Try.underlying22, by kernel_rfl⟩
theorem ty23 : TyOk Try.prog 23 ⟨1, 24, (Go.TypeDesc.slice 55), (Go.Value.slice none 0 0)⟩ := ⟨Try.underlying23, by kernel_rfl⟩
theorem ty24 : TyOk Try.prog 24 ⟨2, 48, (Go.TypeDesc.struct #[{ name := "Coals", type := 22, offset := 0, embedded := false, tag := "", pkgPath := "", byteOffset := 0 }, { name := "Moves", type := 23, offset := 1, embedded := false, tag := "", pkgPath := "", byteOffset := 24 }]), (Go.Value.agg #[Go.Value.slice none 0 0, Go.Value.slice none 0 0])⟩ := ⟨Try.underlying24, by kernel_rfl⟩
theorem ty25 : TyOk Try.prog 25 ⟨2, 48, (Go.TypeDesc.struct #[{ name := "Coals", type := 22, offset := 0, embedded := false, tag := "", pkgPath := "", byteOffset := 0 }, { name := "Moves", type := 23, offset := 1, embedded := false, tag := "", pkgPath := "", byteOffset := 24 }]), (Go.Value.agg #[Go.Value.slice none 0 0, Go.Value.slice none 0 0])⟩ := ⟨Try.underlying25, by kernel_rfl⟩
theorem ty26 : TyOk Try.prog 26 ⟨1, 24, (Go.TypeDesc.slice 3), (Go.Value.slice none 0 0)⟩ := ⟨Try.underlying26, by kernel_rfl⟩
theorem ty27 : TyOk Try.prog 27 ⟨1, 24, (Go.TypeDesc.slice 37), (Go.Value.slice none 0 0)⟩ := ⟨Try.underlying27, by kernel_rfl⟩
theorem ty30 : TyOk Try.prog 30 ⟨3, 72, (Go.TypeDesc.struct #[{ name := "Stock", type := 26, offset := 0, embedded := false, tag := "", pkgPath := "", byteOffset := 0 }, { name := "Stills", type := 27, offset := 1, embedded := false, tag := "", pkgPath := "", byteOffset := 24 }, { name := "Sales", type := 28, offset := 2, embedded := false, tag := "", pkgPath := "", byteOffset := 48 }]), (Go.Value.agg #[Go.Value.slice none 0 0, Go.Value.slice none 0 0, Go.Value.slice none 0 0])⟩ := ⟨Try.underlying30, by kernel_rfl⟩
theorem ty33 : TyOk Try.prog 33 ⟨1, 8, (Go.TypeDesc.func #[30] #[4] false), Go.Value.nilFunc⟩ := ⟨Try.underlying33, by kernel_rfl⟩
theorem ty35 : TyOk Try.prog 35 ⟨1, 24, (Go.TypeDesc.slice 42), (Go.Value.slice none 0 0)⟩ := ⟨Try.underlying35, by kernel_rfl⟩
theorem ty37 : TyOk Try.prog 37 ⟨5, 56, (Go.TypeDesc.struct #[{ name := "In", type := 3, offset := 0, embedded := false, tag := "", pkgPath := "", byteOffset := 0 }, { name := "Takes", type := 3, offset := 1, embedded := false, tag := "", pkgPath := "", byteOffset := 8 }, { name := "Out", type := 35, offset := 2, embedded := false, tag := "", pkgPath := "", byteOffset := 16 }, { name := "Pay", type := 3, offset := 3, embedded := false, tag := "", pkgPath := "", byteOffset := 40 }, { name := "Most", type := 3, offset := 4, embedded := false, tag := "", pkgPath := "", byteOffset := 48 }]), (Go.Value.agg #[Go.Value.int Go.IntKind.i64 0, Go.Value.int Go.IntKind.i64 0, Go.Value.slice none 0 0, Go.Value.int Go.IntKind.i64 0, Go.Value.int Go.IntKind.i64 0])⟩ := ⟨Try.underlying37, by kernel_rfl⟩
theorem ty38 : TyOk Try.prog 38 ⟨1, 24, (Go.TypeDesc.slice 26), (Go.Value.slice none 0 0)⟩ := ⟨Try.underlying38, by kernel_rfl⟩
theorem ty39 : TyOk Try.prog 39 ⟨1, 0, (Go.TypeDesc.tuple #[38, 4]), (Go.Value.tuple #[Go.Value.slice none 0 0, Go.Value.bool false])⟩ := ⟨Try.underlying39, by kernel_rfl⟩
theorem ty41 : TyOk Try.prog 41 ⟨2, 16, (Go.TypeDesc.struct #[{ name := "Lo", type := 3, offset := 0, embedded := false, tag := "", pkgPath := "", byteOffset := 0 }, { name := "Hi", type := 3, offset := 1, embedded := false, tag := "", pkgPath := "", byteOffset := 8 }]), (Go.Value.agg #[Go.Value.int Go.IntKind.i64 0, Go.Value.int Go.IntKind.i64 0])⟩ := ⟨Try.underlying41, by kernel_rfl⟩
theorem ty42 : TyOk Try.prog 42 ⟨2, 16, (Go.TypeDesc.struct #[{ name := "Lo", type := 3, offset := 0, embedded := false, tag := "", pkgPath := "", byteOffset := 0 }, { name := "Hi", type := 3, offset := 1, embedded := false, tag := "", pkgPath := "", byteOffset := 8 }]), (Go.Value.agg #[Go.Value.int Go.IntKind.i64 0, Go.Value.int Go.IntKind.i64 0])⟩ := ⟨Try.underlying42, by kernel_rfl⟩
theorem ty43 : TyOk Try.prog 43 ⟨1, 8, (Go.TypeDesc.int Go.IntKind.i64), (Go.Value.int Go.IntKind.i64 0)⟩ := ⟨Try.underlying43, by kernel_rfl⟩
theorem ty48 : TyOk Try.prog 48 ⟨1, 0, (Go.TypeDesc.tuple #[3, 26, 43]), (Go.Value.tuple #[Go.Value.int Go.IntKind.i64 0, Go.Value.slice none 0 0, Go.Value.int Go.IntKind.i64 0])⟩ := ⟨Try.underlying48, by kernel_rfl⟩
theorem ty51 : TyOk Try.prog 51 ⟨8, 64, (Go.TypeDesc.struct #[{ name := "Gas", type := 42, offset := 0, embedded := false, tag := "", pkgPath := "", byteOffset := 0 }, { name := "Tar", type := 42, offset := 2, embedded := false, tag := "", pkgPath := "", byteOffset := 16 }, { name := "Sulphur", type := 42, offset := 4, embedded := false, tag := "", pkgPath := "", byteOffset := 32 }, { name := "Coke", type := 42, offset := 6, embedded := false, tag := "", pkgPath := "", byteOffset := 48 }]), (Go.Value.agg #[Go.Value.int Go.IntKind.i64 0, Go.Value.int Go.IntKind.i64 0, Go.Value.int Go.IntKind.i64 0, Go.Value.int Go.IntKind.i64 0, Go.Value.int Go.IntKind.i64 0, Go.Value.int Go.IntKind.i64 0, Go.Value.int Go.IntKind.i64 0, Go.Value.int Go.IntKind.i64 0])⟩ := ⟨Try.underlying51, by kernel_rfl⟩
theorem ty52 : TyOk Try.prog 52 ⟨8, 64, (Go.TypeDesc.struct #[{ name := "Gas", type := 42, offset := 0, embedded := false, tag := "", pkgPath := "", byteOffset := 0 }, { name := "Tar", type := 42, offset := 2, embedded := false, tag := "", pkgPath := "", byteOffset := 16 }, { name := "Sulphur", type := 42, offset := 4, embedded := false, tag := "", pkgPath := "", byteOffset := 32 }, { name := "Coke", type := 42, offset := 6, embedded := false, tag := "", pkgPath := "", byteOffset := 48 }]), (Go.Value.agg #[Go.Value.int Go.IntKind.i64 0, Go.Value.int Go.IntKind.i64 0, Go.Value.int Go.IntKind.i64 0, Go.Value.int Go.IntKind.i64 0, Go.Value.int Go.IntKind.i64 0, Go.Value.int Go.IntKind.i64 0, Go.Value.int Go.IntKind.i64 0, Go.Value.int Go.IntKind.i64 0])⟩ := ⟨Try.underlying52, by kernel_rfl⟩
theorem ty55 : TyOk Try.prog 55 ⟨3, 24, (Go.TypeDesc.struct #[{ name := "Hour", type := 3, offset := 0, embedded := false, tag := "", pkgPath := "", byteOffset := 0 }, { name := "Coal", type := 3, offset := 1, embedded := false, tag := "", pkgPath := "", byteOffset := 8 }, { name := "Tons", type := 3, offset := 2, embedded := false, tag := "", pkgPath := "", byteOffset := 16 }]), (Go.Value.agg #[Go.Value.int Go.IntKind.i64 0, Go.Value.int Go.IntKind.i64 0, Go.Value.int Go.IntKind.i64 0])⟩ := ⟨Try.underlying55, by kernel_rfl⟩
theorem ty59 : TyOk Try.prog 59 ⟨3, 24, (Go.TypeDesc.struct #[{ name := "Good", type := 3, offset := 0, embedded := false, tag := "", pkgPath := "", byteOffset := 0 }, { name := "Most", type := 3, offset := 1, embedded := false, tag := "", pkgPath := "", byteOffset := 8 }, { name := "Price", type := 3, offset := 2, embedded := false, tag := "", pkgPath := "", byteOffset := 16 }]), (Go.Value.agg #[Go.Value.int Go.IntKind.i64 0, Go.Value.int Go.IntKind.i64 0, Go.Value.int Go.IntKind.i64 0])⟩ := ⟨Try.underlying59, by kernel_rfl⟩
theorem ty63 : TyOk Try.prog 63 ⟨1, 8, (Go.TypeDesc.func #[25, 3, 3] #[26] false), Go.Value.nilFunc⟩ := ⟨Try.underlying63, by kernel_rfl⟩
theorem ty66 : TyOk Try.prog 66 ⟨1, 8, (Go.TypeDesc.func #[25] #[64, 43] false), Go.Value.nilFunc⟩ := ⟨Try.underlying66, by kernel_rfl⟩
theorem ty70 : TyOk Try.prog 70 ⟨3, 72, (Go.TypeDesc.struct #[{ name := "coals", type := 22, offset := 0, embedded := false, tag := "", pkgPath := "gasworks/coal", byteOffset := 0 }, { name := "layers", type := 67, offset := 1, embedded := false, tag := "", pkgPath := "gasworks/coal", byteOffset := 24 }, { name := "draws", type := 68, offset := 2, embedded := false, tag := "", pkgPath := "gasworks/coal", byteOffset := 48 }]), (Go.Value.agg #[Go.Value.slice none 0 0, Go.Value.slice none 0 0, Go.Value.slice none 0 0])⟩ := ⟨Try.underlying70, by kernel_rfl⟩
theorem ty71 : TyOk Try.prog 71 ⟨1, 8, (Go.TypeDesc.func #[52] #[42] false), Go.Value.nilFunc⟩ := ⟨Try.underlying71, by kernel_rfl⟩
theorem ty75 : TyOk Try.prog 75 ⟨2, 16, (Go.TypeDesc.struct #[{ name := "tons", type := 3, offset := 0, embedded := false, tag := "", pkgPath := "gasworks/coal", byteOffset := 0 }, { name := "each", type := 3, offset := 1, embedded := false, tag := "", pkgPath := "gasworks/coal", byteOffset := 8 }]), (Go.Value.agg #[Go.Value.int Go.IntKind.i64 0, Go.Value.int Go.IntKind.i64 0])⟩ := ⟨Try.underlying75, by kernel_rfl⟩
theorem ty80 : TyOk Try.prog 80 ⟨1, 8, (Go.TypeDesc.func #[104] #[] false), Go.Value.nilFunc⟩ := ⟨Try.underlying80, by kernel_rfl⟩
theorem ty88 : TyOk Try.prog 88 ⟨1, 8, (Go.TypeDesc.func #[79] #[79] false), Go.Value.nilFunc⟩ := ⟨Try.underlying88, by kernel_rfl⟩
theorem ty89 : TyOk Try.prog 89 ⟨1, 8, (Go.TypeDesc.func #[85, 3] #[3] false), Go.Value.nilFunc⟩ := ⟨Try.underlying89, by kernel_rfl⟩
theorem ty90 : TyOk Try.prog 90 ⟨1, 8, (Go.TypeDesc.func #[79] #[42] false), Go.Value.nilFunc⟩ := ⟨Try.underlying90, by kernel_rfl⟩
theorem ty93 : TyOk Try.prog 93 ⟨1, 8, (Go.TypeDesc.func #[30] #[92] false), Go.Value.nilFunc⟩ := ⟨Try.underlying93, by kernel_rfl⟩
theorem ty94 : TyOk Try.prog 94 ⟨1, 0, (Go.TypeDesc.tuple #[3, 26]), (Go.Value.tuple #[Go.Value.int Go.IntKind.i64 0, Go.Value.slice none 0 0])⟩ := ⟨Try.underlying94, by kernel_rfl⟩
theorem ty105 : TyOk Try.prog 105 ⟨1, 8, (Go.TypeDesc.func #[85, 3, 3, 3, 77] #[] false), Go.Value.nilFunc⟩ := ⟨Try.underlying105, by kernel_rfl⟩
theorem ty129 : TyOk Try.prog 129 ⟨1, 8, (Go.TypeDesc.int Go.IntKind.i64), (Go.Value.int Go.IntKind.i64 0)⟩ := ⟨Try.underlying129, by kernel_rfl⟩
theorem fl25_0 : FldOk Try.prog 25 0 0 1 false := ⟨_, _, Try.underlying25, rfl, rfl, _, ty22, rfl, rfl⟩
theorem fl25_1 : FldOk Try.prog 25 1 1 1 false := ⟨_, _, Try.underlying25, rfl, rfl, _, ty23, rfl, rfl⟩
theorem fl30_0 : FldOk Try.prog 30 0 0 1 false := ⟨_, _, Try.underlying30, rfl, rfl, _, ty26, rfl, rfl⟩
theorem fl30_1 : FldOk Try.prog 30 1 1 1 false := ⟨_, _, Try.underlying30, rfl, rfl, _, ty27, rfl, rfl⟩
theorem fl37_4 : FldOk Try.prog 37 4 4 1 false := ⟨_, _, Try.underlying37, rfl, rfl, _, ty3, rfl, rfl⟩
theorem fl41_0 : FldOk Try.prog 41 0 0 1 false := ⟨_, _, Try.underlying41, rfl, rfl, _, ty3, rfl, rfl⟩
theorem fl41_1 : FldOk Try.prog 41 1 1 1 false := ⟨_, _, Try.underlying41, rfl, rfl, _, ty3, rfl, rfl⟩
theorem fl42_0 : FldOk Try.prog 42 0 0 1 false := ⟨_, _, Try.underlying42, rfl, rfl, _, ty3, rfl, rfl⟩
theorem fl42_1 : FldOk Try.prog 42 1 1 1 false := ⟨_, _, Try.underlying42, rfl, rfl, _, ty3, rfl, rfl⟩
theorem fl51_0 : FldOk Try.prog 51 0 0 2 true := ⟨_, _, Try.underlying51, rfl, rfl, _, ty42, rfl, rfl⟩
theorem fl51_1 : FldOk Try.prog 51 1 2 2 true := ⟨_, _, Try.underlying51, rfl, rfl, _, ty42, rfl, rfl⟩
theorem fl51_2 : FldOk Try.prog 51 2 4 2 true := ⟨_, _, Try.underlying51, rfl, rfl, _, ty42, rfl, rfl⟩
theorem fl59_0 : FldOk Try.prog 59 0 0 1 false := ⟨_, _, Try.underlying59, rfl, rfl, _, ty3, rfl, rfl⟩
theorem fl59_1 : FldOk Try.prog 59 1 1 1 false := ⟨_, _, Try.underlying59, rfl, rfl, _, ty3, rfl, rfl⟩
theorem fl59_2 : FldOk Try.prog 59 2 2 1 false := ⟨_, _, Try.underlying59, rfl, rfl, _, ty3, rfl, rfl⟩
theorem fl75_0 : FldOk Try.prog 75 0 0 1 false := ⟨_, _, Try.underlying75, rfl, rfl, _, ty3, rfl, rfl⟩
theorem fl75_1 : FldOk Try.prog 75 1 1 1 false := ⟨_, _, Try.underlying75, rfl, rfl, _, ty3, rfl, rfl⟩
theorem sl22 : SlT Try.prog 22 52 := Try.underlying22
theorem sl23 : SlT Try.prog 23 55 := Try.underlying23
theorem bt25 : BtOk Try.prog 25 [Go.Value.slice none 0 0, Go.Value.slice none 0 0] (fun i => (#[(0, 1), (1, 1)] : Array (Nat × Nat))[i]?) := fun _ => by kernel_rfl
theorem sl26 : SlT Try.prog 26 3 := Try.underlying26
theorem sl27 : SlT Try.prog 27 37 := Try.underlying27
theorem sl28 : SlT Try.prog 28 59 := Try.underlying28
theorem bt30 : BtOk Try.prog 30 [Go.Value.slice none 0 0, Go.Value.slice none 0 0, Go.Value.slice none 0 0] (fun i => (#[(0, 1), (1, 1), (2, 1)] : Array (Nat × Nat))[i]?) := fun _ => by kernel_rfl
theorem sl35 : SlT Try.prog 35 42 := Try.underlying35
theorem bt37 : BtOk Try.prog 37 [Go.Value.int Go.IntKind.i64 0, Go.Value.int Go.IntKind.i64 0, Go.Value.slice none 0 0, Go.Value.int Go.IntKind.i64 0, Go.Value.int Go.IntKind.i64 0] (fun i => (#[(0, 1), (1, 1), (2, 1), (3, 1), (4, 1)] : Array (Nat × Nat))[i]?) := fun _ => by kernel_rfl
theorem sl38 : SlT Try.prog 38 26 := Try.underlying38
theorem bt41 : BtOk Try.prog 41 [Go.Value.int Go.IntKind.i64 0, Go.Value.int Go.IntKind.i64 0] (fun i => (#[(0, 1), (1, 1)] : Array (Nat × Nat))[i]?) := fun _ => by kernel_rfl
theorem bt42 : BtOk Try.prog 42 [Go.Value.int Go.IntKind.i64 0, Go.Value.int Go.IntKind.i64 0] (fun i => (#[(0, 1), (1, 1)] : Array (Nat × Nat))[i]?) := fun _ => by kernel_rfl
theorem bt52 : BtOk Try.prog 52 [Go.Value.int Go.IntKind.i64 0, Go.Value.int Go.IntKind.i64 0, Go.Value.int Go.IntKind.i64 0, Go.Value.int Go.IntKind.i64 0, Go.Value.int Go.IntKind.i64 0, Go.Value.int Go.IntKind.i64 0, Go.Value.int Go.IntKind.i64 0, Go.Value.int Go.IntKind.i64 0] (fun i => (#[(0, 2), (2, 2), (4, 2), (6, 2)] : Array (Nat × Nat))[i]?) := fun _ => by kernel_rfl
theorem bt55 : BtOk Try.prog 55 [Go.Value.int Go.IntKind.i64 0, Go.Value.int Go.IntKind.i64 0, Go.Value.int Go.IntKind.i64 0] (fun i => (#[(0, 1), (1, 1), (2, 1)] : Array (Nat × Nat))[i]?) := fun _ => by kernel_rfl
theorem bt59 : BtOk Try.prog 59 [Go.Value.int Go.IntKind.i64 0, Go.Value.int Go.IntKind.i64 0, Go.Value.int Go.IntKind.i64 0] (fun i => (#[(0, 1), (1, 1), (2, 1)] : Array (Nat × Nat))[i]?) := fun _ => by kernel_rfl
theorem bt73 : BtOk Try.prog 73 [Go.Value.nilFunc, Go.Value.nilFunc, Go.Value.nilFunc, Go.Value.nilFunc] (fun i => some (i * 1, 1)) := fun _ => by kernel_rfl
theorem bt75 : BtOk Try.prog 75 [Go.Value.int Go.IntKind.i64 0, Go.Value.int Go.IntKind.i64 0] (fun i => (#[(0, 1), (1, 1)] : Array (Nat × Nat))[i]?) := fun _ => by kernel_rfl
theorem fq3 : Flat Try.prog 1 3 1 false := flat_int Try.underlying3
theorem fq41 : Flat Try.prog 2 41 2 true := flat_struct Try.underlying41 (by kernel_rfl) (.cons (by decide) rfl ty3 rfl (fq3.le rfl) (by decide) rfl (.cons (by decide) rfl ty3 rfl (fq3.le rfl) (by decide) rfl .nil))
theorem eg41 : Try.prog.eqGuardType Try.prog.depth 41 = false := by kernel_rfl
theorem fq42 : Flat Try.prog 2 42 2 true := flat_struct Try.underlying42 (by kernel_rfl) (.cons (by decide) rfl ty3 rfl (fq3.le rfl) (by decide) rfl (.cons (by decide) rfl ty3 rfl (fq3.le rfl) (by decide) rfl .nil))
theorem eg42 : Try.prog.eqGuardType Try.prog.depth 42 = false := by kernel_rfl
theorem mixed : Try.prog.follows .mixedOrders = true := by kernel_rfl
theorem hb3 : HasBody Try.prog 3 := Try.call3
theorem hb4 : HasBody Try.prog 4 := Try.call4
theorem hb5 : HasBody Try.prog 5 := Try.call5
theorem hb6 : HasBody Try.prog 6 := Try.call6
theorem hb7 : HasBody Try.prog 7 := Try.call7
theorem hb8 : HasBody Try.prog 8 := Try.call8
theorem hb9 : HasBody Try.prog 9 := Try.call9
theorem hb10 : HasBody Try.prog 10 := Try.call10
theorem hb11 : HasBody Try.prog 11 := Try.call11
theorem hb12 : HasBody Try.prog 12 := Try.call12
theorem hb13 : HasBody Try.prog 13 := Try.call13
theorem hb14 : HasBody Try.prog 14 := Try.call14
theorem hb15 : HasBody Try.prog 15 := Try.call15
theorem hb16 : HasBody Try.prog 16 := Try.call16
theorem hb17 : HasBody Try.prog 17 := Try.call17
theorem hb19 : HasBody Try.prog 19 := Try.call19
theorem hb20 : HasBody Try.prog 20 := Try.call20
theorem hb25 : HasBody Try.prog 25 := Try.call25
theorem hb26 : HasBody Try.prog 26 := Try.call26
theorem hb27 : HasBody Try.prog 27 := Try.call27
theorem hb29 : HasBody Try.prog 29 := Try.call29
theorem hb30 : HasBody Try.prog 30 := Try.call30
theorem hb31 : HasBody Try.prog 31 := Try.call31
theorem hb32 : HasBody Try.prog 32 := Try.call32
theorem hb33 : HasBody Try.prog 33 := Try.call33
theorem hb35 : HasBody Try.prog 35 := Try.call35
theorem hb36 : HasBody Try.prog 36 := Try.call36
theorem hb37 : HasBody Try.prog 37 := Try.call37
theorem hb38 : HasBody Try.prog 38 := Try.call38
theorem hb39 : HasBody Try.prog 39 := Try.call39
theorem hb40 : HasBody Try.prog 40 := Try.call40
theorem hb41 : HasBody Try.prog 41 := Try.call41
theorem hb42 : HasBody Try.prog 42 := Try.call42
theorem hb43 : HasBody Try.prog 43 := Try.call43
theorem hb44 : HasBody Try.prog 44 := Try.call44
theorem hb45 : HasBody Try.prog 45 := Try.call45
theorem hb46 : HasBody Try.prog 46 := Try.call46
theorem hb47 : HasBody Try.prog 47 := Try.call47
theorem hb48 : HasBody Try.prog 48 := Try.call48
theorem hb49 : HasBody Try.prog 49 := Try.call49
theorem hb50 : HasBody Try.prog 50 := Try.call50
theorem hb51 : HasBody Try.prog 51 := Try.call51
theorem hb52 : HasBody Try.prog 52 := Try.call52
theorem hb53 : HasBody Try.prog 53 := Try.call53
theorem hb54 : HasBody Try.prog 54 := Try.call54
theorem hb55 : HasBody Try.prog 55 := Try.call55
theorem hb56 : HasBody Try.prog 56 := Try.call56
theorem hb57 : HasBody Try.prog 57 := Try.call57
theorem hb58 : HasBody Try.prog 58 := Try.call58
theorem hb59 : HasBody Try.prog 59 := Try.call59
theorem hb60 : HasBody Try.prog 60 := Try.call60
theorem hb61 : HasBody Try.prog 61 := Try.call61
theorem hb62 : HasBody Try.prog 62 := Try.call62
theorem hb63 : HasBody Try.prog 63 := Try.call63
theorem hb64 : HasBody Try.prog 64 := Try.call64
theorem hb65 : HasBody Try.prog 65 := Try.call65
theorem hb66 : HasBody Try.prog 66 := Try.call66
theorem hb67 : HasBody Try.prog 67 := Try.call67
theorem hb68 : HasBody Try.prog 68 := Try.call68
theorem hb69 : HasBody Try.prog 69 := Try.call69
theorem hb70 : HasBody Try.prog 70 := Try.call70
theorem hb72 : HasBody Try.prog 72 := Try.call72
theorem hb73 : HasBody Try.prog 73 := Try.call73
theorem hb74 : HasBody Try.prog 74 := Try.call74
theorem hb75 : HasBody Try.prog 75 := Try.call75
theorem hb76 : HasBody Try.prog 76 := Try.call76
theorem hb77 : HasBody Try.prog 77 := Try.call77
theorem hb78 : HasBody Try.prog 78 := Try.call78
theorem hb79 : HasBody Try.prog 79 := Try.call79
theorem hb88 : HasBody Try.prog 88 := Try.call88
end Go.Proofs.Ytmaldhbjhomdkaa

/-
  What all draws give of one good: from 0 on, and the least no more than the greatest.
-/
set_option linter.all false
namespace Go.Proofs.Ytmaldhbjhomdkaa.Coal
open Go Go.H
theorem gval_nn {room each : List Int} {need : Int} (he : each.length = room.length) (heb : ∀ b ∈ each, 0 ≤ b) : 0 ≤ gval room each need := by
  by_cases hx : ∃ x, Greedy room each need x
  · obtain ⟨x, h⟩ := hx
    rw [← gval_eq he h, dot_sF (by rw [h.len, he])]
    refine sF_nn fun i hi => Int.mul_nonneg ?_ ?_
    · obtain ⟨a, ha⟩ : ∃ a, x[i]? = some a := ⟨_, List.getElem?_eq_getElem hi⟩
      obtain ⟨r, hr⟩ : ∃ r, room[i]? = some r := ⟨_, List.getElem?_eq_getElem (by rw [← h.len]; exact hi)⟩
      rw [List.getD_eq_getElem?_getD, ha]; exact (h.bd i a r ha hr).1
    · obtain ⟨b, hb⟩ : ∃ b, each[i]? = some b := ⟨_, List.getElem?_eq_getElem (by rw [he, ← h.len]; exact hi)⟩
      rw [List.getD_eq_getElem?_getD, hb]; exact heb b (List.mem_of_getElem? hb)
  · unfold gval; rw [dif_neg hx]; exact Int.le_refl _
theorem gval_pair {room lo hi : List Int} {need : Int} (he : lo.length = room.length) (he2 : hi.length = room.length) (hr : ∀ z ∈ room, 0 ≤ z) (h0 : 0 ≤ need) (hn : need ≤ sumI room) (h : ∀ i, i < room.length → lo.getD i 0 ≤ -(hi.getD i 0)) : gval room lo need ≤ -gval room hi need := by
  obtain ⟨x, g⟩ := greedy_ex he2 hr h0 hn
  have hx : ∀ i, i < room.length → 0 ≤ x.getD i 0 ∧ x.getD i 0 ≤ room.getD i 0 := fun i hi => by
    obtain ⟨a, ha⟩ : ∃ a, x[i]? = some a := ⟨_, List.getElem?_eq_getElem (by rw [g.len]; exact hi)⟩
    obtain ⟨r, hr⟩ : ∃ r, room[i]? = some r := ⟨_, List.getElem?_eq_getElem hi⟩
    rw [List.getD_eq_getElem?_getD, ha, List.getD_eq_getElem?_getD, hr]; exact g.bd i a r ha hr
  have h1 := gval_le (room := room) (each := lo) (need := need) (x' := fun i => x.getD i 0) he hx (by rw [← g.sum, sumI_sF, g.len])
  rw [← gval_eq he2 g, dot_sF (by rw [g.len, he2])]
  refine Int.le_trans h1 ?_
  rw [g.len]
  have h0 : ∀ f : Nat → Int, ∀ n, sF (fun i => -f i) n = -sF f n := fun f n => by
    have := sF_sub (fun _ => 0) f n
    rw [sF_zero] at this
    rw [← Int.zero_sub, ← this]
    exact sF_congr fun i _ => by omega
  rw [← h0]
  refine sF_le fun i hi => ?_
  rw [← Int.mul_neg]
  exact Int.mul_le_mul_of_nonneg_left (h i hi) (hx i hi).1
theorem yLo_nn {y : Yard} {w : Int} {need : Nat → Int} (hg : GoodYard y) (h0 : 0 ≤ w) (h1 : w ≤ 3) : ∀ L, 0 ≤ yLo y w need L
  | 0 => Int.le_refl _
  | L + 1 => by
    have h2 := yLo_nn (need := need) hg h0 h1 L
    have h3 := gval_nn (room := contE y L) (each := lows y w) (need := need L) (by rw [lows_len, contE_len]) fun b hb => by
      obtain ⟨c, hc, rfl⟩ := List.mem_map.1 hb
      exact (ofF_ok (hg.1 c hc) h0 h1).1
    rw [yLo]; omega
theorem yLo_le {y : Yard} {w : Int} {need : Nat → Int} (hg : GoodYard y) (h0 : 0 ≤ w) (h1 : w ≤ 3) : ∀ L, (∀ i, i < L → 0 ≤ need i ∧ need i ≤ sumI (contE y i)) → yLo y w need L ≤ yHi y w need L
  | 0, _ => Int.le_refl _
  | L + 1, hn => by
    have h2 := yLo_le (need := need) hg h0 h1 L fun i hi => hn i (by omega)
    have h3 := gval_pair (room := contE y L) (lo := lows y w) (hi := highs y w) (need := need L) (by rw [lows_len, contE_len]) (by rw [highs_len, contE_len]) (contE_nn hg L) (hn L (by omega)).1 (hn L (by omega)).2 fun i hi => by
      rw [contE_len] at hi
      obtain ⟨c, hc⟩ : ∃ c, y.coals[i]? = some c := ⟨_, List.getElem?_eq_getElem hi⟩
      rw [lows_get hc, highs_get hc]
      have := (ofF_ok (hg.1 c (List.mem_of_getElem? hc)) h0 h1).2.1
      omega
    rw [yLo, yHi]; omega
theorem yield_all {y : Yard} {vs : List (List Int)} {w : Int} (hg : GoodYard y) (hv : vecsR y = some vs) (hne : vs ≠ []) (h0 : 0 ≤ w) (h1 : w ≤ 3) :
    ∃ lo hi : Int, yieldA y 0 ((vs.length : Int) - 1) w = (⟨lo, hi⟩, 0) ∧ 0 ≤ lo ∧ lo ≤ hi := by
  have hl := List.length_pos_iff.2 hne
  have hP := (parts_all (n := y.coals.length) (ms := y.moves) (L := (opn y.moves).1) hg.2.1 y.moves.length vs (Nat.le_refl _) hv).1
  refine ⟨_, _, yieldA_0 hg hv ⟨⟨Int.le_refl _, by omega, by omega⟩, h0, h1⟩, yLo_nn hg h0 h1 _, yLo_le hg h0 h1 _ fun i hi => ?_⟩
  have h2 := taken_part hP.bd (0 : Int).toNat (((vs.length : Int) - 1).toNat + 1 - (0 : Int).toNat) i
  have h3 := hP.room i hi
  unfold roomR at h3
  unfold needF contE
  omega
def gC : List Coal := [⟨⟨0, 0⟩, ⟨5, 6⟩, ⟨0, 0⟩, ⟨0, 0⟩⟩]
def gM : List Move := [⟨0, 0, 4⟩, ⟨0, -1, 4⟩]
def gY (bc bm : Nat) : Yard := ⟨some ⟨bc, 0, none⟩, 1, gC, some ⟨bm, 0, none⟩, 2, gM⟩
theorem g_good (bc bm : Nat) : GoodYard (gY bc bm) := by
  show CoalsOk gC ∧ movesOk 1 0 gM ∧ (1 ≤ 1 ∧ 1 ≤ 6) ∧ 2 ≤ 32
  refine ⟨?_, ?_, ?_, ?_⟩ <;> decide
theorem g_vecs (bc bm : Nat) : vecsR (gY bc bm) = some [[4]] := by
  show partsR 1 gM (opn gM).1 2 = _
  decide
theorem gval1 {r e n : Int} (h0 : 0 ≤ n ∧ n ≤ r) : gval [r] [e] n = n * e := by
  have g : Greedy [r] [e] n [n] := ⟨rfl, fun i a r' ha hr => by
    match i, ha, hr with
    | 0, ha, hr => cases ha; cases hr; exact h0, by simp [sumI], fun i j a r' ei b ej ha hr hei hb hej hlt hp => by
    match i, j, ha, hr, hei, hb, hej with
    | 0, 0, ha, hr, hei, hb, hej => cases hei; cases hej; omega⟩
  have q := gval_eq (room := [r]) (each := [e]) rfl g
  rw [← q]; simp [dotI]
theorem g_yield (bc bm : Nat) : yieldA (gY bc bm) 0 0 1 = (⟨20, 24⟩, 0) := by
  rw [yieldA_0 (g_good bc bm) (g_vecs bc bm) (by decide)]
  have eo : (opn (gY bc bm).moves).1 = 1 := by show (opn gM).1 = 1; decide
  have c0 : contE (gY bc bm) 0 = [4] := by show contF 1 (gM.take 2) (0 : Int) = _; decide
  have e0 : needF [[4]] 0 0 0 = 4 := by decide
  have el : lows (gY bc bm) 1 = [5] := rfl
  have eh : highs (gY bc bm) 1 = [-6] := rfl
  rw [eo]
  have y1 : yLo (gY bc bm) 1 (needF [[4]] 0 0) 1 = 20 := by
    rw [yLo, yLo, e0, c0, el, gval1 (by decide)]; decide
  have y2 : yHi (gY bc bm) 1 (needF [[4]] 0 0) 1 = 24 := by
    rw [yHi, yHi, e0, c0, eh, gval1 (by decide)]; decide
  rw [y1, y2]
end Go.Proofs.Ytmaldhbjhomdkaa.Coal

/-
  Walks.
-/
namespace Go.Proofs.Ytmaldhbjhomdkaa.Coal
open Go Go.H
set_option maxRecDepth 100000
set_option maxHeartbeats 8000000
set_option linter.all false
theorem within_c (n l u : Int) {h : Hp} {R : Ending → Hp → Prop} (H1 : l ≤ n → n ≤ u → R (.returned (.bool true)) h) (H2 : ¬ (l ≤ n ∧ n ≤ u) → R (.returned (.bool false)) h) :
    ACalls Try.prog 20 ⟨[.int .i64 n, .int .i64 l, .int .i64 u]⟩ h R := by
  refine calls_of_xc (N := 15) Try.func20 rfl (by rfl) ?_
  refine xc_seq (xc_region ?_)
  refine xr_op rfl rfl (xv_assign rfl ?_)
  refine xr_end rfl ?_
  refine th_n ?_
  refine xc_seq (xc_region ?_)
  refine xr_op rfl rfl (xv_move rfl ?_)
  refine xr_op rfl rfl (xv_move rfl ?_)
  refine xr_op rfl rfl (xv_leq2 rfl rfl (fun q1 => ?_) (fun q1 => ?_))
  · refine xr_op rfl rfl (xv_move rfl ?_)
    refine xr_gd rfl rfl rfl (xv_move rfl ?_)
    refine xr_gd rfl rfl rfl (xv_move rfl ?_)
    refine xr_gd rfl rfl rfl (xv_leq2 rfl rfl (fun q2 => ?_) (fun q2 => ?_))
    · refine xr_op rfl rfl (xv_pick rfl rfl ?_)
      refine xr_op rfl rfl (xv_assign rfl ?_)
      refine xr_end rfl ?_
      refine th_n ?_
      refine xc_ret ?_
      refine body_ret (h' := h) rfl (ro_tmp rfl ro_nil) Su_ ?_
      first | exact H1 (by omega) (by omega) | exact H2 (by omega)
    · refine xr_op rfl rfl (xv_pick rfl rfl ?_)
      refine xr_op rfl rfl (xv_assign rfl ?_)
      refine xr_end rfl ?_
      refine th_n ?_
      refine xc_ret ?_
      refine body_ret (h' := h) rfl (ro_tmp rfl ro_nil) Su_ ?_
      first | exact H1 (by omega) (by omega) | exact H2 (by omega)
  · refine xr_op rfl rfl (xv_move rfl ?_)
    refine xr_no rfl rfl rfl rfl ?_
    refine xr_no rfl rfl rfl rfl ?_
    refine xr_no rfl rfl rfl rfl ?_
    refine xr_op rfl rfl (xv_pick rfl rfl ?_)
    refine xr_op rfl rfl (xv_assign rfl ?_)
    refine xr_end rfl ?_
    refine th_n ?_
    refine xc_ret ?_
    refine body_ret (h' := h) rfl (ro_tmp rfl ro_nil) Su_ ?_
    first | exact H1 (by omega) (by omega) | exact H2 (by omega)

theorem in_c (n l u : Int) {h : Hp} {R : Ending → Hp → Prop} (H1 : l ≤ n → n ≤ u → R (.returned (.bool true)) h) (H2 : ¬ (l ≤ n ∧ n ≤ u) → R (.returned (.bool false)) h) :
    ACalls Try.prog 12 ⟨[.int .i64 n, .int .i64 l, .int .i64 u]⟩ h R := by
  refine calls_of_xc (N := 15) Try.func12 rfl (by rfl) ?_
  refine xc_seq (xc_region ?_)
  refine xr_op rfl rfl (xv_assign rfl ?_)
  refine xr_end rfl ?_
  refine th_n ?_
  refine xc_seq (xc_region ?_)
  refine xr_op rfl rfl (xv_move rfl ?_)
  refine xr_op rfl rfl (xv_move rfl ?_)
  refine xr_op rfl rfl (xv_leq2 rfl rfl (fun q1 => ?_) (fun q1 => ?_))
  · refine xr_op rfl rfl (xv_move rfl ?_)
    refine xr_gd rfl rfl rfl (xv_move rfl ?_)
    refine xr_gd rfl rfl rfl (xv_move rfl ?_)
    refine xr_gd rfl rfl rfl (xv_leq2 rfl rfl (fun q2 => ?_) (fun q2 => ?_))
    · refine xr_op rfl rfl (xv_pick rfl rfl ?_)
      refine xr_op rfl rfl (xv_assign rfl ?_)
      refine xr_end rfl ?_
      refine th_n ?_
      refine xc_ret ?_
      refine body_ret (h' := h) rfl (ro_tmp rfl ro_nil) Su_ ?_
      first | exact H1 (by omega) (by omega) | exact H2 (by omega)
    · refine xr_op rfl rfl (xv_pick rfl rfl ?_)
      refine xr_op rfl rfl (xv_assign rfl ?_)
      refine xr_end rfl ?_
      refine th_n ?_
      refine xc_ret ?_
      refine body_ret (h' := h) rfl (ro_tmp rfl ro_nil) Su_ ?_
      first | exact H1 (by omega) (by omega) | exact H2 (by omega)
  · refine xr_op rfl rfl (xv_move rfl ?_)
    refine xr_no rfl rfl rfl rfl ?_
    refine xr_no rfl rfl rfl rfl ?_
    refine xr_no rfl rfl rfl rfl ?_
    refine xr_op rfl rfl (xv_pick rfl rfl ?_)
    refine xr_op rfl rfl (xv_assign rfl ?_)
    refine xr_end rfl ?_
    refine th_n ?_
    refine xc_ret ?_
    refine body_ret (h' := h) rfl (ro_tmp rfl ro_nil) Su_ ?_
    first | exact H1 (by omega) (by omega) | exact H2 (by omega)

theorem rspan_c {s : Span} {h : Hp} {R : Ending → Hp → Prop} (H1 : spanOk s → R (.returned (.bool true)) h) (H2 : ¬ spanOk s → R (.returned (.bool false)) h) :
    ACalls Try.prog 11 ⟨[.agg ⟨eSpan s⟩]⟩ h R := by
  refine calls_of_xc (N := 18) Try.func11 rfl (by rfl) ?_
  refine xc_seq (xc_region ?_)
  refine xr_op rfl rfl (xv_box rfl (fun b1 hb1 => ?_))
  refine xr_op rfl rfl (xv_assign rfl ?_)
  refine xr_end rfl ?_
  refine th_n ?_
  refine xc_seq (xc_region ?_)
  refine xr_op rfl rfl (xv_faddr fl33_0 rfl ?_)
  refine xr_op rfl rfl (xv_load1 ty3 rfl rfl Me_ (by rfl) ?_)
  refine xr_op rfl rfl (xv_geq2 rfl rfl (fun q2 => ?_) (fun q2 => ?_))
  · refine xr_op rfl rfl (xv_move rfl ?_)
    refine xr_gd rfl rfl rfl (xv_faddr fl33_0 rfl ?_)
    refine xr_gd rfl rfl rfl (xv_load1 ty3 rfl rfl Me_ (by rfl) ?_)
    refine xr_gd rfl rfl rfl (xv_faddr fl33_1 rfl ?_)
    refine xr_gd rfl rfl rfl (xv_load1 ty3 rfl rfl Me_ (by rfl) ?_)
    refine xr_gd rfl rfl rfl (xv_leq2 rfl rfl (fun q3 => ?_) (fun q3 => ?_))
    · refine xr_op rfl rfl (xv_pick rfl rfl ?_)
      refine xr_op rfl rfl (xv_move rfl ?_)
      refine xr_gd rfl rfl rfl (xv_faddr fl33_1 rfl ?_)
      refine xr_gd rfl rfl rfl (xv_load1 ty3 rfl rfl Me_ (by rfl) ?_)
      refine xr_gd rfl rfl rfl (xv_leq2 rfl rfl (fun q4 => ?_) (fun q4 => ?_))
      · refine xr_op rfl rfl (xv_pick rfl rfl ?_)
        refine xr_op rfl rfl (xv_assign rfl ?_)
        refine xr_end rfl ?_
        refine th_n ?_
        refine xc_ret ?_
        refine body_ret (h' := h) rfl (ro_tmp rfl ro_nil) Su_ ?_
        first | exact H1 (by unfold spanOk; omega) | exact H2 (fun hq9 => by unfold spanOk at hq9; omega)
      · refine xr_op rfl rfl (xv_pick rfl rfl ?_)
        refine xr_op rfl rfl (xv_assign rfl ?_)
        refine xr_end rfl ?_
        refine th_n ?_
        refine xc_ret ?_
        refine body_ret (h' := h) rfl (ro_tmp rfl ro_nil) Su_ ?_
        first | exact H1 (by unfold spanOk; omega) | exact H2 (fun hq9 => by unfold spanOk at hq9; omega)
    · refine xr_op rfl rfl (xv_pick rfl rfl ?_)
      refine xr_op rfl rfl (xv_move rfl ?_)
      refine xr_no rfl rfl rfl rfl ?_
      refine xr_no rfl rfl rfl rfl ?_
      refine xr_no rfl rfl rfl rfl ?_
      refine xr_op rfl rfl (xv_pick rfl rfl ?_)
      refine xr_op rfl rfl (xv_assign rfl ?_)
      refine xr_end rfl ?_
      refine th_n ?_
      refine xc_ret ?_
      refine body_ret (h' := h) rfl (ro_tmp rfl ro_nil) Su_ ?_
      first | exact H1 (by unfold spanOk; omega) | exact H2 (fun hq9 => by unfold spanOk at hq9; omega)
  · refine xr_op rfl rfl (xv_move rfl ?_)
    refine xr_no rfl rfl rfl rfl ?_
    refine xr_no rfl rfl rfl rfl ?_
    refine xr_no rfl rfl rfl rfl ?_
    refine xr_no rfl rfl rfl rfl ?_
    refine xr_no rfl rfl rfl rfl ?_
    refine xr_op rfl rfl (xv_pick rfl rfl ?_)
    refine xr_op rfl rfl (xv_move rfl ?_)
    refine xr_no rfl rfl rfl rfl ?_
    refine xr_no rfl rfl rfl rfl ?_
    refine xr_no rfl rfl rfl rfl ?_
    refine xr_op rfl rfl (xv_pick rfl rfl ?_)
    refine xr_op rfl rfl (xv_assign rfl ?_)
    refine xr_end rfl ?_
    refine th_n ?_
    refine xc_ret ?_
    refine body_ret (h' := h) rfl (ro_tmp rfl ro_nil) Su_ ?_
    first | exact H1 (by unfold spanOk; omega) | exact H2 (fun hq9 => by unfold spanOk at hq9; omega)

theorem Yard_c {y : Yard} {h : Hp} {R : Ending → Hp → Prop} (hy : YardV h y) (hs : Small y) (H1 : GoodYard y → R (.returned (.bool true)) h) (H2 : ¬ GoodYard y → R (.returned (.bool false)) h) :
    ACalls Try.prog 4 ⟨[.agg ⟨eYard y⟩]⟩ h R := by
  refine calls_of_xc (N := 99) Try.func4 rfl (by rfl) ?_
  obtain ⟨hs1, hs2⟩ := hs
  refine xc_seq (xc_region ?_)
  refine xr_op rfl rfl (xv_box rfl (fun b1 hb1 => ?_))
  refine xr_op rfl rfl (xv_assign rfl ?_)
  refine xr_end rfl ?_
  refine th_n ?_
  refine xc_seq ?_
  refine xc_seq (xc_region ?_)
  refine xr_op rfl rfl (xv_assign rfl ?_)
  refine xr_end rfl ?_
  refine th_n ?_
  refine xc_block ?_
  refine xc_loop (σ := Nat) (fun k => k ≤ y.coals.length ∧ ∀ x ∈ y.coals.take k, coalOk x) (fun k => ((emp.put (some 1) (.pointer (some ⟨b1, 0, none⟩))).put (some 3) (I k))) (fun k => ((b1, .cells ⟨eYard y⟩ 25) :: h)) (fun k => y.coals.length - k) 0 ⟨Nat.zero_le _, fun x hx => by simp at hx⟩ (le_put (le_put (le_emp _) rfl) rfl) Su_ ?_
  rintro k ⟨hk, hal⟩
  refine xc_seq ?_
  refine xc_seq (xc_region ?_)
  refine xr_op rfl rfl (xv_move rfl ?_)
  refine xr_op rfl rfl (xv_faddr fl25_0 rfl ?_)
  refine xr_op rfl rfl (xv_load1 ty22 rfl rfl Me_ (by rfl) ?_)
  refine xr_op rfl rfl (xv_len sl22 rfl ?_)
  refine xr_op rfl rfl (xv_lss2 rfl rfl (fun q1 => ?_) (fun q1 => ?_))
  · refine xr_end rfl ?_
    refine th_n ?_
    refine xc_true rfl ?_
    refine xc_skip ?_
    refine th_n ?_
    refine xc_seq ?_
    refine xc_block ?_
    refine xc_seq (xc_region ?_)
    refine xr_op rfl rfl (xv_faddr fl25_0 rfl ?_)
    refine xr_op rfl rfl (xv_load1 ty22 rfl rfl Me_ (by rfl) ?_)
    refine xr_op rfl rfl (xv_move rfl ?_)
    have hlto : k < y.coals.length := by (first|omega|(dsimp only at *;omega)|(simp at *;omega))
    obtain ⟨bo, oo, lo, to, fzo, hao, hmo, hxo⟩ := (hy.coals).at hlto
    obtain ⟨xo, hko⟩ : ∃ qq_, y.coals[k]? = some qq_ := ⟨_, List.getElem?_eq_getElem hlto⟩
    refine xr_op rfl rfl (xv_ia (sz := 8) (j := k) sl22 ty59 rfl (by rw [hao]; rfl) rfl Ix_ Om_ Om_ ?_)
    refine xr_op rfl rfl (xv_loadA ty59 rfl rfl Me_ (hxo (k) xo hko) rfl ?_)
    refine xr_op rfl rfl (xv_alloc ty59 (fun b4 hb4 => ?_))
    refine xr_op rfl rfl (xv_s ty59 rfl rfl Up_ Ev_ (by rfl) (by rfl) (by rfl) Ev_ ?_)
    refine xr_end rfl ?_
    refine th_n ?_
    refine xc_seq (xc_region ?_)
    refine xr_op rfl rfl (xv_faddr fl59_0 rfl ?_)
    refine xr_op rfl rfl (xv_loadA ty33 rfl rfl Me_ Ev_ (by rfl) ?_)
    refine xr_op rfl rfl (xv_calls rfl hb51 (rspan_c (s := xo.gas) (fun ha => up_ret ?_) (fun ha => up_ret ?_)))
    · refine xr_op rfl rfl (xv_not rfl ?_)
      refine xr_op rfl rfl (xv_move rfl ?_)
      refine xr_gd rfl rfl rfl (xv_faddr fl59_1 rfl ?_)
      refine xr_gd rfl rfl rfl (xv_loadA ty33 rfl rfl Me_ Ev_ (by rfl) ?_)
      refine xr_gd rfl rfl rfl (xv_calls rfl hb51 (rspan_c (s := xo.tar) (fun hb => up_ret ?_) (fun hb => up_ret ?_)))
      · refine xr_gd rfl rfl rfl (xv_not rfl ?_)
        refine xr_op rfl rfl (xv_pick rfl rfl ?_)
        refine xr_op rfl rfl (xv_move rfl ?_)
        refine xr_gd rfl rfl rfl (xv_faddr fl59_2 rfl ?_)
        refine xr_gd rfl rfl rfl (xv_loadA ty33 rfl rfl Me_ Ev_ (by rfl) ?_)
        refine xr_gd rfl rfl rfl (xv_calls rfl hb51 (rspan_c (s := xo.sulphur) (fun hc => up_ret ?_) (fun hc => up_ret ?_)))
        · refine xr_gd rfl rfl rfl (xv_not rfl ?_)
          refine xr_op rfl rfl (xv_pick rfl rfl ?_)
          refine xr_op rfl rfl (xv_move rfl ?_)
          refine xr_gd rfl rfl rfl (xv_faddr fl59_3 rfl ?_)
          refine xr_gd rfl rfl rfl (xv_loadA ty33 rfl rfl Me_ Ev_ (by rfl) ?_)
          refine xr_gd rfl rfl rfl (xv_calls rfl hb51 (rspan_c (s := xo.coke) (fun hd => up_ret ?_) (fun hd => up_ret ?_)))
          · refine xr_gd rfl rfl rfl (xv_not rfl ?_)
            refine xr_op rfl rfl (xv_pick rfl rfl ?_)
            refine xr_end rfl ?_
            refine th_n ?_
            refine xc_false rfl ?_
            refine xc_skip ?_
            refine bk_n ?_
            refine th_n ?_
            refine xc_region ?_
            refine xr_op rfl rfl (xv_move rfl ?_)
            refine xr_op rfl rfl (xv_add rfl rfl (wrap_i64 Om_ Om_) ?_)
            refine xr_op rfl rfl (xv_assign rfl ?_)
            refine xr_end rfl ?_
            exact rnd (k + 1) ⟨by (first|omega|(dsimp only at *;omega)|(simp at *;omega)), (take_all hko).2 ⟨hal, ha, hb, hc, hd⟩⟩ Om_ (le_put (le_put (le_emp _) rfl) rfl) Su_
          · refine xr_gd rfl rfl rfl (xv_not rfl ?_)
            refine xr_op rfl rfl (xv_pick rfl rfl ?_)
            refine xr_end rfl ?_
            refine th_n ?_
            refine xc_true rfl ?_
            refine xc_seq (xc_region ?_)
            have hbc : ¬ coalOk xo := by
              rintro ⟨z1, z2, z3, z4⟩
              first | exact absurd z1 (by assumption) | exact absurd z2 (by assumption) | exact absurd z3 (by assumption) | exact absurd z4 (by assumption)
            refine xr_op rfl rfl (xv_assign rfl ?_)
            refine xr_end rfl ?_
            refine th_n ?_
            refine xc_ret ?_
            refine bk_r ?_
            refine th_r ?_
            refine th_r ?_
            refine bk_r ?_
            refine th_r ?_
            refine body_ret (h' := h) rfl (ro_tmp rfl ro_nil) Su_ ?_
            first | exact H2 (fun hq9 => hbc (hq9.1 xo (List.mem_of_getElem? hko))) | exact H2 (fun hq9 => hbm (movesOk_at hq9.2.1 hko)) | exact H1 ⟨hco, hmo, by omega, by omega⟩ | exact H2 (fun hq9 => by have h9 := hq9.2.2; omega)
        · refine xr_gd rfl rfl rfl (xv_not rfl ?_)
          refine xr_op rfl rfl (xv_pick rfl rfl ?_)
          refine xr_op rfl rfl (xv_move rfl ?_)
          refine xr_no rfl rfl rfl rfl ?_
          refine xr_no rfl rfl rfl rfl ?_
          refine xr_no rfl rfl rfl rfl ?_
          refine xr_no rfl rfl rfl rfl ?_
          refine xr_op rfl rfl (xv_pick rfl rfl ?_)
          refine xr_end rfl ?_
          refine th_n ?_
          refine xc_true rfl ?_
          refine xc_seq (xc_region ?_)
          have hbc : ¬ coalOk xo := by
            rintro ⟨z1, z2, z3, z4⟩
            first | exact absurd z1 (by assumption) | exact absurd z2 (by assumption) | exact absurd z3 (by assumption) | exact absurd z4 (by assumption)
          refine xr_op rfl rfl (xv_assign rfl ?_)
          refine xr_end rfl ?_
          refine th_n ?_
          refine xc_ret ?_
          refine bk_r ?_
          refine th_r ?_
          refine th_r ?_
          refine bk_r ?_
          refine th_r ?_
          refine body_ret (h' := h) rfl (ro_tmp rfl ro_nil) Su_ ?_
          first | exact H2 (fun hq9 => hbc (hq9.1 xo (List.mem_of_getElem? hko))) | exact H2 (fun hq9 => hbm (movesOk_at hq9.2.1 hko)) | exact H1 ⟨hco, hmo, by omega, by omega⟩ | exact H2 (fun hq9 => by have h9 := hq9.2.2; omega)
      · refine xr_gd rfl rfl rfl (xv_not rfl ?_)
        refine xr_op rfl rfl (xv_pick rfl rfl ?_)
        refine xr_op rfl rfl (xv_move rfl ?_)
        refine xr_no rfl rfl rfl rfl ?_
        refine xr_no rfl rfl rfl rfl ?_
        refine xr_no rfl rfl rfl rfl ?_
        refine xr_no rfl rfl rfl rfl ?_
        refine xr_op rfl rfl (xv_pick rfl rfl ?_)
        refine xr_op rfl rfl (xv_move rfl ?_)
        refine xr_no rfl rfl rfl rfl ?_
        refine xr_no rfl rfl rfl rfl ?_
        refine xr_no rfl rfl rfl rfl ?_
        refine xr_no rfl rfl rfl rfl ?_
        refine xr_op rfl rfl (xv_pick rfl rfl ?_)
        refine xr_end rfl ?_
        refine th_n ?_
        refine xc_true rfl ?_
        refine xc_seq (xc_region ?_)
        have hbc : ¬ coalOk xo := by
          rintro ⟨z1, z2, z3, z4⟩
          first | exact absurd z1 (by assumption) | exact absurd z2 (by assumption) | exact absurd z3 (by assumption) | exact absurd z4 (by assumption)
        refine xr_op rfl rfl (xv_assign rfl ?_)
        refine xr_end rfl ?_
        refine th_n ?_
        refine xc_ret ?_
        refine bk_r ?_
        refine th_r ?_
        refine th_r ?_
        refine bk_r ?_
        refine th_r ?_
        refine body_ret (h' := h) rfl (ro_tmp rfl ro_nil) Su_ ?_
        first | exact H2 (fun hq9 => hbc (hq9.1 xo (List.mem_of_getElem? hko))) | exact H2 (fun hq9 => hbm (movesOk_at hq9.2.1 hko)) | exact H1 ⟨hco, hmo, by omega, by omega⟩ | exact H2 (fun hq9 => by have h9 := hq9.2.2; omega)
    · refine xr_op rfl rfl (xv_not rfl ?_)
      refine xr_op rfl rfl (xv_move rfl ?_)
      refine xr_no rfl rfl rfl rfl ?_
      refine xr_no rfl rfl rfl rfl ?_
      refine xr_no rfl rfl rfl rfl ?_
      refine xr_no rfl rfl rfl rfl ?_
      refine xr_op rfl rfl (xv_pick rfl rfl ?_)
      refine xr_op rfl rfl (xv_move rfl ?_)
      refine xr_no rfl rfl rfl rfl ?_
      refine xr_no rfl rfl rfl rfl ?_
      refine xr_no rfl rfl rfl rfl ?_
      refine xr_no rfl rfl rfl rfl ?_
      refine xr_op rfl rfl (xv_pick rfl rfl ?_)
      refine xr_op rfl rfl (xv_move rfl ?_)
      refine xr_no rfl rfl rfl rfl ?_
      refine xr_no rfl rfl rfl rfl ?_
      refine xr_no rfl rfl rfl rfl ?_
      refine xr_no rfl rfl rfl rfl ?_
      refine xr_op rfl rfl (xv_pick rfl rfl ?_)
      refine xr_end rfl ?_
      refine th_n ?_
      refine xc_true rfl ?_
      refine xc_seq (xc_region ?_)
      have hbc : ¬ coalOk xo := by
        rintro ⟨z1, z2, z3, z4⟩
        first | exact absurd z1 (by assumption) | exact absurd z2 (by assumption) | exact absurd z3 (by assumption) | exact absurd z4 (by assumption)
      refine xr_op rfl rfl (xv_assign rfl ?_)
      refine xr_end rfl ?_
      refine th_n ?_
      refine xc_ret ?_
      refine bk_r ?_
      refine th_r ?_
      refine th_r ?_
      refine bk_r ?_
      refine th_r ?_
      refine body_ret (h' := h) rfl (ro_tmp rfl ro_nil) Su_ ?_
      first | exact H2 (fun hq9 => hbc (hq9.1 xo (List.mem_of_getElem? hko))) | exact H2 (fun hq9 => hbm (movesOk_at hq9.2.1 hko)) | exact H1 ⟨hco, hmo, by omega, by omega⟩ | exact H2 (fun hq9 => by have h9 := hq9.2.2; omega)
  · refine xr_end rfl ?_
    refine th_n ?_
    refine xc_false rfl ?_
    refine xc_exit ?_
    refine th_x ?_
    refine th_x ?_
    refine bk_same ?_
    refine th_n ?_
    refine xc_seq ?_
    refine xc_seq (xc_region ?_)
    have hco : CoalsOk y.coals := by
      have e9 : k = y.coals.length := by (first|omega|(dsimp only at *;omega)|(simp at *;omega))
      rw [e9, List.take_length] at hal; exact hal
    refine xr_op rfl rfl (xv_assign rfl ?_)
    refine xr_end rfl ?_
    refine th_n ?_
    refine xc_block ?_
    refine xc_loop (σ := Nat) (fun k => k ≤ y.moves.length ∧ movesOk y.coals.length 0 (y.moves.take k)) (fun k => ((emp.put (some 1) (.pointer (some ⟨b1, 0, none⟩))).put (some 5) (I k))) (fun k => ((b1, .cells ⟨eYard y⟩ 25) :: h)) (fun k => y.moves.length - k) 0 ⟨Nat.zero_le _, trivial⟩ (le_put (le_put (le_emp _) rfl) rfl) Su_ ?_
    rintro k ⟨hk, hmv⟩
    refine xc_seq ?_
    refine xc_seq (xc_region ?_)
    refine xr_op rfl rfl (xv_move rfl ?_)
    refine xr_op rfl rfl (xv_faddr fl25_1 rfl ?_)
    refine xr_op rfl rfl (xv_load1 ty23 rfl rfl Me_ (by rfl) ?_)
    refine xr_op rfl rfl (xv_len sl23 rfl ?_)
    refine xr_op rfl rfl (xv_lss2 rfl rfl (fun q2 => ?_) (fun q2 => ?_))
    · refine xr_end rfl ?_
      refine th_n ?_
      refine xc_true rfl ?_
      refine xc_skip ?_
      refine th_n ?_
      refine xc_seq ?_
      refine xc_block ?_
      refine xc_seq (xc_region ?_)
      refine xr_op rfl rfl (xv_faddr fl25_1 rfl ?_)
      refine xr_op rfl rfl (xv_load1 ty23 rfl rfl Me_ (by rfl) ?_)
      refine xr_op rfl rfl (xv_move rfl ?_)
      have hlto : k < y.moves.length := by (first|omega|(dsimp only at *;omega)|(simp at *;omega))
      obtain ⟨bo, oo, lo, to, fzo, hao, hmo, hxo⟩ := (hy.moves).at hlto
      obtain ⟨xo, hko⟩ : ∃ qq_, y.moves[k]? = some qq_ := ⟨_, List.getElem?_eq_getElem hlto⟩
      refine xr_op rfl rfl (xv_ia (sz := 3) (j := k) sl23 ty63 rfl (by rw [hao]; rfl) rfl Ix_ Om_ Om_ ?_)
      refine xr_op rfl rfl (xv_loadA ty63 rfl rfl Me_ (hxo (k) xo hko) rfl ?_)
      refine xr_op rfl rfl (xv_alloc ty63 (fun b6 hb6 => ?_))
      refine xr_op rfl rfl (xv_s ty63 rfl rfl Up_ Ev_ (by rfl) (by rfl) (by rfl) Ev_ ?_)
      refine xr_end rfl ?_
      refine th_n ?_
      refine xc_seq ?_
      refine xc_draw0 [(0, .S), (1, .R), (2, .O), (3, .S), (4, .S), (5, .S), (6, .O), (7, .S), (8, .S), (9, .R), (10, .S), (11, .R), (12, .S), (13, .S), (14, .S), (15, .S), (16, .R), (17, .O), (18, .S), (19, .S), (20, .S), (21, .S), (22, .R), (23, .S), (24, .R), (25, .S), (26, .S), (27, .O), (28, .S), (29, .S), (30, .S), (31, .S), (32, .R), (33, .O), (34, .S), (35, .S)] mixed (by kernel_rfl) ?_
      refine js_S rfl rfl (.inl rfl) (xv_faddr fl63_0 rfl ⟨rfl, rfl⟩) ?_
      refine js_R0 rfl rfl (.inl rfl) (xv_load1 ty3 rfl rfl Me_ (by rfl) ⟨rfl, rfl⟩) ?_
      refine js_O0 rfl rfl (.inl rfl) (xv_calls rfl hb37 (in_c _ _ _ (fun hl3 hu4 => up_ret ?_) (fun hn5 => up_ret ?_)))
      · refine js_S rfl rfl (.inl rfl) (xv_not rfl ⟨rfl, rfl⟩) ?_
        refine js_S rfl rfl (.inl rfl) (xv_move rfl ⟨rfl, rfl⟩) ?_
        refine js_S rfl rfl (.inr ⟨_, _, rfl, rfl⟩) (xv_move rfl ⟨rfl, rfl⟩) ?_
        refine js_O0 rfl rfl (.inr ⟨_, _, rfl, rfl⟩) (xv_gtr2 rfl rfl (fun hq => ?_) (fun hq => ?_))
        · have hltp : (k - 1) < y.moves.length := by (first|omega|(dsimp only at *;omega)|(simp at *;omega))
          obtain ⟨bp, op, lp, tp, fzp, hap, hmp, hxp⟩ := (hy.moves).at hltp
          obtain ⟨xp, hkp⟩ : ∃ qq_, y.moves[(k - 1)]? = some qq_ := ⟨_, List.getElem?_eq_getElem hltp⟩
          have hlp : lastH 0 (y.moves.take k) = xp.hour := lastH_p Om_ hkp
          have hpm := ((movesOk_take (show y.moves[k - 1]? = some xp from hkp)).1 (by rw [show k - 1 + 1 = k by (first|omega|(dsimp only at *;omega)|(simp at *;omega))]; exact hmv)).2.1
          have hp0 : 0 ≤ xp.hour := by
            have h9 : 0 ≤ lastH 0 (y.moves.take (k - 1)) := lastH_0le hmv (by omega)
            omega
          refine js_S rfl rfl (.inr ⟨_, _, rfl, rfl⟩) (xv_move rfl ⟨rfl, rfl⟩) ?_
          refine js_S rfl rfl (.inr ⟨_, _, rfl, rfl⟩) (xv_faddr fl63_0 rfl ⟨rfl, rfl⟩) ?_
          refine js_R0 rfl rfl (.inr ⟨_, _, rfl, rfl⟩) (xv_load1 ty3 rfl rfl Me_ (by rfl) ⟨rfl, rfl⟩) ?_
          refine js_S rfl rfl (.inr ⟨_, _, rfl, rfl⟩) (xv_faddr fl25_1 rfl ⟨rfl, rfl⟩) ?_
          refine js_R0 rfl rfl (.inr ⟨_, _, rfl, rfl⟩) (xv_load1 ty23 rfl rfl Me_ (by rfl) ⟨rfl, rfl⟩) ?_
          refine js_S rfl rfl (.inr ⟨_, _, rfl, rfl⟩) (xv_move rfl ⟨rfl, rfl⟩) ?_
          refine js_S rfl rfl (.inr ⟨_, _, rfl, rfl⟩) (xv_sub rfl rfl (wrap_i64 Om_ Om_) ⟨rfl, rfl⟩) ?_
          refine js_S rfl rfl (.inr ⟨_, _, rfl, rfl⟩) (xv_ia (sz := 3) (j := (k - 1)) sl23 ty63 rfl (by rw [hap]; rfl) rfl (by omega) Om_ Om_ ⟨rfl, rfl⟩) ?_
          refine js_S rfl rfl (.inr ⟨_, _, rfl, rfl⟩) (xv_faddr fl63_0 rfl ⟨rfl, rfl⟩) ?_
          refine js_R0 rfl rfl (.inr ⟨_, _, rfl, rfl⟩) (xv_load1 ty3 rfl rfl Me_ (take_get (hxp (k - 1) xp hkp) (j := 0) rfl) ⟨rfl, rfl⟩) ?_
          refine js_O0 rfl rfl (.inr ⟨_, _, rfl, rfl⟩) (xv_lss2 rfl rfl (fun hq => ?_) (fun hq => ?_))
          · refine js_S rfl rfl (.inr ⟨_, _, rfl, rfl⟩) (xv_pick rfl rfl ⟨rfl, rfl⟩) ?_
            refine js_S rfl rfl (.inl rfl) (xv_pick rfl rfl ⟨rfl, rfl⟩) ?_
            refine js_S rfl rfl (.inl rfl) (xv_move rfl ⟨rfl, rfl⟩) ?_
            refine js_Ss rfl rfl ⟨_, _, _, rfl, rfl, rfl⟩ ?_
            refine js_Rs rfl rfl ⟨_, _, _, rfl, rfl, rfl⟩ ?_
            refine js_Ss rfl rfl ⟨_, _, _, rfl, rfl, rfl⟩ ?_
            refine js_Rs rfl rfl ⟨_, _, _, rfl, rfl, rfl⟩ ?_
            refine js_Ss rfl rfl ⟨_, _, _, rfl, rfl, rfl⟩ ?_
            refine js_Ss rfl rfl ⟨_, _, _, rfl, rfl, rfl⟩ ?_
            refine js_Os rfl rfl ⟨_, _, _, rfl, rfl, rfl⟩ ?_
            refine js_Ss rfl rfl ⟨_, _, _, rfl, rfl, rfl⟩ ?_
            refine js_S rfl rfl (.inl rfl) (xv_pick rfl rfl ⟨rfl, rfl⟩) ?_
            refine js_S rfl rfl (.inl rfl) (xv_move rfl ⟨rfl, rfl⟩) ?_
            refine js_Ss rfl rfl ⟨_, _, _, rfl, rfl, rfl⟩ ?_
            refine js_Rs rfl rfl ⟨_, _, _, rfl, rfl, rfl⟩ ?_
            refine js_Os rfl rfl ⟨_, _, _, rfl, rfl, rfl⟩ ?_
            refine js_Ss rfl rfl ⟨_, _, _, rfl, rfl, rfl⟩ ?_
            refine js_S rfl rfl (.inl rfl) (xv_pick rfl rfl ⟨rfl, rfl⟩) ?_
            refine j_end0 ?_
            refine th_n ?_
            refine xc_true rfl ?_
            refine xc_seq (xc_region ?_)
            have hbm : ¬ moveOk y.coals.length (lastH 0 (y.moves.take k)) xo := by
              unfold moveOk
              first | omega | (have h8 := lastH_0le hmv (Nat.le_refl k); omega)
            refine xr_op rfl rfl (xv_assign rfl ?_)
            refine xr_end rfl ?_
            refine th_n ?_
            refine xc_ret ?_
            refine bk_r ?_
            refine th_r ?_
            refine th_r ?_
            refine bk_r ?_
            refine th_r ?_
            refine body_ret (h' := h) rfl (ro_tmp rfl ro_nil) Su_ ?_
            first | exact H2 (fun hq9 => hbc (hq9.1 xo (List.mem_of_getElem? hko))) | exact H2 (fun hq9 => hbm (movesOk_at hq9.2.1 hko)) | exact H1 ⟨hco, hmo, by omega, by omega⟩ | exact H2 (fun hq9 => by have h9 := hq9.2.2; omega)
          · refine js_S rfl rfl (.inr ⟨_, _, rfl, rfl⟩) (xv_pick rfl rfl ⟨rfl, rfl⟩) ?_
            refine js_S rfl rfl (.inl rfl) (xv_pick rfl rfl ⟨rfl, rfl⟩) ?_
            refine js_S rfl rfl (.inl rfl) (xv_move rfl ⟨rfl, rfl⟩) ?_
            refine js_S rfl rfl (.inr ⟨_, _, rfl, rfl⟩) (xv_faddr fl63_1 rfl ⟨rfl, rfl⟩) ?_
            refine js_R0 rfl rfl (.inr ⟨_, _, rfl, rfl⟩) (xv_load1 ty3 rfl rfl Me_ (by rfl) ⟨rfl, rfl⟩) ?_
            refine js_S rfl rfl (.inr ⟨_, _, rfl, rfl⟩) (xv_faddr fl25_0 rfl ⟨rfl, rfl⟩) ?_
            refine js_R0 rfl rfl (.inr ⟨_, _, rfl, rfl⟩) (xv_load1 ty22 rfl rfl Me_ (by rfl) ⟨rfl, rfl⟩) ?_
            refine js_S rfl rfl (.inr ⟨_, _, rfl, rfl⟩) (xv_len sl22 rfl ⟨rfl, rfl⟩) ?_
            refine js_S rfl rfl (.inr ⟨_, _, rfl, rfl⟩) (xv_sub rfl rfl (wrap_i64 Om_ Om_) ⟨rfl, rfl⟩) ?_
            refine js_O0 rfl rfl (.inr ⟨_, _, rfl, rfl⟩) (xv_calls rfl hb37 (in_c _ _ _ (fun hl6 hu7 => up_ret ?_) (fun hn8 => up_ret ?_)))
            · refine js_S rfl rfl (.inr ⟨_, _, rfl, rfl⟩) (xv_not rfl ⟨rfl, rfl⟩) ?_
              refine js_S rfl rfl (.inl rfl) (xv_pick rfl rfl ⟨rfl, rfl⟩) ?_
              refine js_S rfl rfl (.inl rfl) (xv_move rfl ⟨rfl, rfl⟩) ?_
              refine js_S rfl rfl (.inr ⟨_, _, rfl, rfl⟩) (xv_faddr fl63_2 rfl ⟨rfl, rfl⟩) ?_
              refine js_R0 rfl rfl (.inr ⟨_, _, rfl, rfl⟩) (xv_load1 ty3 rfl rfl Me_ (by rfl) ⟨rfl, rfl⟩) ?_
              refine js_O0 rfl rfl (.inr ⟨_, _, rfl, rfl⟩) (xv_calls rfl hb37 (in_c _ _ _ (fun hl9 hu10 => up_ret ?_) (fun hn11 => up_ret ?_)))
              · refine js_S rfl rfl (.inr ⟨_, _, rfl, rfl⟩) (xv_not rfl ⟨rfl, rfl⟩) ?_
                refine js_S rfl rfl (.inl rfl) (xv_pick rfl rfl ⟨rfl, rfl⟩) ?_
                refine j_end0 ?_
                refine th_n ?_
                refine xc_false rfl ?_
                refine xc_skip ?_
                refine bk_n ?_
                refine th_n ?_
                refine xc_region ?_
                refine xr_op rfl rfl (xv_move rfl ?_)
                refine xr_op rfl rfl (xv_add rfl rfl (wrap_i64 Om_ Om_) ?_)
                refine xr_op rfl rfl (xv_assign rfl ?_)
                refine xr_end rfl ?_
                exact rnd (k + 1) ⟨by (first|omega|(dsimp only at *;omega)|(simp at *;omega)), (movesOk_take hko).2 ⟨hmv, by unfold moveOk; omega⟩⟩ Om_ (le_put (le_put (le_emp _) rfl) rfl) Su_
              · refine js_S rfl rfl (.inr ⟨_, _, rfl, rfl⟩) (xv_not rfl ⟨rfl, rfl⟩) ?_
                refine js_S rfl rfl (.inl rfl) (xv_pick rfl rfl ⟨rfl, rfl⟩) ?_
                refine j_end0 ?_
                refine th_n ?_
                refine xc_true rfl ?_
                refine xc_seq (xc_region ?_)
                have hbm : ¬ moveOk y.coals.length (lastH 0 (y.moves.take k)) xo := by
                  unfold moveOk
                  first | omega | (have h8 := lastH_0le hmv (Nat.le_refl k); omega)
                refine xr_op rfl rfl (xv_assign rfl ?_)
                refine xr_end rfl ?_
                refine th_n ?_
                refine xc_ret ?_
                refine bk_r ?_
                refine th_r ?_
                refine th_r ?_
                refine bk_r ?_
                refine th_r ?_
                refine body_ret (h' := h) rfl (ro_tmp rfl ro_nil) Su_ ?_
                first | exact H2 (fun hq9 => hbc (hq9.1 xo (List.mem_of_getElem? hko))) | exact H2 (fun hq9 => hbm (movesOk_at hq9.2.1 hko)) | exact H1 ⟨hco, hmo, by omega, by omega⟩ | exact H2 (fun hq9 => by have h9 := hq9.2.2; omega)
            · refine js_S rfl rfl (.inr ⟨_, _, rfl, rfl⟩) (xv_not rfl ⟨rfl, rfl⟩) ?_
              refine js_S rfl rfl (.inl rfl) (xv_pick rfl rfl ⟨rfl, rfl⟩) ?_
              refine js_S rfl rfl (.inl rfl) (xv_move rfl ⟨rfl, rfl⟩) ?_
              refine js_Ss rfl rfl ⟨_, _, _, rfl, rfl, rfl⟩ ?_
              refine js_Rs rfl rfl ⟨_, _, _, rfl, rfl, rfl⟩ ?_
              refine js_Os rfl rfl ⟨_, _, _, rfl, rfl, rfl⟩ ?_
              refine js_Ss rfl rfl ⟨_, _, _, rfl, rfl, rfl⟩ ?_
              refine js_S rfl rfl (.inl rfl) (xv_pick rfl rfl ⟨rfl, rfl⟩) ?_
              refine j_end0 ?_
              refine th_n ?_
              refine xc_true rfl ?_
              refine xc_seq (xc_region ?_)
              have hbm : ¬ moveOk y.coals.length (lastH 0 (y.moves.take k)) xo := by
                unfold moveOk
                first | omega | (have h8 := lastH_0le hmv (Nat.le_refl k); omega)
              refine xr_op rfl rfl (xv_assign rfl ?_)
              refine xr_end rfl ?_
              refine th_n ?_
              refine xc_ret ?_
              refine bk_r ?_
              refine th_r ?_
              refine th_r ?_
              refine bk_r ?_
              refine th_r ?_
              refine body_ret (h' := h) rfl (ro_tmp rfl ro_nil) Su_ ?_
              first | exact H2 (fun hq9 => hbc (hq9.1 xo (List.mem_of_getElem? hko))) | exact H2 (fun hq9 => hbm (movesOk_at hq9.2.1 hko)) | exact H1 ⟨hco, hmo, by omega, by omega⟩ | exact H2 (fun hq9 => by have h9 := hq9.2.2; omega)
        · have hlp : lastH 0 (y.moves.take k) = 0 := by rw [show k = 0 by (first|omega|(dsimp only at *;omega)|(simp at *;omega))]; rfl
          refine js_S rfl rfl (.inr ⟨_, _, rfl, rfl⟩) (xv_move rfl ⟨rfl, rfl⟩) ?_
          refine js_Ss rfl rfl ⟨_, _, _, rfl, rfl, rfl⟩ ?_
          refine js_Rs rfl rfl ⟨_, _, _, rfl, rfl, rfl⟩ ?_
          refine js_Ss rfl rfl ⟨_, _, _, rfl, rfl, rfl⟩ ?_
          refine js_Rs rfl rfl ⟨_, _, _, rfl, rfl, rfl⟩ ?_
          refine js_Ss rfl rfl ⟨_, _, _, rfl, rfl, rfl⟩ ?_
          refine js_Ss rfl rfl ⟨_, _, _, rfl, rfl, rfl⟩ ?_
          refine js_Ss rfl rfl ⟨_, _, _, rfl, rfl, rfl⟩ ?_
          refine js_Ss rfl rfl ⟨_, _, _, rfl, rfl, rfl⟩ ?_
          refine js_Rs rfl rfl ⟨_, _, _, rfl, rfl, rfl⟩ ?_
          refine js_Os rfl rfl ⟨_, _, _, rfl, rfl, rfl⟩ ?_
          refine js_S rfl rfl (.inr ⟨_, _, rfl, rfl⟩) (xv_pick rfl rfl ⟨rfl, rfl⟩) ?_
          refine js_S rfl rfl (.inl rfl) (xv_pick rfl rfl ⟨rfl, rfl⟩) ?_
          refine js_S rfl rfl (.inl rfl) (xv_move rfl ⟨rfl, rfl⟩) ?_
          refine js_S rfl rfl (.inr ⟨_, _, rfl, rfl⟩) (xv_faddr fl63_1 rfl ⟨rfl, rfl⟩) ?_
          refine js_R0 rfl rfl (.inr ⟨_, _, rfl, rfl⟩) (xv_load1 ty3 rfl rfl Me_ (by rfl) ⟨rfl, rfl⟩) ?_
          refine js_S rfl rfl (.inr ⟨_, _, rfl, rfl⟩) (xv_faddr fl25_0 rfl ⟨rfl, rfl⟩) ?_
          refine js_R0 rfl rfl (.inr ⟨_, _, rfl, rfl⟩) (xv_load1 ty22 rfl rfl Me_ (by rfl) ⟨rfl, rfl⟩) ?_
          refine js_S rfl rfl (.inr ⟨_, _, rfl, rfl⟩) (xv_len sl22 rfl ⟨rfl, rfl⟩) ?_
          refine js_S rfl rfl (.inr ⟨_, _, rfl, rfl⟩) (xv_sub rfl rfl (wrap_i64 Om_ Om_) ⟨rfl, rfl⟩) ?_
          refine js_O0 rfl rfl (.inr ⟨_, _, rfl, rfl⟩) (xv_calls rfl hb37 (in_c _ _ _ (fun hl12 hu13 => up_ret ?_) (fun hn14 => up_ret ?_)))
          · refine js_S rfl rfl (.inr ⟨_, _, rfl, rfl⟩) (xv_not rfl ⟨rfl, rfl⟩) ?_
            refine js_S rfl rfl (.inl rfl) (xv_pick rfl rfl ⟨rfl, rfl⟩) ?_
            refine js_S rfl rfl (.inl rfl) (xv_move rfl ⟨rfl, rfl⟩) ?_
            refine js_S rfl rfl (.inr ⟨_, _, rfl, rfl⟩) (xv_faddr fl63_2 rfl ⟨rfl, rfl⟩) ?_
            refine js_R0 rfl rfl (.inr ⟨_, _, rfl, rfl⟩) (xv_load1 ty3 rfl rfl Me_ (by rfl) ⟨rfl, rfl⟩) ?_
            refine js_O0 rfl rfl (.inr ⟨_, _, rfl, rfl⟩) (xv_calls rfl hb37 (in_c _ _ _ (fun hl15 hu16 => up_ret ?_) (fun hn17 => up_ret ?_)))
            · refine js_S rfl rfl (.inr ⟨_, _, rfl, rfl⟩) (xv_not rfl ⟨rfl, rfl⟩) ?_
              refine js_S rfl rfl (.inl rfl) (xv_pick rfl rfl ⟨rfl, rfl⟩) ?_
              refine j_end0 ?_
              refine th_n ?_
              refine xc_false rfl ?_
              refine xc_skip ?_
              refine bk_n ?_
              refine th_n ?_
              refine xc_region ?_
              refine xr_op rfl rfl (xv_move rfl ?_)
              refine xr_op rfl rfl (xv_add rfl rfl (wrap_i64 Om_ Om_) ?_)
              refine xr_op rfl rfl (xv_assign rfl ?_)
              refine xr_end rfl ?_
              exact rnd (k + 1) ⟨by (first|omega|(dsimp only at *;omega)|(simp at *;omega)), (movesOk_take hko).2 ⟨hmv, by unfold moveOk; omega⟩⟩ Om_ (le_put (le_put (le_emp _) rfl) rfl) Su_
            · refine js_S rfl rfl (.inr ⟨_, _, rfl, rfl⟩) (xv_not rfl ⟨rfl, rfl⟩) ?_
              refine js_S rfl rfl (.inl rfl) (xv_pick rfl rfl ⟨rfl, rfl⟩) ?_
              refine j_end0 ?_
              refine th_n ?_
              refine xc_true rfl ?_
              refine xc_seq (xc_region ?_)
              have hbm : ¬ moveOk y.coals.length (lastH 0 (y.moves.take k)) xo := by
                unfold moveOk
                first | omega | (have h8 := lastH_0le hmv (Nat.le_refl k); omega)
              refine xr_op rfl rfl (xv_assign rfl ?_)
              refine xr_end rfl ?_
              refine th_n ?_
              refine xc_ret ?_
              refine bk_r ?_
              refine th_r ?_
              refine th_r ?_
              refine bk_r ?_
              refine th_r ?_
              refine body_ret (h' := h) rfl (ro_tmp rfl ro_nil) Su_ ?_
              first | exact H2 (fun hq9 => hbc (hq9.1 xo (List.mem_of_getElem? hko))) | exact H2 (fun hq9 => hbm (movesOk_at hq9.2.1 hko)) | exact H1 ⟨hco, hmo, by omega, by omega⟩ | exact H2 (fun hq9 => by have h9 := hq9.2.2; omega)
          · refine js_S rfl rfl (.inr ⟨_, _, rfl, rfl⟩) (xv_not rfl ⟨rfl, rfl⟩) ?_
            refine js_S rfl rfl (.inl rfl) (xv_pick rfl rfl ⟨rfl, rfl⟩) ?_
            refine js_S rfl rfl (.inl rfl) (xv_move rfl ⟨rfl, rfl⟩) ?_
            refine js_Ss rfl rfl ⟨_, _, _, rfl, rfl, rfl⟩ ?_
            refine js_Rs rfl rfl ⟨_, _, _, rfl, rfl, rfl⟩ ?_
            refine js_Os rfl rfl ⟨_, _, _, rfl, rfl, rfl⟩ ?_
            refine js_Ss rfl rfl ⟨_, _, _, rfl, rfl, rfl⟩ ?_
            refine js_S rfl rfl (.inl rfl) (xv_pick rfl rfl ⟨rfl, rfl⟩) ?_
            refine j_end0 ?_
            refine th_n ?_
            refine xc_true rfl ?_
            refine xc_seq (xc_region ?_)
            have hbm : ¬ moveOk y.coals.length (lastH 0 (y.moves.take k)) xo := by
              unfold moveOk
              first | omega | (have h8 := lastH_0le hmv (Nat.le_refl k); omega)
            refine xr_op rfl rfl (xv_assign rfl ?_)
            refine xr_end rfl ?_
            refine th_n ?_
            refine xc_ret ?_
            refine bk_r ?_
            refine th_r ?_
            refine th_r ?_
            refine bk_r ?_
            refine th_r ?_
            refine body_ret (h' := h) rfl (ro_tmp rfl ro_nil) Su_ ?_
            first | exact H2 (fun hq9 => hbc (hq9.1 xo (List.mem_of_getElem? hko))) | exact H2 (fun hq9 => hbm (movesOk_at hq9.2.1 hko)) | exact H1 ⟨hco, hmo, by omega, by omega⟩ | exact H2 (fun hq9 => by have h9 := hq9.2.2; omega)
      · refine js_S rfl rfl (.inl rfl) (xv_not rfl ⟨rfl, rfl⟩) ?_
        refine js_S rfl rfl (.inl rfl) (xv_move rfl ⟨rfl, rfl⟩) ?_
        refine js_Ss rfl rfl ⟨_, _, _, rfl, rfl, rfl⟩ ?_
        refine js_Os rfl rfl ⟨_, _, _, rfl, rfl, rfl⟩ ?_
        refine js_Ss rfl rfl ⟨_, _, _, rfl, rfl, rfl⟩ ?_
        refine js_Ss rfl rfl ⟨_, _, _, rfl, rfl, rfl⟩ ?_
        refine js_Rs rfl rfl ⟨_, _, _, rfl, rfl, rfl⟩ ?_
        refine js_Ss rfl rfl ⟨_, _, _, rfl, rfl, rfl⟩ ?_
        refine js_Rs rfl rfl ⟨_, _, _, rfl, rfl, rfl⟩ ?_
        refine js_Ss rfl rfl ⟨_, _, _, rfl, rfl, rfl⟩ ?_
        refine js_Ss rfl rfl ⟨_, _, _, rfl, rfl, rfl⟩ ?_
        refine js_Ss rfl rfl ⟨_, _, _, rfl, rfl, rfl⟩ ?_
        refine js_Ss rfl rfl ⟨_, _, _, rfl, rfl, rfl⟩ ?_
        refine js_Rs rfl rfl ⟨_, _, _, rfl, rfl, rfl⟩ ?_
        refine js_Os rfl rfl ⟨_, _, _, rfl, rfl, rfl⟩ ?_
        refine js_Ss rfl rfl ⟨_, _, _, rfl, rfl, rfl⟩ ?_
        refine js_S rfl rfl (.inl rfl) (xv_pick rfl rfl ⟨rfl, rfl⟩) ?_
        refine js_S rfl rfl (.inl rfl) (xv_move rfl ⟨rfl, rfl⟩) ?_
        refine js_Ss rfl rfl ⟨_, _, _, rfl, rfl, rfl⟩ ?_
        refine js_Rs rfl rfl ⟨_, _, _, rfl, rfl, rfl⟩ ?_
        refine js_Ss rfl rfl ⟨_, _, _, rfl, rfl, rfl⟩ ?_
        refine js_Rs rfl rfl ⟨_, _, _, rfl, rfl, rfl⟩ ?_
        refine js_Ss rfl rfl ⟨_, _, _, rfl, rfl, rfl⟩ ?_
        refine js_Ss rfl rfl ⟨_, _, _, rfl, rfl, rfl⟩ ?_
        refine js_Os rfl rfl ⟨_, _, _, rfl, rfl, rfl⟩ ?_
        refine js_Ss rfl rfl ⟨_, _, _, rfl, rfl, rfl⟩ ?_
        refine js_S rfl rfl (.inl rfl) (xv_pick rfl rfl ⟨rfl, rfl⟩) ?_
        refine js_S rfl rfl (.inl rfl) (xv_move rfl ⟨rfl, rfl⟩) ?_
        refine js_Ss rfl rfl ⟨_, _, _, rfl, rfl, rfl⟩ ?_
        refine js_Rs rfl rfl ⟨_, _, _, rfl, rfl, rfl⟩ ?_
        refine js_Os rfl rfl ⟨_, _, _, rfl, rfl, rfl⟩ ?_
        refine js_Ss rfl rfl ⟨_, _, _, rfl, rfl, rfl⟩ ?_
        refine js_S rfl rfl (.inl rfl) (xv_pick rfl rfl ⟨rfl, rfl⟩) ?_
        refine j_end0 ?_
        refine th_n ?_
        refine xc_true rfl ?_
        refine xc_seq (xc_region ?_)
        have hbm : ¬ moveOk y.coals.length (lastH 0 (y.moves.take k)) xo := by
          unfold moveOk
          first | omega | (have h8 := lastH_0le hmv (Nat.le_refl k); omega)
        refine xr_op rfl rfl (xv_assign rfl ?_)
        refine xr_end rfl ?_
        refine th_n ?_
        refine xc_ret ?_
        refine bk_r ?_
        refine th_r ?_
        refine th_r ?_
        refine bk_r ?_
        refine th_r ?_
        refine body_ret (h' := h) rfl (ro_tmp rfl ro_nil) Su_ ?_
        first | exact H2 (fun hq9 => hbc (hq9.1 xo (List.mem_of_getElem? hko))) | exact H2 (fun hq9 => hbm (movesOk_at hq9.2.1 hko)) | exact H1 ⟨hco, hmo, by omega, by omega⟩ | exact H2 (fun hq9 => by have h9 := hq9.2.2; omega)
    · refine xr_end rfl ?_
      refine th_n ?_
      refine xc_false rfl ?_
      refine xc_exit ?_
      refine th_x ?_
      refine th_x ?_
      refine bk_same ?_
      refine th_n ?_
      refine xc_seq (xc_region ?_)
      have hmo : movesOk y.coals.length 0 y.moves := by
        have e9 : k = y.moves.length := by (first|omega|(dsimp only at *;omega)|(simp at *;omega))
        rw [e9, List.take_length] at hmv; exact hmv
      refine xr_op rfl rfl (xv_faddr fl25_0 rfl ?_)
      refine xr_op rfl rfl (xv_load1 ty22 rfl rfl Me_ (by rfl) ?_)
      refine xr_op rfl rfl (xv_len sl22 rfl ?_)
      refine xr_op rfl rfl (xv_calls rfl hb37 (in_c _ _ _ (fun hl18 hu19 => up_ret ?_) (fun hn20 => up_ret ?_)))
      · refine xr_op rfl rfl (xv_move rfl ?_)
        refine xr_gd rfl rfl rfl (xv_faddr fl25_1 rfl ?_)
        refine xr_gd rfl rfl rfl (xv_load1 ty23 rfl rfl Me_ (by rfl) ?_)
        refine xr_gd rfl rfl rfl (xv_len sl23 rfl ?_)
        refine xr_gd rfl rfl rfl (xv_leq2 rfl rfl (fun q21 => ?_) (fun q21 => ?_))
        · refine xr_op rfl rfl (xv_pick rfl rfl ?_)
          refine xr_op rfl rfl (xv_assign rfl ?_)
          refine xr_end rfl ?_
          refine th_n ?_
          refine xc_ret ?_
          refine body_ret (h' := h) rfl (ro_tmp rfl ro_nil) Su_ ?_
          first | exact H2 (fun hq9 => hbc (hq9.1 xo (List.mem_of_getElem? hko))) | exact H2 (fun hq9 => hbm (movesOk_at hq9.2.1 hko)) | exact H1 ⟨hco, hmo, by omega, by omega⟩ | exact H2 (fun hq9 => by have h9 := hq9.2.2; omega)
        · refine xr_op rfl rfl (xv_pick rfl rfl ?_)
          refine xr_op rfl rfl (xv_assign rfl ?_)
          refine xr_end rfl ?_
          refine th_n ?_
          refine xc_ret ?_
          refine body_ret (h' := h) rfl (ro_tmp rfl ro_nil) Su_ ?_
          first | exact H2 (fun hq9 => hbc (hq9.1 xo (List.mem_of_getElem? hko))) | exact H2 (fun hq9 => hbm (movesOk_at hq9.2.1 hko)) | exact H1 ⟨hco, hmo, by omega, by omega⟩ | exact H2 (fun hq9 => by have h9 := hq9.2.2; omega)
      · refine xr_op rfl rfl (xv_move rfl ?_)
        refine xr_no rfl rfl rfl rfl ?_
        refine xr_no rfl rfl rfl rfl ?_
        refine xr_no rfl rfl rfl rfl ?_
        refine xr_no rfl rfl rfl rfl ?_
        refine xr_op rfl rfl (xv_pick rfl rfl ?_)
        refine xr_op rfl rfl (xv_assign rfl ?_)
        refine xr_end rfl ?_
        refine th_n ?_
        refine xc_ret ?_
        refine body_ret (h' := h) rfl (ro_tmp rfl ro_nil) Su_ ?_
        first | exact H2 (fun hq9 => hbc (hq9.1 xo (List.mem_of_getElem? hko))) | exact H2 (fun hq9 => hbm (movesOk_at hq9.2.1 hko)) | exact H1 ⟨hco, hmo, by omega, by omega⟩ | exact H2 (fun hq9 => by have h9 := hq9.2.2; omega)

theorem layer_c {y : Yard} {n : Nat} {h : Hp} {R : Ending → Hp → Prop} (hy : YardV h y) (hmv : movesOk n 0 y.moves) {i : Nat} {ii : Int} (ei : ii = i) (hi : i < y.moves.length) (hl : y.moves.length ≤ 1000) (H : R (.returned (I (((opn (y.moves.take (i + 1))).1 : Int) - 1))) h) :
    ACalls Try.prog 33 ⟨[.agg ⟨eYard y⟩, I ii]⟩ h R := by
  refine calls_of_xc (N := 48) Try.func33 rfl (by rfl) ?_
  subst ei
  refine xc_seq (xc_region ?_)
  refine xr_op rfl rfl (xv_box rfl (fun b2 hb2 => ?_))
  refine xr_op rfl rfl (xv_assign rfl ?_)
  refine xr_end rfl ?_
  refine th_n ?_
  refine xc_seq (xc_region ?_)
  refine xr_op rfl rfl (xv_assign rfl ?_)
  refine xr_end rfl ?_
  refine th_n ?_
  refine xc_seq ?_
  refine xc_seq (xc_region ?_)
  refine xr_op rfl rfl (xv_assign rfl ?_)
  refine xr_end rfl ?_
  refine th_n ?_
  refine xc_block ?_
  refine xc_loop (σ := Nat) (fun k => k ≤ i + 1) (fun k => ((((emp.put (some 1) (I (i : Int))).put (some 2) (.pointer (some ⟨b2, 0, none⟩))).put (some 5) (I (((opn (y.moves.take k)).1 : Int) - 1))).put (some 6) (I k))) (fun k => ((b2, .cells ⟨eYard y⟩ 25) :: h)) (fun k => i + 1 - k) 0 (Nat.zero_le _) (le_put (le_put (le_put (le_put (le_emp _) rfl) rfl) rfl) rfl) Su_ ?_
  rintro k hk
  refine xc_seq ?_
  refine xc_seq (xc_region ?_)
  refine xr_op rfl rfl (xv_move rfl ?_)
  refine xr_op rfl rfl (xv_move rfl ?_)
  refine xr_op rfl rfl (xv_leq2 rfl rfl (fun q1 => ?_) (fun q1 => ?_))
  · refine xr_end rfl ?_
    refine th_n ?_
    refine xc_true rfl ?_
    refine xc_skip ?_
    refine th_n ?_
    refine xc_seq ?_
    refine xc_block ?_
    refine xc_seq (xc_region ?_)
    refine xr_op rfl rfl (xv_faddr fl25_1 rfl ?_)
    refine xr_op rfl rfl (xv_load1 ty23 rfl rfl Me_ (by rfl) ?_)
    refine xr_op rfl rfl (xv_move rfl ?_)
    have hlto : k < y.moves.length := by (first|omega|(dsimp only at *;omega)|(simp at *;omega))
    obtain ⟨bo, oo, lo, to, fzo, hao, hmo, hxo⟩ := (hy.moves).at hlto
    obtain ⟨xo, hko⟩ : ∃ qq_, y.moves[k]? = some qq_ := ⟨_, List.getElem?_eq_getElem hlto⟩
    have hmk := movesOk_at hmv hko
    have hh0 := lastH_0le (movesOk_mono k hmv) (Nat.le_refl k)
    have hh1 := hmk.1.1
    have hol := opn_le (y.moves.take k)
    rw [List.length_take] at hol
    refine xr_op rfl rfl (xv_ia (sz := 3) (j := k) sl23 ty63 rfl (by rw [hao]; rfl) rfl Ix_ Om_ Om_ ?_)
    refine xr_op rfl rfl (xv_loadA ty63 rfl rfl Me_ (hxo (k) xo hko) rfl ?_)
    refine xr_op rfl rfl (xv_alloc ty63 (fun b7 hb7 => ?_))
    refine xr_op rfl rfl (xv_s ty63 rfl rfl Up_ Ev_ (by rfl) (by rfl) (by rfl) Ev_ ?_)
    refine xr_end rfl ?_
    refine th_n ?_
    refine xc_seq ?_
    refine xc_seq (xc_region ?_)
    refine xr_op rfl rfl (xv_faddr fl63_1 rfl ?_)
    refine xr_op rfl rfl (xv_load1 ty3 rfl rfl Me_ (by rfl) ?_)
    refine xr_op rfl rfl (xv_eql2 rfl rfl (fun q2 => ?_) (fun q2 => ?_))
    · refine xr_end rfl ?_
      refine th_n ?_
      refine xc_true rfl ?_
      refine xc_exit ?_
      refine th_x ?_
      refine bk_same ?_
      refine th_n ?_
      refine xc_region ?_
      refine xr_op rfl rfl (xv_move rfl ?_)
      refine xr_op rfl rfl (xv_add rfl rfl (wrap_i64 Om_ Om_) ?_)
      refine xr_op rfl rfl (xv_assign rfl ?_)
      refine xr_end rfl ?_
      have hst : opn (y.moves.take (k + 1)) = ((opn (y.moves.take k)).1, -1) := by
        rw [opn_take hko]; unfold stepO
        first | (rw [if_pos Om_]; done) | (rw [if_neg Om_, if_pos Om_]; done) | (rw [if_neg Om_, if_neg Om_]; done)
      have hsi : ((opn (y.moves.take (k + 1))).1 : Int) - 1 = ((opn (y.moves.take k)).1 : Int) - 1 := by rw [hst]
      exact rnd (k + 1) Om_ Om_ (le_put (le_put (le_put (le_put (le_emp _) rfl) rfl) (by rw [hsi]; rfl)) rfl) Su_
    · refine xr_end rfl ?_
      refine th_n ?_
      refine xc_false rfl ?_
      refine xc_skip ?_
      refine th_n ?_
      refine xc_seq ?_
      refine xc_draw0 [(0, .S), (1, .O), (2, .S), (3, .S), (4, .R), (5, .S), (6, .S), (7, .S), (8, .S), (9, .R), (10, .O), (11, .S), (12, .S), (13, .S), (14, .R), (15, .S), (16, .S), (17, .S), (18, .S), (19, .R), (20, .S), (21, .R), (22, .O), (23, .S)] mixed (by kernel_rfl) ?_
      refine js_S rfl rfl (.inl rfl) (xv_move rfl ⟨rfl, rfl⟩) ?_
      refine js_O0 rfl rfl (.inl rfl) (xv_eql2 rfl rfl (fun hq => ?_) (fun hq => ?_))
      · refine js_S rfl rfl (.inl rfl) (xv_move rfl ⟨rfl, rfl⟩) ?_
        refine js_Ss rfl rfl ⟨_, _, _, rfl, rfl, rfl⟩ ?_
        refine js_Rs rfl rfl ⟨_, _, _, rfl, rfl, rfl⟩ ?_
        refine js_Ss rfl rfl ⟨_, _, _, rfl, rfl, rfl⟩ ?_
        refine js_Ss rfl rfl ⟨_, _, _, rfl, rfl, rfl⟩ ?_
        refine js_Ss rfl rfl ⟨_, _, _, rfl, rfl, rfl⟩ ?_
        refine js_Ss rfl rfl ⟨_, _, _, rfl, rfl, rfl⟩ ?_
        refine js_Rs rfl rfl ⟨_, _, _, rfl, rfl, rfl⟩ ?_
        refine js_Os rfl rfl ⟨_, _, _, rfl, rfl, rfl⟩ ?_
        have hop : (opn (y.moves.take k)).2 = -1 := by rw [show k = 0 by (first|omega|(dsimp only at *;omega)|(simp at *;omega))]; rfl
        refine js_S rfl rfl (.inl rfl) (xv_pick rfl rfl ⟨rfl, rfl⟩) ?_
        refine js_S rfl rfl (.inl rfl) (xv_move rfl ⟨rfl, rfl⟩) ?_
        refine js_Ss rfl rfl ⟨_, _, _, rfl, rfl, rfl⟩ ?_
        refine js_Rs rfl rfl ⟨_, _, _, rfl, rfl, rfl⟩ ?_
        refine js_Ss rfl rfl ⟨_, _, _, rfl, rfl, rfl⟩ ?_
        refine js_Ss rfl rfl ⟨_, _, _, rfl, rfl, rfl⟩ ?_
        refine js_Ss rfl rfl ⟨_, _, _, rfl, rfl, rfl⟩ ?_
        refine js_Ss rfl rfl ⟨_, _, _, rfl, rfl, rfl⟩ ?_
        refine js_Rs rfl rfl ⟨_, _, _, rfl, rfl, rfl⟩ ?_
        refine js_Ss rfl rfl ⟨_, _, _, rfl, rfl, rfl⟩ ?_
        refine js_Rs rfl rfl ⟨_, _, _, rfl, rfl, rfl⟩ ?_
        refine js_Os rfl rfl ⟨_, _, _, rfl, rfl, rfl⟩ ?_
        refine js_S rfl rfl (.inl rfl) (xv_pick rfl rfl ⟨rfl, rfl⟩) ?_
        refine j_end0 ?_
        refine th_n ?_
        refine xc_true rfl ?_
        refine xc_region ?_
        refine xr_op rfl rfl (xv_move rfl ?_)
        refine xr_op rfl rfl (xv_add rfl rfl (wrap_i64 Om_ Om_) ?_)
        refine xr_op rfl rfl (xv_assign rfl ?_)
        refine xr_end rfl ?_
        refine bk_n ?_
        refine th_n ?_
        refine xc_region ?_
        refine xr_op rfl rfl (xv_move rfl ?_)
        refine xr_op rfl rfl (xv_add rfl rfl (wrap_i64 Om_ Om_) ?_)
        refine xr_op rfl rfl (xv_assign rfl ?_)
        refine xr_end rfl ?_
        have hst : opn (y.moves.take (k + 1)) = ((opn (y.moves.take k)).1 + 1, xo.hour) := by
          rw [opn_take hko]; unfold stepO
          first | (rw [if_pos Om_]; done) | (rw [if_neg Om_, if_pos Om_]; done) | (rw [if_neg Om_, if_neg Om_]; done)
        have hsi : ((opn (y.moves.take (k + 1))).1 : Int) - 1 = ((opn (y.moves.take k)).1 : Int) - 1 + 1 := by rw [hst]; push_cast; omega
        exact rnd (k + 1) Om_ Om_ (le_put (le_put (le_put (le_put (le_emp _) rfl) rfl) (by rw [hsi]; rfl)) rfl) Su_
      · refine js_S rfl rfl (.inl rfl) (xv_move rfl ⟨rfl, rfl⟩) ?_
        have hltp : (k - 1) < y.moves.length := by (first|omega|(dsimp only at *;omega)|(simp at *;omega))
        obtain ⟨bp, op, lp, tp, fzp, hap, hmp, hxp⟩ := (hy.moves).at hltp
        obtain ⟨xp, hkp⟩ : ∃ qq_, y.moves[(k - 1)]? = some qq_ := ⟨_, List.getElem?_eq_getElem hltp⟩
        have hop := opn_open Om_ hkp
        refine js_S rfl rfl (.inr ⟨_, _, rfl, rfl⟩) (xv_faddr fl25_1 rfl ⟨rfl, rfl⟩) ?_
        refine js_R0 rfl rfl (.inr ⟨_, _, rfl, rfl⟩) (xv_load1 ty23 rfl rfl Me_ (by rfl) ⟨rfl, rfl⟩) ?_
        refine js_S rfl rfl (.inr ⟨_, _, rfl, rfl⟩) (xv_move rfl ⟨rfl, rfl⟩) ?_
        refine js_S rfl rfl (.inr ⟨_, _, rfl, rfl⟩) (xv_sub rfl rfl (wrap_i64 Om_ Om_) ⟨rfl, rfl⟩) ?_
        refine js_S rfl rfl (.inr ⟨_, _, rfl, rfl⟩) (xv_ia (sz := 3) (j := (k - 1)) sl23 ty63 rfl (by rw [hap]; rfl) rfl (by omega) Om_ Om_ ⟨rfl, rfl⟩) ?_
        refine js_S rfl rfl (.inr ⟨_, _, rfl, rfl⟩) (xv_faddr fl63_1 rfl ⟨rfl, rfl⟩) ?_
        refine js_R0 rfl rfl (.inr ⟨_, _, rfl, rfl⟩) (xv_load1 ty3 rfl rfl Me_ (take_get (hxp (k - 1) xp hkp) (j := 1) rfl) ⟨rfl, rfl⟩) ?_
        refine js_O0 rfl rfl (.inr ⟨_, _, rfl, rfl⟩) (xv_eql2 rfl rfl (fun hq => ?_) (fun hq => ?_))
        · refine js_S rfl rfl (.inl rfl) (xv_pick rfl rfl ⟨rfl, rfl⟩) ?_
          refine js_S rfl rfl (.inl rfl) (xv_move rfl ⟨rfl, rfl⟩) ?_
          refine js_Ss rfl rfl ⟨_, _, _, rfl, rfl, rfl⟩ ?_
          refine js_Rs rfl rfl ⟨_, _, _, rfl, rfl, rfl⟩ ?_
          refine js_Ss rfl rfl ⟨_, _, _, rfl, rfl, rfl⟩ ?_
          refine js_Ss rfl rfl ⟨_, _, _, rfl, rfl, rfl⟩ ?_
          refine js_Ss rfl rfl ⟨_, _, _, rfl, rfl, rfl⟩ ?_
          refine js_Ss rfl rfl ⟨_, _, _, rfl, rfl, rfl⟩ ?_
          refine js_Rs rfl rfl ⟨_, _, _, rfl, rfl, rfl⟩ ?_
          refine js_Ss rfl rfl ⟨_, _, _, rfl, rfl, rfl⟩ ?_
          refine js_Rs rfl rfl ⟨_, _, _, rfl, rfl, rfl⟩ ?_
          refine js_Os rfl rfl ⟨_, _, _, rfl, rfl, rfl⟩ ?_
          refine js_S rfl rfl (.inl rfl) (xv_pick rfl rfl ⟨rfl, rfl⟩) ?_
          refine j_end0 ?_
          refine th_n ?_
          refine xc_true rfl ?_
          refine xc_region ?_
          refine xr_op rfl rfl (xv_move rfl ?_)
          refine xr_op rfl rfl (xv_add rfl rfl (wrap_i64 Om_ Om_) ?_)
          refine xr_op rfl rfl (xv_assign rfl ?_)
          refine xr_end rfl ?_
          refine bk_n ?_
          refine th_n ?_
          refine xc_region ?_
          refine xr_op rfl rfl (xv_move rfl ?_)
          refine xr_op rfl rfl (xv_add rfl rfl (wrap_i64 Om_ Om_) ?_)
          refine xr_op rfl rfl (xv_assign rfl ?_)
          refine xr_end rfl ?_
          have hst : opn (y.moves.take (k + 1)) = ((opn (y.moves.take k)).1 + 1, xo.hour) := by
            rw [opn_take hko]; unfold stepO
            first | (rw [if_pos Om_]; done) | (rw [if_neg Om_, if_pos Om_]; done) | (rw [if_neg Om_, if_neg Om_]; done)
          have hsi : ((opn (y.moves.take (k + 1))).1 : Int) - 1 = ((opn (y.moves.take k)).1 : Int) - 1 + 1 := by rw [hst]; push_cast; omega
          exact rnd (k + 1) Om_ Om_ (le_put (le_put (le_put (le_put (le_emp _) rfl) rfl) (by rw [hsi]; rfl)) rfl) Su_
        · refine js_S rfl rfl (.inl rfl) (xv_pick rfl rfl ⟨rfl, rfl⟩) ?_
          refine js_S rfl rfl (.inl rfl) (xv_move rfl ⟨rfl, rfl⟩) ?_
          refine js_S rfl rfl (.inr ⟨_, _, rfl, rfl⟩) (xv_faddr fl25_1 rfl ⟨rfl, rfl⟩) ?_
          refine js_R0 rfl rfl (.inr ⟨_, _, rfl, rfl⟩) (xv_load1 ty23 rfl rfl Me_ (by rfl) ⟨rfl, rfl⟩) ?_
          refine js_S rfl rfl (.inr ⟨_, _, rfl, rfl⟩) (xv_move rfl ⟨rfl, rfl⟩) ?_
          refine js_S rfl rfl (.inr ⟨_, _, rfl, rfl⟩) (xv_sub rfl rfl (wrap_i64 Om_ Om_) ⟨rfl, rfl⟩) ?_
          refine js_S rfl rfl (.inr ⟨_, _, rfl, rfl⟩) (xv_ia (sz := 3) (j := (k - 1)) sl23 ty63 rfl (by rw [hap]; rfl) rfl (by omega) Om_ Om_ ⟨rfl, rfl⟩) ?_
          refine js_S rfl rfl (.inr ⟨_, _, rfl, rfl⟩) (xv_faddr fl63_0 rfl ⟨rfl, rfl⟩) ?_
          refine js_R0 rfl rfl (.inr ⟨_, _, rfl, rfl⟩) (xv_load1 ty3 rfl rfl Me_ (take_get (hxp (k - 1) xp hkp) (j := 0) rfl) ⟨rfl, rfl⟩) ?_
          refine js_S rfl rfl (.inr ⟨_, _, rfl, rfl⟩) (xv_faddr fl63_0 rfl ⟨rfl, rfl⟩) ?_
          refine js_R0 rfl rfl (.inr ⟨_, _, rfl, rfl⟩) (xv_load1 ty3 rfl rfl Me_ (by rfl) ⟨rfl, rfl⟩) ?_
          refine js_O0 rfl rfl (.inr ⟨_, _, rfl, rfl⟩) (xv_neq2 rfl rfl (fun hq => ?_) (fun hq => ?_))
          · refine js_S rfl rfl (.inl rfl) (xv_pick rfl rfl ⟨rfl, rfl⟩) ?_
            refine j_end0 ?_
            refine th_n ?_
            refine xc_true rfl ?_
            refine xc_region ?_
            refine xr_op rfl rfl (xv_move rfl ?_)
            refine xr_op rfl rfl (xv_add rfl rfl (wrap_i64 Om_ Om_) ?_)
            refine xr_op rfl rfl (xv_assign rfl ?_)
            refine xr_end rfl ?_
            refine bk_n ?_
            refine th_n ?_
            refine xc_region ?_
            refine xr_op rfl rfl (xv_move rfl ?_)
            refine xr_op rfl rfl (xv_add rfl rfl (wrap_i64 Om_ Om_) ?_)
            refine xr_op rfl rfl (xv_assign rfl ?_)
            refine xr_end rfl ?_
            have hst : opn (y.moves.take (k + 1)) = ((opn (y.moves.take k)).1 + 1, xo.hour) := by
              rw [opn_take hko]; unfold stepO
              first | (rw [if_pos Om_]; done) | (rw [if_neg Om_, if_pos Om_]; done) | (rw [if_neg Om_, if_neg Om_]; done)
            have hsi : ((opn (y.moves.take (k + 1))).1 : Int) - 1 = ((opn (y.moves.take k)).1 : Int) - 1 + 1 := by rw [hst]; push_cast; omega
            exact rnd (k + 1) Om_ Om_ (le_put (le_put (le_put (le_put (le_emp _) rfl) rfl) (by rw [hsi]; rfl)) rfl) Su_
          · refine js_S rfl rfl (.inl rfl) (xv_pick rfl rfl ⟨rfl, rfl⟩) ?_
            refine j_end0 ?_
            refine th_n ?_
            refine xc_false rfl ?_
            refine xc_skip ?_
            refine bk_n ?_
            refine th_n ?_
            refine xc_region ?_
            refine xr_op rfl rfl (xv_move rfl ?_)
            refine xr_op rfl rfl (xv_add rfl rfl (wrap_i64 Om_ Om_) ?_)
            refine xr_op rfl rfl (xv_assign rfl ?_)
            refine xr_end rfl ?_
            have hst : opn (y.moves.take (k + 1)) = opn (y.moves.take k) := by
              rw [opn_take hko]; unfold stepO
              first | (rw [if_pos Om_]; done) | (rw [if_neg Om_, if_pos Om_]; done) | (rw [if_neg Om_, if_neg Om_]; done)
            have hsi : ((opn (y.moves.take (k + 1))).1 : Int) - 1 = ((opn (y.moves.take k)).1 : Int) - 1 := by rw [hst]
            exact rnd (k + 1) Om_ Om_ (le_put (le_put (le_put (le_put (le_emp _) rfl) rfl) (by rw [hsi]; rfl)) rfl) Su_
  · refine xr_end rfl ?_
    refine th_n ?_
    refine xc_false rfl ?_
    refine xc_exit ?_
    refine th_x ?_
    refine th_x ?_
    refine bk_same ?_
    refine th_n ?_
    refine xc_seq (xc_region ?_)
    obtain rfl : k = i + 1 := by (first|omega|(dsimp only at *;omega)|(simp at *;omega))
    refine xr_op rfl rfl (xv_move rfl ?_)
    refine xr_op rfl rfl (xv_assign rfl ?_)
    refine xr_end rfl ?_
    refine th_n ?_
    refine xc_ret ?_
    refine body_ret (h' := h) rfl (ro_tmp rfl ro_nil) Su_ ?_
    exact H

end Go.Proofs.Ytmaldhbjhomdkaa.Coal

/-
  Walks.
-/
namespace Go.Proofs.Ytmaldhbjhomdkaa.Coal
open Go Go.H
set_option maxRecDepth 100000
set_option maxHeartbeats 8000000
set_option linter.all false
theorem Layers_c {y : Yard} {n : Nat} {h : Hp} {R : Ending → Hp → Prop} (hy : YardV h y) (hmv : movesOk n 0 y.moves) (hl : y.moves.length ≤ 1000) (H : R (.returned (I ((opn y.moves).1 : Int))) h) : ACalls Try.prog 16 ⟨[.agg ⟨eYard y⟩]⟩ h R := by
  refine calls_of_xc (N := 14) Try.func16 rfl (by rfl) ?_
  refine xc_seq (xc_region ?_)
  refine xr_op rfl rfl (xv_box rfl (fun b1 hb1 => ?_))
  refine xr_op rfl rfl (xv_assign rfl ?_)
  refine xr_end rfl ?_
  refine th_n ?_
  refine xc_seq ?_
  refine xc_seq (xc_region ?_)
  refine xr_op rfl rfl (xv_faddr fl25_1 rfl ?_)
  refine xr_op rfl rfl (xv_load1 ty23 rfl rfl Me_ (by rfl) ?_)
  refine xr_op rfl rfl (xv_len sl23 rfl ?_)
  refine xr_op rfl rfl (xv_eql2 rfl rfl (fun q1 => ?_) (fun q1 => ?_))
  · refine xr_end rfl ?_
    refine th_n ?_
    refine xc_true rfl ?_
    refine xc_seq (xc_region ?_)
    have e0 : ((opn y.moves).1 : Int) = 0 := by rw [List.length_eq_zero_iff.1 (show y.moves.length = 0 by (first|omega|(dsimp only at *;omega)|(simp at *;omega)))]; rfl
    refine xr_op rfl rfl (xv_assign rfl ?_)
    refine xr_end rfl ?_
    refine th_n ?_
    refine xc_ret ?_
    refine th_r ?_
    refine body_ret (h' := h) rfl (ro_tmp rfl ro_nil) Su_ ?_
    first | exact H | (rw [e0] at H; exact H)
  · refine xr_end rfl ?_
    refine th_n ?_
    refine xc_false rfl ?_
    refine xc_skip ?_
    refine th_n ?_
    refine xc_seq (xc_region ?_)
    have hob := opn_le y.moves
    refine xr_op rfl rfl (xv_loadA ty25 rfl rfl Me_ Ev_ (by rfl) ?_)
    refine xr_op rfl rfl (xv_faddr fl25_1 rfl ?_)
    refine xr_op rfl rfl (xv_load1 ty23 rfl rfl Me_ (by rfl) ?_)
    refine xr_op rfl rfl (xv_len sl23 rfl ?_)
    refine xr_op rfl rfl (xv_sub rfl rfl (wrap_i64 Om_ Om_) ?_)
    refine xr_op rfl rfl (xv_calls rfl hb50 (layer_c (i := y.moves.length - 1) (hy.sub (by intro z hz; ((repeat first|exact z_0|assumption|refine z_1 ?_|(refine z_l ?_;(repeat first|exact z_0|assumption|refine z_1 ?_);done)|refine z_r ?_);done))) hmv Om_ Om_ hl (up_ret ?_)))
    rw [show y.moves.length - 1 + 1 = y.moves.length by (first|omega|(dsimp only at *;omega)|(simp at *;omega)), List.take_length]
    refine xr_op rfl rfl (xv_add rfl rfl (wrap_i64 Om_ Om_) ?_)
    rw [show (1 : Int) + (((opn y.moves).1 : Int) - 1) = (opn y.moves).1 by omega]
    refine xr_op rfl rfl (xv_assign rfl ?_)
    refine xr_end rfl ?_
    refine th_n ?_
    refine xc_ret ?_
    refine body_ret (h' := h) rfl (ro_tmp rfl ro_nil) Su_ ?_
    first | exact H | (rw [e0] at H; exact H)

theorem rsum_c {a : Option Addr} {c : Nat} {xs : List Int} {h : Hp} {R : Ending → Hp → Prop} (hs : SlV h 1 eI a xs) (hlen : xs.length ≤ 1000) (hb : ∀ x ∈ xs, 0 ≤ x ∧ x ≤ 2000000000) (H : R (.returned (I (sumI xs))) h) : ACalls Try.prog 17 ⟨[.slice a xs.length c]⟩ h R := by
  refine calls_of_xc (N := 18) Try.func17 rfl (by rfl) ?_
  refine xc_seq (xc_region ?_)
  refine xr_op rfl rfl (xv_assign rfl ?_)
  refine xr_end rfl ?_
  refine th_n ?_
  refine xc_seq (xc_region ?_)
  refine xr_op rfl rfl (xv_assign rfl ?_)
  refine xr_end rfl ?_
  refine th_n ?_
  refine xc_seq ?_
  refine xc_seq (xc_region ?_)
  refine xr_op rfl rfl (xv_assign rfl ?_)
  refine xr_end rfl ?_
  refine th_n ?_
  refine xc_block ?_
  refine xc_loop (σ := Nat) (fun k => k ≤ xs.length) (fun k => (((emp.put (some 0) (.slice a xs.length c)).put (some 3) (I (sumI (xs.take k)))).put (some 4) (I k))) (fun k => h) (fun k => xs.length - k) 0 (Nat.zero_le _) (le_put (le_put (le_put (le_emp _) rfl) rfl) rfl) Su_ ?_
  rintro k hk
  refine xc_seq ?_
  refine xc_seq (xc_region ?_)
  refine xr_op rfl rfl (xv_move rfl ?_)
  refine xr_op rfl rfl (xv_move rfl ?_)
  refine xr_op rfl rfl (xv_len sl38 rfl ?_)
  refine xr_op rfl rfl (xv_lss2 rfl rfl (fun q1 => ?_) (fun q1 => ?_))
  · refine xr_end rfl ?_
    refine th_n ?_
    refine xc_true rfl ?_
    refine xc_skip ?_
    refine th_n ?_
    refine xc_seq ?_
    refine xc_block ?_
    refine xc_region ?_
    refine xr_op rfl rfl (xv_move rfl ?_)
    refine xr_op rfl rfl (xv_move rfl ?_)
    refine xr_op rfl rfl (xv_move rfl ?_)
    have hlto : k < xs.length := by (first|omega|(dsimp only at *;omega)|(simp at *;omega))
    obtain ⟨bo, oo, lo, to, fzo, hao, hmo, hxo⟩ := (hs).at hlto
    obtain ⟨xo, hko⟩ : ∃ qq_, xs[k]? = some qq_ := ⟨_, List.getElem?_eq_getElem hlto⟩
    have hxb := hb xo (List.mem_of_getElem? hko)
    have hsb := sumI_bd (l := xs.take k) (fun x hx => hb x (List.mem_of_mem_take hx))
    rw [List.length_take, Nat.min_eq_left hk] at hsb
    refine xr_op rfl rfl (xv_ia (sz := 1) (j := k) sl38 ty3 rfl (by rw [hao]; rfl) rfl Ix_ Om_ Om_ ?_)
    refine xr_op rfl rfl (xv_load1 ty3 rfl rfl Me_ (take_get (hxo (k) xo hko) (j := 0) rfl) ?_)
    refine xr_op rfl rfl (xv_add rfl rfl (wrap_i64 Om_ Om_) ?_)
    refine xr_op rfl rfl (xv_assign rfl ?_)
    refine xr_end rfl ?_
    refine bk_n ?_
    refine th_n ?_
    refine xc_region ?_
    refine xr_op rfl rfl (xv_move rfl ?_)
    refine xr_op rfl rfl (xv_add rfl rfl (wrap_i64 Om_ Om_) ?_)
    refine xr_op rfl rfl (xv_assign rfl ?_)
    refine xr_end rfl ?_
    exact rnd (k + 1) Om_ Om_ (le_put (le_put (le_put (le_emp _) rfl) (by rw [sumI_take hko]; rfl)) rfl) Su_
  · refine xr_end rfl ?_
    refine th_n ?_
    refine xc_false rfl ?_
    refine xc_exit ?_
    refine th_x ?_
    refine th_x ?_
    refine bk_same ?_
    refine th_n ?_
    refine xc_seq (xc_region ?_)
    obtain rfl : k = xs.length := by (first|omega|(dsimp only at *;omega)|(simp at *;omega))
    rw [List.take_length]
    refine xr_op rfl rfl (xv_move rfl ?_)
    refine xr_op rfl rfl (xv_assign rfl ?_)
    refine xr_end rfl ?_
    refine th_n ?_
    refine xc_ret ?_
    refine body_ret (h' := h) rfl (ro_tmp rfl ro_nil) Su_ ?_
    exact H

theorem Contents_c {y : Yard} {h : Hp} {R : Ending → Hp → Prop} (hy : YardV h y) {j : Int} {upto : Nat} (hmv : movesOk y.coals.length 0 y.moves) (hcl : y.coals.length ≤ 1000) (hl : y.moves.length ≤ 1000) (hu : upto ≤ y.moves.length)
    (H : ∀ b, R (.returned (.slice (some ⟨b, 0, none⟩) y.coals.length y.coals.length)) ((b, .cells ⟨(contF y.coals.length (y.moves.take upto) j).flatMap eI⟩ 3) :: h)) : ACalls Try.prog 18 ⟨[.agg ⟨eYard y⟩, I j, I (upto : Int)]⟩ h R := by
  refine calls_of_xc (N := 47) Try.func18 rfl (by rfl) ?_
  refine xc_seq (xc_region ?_)
  refine xr_op rfl rfl (xv_box rfl (fun b3 hb3 => ?_))
  refine xr_op rfl rfl (xv_assign rfl ?_)
  refine xr_end rfl ?_
  refine th_n ?_
  refine xc_seq (xc_region ?_)
  refine xr_op rfl rfl (xv_faddr fl25_0 rfl ?_)
  refine xr_op rfl rfl (xv_load1 ty22 rfl rfl Me_ (by rfl) ?_)
  refine xr_op rfl rfl (xv_len sl22 rfl ?_)
  refine xr_op rfl rfl (xv_make (l := (contF y.coals.length (y.moves.take 0) j).flatMap eI) sl38 ty3 rfl rfl Om_ (by simp only []; (first|omega|(dsimp only at *;omega)|(simp at *;omega))) (by simp only []; (first|omega|(dsimp only at *;omega)|(simp at *;omega))) (make_ints _) (fun b13 hb13 => ?_))
  refine xr_op rfl rfl (xv_assign rfl ?_)
  refine xr_end rfl ?_
  refine th_n ?_
  refine xc_seq ?_
  refine xc_seq (xc_region ?_)
  refine xr_op rfl rfl (xv_assign rfl ?_)
  refine xr_end rfl ?_
  refine th_n ?_
  refine xc_block ?_
  refine xc_loop (σ := Nat) (fun k => k ≤ upto) (fun k => (((((emp.put (some 1) (I j)).put (some 2) (I (upto : Int))).put (some 3) (.pointer (some ⟨b3, 0, none⟩))).put (some 7) (.slice (some ⟨b13, 0, none⟩) y.coals.length y.coals.length)).put (some 8) (I k))) (fun k => ((b13, .cells ⟨(contF y.coals.length (y.moves.take k) j).flatMap eI⟩ 3) :: (b3, .cells ⟨eYard y⟩ 25) :: h)) (fun k => upto - k) 0 (Nat.zero_le _) (le_put (le_put (le_put (le_put (le_put (le_emp _) rfl) rfl) rfl) rfl) rfl) Su_ ?_
  rintro k hk
  refine xc_seq ?_
  refine xc_seq (xc_region ?_)
  refine xr_op rfl rfl (xv_move rfl ?_)
  refine xr_op rfl rfl (xv_move rfl ?_)
  refine xr_op rfl rfl (xv_lss2 rfl rfl (fun q1 => ?_) (fun q1 => ?_))
  · refine xr_end rfl ?_
    refine th_n ?_
    refine xc_true rfl ?_
    refine xc_skip ?_
    refine th_n ?_
    refine xc_seq ?_
    refine xc_block ?_
    refine xc_seq (xc_region ?_)
    refine xr_op rfl rfl (xv_faddr fl25_1 rfl ?_)
    refine xr_op rfl rfl (xv_load1 ty23 rfl rfl Me_ (by rfl) ?_)
    refine xr_op rfl rfl (xv_move rfl ?_)
    have hlto : k < y.moves.length := by (first|omega|(dsimp only at *;omega)|(simp at *;omega))
    obtain ⟨bo, oo, lo, to, fzo, hao, hmo, hxo⟩ := (hy.moves).at hlto
    obtain ⟨xo, hko⟩ : ∃ qq_, y.moves[k]? = some qq_ := ⟨_, List.getElem?_eq_getElem hlto⟩
    obtain ⟨⟨m1, m2⟩, ⟨m3, m4⟩, m5, m6⟩ := movesOk_at hmv hko
    have hcl2 := contF_len y.coals.length (y.moves.take k) j
    have hcb := contF_bd (j := j) (movesOk_mono k hmv)
    refine xr_op rfl rfl (xv_ia (sz := 3) (j := k) sl23 ty63 rfl (by rw [hao]; rfl) rfl Ix_ Om_ Om_ ?_)
    refine xr_op rfl rfl (xv_loadA ty63 rfl rfl Me_ (hxo (k) xo hko) rfl ?_)
    refine xr_op rfl rfl (xv_alloc ty63 (fun b9 hb9 => ?_))
    refine xr_op rfl rfl (xv_s ty63 rfl rfl Up_ Ev_ (by rfl) (by rfl) (by rfl) Ev_ ?_)
    refine xr_end rfl ?_
    refine th_n ?_
    refine xc_seq (xc_region ?_)
    refine xr_op rfl rfl (xv_faddr fl63_1 rfl ?_)
    refine xr_op rfl rfl (xv_load1 ty3 rfl rfl Me_ (by rfl) ?_)
    refine xr_op rfl rfl (xv_neq2 rfl rfl (fun q2 => ?_) (fun q2 => ?_))
    · refine xr_op rfl rfl (xv_move rfl ?_)
      refine xr_gd rfl rfl rfl (xv_loadA ty25 rfl rfl Me_ Ev_ (by rfl) ?_)
      refine xr_gd rfl rfl rfl (xv_move rfl ?_)
      refine xr_gd rfl rfl rfl (xv_calls rfl hb50 (layer_c (i := k) (hy.sub (by intro z hz; ((repeat first|exact z_0|assumption|refine z_1 ?_|(refine z_l ?_;(repeat first|exact z_0|assumption|refine z_1 ?_);done)|refine z_r ?_);done))) hmv rfl Om_ hl (up_ret ?_)))
      refine xr_gd rfl rfl rfl (xv_move rfl ?_)
      refine xr_gd rfl rfl rfl (xv_eql2 rfl rfl (fun q3 => ?_) (fun q3 => ?_))
      · refine xr_op rfl rfl (xv_pick rfl rfl ?_)
        refine xr_end rfl ?_
        refine th_n ?_
        refine xc_true rfl ?_
        refine xc_draw0 [(0, .S), (1, .S), (2, .R), (3, .S), (4, .S), (5, .R), (6, .S), (7, .R), (8, .S), (9, .R), (10, .S), (11, .S), (12, .O)] mixed (by kernel_rfl) ?_
        obtain ⟨v, hkv⟩ : ∃ v, (contF y.coals.length (y.moves.take k) j)[xo.coal.toNat]? = some v := ⟨_, List.getElem?_eq_getElem Om_⟩
        have hgd : (contF y.coals.length (y.moves.take k) j).getD xo.coal.toNat 0 = v := by rw [List.getD_eq_getElem?_getD, hkv]; rfl
        have hvb := hcb v (List.mem_of_getElem? hkv)
        rw [List.length_take] at hvb
        refine js_S rfl rfl (.inl rfl) (xv_move rfl ⟨rfl, rfl⟩) ?_
        refine js_S rfl rfl (.inl rfl) (xv_faddr fl63_1 rfl ⟨rfl, rfl⟩) ?_
        refine js_R0 rfl rfl (.inl rfl) (xv_load1 ty3 rfl rfl Me_ (by rfl) ⟨rfl, rfl⟩) ?_
        refine js_S rfl rfl (.inl rfl) (xv_move rfl ⟨rfl, rfl⟩) ?_
        refine js_S rfl rfl (.inl rfl) (xv_faddr fl63_1 rfl ⟨rfl, rfl⟩) ?_
        refine js_R0 rfl rfl (.inl rfl) (xv_load1 ty3 rfl rfl Me_ (by rfl) ⟨rfl, rfl⟩) ?_
        refine js_S rfl rfl (.inl rfl) (xv_ia (sz := 1) (j := xo.coal.toNat) sl38 ty3 rfl rfl rfl (by omega) Om_ Om_ ⟨rfl, rfl⟩) ?_
        refine js_R0 rfl rfl (.inl rfl) (xv_load1 ty3 rfl rfl Me_ (ints_get hkv) ⟨rfl, rfl⟩) ?_
        refine js_S rfl rfl (.inl rfl) (xv_faddr fl63_2 rfl ⟨rfl, rfl⟩) ?_
        refine js_R0 rfl rfl (.inl rfl) (xv_load1 ty3 rfl rfl Me_ (by rfl) ⟨rfl, rfl⟩) ?_
        refine js_S rfl rfl (.inl rfl) (xv_add rfl rfl (wrap_i64 Om_ Om_) ⟨rfl, rfl⟩) ?_
        refine js_S rfl rfl (.inl rfl) (xv_ia (sz := 1) (j := xo.coal.toNat) sl38 ty3 rfl rfl rfl (by omega) Om_ Om_ ⟨rfl, rfl⟩) ?_
        refine js_O0 rfl rfl (.inl rfl) (xv_s1 (l := (contF y.coals.length (y.moves.take k) j).flatMap eI) (l' := ((contF y.coals.length (y.moves.take k) j).set xo.coal.toNat ((contF y.coals.length (y.moves.take k) j).getD xo.coal.toNat 0 + xo.tons)).flatMap eI) ty3 rfl rfl rfl Up_ rfl (by rw [ints_len]; (first|omega|(dsimp only at *;omega)|(simp at *;omega))) (by rw [hgd]; exact ints_setN Om_) ?_)
        refine j_end0 ?_
        refine bk_n ?_
        refine th_n ?_
        refine xc_region ?_
        refine xr_op rfl rfl (xv_move rfl ?_)
        refine xr_op rfl rfl (xv_add rfl rfl (wrap_i64 Om_ Om_) ?_)
        refine xr_op rfl rfl (xv_assign rfl ?_)
        refine xr_end rfl ?_
        have hcn : (contF y.coals.length (y.moves.take (k + 1)) j) = (contF y.coals.length (y.moves.take k) j).set xo.coal.toNat ((contF y.coals.length (y.moves.take k) j).getD xo.coal.toNat 0 + xo.tons) := by rw [contF_take hko]; first | exact if_pos ⟨by (first|omega|(dsimp only at *;omega)|(simp at *;omega)), by (first|omega|(dsimp only at *;omega)|(simp at *;omega))⟩ | exact if_neg (fun hq9 => by omega)
        exact rnd (k + 1) Om_ Om_ (le_put (le_put (le_put (le_put (le_put (le_emp _) rfl) rfl) rfl) rfl) rfl) (by rw [hcn]; (first|((repeat first|exact s_0|exact s_1|exact s_3|refine s_4 ?_|refine s_5 ?_|refine s_6 ?_|refine s_7 ?_);done)|((repeat first|exact s_0|exact s_1|exact s_3|refine s_4 ?_|refine s_5 ?_|refine s_6 ?_|refine s_8 ?_);done)))
      · refine xr_op rfl rfl (xv_pick rfl rfl ?_)
        refine xr_end rfl ?_
        refine th_n ?_
        refine xc_false rfl ?_
        refine xc_skip ?_
        refine bk_n ?_
        refine th_n ?_
        refine xc_region ?_
        refine xr_op rfl rfl (xv_move rfl ?_)
        refine xr_op rfl rfl (xv_add rfl rfl (wrap_i64 Om_ Om_) ?_)
        refine xr_op rfl rfl (xv_assign rfl ?_)
        refine xr_end rfl ?_
        have hcn : (contF y.coals.length (y.moves.take (k + 1)) j) = (contF y.coals.length (y.moves.take k) j) := by rw [contF_take hko]; first | exact if_pos ⟨by (first|omega|(dsimp only at *;omega)|(simp at *;omega)), by (first|omega|(dsimp only at *;omega)|(simp at *;omega))⟩ | exact if_neg (fun hq9 => by omega)
        exact rnd (k + 1) Om_ Om_ (le_put (le_put (le_put (le_put (le_put (le_emp _) rfl) rfl) rfl) rfl) rfl) (by rw [hcn]; (first|((repeat first|exact s_0|exact s_1|exact s_3|refine s_4 ?_|refine s_5 ?_|refine s_6 ?_|refine s_7 ?_);done)|((repeat first|exact s_0|exact s_1|exact s_3|refine s_4 ?_|refine s_5 ?_|refine s_6 ?_|refine s_8 ?_);done)))
    · refine xr_op rfl rfl (xv_move rfl ?_)
      refine xr_no rfl rfl rfl rfl ?_
      refine xr_no rfl rfl rfl rfl ?_
      refine xr_no rfl rfl rfl rfl ?_
      refine xr_no rfl rfl rfl rfl ?_
      refine xr_no rfl rfl rfl rfl ?_
      refine xr_op rfl rfl (xv_pick rfl rfl ?_)
      refine xr_end rfl ?_
      refine th_n ?_
      refine xc_false rfl ?_
      refine xc_skip ?_
      refine bk_n ?_
      refine th_n ?_
      refine xc_region ?_
      refine xr_op rfl rfl (xv_move rfl ?_)
      refine xr_op rfl rfl (xv_add rfl rfl (wrap_i64 Om_ Om_) ?_)
      refine xr_op rfl rfl (xv_assign rfl ?_)
      refine xr_end rfl ?_
      have hcn : (contF y.coals.length (y.moves.take (k + 1)) j) = (contF y.coals.length (y.moves.take k) j) := by rw [contF_take hko]; first | exact if_pos ⟨by (first|omega|(dsimp only at *;omega)|(simp at *;omega)), by (first|omega|(dsimp only at *;omega)|(simp at *;omega))⟩ | exact if_neg (fun hq9 => by omega)
      exact rnd (k + 1) Om_ Om_ (le_put (le_put (le_put (le_put (le_put (le_emp _) rfl) rfl) rfl) rfl) rfl) (by rw [hcn]; (first|((repeat first|exact s_0|exact s_1|exact s_3|refine s_4 ?_|refine s_5 ?_|refine s_6 ?_|refine s_7 ?_);done)|((repeat first|exact s_0|exact s_1|exact s_3|refine s_4 ?_|refine s_5 ?_|refine s_6 ?_|refine s_8 ?_);done)))
  · refine xr_end rfl ?_
    refine th_n ?_
    refine xc_false rfl ?_
    refine xc_exit ?_
    refine th_x ?_
    refine th_x ?_
    refine bk_same ?_
    refine th_n ?_
    refine xc_seq (xc_region ?_)
    obtain rfl : upto = k := by (first|omega|(dsimp only at *;omega)|(simp at *;omega))
    refine xr_op rfl rfl (xv_move rfl ?_)
    refine xr_op rfl rfl (xv_assign rfl ?_)
    refine xr_end rfl ?_
    refine th_n ?_
    refine xc_ret ?_
    refine body_ret (h' := ((b13, .cells ⟨(contF y.coals.length (y.moves.take upto) j).flatMap eI⟩ 3) :: h)) rfl (ro_tmp rfl ro_nil) Su_ ?_
    exact H b13

end Go.Proofs.Ytmaldhbjhomdkaa.Coal

/-
  Walks.
-/
namespace Go.Proofs.Ytmaldhbjhomdkaa.Coal
open Go Go.H
set_option maxRecDepth 100000
set_option maxHeartbeats 8000000
set_option linter.all false
theorem rsumN_c {a : Option Addr} {c n : Nat} {xs : List Int} {h : Hp} {R : Ending → Hp → Prop} (hn : n = xs.length) (hs : SlV h 1 eI a xs) (hlen : xs.length ≤ 1000) (hb : ∀ x ∈ xs, 0 ≤ x ∧ x ≤ 2000000000) (H : R (.returned (I (sumI xs))) h) : ACalls Try.prog 17 ⟨[.slice a n c]⟩ h R := by
  subst hn; exact rsum_c hs hlen hb H

theorem Parts_c {y : Yard} {h : Hp} {R : Ending → Hp → Prop} (hy : YardV h y) {L : Nat} (hL : L = (opn y.moves).1) (hmv : movesOk y.coals.length 0 y.moves) (hcl : y.coals.length ≤ 1000) (hl : y.moves.length ≤ 1000)
    (H1 : partsR y.coals.length y.moves L y.moves.length = none → R (.returned (.tuple ⟨[.slice none 0 0, .bool false]⟩)) h)
    (H2 : ∀ (hds : List Hd) (V : Vec) (P : Hp), PInv y.coals.length y.moves L y.moves.length (hds.map Hd.m) → Vec.ok V 1 hds.length (hds.flatMap eHd) → (∀ z ∈ hds, SlV P 1 eI z.a z.m) → R (.returned (.tuple ⟨[V.val hds.length, .bool true]⟩)) (V.hp 26 (hds.flatMap eHd) ++ (P ++ h))) :
    ACalls Try.prog 7 ⟨[.agg ⟨eYard y⟩]⟩ h R := by
  refine calls_of_xc (N := 80) Try.func7 rfl (by rfl) ?_
  have hob := opn_le y.moves
  refine xc_seq (xc_region ?_)
  refine xr_op rfl rfl (xv_box rfl (fun b1 hb1 => ?_))
  refine xr_op rfl rfl (xv_assign rfl ?_)
  refine xr_op rfl rfl (xv_assign rfl ?_)
  refine xr_end rfl ?_
  refine th_n ?_
  refine xc_seq (xc_region ?_)
  refine xr_op rfl rfl (xv_assign rfl ?_)
  refine xr_end rfl ?_
  refine th_n ?_
  refine xc_seq (xc_region ?_)
  refine xr_op rfl rfl (xv_loadA ty25 rfl rfl Me_ Ev_ (by rfl) ?_)
  refine xr_op rfl rfl (xv_calls rfl hb38 (Layers_c (hy.sub (by intro z hz; ((repeat first|exact z_0|assumption|refine z_1 ?_|(refine z_l ?_;(repeat first|exact z_0|assumption|refine z_1 ?_);done)|refine z_r ?_);done))) hmv hl (up_ret ?_)))
  refine xr_op rfl rfl (xv_assign rfl ?_)
  refine xr_end rfl ?_
  refine th_n ?_
  refine xc_seq ?_
  refine xc_seq (xc_region ?_)
  refine xr_op rfl rfl (xv_assign rfl ?_)
  refine xr_end rfl ?_
  refine th_n ?_
  refine xc_block ?_
  refine xc_loop (σ := Nat × List Hd × Vec × Hp) (fun z => z.1 ≤ y.moves.length ∧ PInv y.coals.length y.moves L z.1 (z.2.1.map Hd.m) ∧ z.2.2.1.ok 1 z.2.1.length (z.2.1.flatMap eHd) ∧ ∀ w ∈ z.2.1, SlV z.2.2.2 1 eI w.a w.m) (fun z => ((((emp.put (some 1) (.pointer (some ⟨b1, 0, none⟩))).put (some 4) (z.2.2.1.val z.2.1.length)).put (some 5) (I (L : Int))).put (some 6) (I z.1))) (fun z => (z.2.2.1.hp 26 (z.2.1.flatMap eHd) ++ (z.2.2.2 ++ ((b1, .cells ⟨eYard y⟩ 25) :: h)))) (fun z => y.moves.length - z.1) ((0, [], .nil, []) : Nat × List Hd × Vec × Hp) ⟨Nat.zero_le _, pinv_0, ⟨rfl, rfl⟩, fun w hw => (List.not_mem_nil hw).elim⟩ (le_put (le_put (le_put (le_put (le_emp _) rfl) rfl) (by rw [hL]; rfl)) rfl) Su_ ?_
  rintro ⟨k, hds, V, P⟩ ⟨hk, hP, hV, hS⟩
  dsimp only at hk hP hV hS
  obtain ⟨qa, qc, hqv, hqs⟩ := Vec.slv (enc := eHd) (t := 26) (h := V.hp 26 (hds.flatMap eHd)) eHd_len hV (fun _ hz => hz)
  rw [hqv]
  refine xc_seq ?_
  refine xc_seq (xc_region ?_)
  refine xr_op rfl rfl (xv_move rfl ?_)
  refine xr_op rfl rfl (xv_faddr fl25_1 rfl ?_)
  refine xr_op rfl rfl (xv_load1 ty23 rfl rfl Me_ (by rfl) ?_)
  refine xr_op rfl rfl (xv_len sl23 rfl ?_)
  refine xr_op rfl rfl (xv_lss2 rfl rfl (fun q1 => ?_) (fun q1 => ?_))
  · refine xr_end rfl ?_
    refine th_n ?_
    refine xc_true rfl ?_
    refine xc_skip ?_
    refine th_n ?_
    refine xc_seq ?_
    refine xc_block ?_
    refine xc_seq ?_
    refine xc_seq (xc_region ?_)
    refine xr_op rfl rfl (xv_faddr fl25_1 rfl ?_)
    refine xr_op rfl rfl (xv_load1 ty23 rfl rfl Me_ (by rfl) ?_)
    refine xr_op rfl rfl (xv_move rfl ?_)
    have hlto : k < y.moves.length := by (first|omega|(dsimp only at *;omega)|(simp at *;omega))
    obtain ⟨bo, oo, lo, to, fzo, hao, hmo, hxo⟩ := (hy.moves).at hlto
    obtain ⟨xo, hko⟩ : ∃ qq_, y.moves[k]? = some qq_ := ⟨_, List.getElem?_eq_getElem hlto⟩
    obtain ⟨_, ⟨mc1, mc2⟩, mt1, mt2⟩ := movesOk_at hmv hko
    refine xr_op rfl rfl (xv_ia (sz := 3) (j := k) sl23 ty63 rfl (by rw [hao]; rfl) rfl Ix_ Om_ Om_ ?_)
    refine xr_op rfl rfl (xv_faddr fl63_1 rfl ?_)
    refine xr_op rfl rfl (xv_load1 ty3 rfl rfl Me_ (take_get (hxo (k) xo hko) (j := 1) rfl) ?_)
    refine xr_op rfl rfl (xv_neq2 rfl rfl (fun q2 => ?_) (fun q2 => ?_))
    · refine xr_end rfl ?_
      refine th_n ?_
      refine xc_true rfl ?_
      refine xc_exit ?_
      refine th_x ?_
      refine bk_same ?_
      refine th_n ?_
      refine xc_region ?_
      refine xr_op rfl rfl (xv_move rfl ?_)
      refine xr_op rfl rfl (xv_add rfl rfl (wrap_i64 Om_ Om_) ?_)
      refine xr_op rfl rfl (xv_assign rfl ?_)
      refine xr_end rfl ?_
      exact rnd ((k + 1, hds, V, P) : Nat × List Hd × Vec × Hp) ⟨by (first|omega|(dsimp only at *;omega)|(simp at *;omega)), hP.skip hmv hko Om_, hV, hS⟩ Om_ (le_put (le_put (le_put (le_put (le_emp _) rfl) (by dsimp only; rw [hqv]; rfl)) rfl) rfl) Su_
    · refine xr_end rfl ?_
      refine th_n ?_
      refine xc_false rfl ?_
      refine xc_skip ?_
      refine th_n ?_
      refine xc_seq (xc_region ?_)
      refine xr_op rfl rfl (xv_faddr fl25_1 rfl ?_)
      refine xr_op rfl rfl (xv_load1 ty23 rfl rfl Me_ (by rfl) ?_)
      refine xr_op rfl rfl (xv_move rfl ?_)
      refine xr_op rfl rfl (xv_ia (sz := 3) (j := k) sl23 ty63 rfl (by rw [hao]; rfl) rfl Ix_ Om_ Om_ ?_)
      refine xr_op rfl rfl (xv_faddr fl63_2 rfl ?_)
      refine xr_op rfl rfl (xv_load1 ty3 rfl rfl Me_ (take_get (hxo (k) xo hko) (j := 2) rfl) ?_)
      refine xr_op rfl rfl (xv_assign rfl ?_)
      refine xr_end rfl ?_
      refine th_n ?_
      refine xc_seq (xc_region ?_)
      refine xr_op rfl rfl (xv_move rfl ?_)
      refine xr_op rfl rfl (xv_make (l := ((vecR (roomR y.coals.length y.moves k (hds.map Hd.m)) 0 xo.tons).1 ++ List.replicate (L - 0) 0).flatMap eI) sl38 ty3 rfl rfl Om_ (by simp only []; (first|omega|(dsimp only at *;omega)|(simp at *;omega))) (by simp only []; (first|omega|(dsimp only at *;omega)|(simp at *;omega))) (make_ints _) (fun b8 hb8 => ?_))
      refine xr_op rfl rfl (xv_assign rfl ?_)
      refine xr_end rfl ?_
      refine th_n ?_
      refine xc_seq ?_
      refine xc_seq (xc_region ?_)
      refine xr_op rfl rfl (xv_assign rfl ?_)
      refine xr_end rfl ?_
      refine th_n ?_
      refine xc_block ?_
      refine xc_loop (σ := Nat) (fun j => j ≤ L) (fun j => (((((((emp.put (some 1) (.pointer (some ⟨b1, 0, none⟩))).put (some 4) (.slice qa hds.length qc)).put (some 5) (I (L : Int))).put (some 6) (I k)).put (some 7) (I (vecR (roomR y.coals.length y.moves k (hds.map Hd.m)) j xo.tons).2)).put (some 8) (.slice (some ⟨b8, 0, none⟩) L L)).put (some 9) (I j))) (fun j => ((b8, .cells ⟨((vecR (roomR y.coals.length y.moves k (hds.map Hd.m)) j xo.tons).1 ++ List.replicate (L - j) 0).flatMap eI⟩ 3) :: (V.hp 26 (hds.flatMap eHd) ++ (P ++ ((b1, .cells ⟨eYard y⟩ 25) :: h))))) (fun j => L - j) 0 (Nat.zero_le _) (le_put (le_put (le_put (le_put (le_put (le_put (le_put (le_emp _) rfl) rfl) rfl) rfl) rfl) rfl) rfl) Su_ ?_
      rintro j hj
      have hcb := contF_bd (j := (j : Int)) (movesOk_mono k hmv)
      have htb := taken_bd hP.bd j
      have hpf := hP.few
      obtain ⟨⟨va, vb⟩, vc, vd⟩ := vecR_bd (room := (roomR y.coals.length y.moves k (hds.map Hd.m))) (t := xo.tons) (by omega) j (fun i hi => hP.room i (by omega))
      have hvl := vecR_len (roomR y.coals.length y.moves k (hds.map Hd.m)) xo.tons j
      refine xc_seq ?_
      refine xc_seq (xc_region ?_)
      refine xr_op rfl rfl (xv_move rfl ?_)
      refine xr_op rfl rfl (xv_move rfl ?_)
      refine xr_op rfl rfl (xv_lss2 rfl rfl (fun q3 => ?_) (fun q3 => ?_))
      · refine xr_end rfl ?_
        refine th_n ?_
        refine xc_true rfl ?_
        refine xc_skip ?_
        refine th_n ?_
        refine xc_seq ?_
        refine xc_block ?_
        refine xc_seq (xc_region ?_)
        refine xr_op rfl rfl (xv_loadA ty25 rfl rfl Me_ Ev_ (by rfl) ?_)
        refine xr_op rfl rfl (xv_move rfl ?_)
        refine xr_op rfl rfl (xv_move rfl ?_)
        refine xr_op rfl rfl (xv_calls rfl hb20 (Contents_c (hy.sub (by intro z hz; ((repeat first|exact z_0|assumption|refine z_1 ?_|(refine z_l ?_;(repeat first|exact z_0|assumption|refine z_1 ?_);done)|refine z_r ?_);done))) (j := (j : Int)) (upto := k) hmv hcl hl hk (fun bc => up_ret ?_)))
        refine xr_op rfl rfl (xv_calls rfl hb39 (rsumN_c (xs := contF y.coals.length (y.moves.take k) (j : Int)) (contF_len _ _ _).symm (slvL eI_len Me_) (by rw [contF_len]; exact hcl) (fun x hx => by have := hcb x hx; rw [List.length_take] at this; omega) (up_ret ?_)))
        refine xr_op rfl rfl (xv_assign rfl ?_)
        refine xr_end rfl ?_
        refine th_n ?_
        refine xc_seq ?_
        refine xc_seq (xc_region ?_)
        have hsb := sumI_bd hcb
        rw [contF_len, List.length_take, Nat.min_eq_left hk] at hsb
        have hbig : (y.coals.length : Int) * (1048576 * (k : Int)) ≤ 1000 * (1048576 * 1000) := Int.mul_le_mul (by omega) (by omega) (by omega) (by omega)
        refine xr_op rfl rfl (xv_assign rfl ?_)
        refine xr_end rfl ?_
        refine th_n ?_
        refine xc_block ?_
        refine xc_loop (σ := Nat) (fun p => p ≤ hds.length) (fun p => (((((((((emp.put (some 1) (.pointer (some ⟨b1, 0, none⟩))).put (some 4) (.slice qa hds.length qc)).put (some 5) (I (L : Int))).put (some 6) (I k)).put (some 7) (I (vecR (roomR y.coals.length y.moves k (hds.map Hd.m)) j xo.tons).2)).put (some 8) (.slice (some ⟨b8, 0, none⟩) L L)).put (some 9) (I j)).put (some 10) (I (sumI (contF y.coals.length (y.moves.take k) (j : Int)) - (takenR ((hds.map Hd.m).take p) j)))).put (some 11) (I p))) (fun p => ((b8, .cells ⟨((vecR (roomR y.coals.length y.moves k (hds.map Hd.m)) j xo.tons).1 ++ List.replicate (L - j) 0).flatMap eI⟩ 3) :: (V.hp 26 (hds.flatMap eHd) ++ (P ++ ((b1, .cells ⟨eYard y⟩ 25) :: h))))) (fun p => hds.length - p) 0 (Nat.zero_le _) (le_put (le_put (le_put (le_put (le_put (le_put (le_put (le_put (le_put (le_emp _) rfl) rfl) rfl) rfl) rfl) rfl) rfl) (by show _ = some (I (_ - 0)); rw [Int.sub_zero]; rfl)) rfl) Su_ ?_
        rintro p hp
        refine xc_seq ?_
        refine xc_seq (xc_region ?_)
        refine xr_op rfl rfl (xv_move rfl ?_)
        refine xr_op rfl rfl (xv_move rfl ?_)
        refine xr_op rfl rfl (xv_len sl53 rfl ?_)
        refine xr_op rfl rfl (xv_lss2 rfl rfl (fun q4 => ?_) (fun q4 => ?_))
        · refine xr_end rfl ?_
          refine th_n ?_
          refine xc_true rfl ?_
          refine xc_skip ?_
          refine th_n ?_
          refine xc_seq ?_
          refine xc_block ?_
          refine xc_region ?_
          refine xr_op rfl rfl (xv_move rfl ?_)
          have hltw : p < hds.length := by (first|omega|(dsimp only at *;omega)|(simp at *;omega))
          obtain ⟨bw, ow, lw, tw, fzw, haw, hmw, hxw⟩ := ((hqs.sub (by intro z hz; ((repeat first|exact z_0|assumption|refine z_1 ?_|(refine z_l ?_;(repeat first|exact z_0|assumption|refine z_1 ?_);done)|refine z_r ?_);done)) : SlV ((b8, .cells ⟨((vecR (roomR y.coals.length y.moves k (hds.map Hd.m)) j xo.tons).1 ++ List.replicate (L - j) 0).flatMap eI⟩ 3) :: (V.hp 26 (hds.flatMap eHd) ++ (P ++ ((b1, .cells ⟨eYard y⟩ 25) :: h)))) 1 eHd qa hds)).at hltw
          obtain ⟨xw, hkw⟩ : ∃ qq_, hds[p]? = some qq_ := ⟨_, List.getElem?_eq_getElem hltw⟩
          have hxw9 := List.mem_of_getElem? hkw
          have hpm : (hds.map Hd.m)[p]? = some xw.m := by rw [List.getElem?_map, hkw]; rfl
          have hwl := hP.len xw.m (List.mem_map.2 ⟨xw, hxw9, rfl⟩)
          have hlte : j < xw.m.length := by (first|omega|(dsimp only at *;omega)|(simp at *;omega))
          obtain ⟨be, oe, le, te, fze, hae, hme, hxe⟩ := (((hS xw hxw9).sub (by intro z hz; ((repeat first|exact z_0|assumption|refine z_1 ?_|(refine z_l ?_;(repeat first|exact z_0|assumption|refine z_1 ?_);done)|refine z_r ?_);done)) : SlV ((b8, .cells ⟨((vecR (roomR y.coals.length y.moves k (hds.map Hd.m)) j xo.tons).1 ++ List.replicate (L - j) 0).flatMap eI⟩ 3) :: (V.hp 26 (hds.flatMap eHd) ++ (P ++ ((b1, .cells ⟨eYard y⟩ 25) :: h)))) 1 eI xw.a xw.m)).at hlte
          obtain ⟨xe, hke⟩ : ∃ qq_, xw.m[j]? = some qq_ := ⟨_, List.getElem?_eq_getElem hlte⟩
          have heb := hP.bd xw.m (List.mem_map.2 ⟨xw, hxw9, rfl⟩) xe (List.mem_of_getElem? hke)
          have hgd : xw.m.getD j 0 = xe := by rw [List.getD_eq_getElem?_getD, hke]; rfl
          have htb2 := taken_bd (prev := (hds.map Hd.m).take p) (fun v hv => hP.bd v (List.mem_of_mem_take hv)) j
          rw [List.length_take, List.length_map] at htb2
          rw [List.length_map] at hpf
          refine xr_op rfl rfl (xv_move rfl ?_)
          refine xr_op rfl rfl (xv_move rfl ?_)
          refine xr_op rfl rfl (xv_ia (sz := 1) (j := p) sl53 ty38 rfl (by rw [haw]; rfl) rfl Ix_ Om_ Om_ ?_)
          refine xr_op rfl rfl (xv_load1 ty38 rfl rfl Me_ (take_get (hxw (p) xw hkw) (j := 0) rfl) ?_)
          refine xr_op rfl rfl (xv_move rfl ?_)
          refine xr_op rfl rfl (xv_ia (sz := 1) (j := j) sl38 ty3 rfl (by rw [hae]; rfl) rfl Ix_ Om_ Om_ ?_)
          refine xr_op rfl rfl (xv_load1 ty3 rfl rfl Me_ (take_get (hxe (j) xe hke) (j := 0) rfl) ?_)
          refine xr_op rfl rfl (xv_sub rfl rfl (wrap_i64 Om_ Om_) ?_)
          refine xr_op rfl rfl (xv_assign rfl ?_)
          refine xr_end rfl ?_
          refine bk_n ?_
          refine th_n ?_
          refine xc_region ?_
          refine xr_op rfl rfl (xv_move rfl ?_)
          refine xr_op rfl rfl (xv_add rfl rfl (wrap_i64 Om_ Om_) ?_)
          refine xr_op rfl rfl (xv_assign rfl ?_)
          refine xr_end rfl ?_
          exact rnd (p + 1) Om_ Om_ (le_put (le_put (le_put (le_put (le_put (le_put (le_put (le_put (le_put (le_emp _) rfl) rfl) rfl) rfl) rfl) rfl) rfl) (by rw [taken_take hpm, hgd, ← Int.sub_sub]; rfl)) rfl) Su_
        · refine xr_end rfl ?_
          refine th_n ?_
          refine xc_false rfl ?_
          refine xc_exit ?_
          refine th_x ?_
          refine th_x ?_
          refine bk_same ?_
          refine th_n ?_
          refine xc_seq (xc_region ?_)
          have hrj := hP.room j Om_
          obtain rfl : hds.length = p := by (first|omega|(dsimp only at *;omega)|(simp at *;omega))
          rw [show (hds.map Hd.m).take hds.length = hds.map Hd.m from by rw [← List.length_map (f := Hd.m), List.take_length]]
          rw [show sumI (contF y.coals.length (y.moves.take k) (j : Int)) - takenR (hds.map Hd.m) j = (roomR y.coals.length y.moves k (hds.map Hd.m)) j from rfl]
          obtain ⟨rj, hrje⟩ : ∃ r, (roomR y.coals.length y.moves k (hds.map Hd.m)) j = r := ⟨_, rfl⟩
          rw [hrje] at hrj ⊢
          refine xr_op rfl rfl (xv_move rfl ?_)
          refine xr_op rfl rfl (xv_move rfl ?_)
          refine xr_op rfl rfl (xv_move rfl ?_)
          refine xr_op rfl rfl (xv_move rfl ?_)
          refine xr_op rfl rfl (xv_min rfl rfl rfl ?_)
          refine xr_op rfl rfl (xv_ia (sz := 1) (j := j) sl38 ty3 rfl rfl rfl Ix_ Om_ Om_ ?_)
          refine xr_op rfl rfl (xv_s1 (l := ((vecR (roomR y.coals.length y.moves k (hds.map Hd.m)) j xo.tons).1 ++ List.replicate (L - j) 0).flatMap eI) (l' := ((vecR (roomR y.coals.length y.moves k (hds.map Hd.m)) j xo.tons).1 ++ [min rj (vecR (roomR y.coals.length y.moves k (hds.map Hd.m)) j xo.tons).2] ++ List.replicate (L - (j + 1)) 0).flatMap eI) ty3 rfl rfl rfl Up_ rfl (by rw [ints_len, List.length_append, List.length_replicate]; (first|omega|(dsimp only at *;omega)|(simp at *;omega))) ((ints_setN (by rw [List.length_append, List.length_replicate]; (first|omega|(dsimp only at *;omega)|(simp at *;omega)))).trans (by rw [vset hvl Om_])) ?_)
          refine xr_end rfl ?_
          refine th_n ?_
          refine xc_region ?_
          have hvn : ((vecR (roomR y.coals.length y.moves k (hds.map Hd.m)) (j + 1) xo.tons).1 ++ List.replicate (L - (j + 1)) 0) = (vecR (roomR y.coals.length y.moves k (hds.map Hd.m)) j xo.tons).1 ++ [min rj (vecR (roomR y.coals.length y.moves k (hds.map Hd.m)) j xo.tons).2] ++ List.replicate (L - (j + 1)) 0 := by rw [vecR, hrje]
          have hvs : (vecR (roomR y.coals.length y.moves k (hds.map Hd.m)) (j + 1) xo.tons).2 = (vecR (roomR y.coals.length y.moves k (hds.map Hd.m)) j xo.tons).2 - min rj (vecR (roomR y.coals.length y.moves k (hds.map Hd.m)) j xo.tons).2 := by rw [vecR, hrje]
          refine xr_op rfl rfl (xv_move rfl ?_)
          refine xr_op rfl rfl (xv_move rfl ?_)
          refine xr_op rfl rfl (xv_move rfl ?_)
          refine xr_op rfl rfl (xv_ia (sz := 1) (j := j) sl38 ty3 rfl rfl rfl Ix_ Om_ Om_ ?_)
          refine xr_op rfl rfl (xv_load1 ty3 rfl rfl Me_ (ints_get (vget hvl)) ?_)
          refine xr_op rfl rfl (xv_sub rfl rfl (wrap_i64 Om_ Om_) ?_)
          refine xr_op rfl rfl (xv_assign rfl ?_)
          refine xr_end rfl ?_
          refine bk_n ?_
          refine th_n ?_
          refine xc_region ?_
          refine xr_op rfl rfl (xv_move rfl ?_)
          refine xr_op rfl rfl (xv_add rfl rfl (wrap_i64 Om_ Om_) ?_)
          refine xr_op rfl rfl (xv_assign rfl ?_)
          refine xr_end rfl ?_
          exact rnd (j + 1) Om_ Om_ (le_put (le_put (le_put (le_put (le_put (le_put (le_put (le_emp _) rfl) rfl) rfl) rfl) (by rw [hvs]; rfl)) rfl) rfl) (by rw [hvn]; (first|((repeat first|exact s_0|exact s_1|exact s_3|refine s_4 ?_|refine s_5 ?_|refine s_6 ?_|refine s_7 ?_);done)|((repeat first|exact s_0|exact s_1|exact s_3|refine s_4 ?_|refine s_5 ?_|refine s_6 ?_|refine s_8 ?_);done)))
      · refine xr_end rfl ?_
        refine th_n ?_
        refine xc_false rfl ?_
        refine xc_exit ?_
        refine th_x ?_
        refine th_x ?_
        refine bk_same ?_
        refine th_n ?_
        refine xc_seq ?_
        refine xc_seq (xc_region ?_)
        obtain rfl : L = j := by (first|omega|(dsimp only at *;omega)|(simp at *;omega))
        rw [Nat.sub_self, List.replicate_zero, List.append_nil]
        refine xr_op rfl rfl (xv_move rfl ?_)
        refine xr_op rfl rfl (xv_gtr2 rfl rfl (fun q5 => ?_) (fun q5 => ?_))
        · refine xr_end rfl ?_
          refine th_n ?_
          refine xc_true rfl ?_
          refine xc_seq (xc_region ?_)
          refine xr_op rfl rfl (xv_assign rfl ?_)
          refine xr_op rfl rfl (xv_assign rfl ?_)
          refine xr_end rfl ?_
          refine th_n ?_
          refine xc_ret ?_
          refine th_r ?_
          refine bk_r ?_
          refine th_r ?_
          refine th_r ?_
          refine bk_r ?_
          refine th_r ?_
          refine body_ret (h' := h) rfl (ro_tmp rfl (ro_tmp rfl ro_nil)) Su_ ?_
          first | (rw [← hqv]; exact H2 hds V P hP hV hS) | exact H1 (parts_end (parts_bad hP.is hko Om_ Om_) Om_)
        · refine xr_end rfl ?_
          refine th_n ?_
          refine xc_false rfl ?_
          refine xc_skip ?_
          refine th_n ?_
          refine xc_region ?_
          have e21 : (hds ++ [(⟨some ⟨b8, 0, none⟩, (vecR (roomR y.coals.length y.moves k (hds.map Hd.m)) L xo.tons).1, L⟩ : Hd)]).flatMap eHd = hds.flatMap eHd ++ [.slice (some ⟨b8, 0, none⟩) L L] := by rw [hd_flat, vecR_len]
          refine xr_op rfl rfl (xv_move rfl ?_)
          refine xr_op rfl rfl (xv_move rfl ?_)
          refine xr_op rfl rfl ((al_buildSlice sl53 ty38 rfl rfl rfl rfl rfl Ev_).xv (fun b77 hb77 => ?_))
          refine xr_op rfl rfl (xv_append (V := V) (n := hds.length) (xs := hds.flatMap eHd) sl53 ty38 rfl (by rw [hqv]; rfl) rfl hV (.there (.there .here)) Me_ Ev_ rfl rfl Om_ (by simp only []; (first|omega|(dsimp only at *;omega)|(simp at *;omega))) Om_ (fun V2 hV2 => ?_))
          refine xr_op rfl rfl (xv_assign rfl ?_)
          refine xr_end rfl ?_
          refine bk_n ?_
          refine th_n ?_
          refine xc_region ?_
          refine xr_op rfl rfl (xv_move rfl ?_)
          refine xr_op rfl rfl (xv_add rfl rfl (wrap_i64 Om_ Om_) ?_)
          refine xr_op rfl rfl (xv_assign rfl ?_)
          refine xr_end rfl ?_
          exact rnd ((k + 1, hds ++ [⟨some ⟨b8, 0, none⟩, (vecR (roomR y.coals.length y.moves k (hds.map Hd.m)) L xo.tons).1, L⟩], V2, (b8, .cells ⟨(vecR (roomR y.coals.length y.moves k (hds.map Hd.m)) L xo.tons).1.flatMap eI⟩ 3) :: P) : Nat × List Hd × Vec × Hp) ⟨by (first|omega|(dsimp only at *;omega)|(simp at *;omega)), by dsimp only; rw [List.map_append]; exact hP.more hmv hko Om_ Om_, by dsimp only; rw [List.length_append, e21]; exact hV2, fun w hw => by
            rcases List.mem_append.1 hw with hw | hw
            · exact (hS w hw).sub (fun z hz => List.mem_cons_of_mem _ hz)
            · rw [List.mem_singleton.1 hw]; exact slvL eI_len List.mem_cons_self⟩ Om_ (le_put (le_put (le_put (le_put (le_emp _) rfl) (by dsimp only; rw [List.length_append]; rfl)) rfl) rfl) (by dsimp only; rw [e21]; (first|((repeat first|exact s_0|exact s_1|exact s_3|refine s_4 ?_|refine s_5 ?_|refine s_6 ?_|refine s_7 ?_);done)|((repeat first|exact s_0|exact s_1|exact s_3|refine s_4 ?_|refine s_5 ?_|refine s_6 ?_|refine s_8 ?_);done)))
  · refine xr_end rfl ?_
    refine th_n ?_
    refine xc_false rfl ?_
    refine xc_exit ?_
    refine th_x ?_
    refine th_x ?_
    refine bk_same ?_
    refine th_n ?_
    refine xc_seq (xc_region ?_)
    obtain rfl : y.moves.length = k := by (first|omega|(dsimp only at *;omega)|(simp at *;omega))
    refine xr_op rfl rfl (xv_move rfl ?_)
    refine xr_op rfl rfl (xv_assign rfl ?_)
    refine xr_op rfl rfl (xv_assign rfl ?_)
    refine xr_end rfl ?_
    refine th_n ?_
    refine xc_ret ?_
    refine body_ret (h' := (V.hp 26 (hds.flatMap eHd) ++ (P ++ h))) rfl (ro_tmp rfl (ro_tmp rfl ro_nil)) Su_ ?_
    first | (rw [← hqv]; exact H2 hds V P hP hV hS) | exact H1 (parts_end (parts_bad hP.is hko Om_ Om_) Om_)

end Go.Proofs.Ytmaldhbjhomdkaa.Coal
