/-
  Facts on the types and functions of this seat.
-/
import Derived.Test.YtckaaaebegemoaaDoorHE
import Derived.Test.YtckaaaebegemoaaDoorProg
import Derived.KernelRfl
set_option linter.all false
namespace Go.Proofs.YtckaaaebegemoaaDoor
open Go.H
open Go
theorem ty0 : TyOk Tryd.prog 0 ⟨1, 0, (Go.TypeDesc.tuple #[]), (Go.Value.tuple #[])⟩ := ⟨Tryd.underlying0, by kernel_rfl⟩
theorem ty1 : TyOk Tryd.prog 1 ⟨1, 8, (Go.TypeDesc.func #[] #[] false), Go.Value.nilFunc⟩ := ⟨Tryd.underlying1, by kernel_rfl⟩
theorem ty2 : TyOk Tryd.prog 2 ⟨1, 8, (Go.TypeDesc.int Go.IntKind.i64), (Go.Value.int Go.IntKind.i64 0)⟩ := ⟨Tryd.underlying2, by kernel_rfl⟩
theorem ty3 : TyOk Tryd.prog 3 ⟨1, 8, (Go.TypeDesc.int Go.IntKind.i64), (Go.Value.int Go.IntKind.i64 0)⟩ := ⟨Tryd.underlying3, by kernel_rfl⟩
theorem ty4 : TyOk Tryd.prog 4 ⟨1, 1, Go.TypeDesc.bool, (Go.Value.bool false)⟩ := ⟨Tryd.underlying4, by kernel_rfl⟩
theorem ty5 : TyOk Tryd.prog 5 ⟨1, 1, (Go.TypeDesc.int Go.IntKind.u8), (Go.Value.int Go.IntKind.u8 0)⟩ := ⟨Tryd.underlying5, by kernel_rfl⟩
theorem ty6 : TyOk Tryd.prog 6 ⟨1, 1, (Go.TypeDesc.int Go.IntKind.u8), (Go.Value.int Go.IntKind.u8 0)⟩ := ⟨Tryd.underlying6, by kernel_rfl⟩
theorem ty7 : TyOk Tryd.prog 7 ⟨4, 24, (Go.TypeDesc.struct #[{ name := "x", type := 2, offset := 0, embedded := false, tag := "", pkgPath := "runtime", byteOffset := 0 }, { name := "y", type := 3, offset := 1, embedded := false, tag := "", pkgPath := "runtime", byteOffset := 8 }, { name := "signed", type := 4, offset := 2, embedded := false, tag := "", pkgPath := "runtime", byteOffset := 16 }, { name := "code", type := 6, offset := 3, embedded := false, tag := "", pkgPath := "runtime", byteOffset := 17 }]), (Go.Value.agg #[Go.Value.int Go.IntKind.i64 0, Go.Value.int Go.IntKind.i64 0, Go.Value.bool false, Go.Value.int Go.IntKind.u8 0])⟩ := ⟨Tryd.underlying7, by kernel_rfl⟩
theorem ty8 : TyOk Tryd.prog 8 ⟨4, 24, (Go.TypeDesc.struct #[{ name := "x", type := 2, offset := 0, embedded := false, tag := "", pkgPath := "runtime", byteOffset := 0 }, { name := "y", type := 3, offset := 1, embedded := false, tag := "", pkgPath := "runtime", byteOffset := 8 }, { name := "signed", type := 4, offset := 2, embedded := false, tag := "", pkgPath := "runtime", byteOffset := 16 }, { name := "code", type := 6, offset := 3, embedded := false, tag := "", pkgPath := "runtime", byteOffset := 17 }]), (Go.Value.agg #[Go.Value.int Go.IntKind.i64 0, Go.Value.int Go.IntKind.i64 0, Go.Value.bool false, Go.Value.int Go.IntKind.u8 0])⟩ := ⟨Tryd.underlying8, by kernel_rfl⟩
theorem ty9 : TyOk Tryd.prog 9 ⟨1, 16, Go.TypeDesc.string, (Go.Value.string { data := #[] })⟩ := ⟨Tryd.underlying9, by kernel_rfl⟩
theorem ty10 : TyOk Tryd.prog 10 ⟨1, 16, Go.TypeDesc.string, (Go.Value.string { data := #[] })⟩ := ⟨Tryd.underlying10, by kernel_rfl⟩
theorem ty11 : TyOk Tryd.prog 11 ⟨1, 16, Go.TypeDesc.string, (Go.Value.string { data := #[] })⟩ := ⟨Tryd.underlying11, by kernel_rfl⟩
theorem ty12 : TyOk Tryd.prog 12 ⟨1, 8, (Go.TypeDesc.int Go.IntKind.u64), (Go.Value.int Go.IntKind.u64 0)⟩ := ⟨Tryd.underlying12, by kernel_rfl⟩
theorem ty13 : TyOk Tryd.prog 13 ⟨2, 24, (Go.TypeDesc.struct #[{ name := "msg", type := 9, offset := 0, embedded := false, tag := "", pkgPath := "runtime", byteOffset := 0 }, { name := "addr", type := 12, offset := 1, embedded := false, tag := "", pkgPath := "runtime", byteOffset := 16 }]), (Go.Value.agg #[Go.Value.string { data := #[] }, Go.Value.int Go.IntKind.u64 0])⟩ := ⟨Tryd.underlying13, by kernel_rfl⟩
theorem ty14 : TyOk Tryd.prog 14 ⟨2, 24, (Go.TypeDesc.struct #[{ name := "msg", type := 9, offset := 0, embedded := false, tag := "", pkgPath := "runtime", byteOffset := 0 }, { name := "addr", type := 12, offset := 1, embedded := false, tag := "", pkgPath := "runtime", byteOffset := 16 }]), (Go.Value.agg #[Go.Value.string { data := #[] }, Go.Value.int Go.IntKind.u64 0])⟩ := ⟨Tryd.underlying14, by kernel_rfl⟩
theorem ty15 : TyOk Tryd.prog 15 ⟨1, 8, (Go.TypeDesc.pointer 136), (Go.Value.pointer none)⟩ := ⟨Tryd.underlying15, by kernel_rfl⟩
theorem ty16 : TyOk Tryd.prog 16 ⟨1, 8, (Go.TypeDesc.pointer 139), (Go.Value.pointer none)⟩ := ⟨Tryd.underlying16, by kernel_rfl⟩
theorem ty17 : TyOk Tryd.prog 17 ⟨1, 8, (Go.TypeDesc.pointer 148), (Go.Value.pointer none)⟩ := ⟨Tryd.underlying17, by kernel_rfl⟩
theorem ty18 : TyOk Tryd.prog 18 ⟨1, 8, (Go.TypeDesc.struct #[{ name := "typ", type := 17, offset := 0, embedded := false, tag := "", pkgPath := "internal/runtime/maps", byteOffset := 0 }]), (Go.Value.agg #[Go.Value.pointer none])⟩ := ⟨Tryd.underlying18, by kernel_rfl⟩
theorem ty19 : TyOk Tryd.prog 19 ⟨1, 8, (Go.TypeDesc.struct #[{ name := "typ", type := 17, offset := 0, embedded := false, tag := "", pkgPath := "internal/runtime/maps", byteOffset := 0 }]), (Go.Value.agg #[Go.Value.pointer none])⟩ := ⟨Tryd.underlying19, by kernel_rfl⟩
theorem ty20 : TyOk Tryd.prog 20 ⟨1, 16, (Go.TypeDesc.interface #[]), Go.Value.nilIface⟩ := ⟨Tryd.underlying20, by kernel_rfl⟩
theorem ty21 : TyOk Tryd.prog 21 ⟨1, 4, (Go.TypeDesc.int Go.IntKind.i32), (Go.Value.int Go.IntKind.i32 0)⟩ := ⟨Tryd.underlying21, by kernel_rfl⟩
theorem ty22 : TyOk Tryd.prog 22 ⟨1, 24, (Go.TypeDesc.slice 45), (Go.Value.slice none 0 0)⟩ := ⟨Tryd.underlying22, by kernel_rfl⟩
theorem ty23 : TyOk Tryd.prog 23 ⟨1, 24, (Go.TypeDesc.slice 59), (Go.Value.slice none 0 0)⟩ := ⟨Tryd.underlying23, by kernel_rfl⟩
theorem ty24 : TyOk Tryd.prog 24 ⟨2, 48, (Go.TypeDesc.struct #[{ name := "Dials", type := 22, offset := 0, embedded := false, tag := "", pkgPath := "", byteOffset := 0 }, { name := "Cards", type := 23, offset := 1, embedded := false, tag := "", pkgPath := "", byteOffset := 24 }]), (Go.Value.agg #[Go.Value.slice none 0 0, Go.Value.slice none 0 0])⟩ := ⟨Tryd.underlying24, by kernel_rfl⟩
theorem ty25 : TyOk Tryd.prog 25 ⟨2, 48, (Go.TypeDesc.struct #[{ name := "Dials", type := 22, offset := 0, embedded := false, tag := "", pkgPath := "", byteOffset := 0 }, { name := "Cards", type := 23, offset := 1, embedded := false, tag := "", pkgPath := "", byteOffset := 24 }]), (Go.Value.agg #[Go.Value.slice none 0 0, Go.Value.slice none 0 0])⟩ := ⟨Tryd.underlying25, by kernel_rfl⟩
theorem ty26 : TyOk Tryd.prog 26 ⟨1, 8, (Go.TypeDesc.func #[25, 3] #[4] false), Go.Value.nilFunc⟩ := ⟨Tryd.underlying26, by kernel_rfl⟩
theorem ty27 : TyOk Tryd.prog 27 ⟨1, 8, (Go.TypeDesc.func #[] #[4] false), Go.Value.nilFunc⟩ := ⟨Tryd.underlying27, by kernel_rfl⟩
theorem ty28 : TyOk Tryd.prog 28 ⟨1, 24, (Go.TypeDesc.slice 38), (Go.Value.slice none 0 0)⟩ := ⟨Tryd.underlying28, by kernel_rfl⟩
theorem ty29 : TyOk Tryd.prog 29 ⟨1, 8, (Go.TypeDesc.int Go.IntKind.i64), (Go.Value.int Go.IntKind.i64 0)⟩ := ⟨Tryd.underlying29, by kernel_rfl⟩
theorem ty30 : TyOk Tryd.prog 30 ⟨1, 0, (Go.TypeDesc.tuple #[28, 29]), (Go.Value.tuple #[Go.Value.slice none 0 0, Go.Value.int Go.IntKind.i64 0])⟩ := ⟨Tryd.underlying30, by kernel_rfl⟩
theorem ty31 : TyOk Tryd.prog 31 ⟨1, 8, (Go.TypeDesc.func #[25, 3] #[28, 29] false), Go.Value.nilFunc⟩ := ⟨Tryd.underlying31, by kernel_rfl⟩
theorem ty32 : TyOk Tryd.prog 32 ⟨1, 24, (Go.TypeDesc.slice 3), (Go.Value.slice none 0 0)⟩ := ⟨Tryd.underlying32, by kernel_rfl⟩
theorem ty33 : TyOk Tryd.prog 33 ⟨1, 0, (Go.TypeDesc.tuple #[32, 29]), (Go.Value.tuple #[Go.Value.slice none 0 0, Go.Value.int Go.IntKind.i64 0])⟩ := ⟨Tryd.underlying33, by kernel_rfl⟩
theorem ty34 : TyOk Tryd.prog 34 ⟨1, 8, (Go.TypeDesc.func #[25, 3] #[32, 29] false), Go.Value.nilFunc⟩ := ⟨Tryd.underlying34, by kernel_rfl⟩
theorem ty35 : TyOk Tryd.prog 35 ⟨1, 8, (Go.TypeDesc.func #[28, 28] #[4] false), Go.Value.nilFunc⟩ := ⟨Tryd.underlying35, by kernel_rfl⟩
theorem ty36 : TyOk Tryd.prog 36 ⟨1, 8, (Go.TypeDesc.func #[32, 32] #[4] false), Go.Value.nilFunc⟩ := ⟨Tryd.underlying36, by kernel_rfl⟩
theorem ty37 : TyOk Tryd.prog 37 ⟨2, 16, (Go.TypeDesc.struct #[{ name := "Lo", type := 3, offset := 0, embedded := false, tag := "", pkgPath := "", byteOffset := 0 }, { name := "Hi", type := 3, offset := 1, embedded := false, tag := "", pkgPath := "", byteOffset := 8 }]), (Go.Value.agg #[Go.Value.int Go.IntKind.i64 0, Go.Value.int Go.IntKind.i64 0])⟩ := ⟨Tryd.underlying37, by kernel_rfl⟩
theorem ty38 : TyOk Tryd.prog 38 ⟨2, 16, (Go.TypeDesc.struct #[{ name := "Lo", type := 3, offset := 0, embedded := false, tag := "", pkgPath := "", byteOffset := 0 }, { name := "Hi", type := 3, offset := 1, embedded := false, tag := "", pkgPath := "", byteOffset := 8 }]), (Go.Value.agg #[Go.Value.int Go.IntKind.i64 0, Go.Value.int Go.IntKind.i64 0])⟩ := ⟨Tryd.underlying38, by kernel_rfl⟩
theorem ty39 : TyOk Tryd.prog 39 ⟨1, 0, (Go.TypeDesc.tuple #[38, 29]), (Go.Value.tuple #[Go.Value.agg #[Go.Value.int Go.IntKind.i64 0, Go.Value.int Go.IntKind.i64 0], Go.Value.int Go.IntKind.i64 0])⟩ := ⟨Tryd.underlying39, by kernel_rfl⟩
theorem ty40 : TyOk Tryd.prog 40 ⟨1, 8, (Go.TypeDesc.func #[25, 3, 3, 3] #[38, 29] false), Go.Value.nilFunc⟩ := ⟨Tryd.underlying40, by kernel_rfl⟩
theorem ty41 : TyOk Tryd.prog 41 ⟨1, 0, (Go.TypeDesc.tuple #[3, 29]), (Go.Value.tuple #[Go.Value.int Go.IntKind.i64 0, Go.Value.int Go.IntKind.i64 0])⟩ := ⟨Tryd.underlying41, by kernel_rfl⟩
theorem ty42 : TyOk Tryd.prog 42 ⟨1, 8, (Go.TypeDesc.func #[25, 3] #[3, 29] false), Go.Value.nilFunc⟩ := ⟨Tryd.underlying42, by kernel_rfl⟩
theorem ty43 : TyOk Tryd.prog 43 ⟨1, 8, (Go.TypeDesc.func #[25, 3, 3, 3] #[4] false), Go.Value.nilFunc⟩ := ⟨Tryd.underlying43, by kernel_rfl⟩
theorem ty44 : TyOk Tryd.prog 44 ⟨4, 32, (Go.TypeDesc.struct #[{ name := "Digits", type := 3, offset := 0, embedded := false, tag := "", pkgPath := "", byteOffset := 0 }, { name := "Rate", type := 38, offset := 1, embedded := false, tag := "", pkgPath := "", byteOffset := 8 }, { name := "Sticks", type := 4, offset := 3, embedded := false, tag := "", pkgPath := "", byteOffset := 24 }]), (Go.Value.agg #[Go.Value.int Go.IntKind.i64 0, Go.Value.int Go.IntKind.i64 0, Go.Value.int Go.IntKind.i64 0, Go.Value.bool false])⟩ := ⟨Tryd.underlying44, by kernel_rfl⟩
theorem ty45 : TyOk Tryd.prog 45 ⟨4, 32, (Go.TypeDesc.struct #[{ name := "Digits", type := 3, offset := 0, embedded := false, tag := "", pkgPath := "", byteOffset := 0 }, { name := "Rate", type := 38, offset := 1, embedded := false, tag := "", pkgPath := "", byteOffset := 8 }, { name := "Sticks", type := 4, offset := 3, embedded := false, tag := "", pkgPath := "", byteOffset := 24 }]), (Go.Value.agg #[Go.Value.int Go.IntKind.i64 0, Go.Value.int Go.IntKind.i64 0, Go.Value.int Go.IntKind.i64 0, Go.Value.bool false])⟩ := ⟨Tryd.underlying45, by kernel_rfl⟩
theorem ty46 : TyOk Tryd.prog 46 ⟨1, 24, (Go.TypeDesc.slice 47), (Go.Value.slice none 0 0)⟩ := ⟨Tryd.underlying46, by kernel_rfl⟩
theorem ty47 : TyOk Tryd.prog 47 ⟨1, 2, (Go.TypeDesc.int Go.IntKind.u16), (Go.Value.int Go.IntKind.u16 0)⟩ := ⟨Tryd.underlying47, by kernel_rfl⟩
theorem ty48 : TyOk Tryd.prog 48 ⟨1, 8, (Go.TypeDesc.func #[45] #[4] false), Go.Value.nilFunc⟩ := ⟨Tryd.underlying48, by kernel_rfl⟩
theorem ty49 : TyOk Tryd.prog 49 ⟨1, 8, (Go.TypeDesc.func #[45, 3, 46] #[32] false), Go.Value.nilFunc⟩ := ⟨Tryd.underlying49, by kernel_rfl⟩
theorem ty50 : TyOk Tryd.prog 50 ⟨1, 8, (Go.TypeDesc.func #[46, 3] #[32] false), Go.Value.nilFunc⟩ := ⟨Tryd.underlying50, by kernel_rfl⟩
theorem ty51 : TyOk Tryd.prog 51 ⟨1, 8, (Go.TypeDesc.func #[45, 3, 32, 32, 3, 46] #[23] false), Go.Value.nilFunc⟩ := ⟨Tryd.underlying51, by kernel_rfl⟩
theorem ty52 : TyOk Tryd.prog 52 ⟨1, 8, (Go.TypeDesc.func #[32, 3, 3] #[3] false), Go.Value.nilFunc⟩ := ⟨Tryd.underlying52, by kernel_rfl⟩
theorem ty53 : TyOk Tryd.prog 53 ⟨1, 8, (Go.TypeDesc.func #[3] #[3] false), Go.Value.nilFunc⟩ := ⟨Tryd.underlying53, by kernel_rfl⟩
theorem ty54 : TyOk Tryd.prog 54 ⟨1, 8, (Go.TypeDesc.func #[45, 46, 47, 5, 5] #[4] false), Go.Value.nilFunc⟩ := ⟨Tryd.underlying54, by kernel_rfl⟩
theorem ty55 : TyOk Tryd.prog 55 ⟨1, 0, (Go.TypeDesc.tuple #[23, 4]), (Go.Value.tuple #[Go.Value.slice none 0 0, Go.Value.bool false])⟩ := ⟨Tryd.underlying55, by kernel_rfl⟩
theorem ty56 : TyOk Tryd.prog 56 ⟨1, 8, (Go.TypeDesc.func #[25, 3] #[23, 4] false), Go.Value.nilFunc⟩ := ⟨Tryd.underlying56, by kernel_rfl⟩
theorem ty57 : TyOk Tryd.prog 57 ⟨1, 8, (Go.TypeDesc.func #[25] #[4] false), Go.Value.nilFunc⟩ := ⟨Tryd.underlying57, by kernel_rfl⟩
theorem ty58 : TyOk Tryd.prog 58 ⟨3, 24, (Go.TypeDesc.struct #[{ name := "House", type := 3, offset := 0, embedded := false, tag := "", pkgPath := "", byteOffset := 0 }, { name := "Hour", type := 3, offset := 1, embedded := false, tag := "", pkgPath := "", byteOffset := 8 }, { name := "Shows", type := 3, offset := 2, embedded := false, tag := "", pkgPath := "", byteOffset := 16 }]), (Go.Value.agg #[Go.Value.int Go.IntKind.i64 0, Go.Value.int Go.IntKind.i64 0, Go.Value.int Go.IntKind.i64 0])⟩ := ⟨Tryd.underlying58, by kernel_rfl⟩
theorem ty59 : TyOk Tryd.prog 59 ⟨3, 24, (Go.TypeDesc.struct #[{ name := "House", type := 3, offset := 0, embedded := false, tag := "", pkgPath := "", byteOffset := 0 }, { name := "Hour", type := 3, offset := 1, embedded := false, tag := "", pkgPath := "", byteOffset := 8 }, { name := "Shows", type := 3, offset := 2, embedded := false, tag := "", pkgPath := "", byteOffset := 16 }]), (Go.Value.agg #[Go.Value.int Go.IntKind.i64 0, Go.Value.int Go.IntKind.i64 0, Go.Value.int Go.IntKind.i64 0])⟩ := ⟨Tryd.underlying59, by kernel_rfl⟩
theorem ty60 : TyOk Tryd.prog 60 ⟨1, 8, (Go.TypeDesc.func #[45, 59, 59, 3] #[4] false), Go.Value.nilFunc⟩ := ⟨Tryd.underlying60, by kernel_rfl⟩
theorem ty61 : TyOk Tryd.prog 61 ⟨1, 8, (Go.TypeDesc.func #[3, 3] #[38] false), Go.Value.nilFunc⟩ := ⟨Tryd.underlying61, by kernel_rfl⟩
theorem ty62 : TyOk Tryd.prog 62 ⟨1, 8, (Go.TypeDesc.func #[25, 3, 3, 3, 5] #[4] false), Go.Value.nilFunc⟩ := ⟨Tryd.underlying62, by kernel_rfl⟩
theorem ty63 : TyOk Tryd.prog 63 ⟨1, 24, (Go.TypeDesc.slice 23), (Go.Value.slice none 0 0)⟩ := ⟨Tryd.underlying63, by kernel_rfl⟩
theorem ty64 : TyOk Tryd.prog 64 ⟨1, 8, (Go.TypeDesc.func #[25, 3, 3, 3, 3, 5] #[4] false), Go.Value.nilFunc⟩ := ⟨Tryd.underlying64, by kernel_rfl⟩
theorem ty65 : TyOk Tryd.prog 65 ⟨1, 8, (Go.TypeDesc.func #[45, 46, 47, 5, 5, 5] #[4] false), Go.Value.nilFunc⟩ := ⟨Tryd.underlying65, by kernel_rfl⟩
theorem ty66 : TyOk Tryd.prog 66 ⟨1, 8, (Go.TypeDesc.func #[] #[25] false), Go.Value.nilFunc⟩ := ⟨Tryd.underlying66, by kernel_rfl⟩
theorem ty67 : TyOk Tryd.prog 67 ⟨1, 8, (Go.TypeDesc.pointer 74), (Go.Value.pointer none)⟩ := ⟨Tryd.underlying67, by kernel_rfl⟩
theorem ty68 : TyOk Tryd.prog 68 ⟨1, 0, (Go.TypeDesc.tuple #[67, 29]), (Go.Value.tuple #[Go.Value.pointer none, Go.Value.int Go.IntKind.i64 0])⟩ := ⟨Tryd.underlying68, by kernel_rfl⟩
theorem ty69 : TyOk Tryd.prog 69 ⟨1, 8, (Go.TypeDesc.func #[25, 3, 32] #[67, 29] true), Go.Value.nilFunc⟩ := ⟨Tryd.underlying69, by kernel_rfl⟩
theorem ty70 : TyOk Tryd.prog 70 ⟨1, 0, (Go.TypeDesc.tuple #[28, 4]), (Go.Value.tuple #[Go.Value.slice none 0 0, Go.Value.bool false])⟩ := ⟨Tryd.underlying70, by kernel_rfl⟩
theorem ty71 : TyOk Tryd.prog 71 ⟨1, 8, (Go.TypeDesc.func #[72] #[28, 4] false), Go.Value.nilFunc⟩ := ⟨Tryd.underlying71, by kernel_rfl⟩
theorem ty72 : TyOk Tryd.prog 72 ⟨1, 24, (Go.TypeDesc.slice 78), (Go.Value.slice none 0 0)⟩ := ⟨Tryd.underlying72, by kernel_rfl⟩
theorem ty73 : TyOk Tryd.prog 73 ⟨5, 56, (Go.TypeDesc.struct #[{ name := "Dial", type := 45, offset := 0, embedded := true, tag := "", pkgPath := "", byteOffset := 0 }, { name := "readings", type := 72, offset := 4, embedded := false, tag := "", pkgPath := "gasworks/dial", byteOffset := 32 }]), (Go.Value.agg #[Go.Value.int Go.IntKind.i64 0, Go.Value.int Go.IntKind.i64 0, Go.Value.int Go.IntKind.i64 0, Go.Value.bool false, Go.Value.slice none 0 0])⟩ := ⟨Tryd.underlying73, by kernel_rfl⟩
theorem ty74 : TyOk Tryd.prog 74 ⟨5, 56, (Go.TypeDesc.struct #[{ name := "Dial", type := 45, offset := 0, embedded := true, tag := "", pkgPath := "", byteOffset := 0 }, { name := "readings", type := 72, offset := 4, embedded := false, tag := "", pkgPath := "gasworks/dial", byteOffset := 32 }]), (Go.Value.agg #[Go.Value.int Go.IntKind.i64 0, Go.Value.int Go.IntKind.i64 0, Go.Value.int Go.IntKind.i64 0, Go.Value.bool false, Go.Value.slice none 0 0])⟩ := ⟨Tryd.underlying74, by kernel_rfl⟩
theorem ty75 : TyOk Tryd.prog 75 ⟨1, 0, (Go.TypeDesc.tuple #[23, 29]), (Go.Value.tuple #[Go.Value.slice none 0 0, Go.Value.int Go.IntKind.i64 0])⟩ := ⟨Tryd.underlying75, by kernel_rfl⟩
theorem ty76 : TyOk Tryd.prog 76 ⟨1, 8, (Go.TypeDesc.func #[25, 3, 3, 3] #[23, 29] false), Go.Value.nilFunc⟩ := ⟨Tryd.underlying76, by kernel_rfl⟩
theorem ty77 : TyOk Tryd.prog 77 ⟨1, 8, (Go.TypeDesc.func #[45, 23] #[28, 4] false), Go.Value.nilFunc⟩ := ⟨Tryd.underlying77, by kernel_rfl⟩
theorem ty78 : TyOk Tryd.prog 78 ⟨3, 24, (Go.TypeDesc.struct #[{ name := "House", type := 3, offset := 0, embedded := false, tag := "", pkgPath := "", byteOffset := 0 }, { name := "Hour", type := 3, offset := 1, embedded := false, tag := "", pkgPath := "", byteOffset := 8 }, { name := "Shows", type := 3, offset := 2, embedded := false, tag := "", pkgPath := "", byteOffset := 16 }]), (Go.Value.agg #[Go.Value.int Go.IntKind.i64 0, Go.Value.int Go.IntKind.i64 0, Go.Value.int Go.IntKind.i64 0])⟩ := ⟨Tryd.underlying78, by kernel_rfl⟩
theorem ty79 : TyOk Tryd.prog 79 ⟨1, 8, (Go.TypeDesc.func #[3] #[38] false), Go.Value.nilFunc⟩ := ⟨Tryd.underlying79, by kernel_rfl⟩
theorem ty80 : TyOk Tryd.prog 80 ⟨1, 8, (Go.TypeDesc.func #[28] #[38] true), Go.Value.nilFunc⟩ := ⟨Tryd.underlying80, by kernel_rfl⟩
theorem ty81 : TyOk Tryd.prog 81 ⟨1, 8, (Go.TypeDesc.func #[45, 38, 3, 3] #[38] false), Go.Value.nilFunc⟩ := ⟨Tryd.underlying81, by kernel_rfl⟩
theorem ty82 : TyOk Tryd.prog 82 ⟨7, 56, (Go.TypeDesc.array 7 3), (Go.Value.agg #[Go.Value.int Go.IntKind.i64 0, Go.Value.int Go.IntKind.i64 0, Go.Value.int Go.IntKind.i64 0, Go.Value.int Go.IntKind.i64 0, Go.Value.int Go.IntKind.i64 0, Go.Value.int Go.IntKind.i64 0, Go.Value.int Go.IntKind.i64 0])⟩ := ⟨Tryd.underlying82, by kernel_rfl⟩
theorem ty83 : TyOk Tryd.prog 83 ⟨1, 8, (Go.TypeDesc.func #[3, 3, 3] #[4] false), Go.Value.nilFunc⟩ := ⟨Tryd.underlying83, by kernel_rfl⟩
theorem ty84 : TyOk Tryd.prog 84 ⟨1, 8, (Go.TypeDesc.func #[32, 85] #[4] false), Go.Value.nilFunc⟩ := ⟨Tryd.underlying84, by kernel_rfl⟩
theorem ty85 : TyOk Tryd.prog 85 ⟨1, 8, (Go.TypeDesc.func #[3] #[4] false), Go.Value.nilFunc⟩ := ⟨Tryd.underlying85, by kernel_rfl⟩
theorem ty86 : TyOk Tryd.prog 86 ⟨1, 8, (Go.TypeDesc.func #[99] #[] false), Go.Value.nilFunc⟩ := ⟨Tryd.underlying86, by kernel_rfl⟩
theorem ty87 : TyOk Tryd.prog 87 ⟨1, 8, (Go.TypeDesc.func #[99] #[] false), Go.Value.nilFunc⟩ := ⟨Tryd.underlying87, by kernel_rfl⟩
theorem ty88 : TyOk Tryd.prog 88 ⟨1, 8, (Go.TypeDesc.func #[23, 3] #[87] false), Go.Value.nilFunc⟩ := ⟨Tryd.underlying88, by kernel_rfl⟩
theorem ty89 : TyOk Tryd.prog 89 ⟨1, 8, (Go.TypeDesc.func #[72, 90] #[] false), Go.Value.nilFunc⟩ := ⟨Tryd.underlying89, by kernel_rfl⟩
theorem ty90 : TyOk Tryd.prog 90 ⟨1, 8, (Go.TypeDesc.func #[78, 78] #[3] false), Go.Value.nilFunc⟩ := ⟨Tryd.underlying90, by kernel_rfl⟩
theorem ty91 : TyOk Tryd.prog 91 ⟨1, 8, (Go.TypeDesc.func #[78] #[3] false), Go.Value.nilFunc⟩ := ⟨Tryd.underlying91, by kernel_rfl⟩
theorem ty92 : TyOk Tryd.prog 92 ⟨1, 0, (Go.TypeDesc.tuple #[38, 4]), (Go.Value.tuple #[Go.Value.agg #[Go.Value.int Go.IntKind.i64 0, Go.Value.int Go.IntKind.i64 0], Go.Value.bool false])⟩ := ⟨Tryd.underlying92, by kernel_rfl⟩
theorem ty93 : TyOk Tryd.prog 93 ⟨1, 8, (Go.TypeDesc.func #[78, 78] #[38, 4] false), Go.Value.nilFunc⟩ := ⟨Tryd.underlying93, by kernel_rfl⟩
theorem ty94 : TyOk Tryd.prog 94 ⟨1, 8, (Go.TypeDesc.func #[45, 59, 59] #[38, 4] false), Go.Value.nilFunc⟩ := ⟨Tryd.underlying94, by kernel_rfl⟩
theorem ty95 : TyOk Tryd.prog 95 ⟨1, 8, (Go.TypeDesc.func #[59] #[4] false), Go.Value.nilFunc⟩ := ⟨Tryd.underlying95, by kernel_rfl⟩
theorem ty96 : TyOk Tryd.prog 96 ⟨1, 8, (Go.TypeDesc.func #[22, 48] #[4] false), Go.Value.nilFunc⟩ := ⟨Tryd.underlying96, by kernel_rfl⟩
theorem ty97 : TyOk Tryd.prog 97 ⟨1, 8, (Go.TypeDesc.func #[23, 95] #[4] false), Go.Value.nilFunc⟩ := ⟨Tryd.underlying97, by kernel_rfl⟩
theorem ty98 : TyOk Tryd.prog 98 ⟨1, 8, (Go.TypeDesc.func #[32, 85] #[3] false), Go.Value.nilFunc⟩ := ⟨Tryd.underlying98, by kernel_rfl⟩
theorem ty99 : TyOk Tryd.prog 99 ⟨1, 8, (Go.TypeDesc.func #[78] #[4] false), Go.Value.nilFunc⟩ := ⟨Tryd.underlying99, by kernel_rfl⟩
theorem ty100 : TyOk Tryd.prog 100 ⟨1, 8, (Go.TypeDesc.map 59 4), (Go.Value.map none)⟩ := ⟨Tryd.underlying100, by kernel_rfl⟩
theorem ty101 : TyOk Tryd.prog 101 ⟨1, 8, (Go.TypeDesc.func #[72, 3, 3, 3, 90] #[] false), Go.Value.nilFunc⟩ := ⟨Tryd.underlying101, by kernel_rfl⟩
theorem ty102 : TyOk Tryd.prog 102 ⟨1, 8, (Go.TypeDesc.func #[103] #[3] false), Go.Value.nilFunc⟩ := ⟨Tryd.underlying102, by kernel_rfl⟩
theorem ty103 : TyOk Tryd.prog 103 ⟨1, 8, (Go.TypeDesc.int Go.IntKind.u64), (Go.Value.int Go.IntKind.u64 0)⟩ := ⟨Tryd.underlying103, by kernel_rfl⟩
theorem ty104 : TyOk Tryd.prog 104 ⟨1, 8, (Go.TypeDesc.func #[3, 3] #[3] false), Go.Value.nilFunc⟩ := ⟨Tryd.underlying104, by kernel_rfl⟩
theorem ty105 : TyOk Tryd.prog 105 ⟨2, 16, (Go.TypeDesc.struct #[{ name := "least", type := 3, offset := 0, embedded := false, tag := "", pkgPath := "gasworks/dial", byteOffset := 0 }, { name := "turn", type := 3, offset := 1, embedded := false, tag := "", pkgPath := "gasworks/dial", byteOffset := 8 }]), (Go.Value.agg #[Go.Value.int Go.IntKind.i64 0, Go.Value.int Go.IntKind.i64 0])⟩ := ⟨Tryd.underlying105, by kernel_rfl⟩
theorem ty106 : TyOk Tryd.prog 106 ⟨2, 16, (Go.TypeDesc.struct #[{ name := "least", type := 3, offset := 0, embedded := false, tag := "", pkgPath := "gasworks/dial", byteOffset := 0 }, { name := "turn", type := 3, offset := 1, embedded := false, tag := "", pkgPath := "gasworks/dial", byteOffset := 8 }]), (Go.Value.agg #[Go.Value.int Go.IntKind.i64 0, Go.Value.int Go.IntKind.i64 0])⟩ := ⟨Tryd.underlying106, by kernel_rfl⟩
theorem ty107 : TyOk Tryd.prog 107 ⟨1, 16, (Go.TypeDesc.interface #[("gasworks/dial.within", 110)]), Go.Value.nilIface⟩ := ⟨Tryd.underlying107, by kernel_rfl⟩
theorem ty108 : TyOk Tryd.prog 108 ⟨1, 16, (Go.TypeDesc.interface #[("gasworks/dial.within", 110)]), Go.Value.nilIface⟩ := ⟨Tryd.underlying108, by kernel_rfl⟩
theorem ty109 : TyOk Tryd.prog 109 ⟨1, 8, (Go.TypeDesc.int Go.IntKind.i64), (Go.Value.int Go.IntKind.i64 0)⟩ := ⟨Tryd.underlying109, by kernel_rfl⟩
theorem ty110 : TyOk Tryd.prog 110 ⟨1, 8, (Go.TypeDesc.func #[3, 3] #[38, 4] false), Go.Value.nilFunc⟩ := ⟨Tryd.underlying110, by kernel_rfl⟩
theorem ty111 : TyOk Tryd.prog 111 ⟨1, 8, (Go.TypeDesc.func #[22, 48] #[3] false), Go.Value.nilFunc⟩ := ⟨Tryd.underlying111, by kernel_rfl⟩
theorem ty112 : TyOk Tryd.prog 112 ⟨1, 8, (Go.TypeDesc.func #[23, 95] #[3] false), Go.Value.nilFunc⟩ := ⟨Tryd.underlying112, by kernel_rfl⟩
theorem ty113 : TyOk Tryd.prog 113 ⟨1, 8, (Go.TypeDesc.func #[72, 3, 3, 90] #[] false), Go.Value.nilFunc⟩ := ⟨Tryd.underlying113, by kernel_rfl⟩
theorem ty114 : TyOk Tryd.prog 114 ⟨1, 8, (Go.TypeDesc.int Go.IntKind.i64), (Go.Value.int Go.IntKind.i64 0)⟩ := ⟨Tryd.underlying114, by kernel_rfl⟩
theorem ty115 : TyOk Tryd.prog 115 ⟨1, 0, (Go.TypeDesc.tuple #[3, 114]), (Go.Value.tuple #[Go.Value.int Go.IntKind.i64 0, Go.Value.int Go.IntKind.i64 0])⟩ := ⟨Tryd.underlying115, by kernel_rfl⟩
theorem ty116 : TyOk Tryd.prog 116 ⟨1, 8, (Go.TypeDesc.func #[72, 3, 3, 90] #[3, 114] false), Go.Value.nilFunc⟩ := ⟨Tryd.underlying116, by kernel_rfl⟩
theorem ty117 : TyOk Tryd.prog 117 ⟨1, 8, (Go.TypeDesc.func #[72, 3, 3, 90] #[4] false), Go.Value.nilFunc⟩ := ⟨Tryd.underlying117, by kernel_rfl⟩
theorem ty118 : TyOk Tryd.prog 118 ⟨1, 8, (Go.TypeDesc.func #[72, 3, 3, 3, 90] #[3] false), Go.Value.nilFunc⟩ := ⟨Tryd.underlying118, by kernel_rfl⟩
theorem ty119 : TyOk Tryd.prog 119 ⟨1, 0, (Go.TypeDesc.tuple #[3, 4]), (Go.Value.tuple #[Go.Value.int Go.IntKind.i64 0, Go.Value.bool false])⟩ := ⟨Tryd.underlying119, by kernel_rfl⟩
theorem ty120 : TyOk Tryd.prog 120 ⟨1, 8, (Go.TypeDesc.func #[72, 3, 3, 3, 90] #[3, 4] false), Go.Value.nilFunc⟩ := ⟨Tryd.underlying120, by kernel_rfl⟩
theorem ty121 : TyOk Tryd.prog 121 ⟨1, 8, (Go.TypeDesc.func #[122] #[3] false), Go.Value.nilFunc⟩ := ⟨Tryd.underlying121, by kernel_rfl⟩
theorem ty122 : TyOk Tryd.prog 122 ⟨1, 4, (Go.TypeDesc.int Go.IntKind.u32), (Go.Value.int Go.IntKind.u32 0)⟩ := ⟨Tryd.underlying122, by kernel_rfl⟩
theorem ty123 : TyOk Tryd.prog 123 ⟨1, 8, (Go.TypeDesc.func #[124] #[3] false), Go.Value.nilFunc⟩ := ⟨Tryd.underlying123, by kernel_rfl⟩
theorem ty124 : TyOk Tryd.prog 124 ⟨1, 8, (Go.TypeDesc.int Go.IntKind.u64), (Go.Value.int Go.IntKind.u64 0)⟩ := ⟨Tryd.underlying124, by kernel_rfl⟩
theorem ty125 : TyOk Tryd.prog 125 ⟨1, 8, (Go.TypeDesc.int Go.IntKind.u64), (Go.Value.int Go.IntKind.u64 0)⟩ := ⟨Tryd.underlying125, by kernel_rfl⟩
theorem ty126 : TyOk Tryd.prog 126 ⟨1, 8, (Go.TypeDesc.func #[3] #[103] false), Go.Value.nilFunc⟩ := ⟨Tryd.underlying126, by kernel_rfl⟩
theorem ty127 : TyOk Tryd.prog 127 ⟨1, 8, (Go.TypeDesc.func #[] #[124] false), Go.Value.nilFunc⟩ := ⟨Tryd.underlying127, by kernel_rfl⟩
theorem ty128 : TyOk Tryd.prog 128 ⟨1, 8, (Go.TypeDesc.func #[72, 3, 129, 90] #[3] false), Go.Value.nilFunc⟩ := ⟨Tryd.underlying128, by kernel_rfl⟩
theorem ty129 : TyOk Tryd.prog 129 ⟨1, 8, (Go.TypeDesc.pointer 3), (Go.Value.pointer none)⟩ := ⟨Tryd.underlying129, by kernel_rfl⟩
theorem ty130 : TyOk Tryd.prog 130 ⟨1, 8, (Go.TypeDesc.func #[72, 3, 3, 3, 129, 90] #[3] false), Go.Value.nilFunc⟩ := ⟨Tryd.underlying130, by kernel_rfl⟩
theorem ty131 : TyOk Tryd.prog 131 ⟨1, 8, (Go.TypeDesc.pointer 125), (Go.Value.pointer none)⟩ := ⟨Tryd.underlying131, by kernel_rfl⟩
theorem ty132 : TyOk Tryd.prog 132 ⟨1, 0, (Go.TypeDesc.tuple #[3, 3]), (Go.Value.tuple #[Go.Value.int Go.IntKind.i64 0, Go.Value.int Go.IntKind.i64 0])⟩ := ⟨Tryd.underlying132, by kernel_rfl⟩
theorem ty133 : TyOk Tryd.prog 133 ⟨1, 8, (Go.TypeDesc.func #[72, 3, 3, 129, 90] #[3, 3] false), Go.Value.nilFunc⟩ := ⟨Tryd.underlying133, by kernel_rfl⟩
theorem ty134 : TyOk Tryd.prog 134 ⟨1, 8, (Go.TypeDesc.func #[] #[9] false), Go.Value.nilFunc⟩ := ⟨Tryd.underlying134, by kernel_rfl⟩
theorem ty135 : TyOk Tryd.prog 135 ⟨4, 40, (Go.TypeDesc.struct #[{ name := "_interface", type := 17, offset := 0, embedded := false, tag := "", pkgPath := "runtime", byteOffset := 0 }, { name := "concrete", type := 17, offset := 1, embedded := false, tag := "", pkgPath := "runtime", byteOffset := 8 }, { name := "asserted", type := 17, offset := 2, embedded := false, tag := "", pkgPath := "runtime", byteOffset := 16 }, { name := "missingMethod", type := 9, offset := 3, embedded := false, tag := "", pkgPath := "runtime", byteOffset := 24 }]), (Go.Value.agg #[Go.Value.pointer none, Go.Value.pointer none, Go.Value.pointer none, Go.Value.string { data := #[] }])⟩ := ⟨Tryd.underlying135, by kernel_rfl⟩
theorem ty136 : TyOk Tryd.prog 136 ⟨4, 40, (Go.TypeDesc.struct #[{ name := "_interface", type := 17, offset := 0, embedded := false, tag := "", pkgPath := "runtime", byteOffset := 0 }, { name := "concrete", type := 17, offset := 1, embedded := false, tag := "", pkgPath := "runtime", byteOffset := 8 }, { name := "asserted", type := 17, offset := 2, embedded := false, tag := "", pkgPath := "runtime", byteOffset := 16 }, { name := "missingMethod", type := 9, offset := 3, embedded := false, tag := "", pkgPath := "runtime", byteOffset := 24 }]), (Go.Value.agg #[Go.Value.pointer none, Go.Value.pointer none, Go.Value.pointer none, Go.Value.string { data := #[] }])⟩ := ⟨Tryd.underlying136, by kernel_rfl⟩
theorem ty137 : TyOk Tryd.prog 137 ⟨0, 0, (Go.TypeDesc.array 0 16), (Go.Value.agg #[])⟩ := ⟨Tryd.underlying137, by kernel_rfl⟩
theorem ty138 : TyOk Tryd.prog 138 ⟨0, 0, (Go.TypeDesc.struct #[{ name := "_", type := 137, offset := 0, embedded := false, tag := "", pkgPath := "runtime", byteOffset := 0 }]), (Go.Value.agg #[])⟩ := ⟨Tryd.underlying138, by kernel_rfl⟩
theorem ty139 : TyOk Tryd.prog 139 ⟨0, 0, (Go.TypeDesc.struct #[{ name := "_", type := 137, offset := 0, embedded := false, tag := "", pkgPath := "runtime", byteOffset := 0 }]), (Go.Value.agg #[])⟩ := ⟨Tryd.underlying139, by kernel_rfl⟩
theorem ty140 : TyOk Tryd.prog 140 ⟨1, 8, (Go.TypeDesc.func #[] #[3] false), Go.Value.nilFunc⟩ := ⟨Tryd.underlying140, by kernel_rfl⟩
theorem ty141 : TyOk Tryd.prog 141 ⟨1, 1, (Go.TypeDesc.int Go.IntKind.u8), (Go.Value.int Go.IntKind.u8 0)⟩ := ⟨Tryd.underlying141, by kernel_rfl⟩
theorem ty142 : TyOk Tryd.prog 142 ⟨1, 1, (Go.TypeDesc.int Go.IntKind.u8), (Go.Value.int Go.IntKind.u8 0)⟩ := ⟨Tryd.underlying142, by kernel_rfl⟩
theorem ty143 : TyOk Tryd.prog 143 ⟨1, 8, (Go.TypeDesc.func #[149, 149] #[4] false), Go.Value.nilFunc⟩ := ⟨Tryd.underlying143, by kernel_rfl⟩
theorem ty144 : TyOk Tryd.prog 144 ⟨1, 8, (Go.TypeDesc.pointer 5), (Go.Value.pointer none)⟩ := ⟨Tryd.underlying144, by kernel_rfl⟩
theorem ty145 : TyOk Tryd.prog 145 ⟨1, 4, (Go.TypeDesc.int Go.IntKind.i32), (Go.Value.int Go.IntKind.i32 0)⟩ := ⟨Tryd.underlying145, by kernel_rfl⟩
theorem ty146 : TyOk Tryd.prog 146 ⟨1, 4, (Go.TypeDesc.int Go.IntKind.i32), (Go.Value.int Go.IntKind.i32 0)⟩ := ⟨Tryd.underlying146, by kernel_rfl⟩
theorem ty147 : TyOk Tryd.prog 147 ⟨11, 48, (Go.TypeDesc.struct #[{ name := "Size_", type := 12, offset := 0, embedded := false, tag := "", pkgPath := "", byteOffset := 0 }, { name := "PtrBytes", type := 12, offset := 1, embedded := false, tag := "", pkgPath := "", byteOffset := 8 }, { name := "Hash", type := 122, offset := 2, embedded := false, tag := "", pkgPath := "", byteOffset := 16 }, { name := "TFlag", type := 141, offset := 3, embedded := false, tag := "", pkgPath := "", byteOffset := 20 }, { name := "Align_", type := 5, offset := 4, embedded := false, tag := "", pkgPath := "", byteOffset := 21 }, { name := "FieldAlign_", type := 5, offset := 5, embedded := false, tag := "", pkgPath := "", byteOffset := 22 }, { name := "Kind_", type := 142, offset := 6, embedded := false, tag := "", pkgPath := "", byteOffset := 23 }, { name := "Equal", type := 143, offset := 7, embedded := false, tag := "", pkgPath := "", byteOffset := 24 }, { name := "GCData", type := 144, offset := 8, embedded := false, tag := "", pkgPath := "", byteOffset := 32 }, { name := "Str", type := 145, offset := 9, embedded := false, tag := "", pkgPath := "", byteOffset := 40 }, { name := "PtrToThis", type := 146, offset := 10, embedded := false, tag := "", pkgPath := "", byteOffset := 44 }]), (Go.Value.agg #[Go.Value.int Go.IntKind.u64 0, Go.Value.int Go.IntKind.u64 0, Go.Value.int Go.IntKind.u32 0, Go.Value.int Go.IntKind.u8 0, Go.Value.int Go.IntKind.u8 0, Go.Value.int Go.IntKind.u8 0, Go.Value.int Go.IntKind.u8 0, Go.Value.nilFunc, Go.Value.pointer none, Go.Value.int Go.IntKind.i32 0, Go.Value.int Go.IntKind.i32 0])⟩ := ⟨Tryd.underlying147, by kernel_rfl⟩
theorem ty148 : TyOk Tryd.prog 148 ⟨11, 48, (Go.TypeDesc.struct #[{ name := "Size_", type := 12, offset := 0, embedded := false, tag := "", pkgPath := "", byteOffset := 0 }, { name := "PtrBytes", type := 12, offset := 1, embedded := false, tag := "", pkgPath := "", byteOffset := 8 }, { name := "Hash", type := 122, offset := 2, embedded := false, tag := "", pkgPath := "", byteOffset := 16 }, { name := "TFlag", type := 141, offset := 3, embedded := false, tag := "", pkgPath := "", byteOffset := 20 }, { name := "Align_", type := 5, offset := 4, embedded := false, tag := "", pkgPath := "", byteOffset := 21 }, { name := "FieldAlign_", type := 5, offset := 5, embedded := false, tag := "", pkgPath := "", byteOffset := 22 }, { name := "Kind_", type := 142, offset := 6, embedded := false, tag := "", pkgPath := "", byteOffset := 23 }, { name := "Equal", type := 143, offset := 7, embedded := false, tag := "", pkgPath := "", byteOffset := 24 }, { name := "GCData", type := 144, offset := 8, embedded := false, tag := "", pkgPath := "", byteOffset := 32 }, { name := "Str", type := 145, offset := 9, embedded := false, tag := "", pkgPath := "", byteOffset := 40 }, { name := "PtrToThis", type := 146, offset := 10, embedded := false, tag := "", pkgPath := "", byteOffset := 44 }]), (Go.Value.agg #[Go.Value.int Go.IntKind.u64 0, Go.Value.int Go.IntKind.u64 0, Go.Value.int Go.IntKind.u32 0, Go.Value.int Go.IntKind.u8 0, Go.Value.int Go.IntKind.u8 0, Go.Value.int Go.IntKind.u8 0, Go.Value.int Go.IntKind.u8 0, Go.Value.nilFunc, Go.Value.pointer none, Go.Value.int Go.IntKind.i32 0, Go.Value.int Go.IntKind.i32 0])⟩ := ⟨Tryd.underlying148, by kernel_rfl⟩
theorem ty149 : TyOk Tryd.prog 149 ⟨1, 8, Go.TypeDesc.unsafePointer, (Go.Value.pointer none)⟩ := ⟨Tryd.underlying149, by kernel_rfl⟩
theorem fl7_0 : FldOk Tryd.prog 7 0 0 1 false := ⟨_, _, Tryd.underlying7, rfl, rfl, _, ty2, rfl, rfl⟩
theorem fl7_1 : FldOk Tryd.prog 7 1 1 1 false := ⟨_, _, Tryd.underlying7, rfl, rfl, _, ty3, rfl, rfl⟩
theorem fl7_2 : FldOk Tryd.prog 7 2 2 1 false := ⟨_, _, Tryd.underlying7, rfl, rfl, _, ty4, rfl, rfl⟩
theorem fl7_3 : FldOk Tryd.prog 7 3 3 1 false := ⟨_, _, Tryd.underlying7, rfl, rfl, _, ty6, rfl, rfl⟩
theorem fl8_0 : FldOk Tryd.prog 8 0 0 1 false := ⟨_, _, Tryd.underlying8, rfl, rfl, _, ty2, rfl, rfl⟩
theorem fl8_1 : FldOk Tryd.prog 8 1 1 1 false := ⟨_, _, Tryd.underlying8, rfl, rfl, _, ty3, rfl, rfl⟩
theorem fl8_2 : FldOk Tryd.prog 8 2 2 1 false := ⟨_, _, Tryd.underlying8, rfl, rfl, _, ty4, rfl, rfl⟩
theorem fl8_3 : FldOk Tryd.prog 8 3 3 1 false := ⟨_, _, Tryd.underlying8, rfl, rfl, _, ty6, rfl, rfl⟩
theorem fl13_0 : FldOk Tryd.prog 13 0 0 1 false := ⟨_, _, Tryd.underlying13, rfl, rfl, _, ty9, rfl, rfl⟩
theorem fl13_1 : FldOk Tryd.prog 13 1 1 1 false := ⟨_, _, Tryd.underlying13, rfl, rfl, _, ty12, rfl, rfl⟩
theorem fl14_0 : FldOk Tryd.prog 14 0 0 1 false := ⟨_, _, Tryd.underlying14, rfl, rfl, _, ty9, rfl, rfl⟩
theorem fl14_1 : FldOk Tryd.prog 14 1 1 1 false := ⟨_, _, Tryd.underlying14, rfl, rfl, _, ty12, rfl, rfl⟩
theorem fl18_0 : FldOk Tryd.prog 18 0 0 1 false := ⟨_, _, Tryd.underlying18, rfl, rfl, _, ty17, rfl, rfl⟩
theorem fl19_0 : FldOk Tryd.prog 19 0 0 1 false := ⟨_, _, Tryd.underlying19, rfl, rfl, _, ty17, rfl, rfl⟩
theorem fl24_0 : FldOk Tryd.prog 24 0 0 1 false := ⟨_, _, Tryd.underlying24, rfl, rfl, _, ty22, rfl, rfl⟩
theorem fl24_1 : FldOk Tryd.prog 24 1 1 1 false := ⟨_, _, Tryd.underlying24, rfl, rfl, _, ty23, rfl, rfl⟩
theorem fl25_0 : FldOk Tryd.prog 25 0 0 1 false := ⟨_, _, Tryd.underlying25, rfl, rfl, _, ty22, rfl, rfl⟩
theorem fl25_1 : FldOk Tryd.prog 25 1 1 1 false := ⟨_, _, Tryd.underlying25, rfl, rfl, _, ty23, rfl, rfl⟩
theorem fl37_0 : FldOk Tryd.prog 37 0 0 1 false := ⟨_, _, Tryd.underlying37, rfl, rfl, _, ty3, rfl, rfl⟩
theorem fl37_1 : FldOk Tryd.prog 37 1 1 1 false := ⟨_, _, Tryd.underlying37, rfl, rfl, _, ty3, rfl, rfl⟩
theorem fl38_0 : FldOk Tryd.prog 38 0 0 1 false := ⟨_, _, Tryd.underlying38, rfl, rfl, _, ty3, rfl, rfl⟩
theorem fl38_1 : FldOk Tryd.prog 38 1 1 1 false := ⟨_, _, Tryd.underlying38, rfl, rfl, _, ty3, rfl, rfl⟩
theorem fl44_0 : FldOk Tryd.prog 44 0 0 1 false := ⟨_, _, Tryd.underlying44, rfl, rfl, _, ty3, rfl, rfl⟩
theorem fl44_1 : FldOk Tryd.prog 44 1 1 2 true := ⟨_, _, Tryd.underlying44, rfl, rfl, _, ty38, rfl, rfl⟩
theorem fl44_2 : FldOk Tryd.prog 44 2 3 1 false := ⟨_, _, Tryd.underlying44, rfl, rfl, _, ty4, rfl, rfl⟩
theorem fl45_0 : FldOk Tryd.prog 45 0 0 1 false := ⟨_, _, Tryd.underlying45, rfl, rfl, _, ty3, rfl, rfl⟩
theorem fl45_1 : FldOk Tryd.prog 45 1 1 2 true := ⟨_, _, Tryd.underlying45, rfl, rfl, _, ty38, rfl, rfl⟩
theorem fl45_2 : FldOk Tryd.prog 45 2 3 1 false := ⟨_, _, Tryd.underlying45, rfl, rfl, _, ty4, rfl, rfl⟩
theorem fl58_0 : FldOk Tryd.prog 58 0 0 1 false := ⟨_, _, Tryd.underlying58, rfl, rfl, _, ty3, rfl, rfl⟩
theorem fl58_1 : FldOk Tryd.prog 58 1 1 1 false := ⟨_, _, Tryd.underlying58, rfl, rfl, _, ty3, rfl, rfl⟩
theorem fl58_2 : FldOk Tryd.prog 58 2 2 1 false := ⟨_, _, Tryd.underlying58, rfl, rfl, _, ty3, rfl, rfl⟩
theorem fl59_0 : FldOk Tryd.prog 59 0 0 1 false := ⟨_, _, Tryd.underlying59, rfl, rfl, _, ty3, rfl, rfl⟩
theorem fl59_1 : FldOk Tryd.prog 59 1 1 1 false := ⟨_, _, Tryd.underlying59, rfl, rfl, _, ty3, rfl, rfl⟩
theorem fl59_2 : FldOk Tryd.prog 59 2 2 1 false := ⟨_, _, Tryd.underlying59, rfl, rfl, _, ty3, rfl, rfl⟩
theorem fl73_0 : FldOk Tryd.prog 73 0 0 4 true := ⟨_, _, Tryd.underlying73, rfl, rfl, _, ty45, rfl, rfl⟩
theorem fl73_1 : FldOk Tryd.prog 73 1 4 1 false := ⟨_, _, Tryd.underlying73, rfl, rfl, _, ty72, rfl, rfl⟩
theorem fl74_0 : FldOk Tryd.prog 74 0 0 4 true := ⟨_, _, Tryd.underlying74, rfl, rfl, _, ty45, rfl, rfl⟩
theorem fl74_1 : FldOk Tryd.prog 74 1 4 1 false := ⟨_, _, Tryd.underlying74, rfl, rfl, _, ty72, rfl, rfl⟩
theorem fl78_0 : FldOk Tryd.prog 78 0 0 1 false := ⟨_, _, Tryd.underlying78, rfl, rfl, _, ty3, rfl, rfl⟩
theorem fl78_1 : FldOk Tryd.prog 78 1 1 1 false := ⟨_, _, Tryd.underlying78, rfl, rfl, _, ty3, rfl, rfl⟩
theorem fl78_2 : FldOk Tryd.prog 78 2 2 1 false := ⟨_, _, Tryd.underlying78, rfl, rfl, _, ty3, rfl, rfl⟩
theorem fl105_0 : FldOk Tryd.prog 105 0 0 1 false := ⟨_, _, Tryd.underlying105, rfl, rfl, _, ty3, rfl, rfl⟩
theorem fl105_1 : FldOk Tryd.prog 105 1 1 1 false := ⟨_, _, Tryd.underlying105, rfl, rfl, _, ty3, rfl, rfl⟩
theorem fl106_0 : FldOk Tryd.prog 106 0 0 1 false := ⟨_, _, Tryd.underlying106, rfl, rfl, _, ty3, rfl, rfl⟩
theorem fl106_1 : FldOk Tryd.prog 106 1 1 1 false := ⟨_, _, Tryd.underlying106, rfl, rfl, _, ty3, rfl, rfl⟩
theorem fl135_0 : FldOk Tryd.prog 135 0 0 1 false := ⟨_, _, Tryd.underlying135, rfl, rfl, _, ty17, rfl, rfl⟩
theorem fl135_1 : FldOk Tryd.prog 135 1 1 1 false := ⟨_, _, Tryd.underlying135, rfl, rfl, _, ty17, rfl, rfl⟩
theorem fl135_2 : FldOk Tryd.prog 135 2 2 1 false := ⟨_, _, Tryd.underlying135, rfl, rfl, _, ty17, rfl, rfl⟩
theorem fl135_3 : FldOk Tryd.prog 135 3 3 1 false := ⟨_, _, Tryd.underlying135, rfl, rfl, _, ty9, rfl, rfl⟩
theorem fl136_0 : FldOk Tryd.prog 136 0 0 1 false := ⟨_, _, Tryd.underlying136, rfl, rfl, _, ty17, rfl, rfl⟩
theorem fl136_1 : FldOk Tryd.prog 136 1 1 1 false := ⟨_, _, Tryd.underlying136, rfl, rfl, _, ty17, rfl, rfl⟩
theorem fl136_2 : FldOk Tryd.prog 136 2 2 1 false := ⟨_, _, Tryd.underlying136, rfl, rfl, _, ty17, rfl, rfl⟩
theorem fl136_3 : FldOk Tryd.prog 136 3 3 1 false := ⟨_, _, Tryd.underlying136, rfl, rfl, _, ty9, rfl, rfl⟩
theorem fl147_0 : FldOk Tryd.prog 147 0 0 1 false := ⟨_, _, Tryd.underlying147, rfl, rfl, _, ty12, rfl, rfl⟩
theorem fl147_1 : FldOk Tryd.prog 147 1 1 1 false := ⟨_, _, Tryd.underlying147, rfl, rfl, _, ty12, rfl, rfl⟩
theorem fl147_2 : FldOk Tryd.prog 147 2 2 1 false := ⟨_, _, Tryd.underlying147, rfl, rfl, _, ty122, rfl, rfl⟩
theorem fl147_3 : FldOk Tryd.prog 147 3 3 1 false := ⟨_, _, Tryd.underlying147, rfl, rfl, _, ty141, rfl, rfl⟩
theorem fl147_4 : FldOk Tryd.prog 147 4 4 1 false := ⟨_, _, Tryd.underlying147, rfl, rfl, _, ty5, rfl, rfl⟩
theorem fl147_5 : FldOk Tryd.prog 147 5 5 1 false := ⟨_, _, Tryd.underlying147, rfl, rfl, _, ty5, rfl, rfl⟩
theorem fl147_6 : FldOk Tryd.prog 147 6 6 1 false := ⟨_, _, Tryd.underlying147, rfl, rfl, _, ty142, rfl, rfl⟩
theorem fl147_7 : FldOk Tryd.prog 147 7 7 1 false := ⟨_, _, Tryd.underlying147, rfl, rfl, _, ty143, rfl, rfl⟩
theorem fl147_8 : FldOk Tryd.prog 147 8 8 1 false := ⟨_, _, Tryd.underlying147, rfl, rfl, _, ty144, rfl, rfl⟩
theorem fl147_9 : FldOk Tryd.prog 147 9 9 1 false := ⟨_, _, Tryd.underlying147, rfl, rfl, _, ty145, rfl, rfl⟩
theorem fl147_10 : FldOk Tryd.prog 147 10 10 1 false := ⟨_, _, Tryd.underlying147, rfl, rfl, _, ty146, rfl, rfl⟩
theorem fl148_0 : FldOk Tryd.prog 148 0 0 1 false := ⟨_, _, Tryd.underlying148, rfl, rfl, _, ty12, rfl, rfl⟩
theorem fl148_1 : FldOk Tryd.prog 148 1 1 1 false := ⟨_, _, Tryd.underlying148, rfl, rfl, _, ty12, rfl, rfl⟩
theorem fl148_2 : FldOk Tryd.prog 148 2 2 1 false := ⟨_, _, Tryd.underlying148, rfl, rfl, _, ty122, rfl, rfl⟩
theorem fl148_3 : FldOk Tryd.prog 148 3 3 1 false := ⟨_, _, Tryd.underlying148, rfl, rfl, _, ty141, rfl, rfl⟩
theorem fl148_4 : FldOk Tryd.prog 148 4 4 1 false := ⟨_, _, Tryd.underlying148, rfl, rfl, _, ty5, rfl, rfl⟩
theorem fl148_5 : FldOk Tryd.prog 148 5 5 1 false := ⟨_, _, Tryd.underlying148, rfl, rfl, _, ty5, rfl, rfl⟩
theorem fl148_6 : FldOk Tryd.prog 148 6 6 1 false := ⟨_, _, Tryd.underlying148, rfl, rfl, _, ty142, rfl, rfl⟩
theorem fl148_7 : FldOk Tryd.prog 148 7 7 1 false := ⟨_, _, Tryd.underlying148, rfl, rfl, _, ty143, rfl, rfl⟩
theorem fl148_8 : FldOk Tryd.prog 148 8 8 1 false := ⟨_, _, Tryd.underlying148, rfl, rfl, _, ty144, rfl, rfl⟩
theorem fl148_9 : FldOk Tryd.prog 148 9 9 1 false := ⟨_, _, Tryd.underlying148, rfl, rfl, _, ty145, rfl, rfl⟩
theorem fl148_10 : FldOk Tryd.prog 148 10 10 1 false := ⟨_, _, Tryd.underlying148, rfl, rfl, _, ty146, rfl, rfl⟩
theorem bt7 : BtOk Tryd.prog 7 [Go.Value.int Go.IntKind.i64 0, Go.Value.int Go.IntKind.i64 0, Go.Value.bool false, Go.Value.int Go.IntKind.u8 0] (fun i => (#[(0, 1), (1, 1), (2, 1), (3, 1)] : Array (Nat × Nat))[i]?) := fun _ => by kernel_rfl
theorem bt8 : BtOk Tryd.prog 8 [Go.Value.int Go.IntKind.i64 0, Go.Value.int Go.IntKind.i64 0, Go.Value.bool false, Go.Value.int Go.IntKind.u8 0] (fun i => (#[(0, 1), (1, 1), (2, 1), (3, 1)] : Array (Nat × Nat))[i]?) := fun _ => by kernel_rfl
theorem bt13 : BtOk Tryd.prog 13 [Go.Value.string { data := #[] }, Go.Value.int Go.IntKind.u64 0] (fun i => (#[(0, 1), (1, 1)] : Array (Nat × Nat))[i]?) := fun _ => by kernel_rfl
theorem bt14 : BtOk Tryd.prog 14 [Go.Value.string { data := #[] }, Go.Value.int Go.IntKind.u64 0] (fun i => (#[(0, 1), (1, 1)] : Array (Nat × Nat))[i]?) := fun _ => by kernel_rfl
theorem bt18 : BtOk Tryd.prog 18 [Go.Value.pointer none] (fun i => (#[(0, 1)] : Array (Nat × Nat))[i]?) := fun _ => by kernel_rfl
theorem bt19 : BtOk Tryd.prog 19 [Go.Value.pointer none] (fun i => (#[(0, 1)] : Array (Nat × Nat))[i]?) := fun _ => by kernel_rfl
theorem sl22 : SlT Tryd.prog 22 45 := Tryd.underlying22
theorem sl23 : SlT Tryd.prog 23 59 := Tryd.underlying23
theorem bt24 : BtOk Tryd.prog 24 [Go.Value.slice none 0 0, Go.Value.slice none 0 0] (fun i => (#[(0, 1), (1, 1)] : Array (Nat × Nat))[i]?) := fun _ => by kernel_rfl
theorem bt25 : BtOk Tryd.prog 25 [Go.Value.slice none 0 0, Go.Value.slice none 0 0] (fun i => (#[(0, 1), (1, 1)] : Array (Nat × Nat))[i]?) := fun _ => by kernel_rfl
theorem sl28 : SlT Tryd.prog 28 38 := Tryd.underlying28
theorem sl32 : SlT Tryd.prog 32 3 := Tryd.underlying32
theorem bt37 : BtOk Tryd.prog 37 [Go.Value.int Go.IntKind.i64 0, Go.Value.int Go.IntKind.i64 0] (fun i => (#[(0, 1), (1, 1)] : Array (Nat × Nat))[i]?) := fun _ => by kernel_rfl
theorem bt38 : BtOk Tryd.prog 38 [Go.Value.int Go.IntKind.i64 0, Go.Value.int Go.IntKind.i64 0] (fun i => (#[(0, 1), (1, 1)] : Array (Nat × Nat))[i]?) := fun _ => by kernel_rfl
theorem bt44 : BtOk Tryd.prog 44 [Go.Value.int Go.IntKind.i64 0, Go.Value.int Go.IntKind.i64 0, Go.Value.int Go.IntKind.i64 0, Go.Value.bool false] (fun i => (#[(0, 1), (1, 2), (3, 1)] : Array (Nat × Nat))[i]?) := fun _ => by kernel_rfl
theorem bt45 : BtOk Tryd.prog 45 [Go.Value.int Go.IntKind.i64 0, Go.Value.int Go.IntKind.i64 0, Go.Value.int Go.IntKind.i64 0, Go.Value.bool false] (fun i => (#[(0, 1), (1, 2), (3, 1)] : Array (Nat × Nat))[i]?) := fun _ => by kernel_rfl
theorem sl46 : SlT Tryd.prog 46 47 := Tryd.underlying46
theorem bt58 : BtOk Tryd.prog 58 [Go.Value.int Go.IntKind.i64 0, Go.Value.int Go.IntKind.i64 0, Go.Value.int Go.IntKind.i64 0] (fun i => (#[(0, 1), (1, 1), (2, 1)] : Array (Nat × Nat))[i]?) := fun _ => by kernel_rfl
theorem bt59 : BtOk Tryd.prog 59 [Go.Value.int Go.IntKind.i64 0, Go.Value.int Go.IntKind.i64 0, Go.Value.int Go.IntKind.i64 0] (fun i => (#[(0, 1), (1, 1), (2, 1)] : Array (Nat × Nat))[i]?) := fun _ => by kernel_rfl
theorem sl63 : SlT Tryd.prog 63 23 := Tryd.underlying63
theorem sl72 : SlT Tryd.prog 72 78 := Tryd.underlying72
theorem bt73 : BtOk Tryd.prog 73 [Go.Value.int Go.IntKind.i64 0, Go.Value.int Go.IntKind.i64 0, Go.Value.int Go.IntKind.i64 0, Go.Value.bool false, Go.Value.slice none 0 0] (fun i => (#[(0, 4), (4, 1)] : Array (Nat × Nat))[i]?) := fun _ => by kernel_rfl
theorem bt74 : BtOk Tryd.prog 74 [Go.Value.int Go.IntKind.i64 0, Go.Value.int Go.IntKind.i64 0, Go.Value.int Go.IntKind.i64 0, Go.Value.bool false, Go.Value.slice none 0 0] (fun i => (#[(0, 4), (4, 1)] : Array (Nat × Nat))[i]?) := fun _ => by kernel_rfl
theorem bt78 : BtOk Tryd.prog 78 [Go.Value.int Go.IntKind.i64 0, Go.Value.int Go.IntKind.i64 0, Go.Value.int Go.IntKind.i64 0] (fun i => (#[(0, 1), (1, 1), (2, 1)] : Array (Nat × Nat))[i]?) := fun _ => by kernel_rfl
theorem bt82 : BtOk Tryd.prog 82 [Go.Value.int Go.IntKind.i64 0, Go.Value.int Go.IntKind.i64 0, Go.Value.int Go.IntKind.i64 0, Go.Value.int Go.IntKind.i64 0, Go.Value.int Go.IntKind.i64 0, Go.Value.int Go.IntKind.i64 0, Go.Value.int Go.IntKind.i64 0] (fun i => some (i * 1, 1)) := fun _ => by kernel_rfl
theorem bt105 : BtOk Tryd.prog 105 [Go.Value.int Go.IntKind.i64 0, Go.Value.int Go.IntKind.i64 0] (fun i => (#[(0, 1), (1, 1)] : Array (Nat × Nat))[i]?) := fun _ => by kernel_rfl
theorem bt106 : BtOk Tryd.prog 106 [Go.Value.int Go.IntKind.i64 0, Go.Value.int Go.IntKind.i64 0] (fun i => (#[(0, 1), (1, 1)] : Array (Nat × Nat))[i]?) := fun _ => by kernel_rfl
theorem bt135 : BtOk Tryd.prog 135 [Go.Value.pointer none, Go.Value.pointer none, Go.Value.pointer none, Go.Value.string { data := #[] }] (fun i => (#[(0, 1), (1, 1), (2, 1), (3, 1)] : Array (Nat × Nat))[i]?) := fun _ => by kernel_rfl
theorem bt136 : BtOk Tryd.prog 136 [Go.Value.pointer none, Go.Value.pointer none, Go.Value.pointer none, Go.Value.string { data := #[] }] (fun i => (#[(0, 1), (1, 1), (2, 1), (3, 1)] : Array (Nat × Nat))[i]?) := fun _ => by kernel_rfl
theorem bt138 : BtOk Tryd.prog 138 [] (fun i => (#[(0, 0)] : Array (Nat × Nat))[i]?) := fun _ => by kernel_rfl
theorem bt139 : BtOk Tryd.prog 139 [] (fun i => (#[(0, 0)] : Array (Nat × Nat))[i]?) := fun _ => by kernel_rfl
theorem bt147 : BtOk Tryd.prog 147 [Go.Value.int Go.IntKind.u64 0, Go.Value.int Go.IntKind.u64 0, Go.Value.int Go.IntKind.u32 0, Go.Value.int Go.IntKind.u8 0, Go.Value.int Go.IntKind.u8 0, Go.Value.int Go.IntKind.u8 0, Go.Value.int Go.IntKind.u8 0, Go.Value.nilFunc, Go.Value.pointer none, Go.Value.int Go.IntKind.i32 0, Go.Value.int Go.IntKind.i32 0] (fun i => (#[(0, 1), (1, 1), (2, 1), (3, 1), (4, 1), (5, 1), (6, 1), (7, 1), (8, 1), (9, 1), (10, 1)] : Array (Nat × Nat))[i]?) := fun _ => by kernel_rfl
theorem bt148 : BtOk Tryd.prog 148 [Go.Value.int Go.IntKind.u64 0, Go.Value.int Go.IntKind.u64 0, Go.Value.int Go.IntKind.u32 0, Go.Value.int Go.IntKind.u8 0, Go.Value.int Go.IntKind.u8 0, Go.Value.int Go.IntKind.u8 0, Go.Value.int Go.IntKind.u8 0, Go.Value.nilFunc, Go.Value.pointer none, Go.Value.int Go.IntKind.i32 0, Go.Value.int Go.IntKind.i32 0] (fun i => (#[(0, 1), (1, 1), (2, 1), (3, 1), (4, 1), (5, 1), (6, 1), (7, 1), (8, 1), (9, 1), (10, 1)] : Array (Nat × Nat))[i]?) := fun _ => by kernel_rfl
theorem fq2 : Flat Tryd.prog 1 2 1 false := flat_int Tryd.underlying2
theorem fq3 : Flat Tryd.prog 1 3 1 false := flat_int Tryd.underlying3
theorem fq29 : Flat Tryd.prog 1 29 1 false := flat_int Tryd.underlying29
theorem fq109 : Flat Tryd.prog 1 109 1 false := flat_int Tryd.underlying109
theorem fq114 : Flat Tryd.prog 1 114 1 false := flat_int Tryd.underlying114
theorem fq37 : Flat Tryd.prog 2 37 2 true := flat_struct Tryd.underlying37 (by kernel_rfl) (.cons (by decide) rfl ty3 rfl (fq3.le rfl) (by decide) rfl (.cons (by decide) rfl ty3 rfl (fq3.le rfl) (by decide) rfl .nil))
theorem eg37 : Tryd.prog.eqGuardType Tryd.prog.depth 37 = false := by kernel_rfl
theorem fq38 : Flat Tryd.prog 2 38 2 true := flat_struct Tryd.underlying38 (by kernel_rfl) (.cons (by decide) rfl ty3 rfl (fq3.le rfl) (by decide) rfl (.cons (by decide) rfl ty3 rfl (fq3.le rfl) (by decide) rfl .nil))
theorem eg38 : Tryd.prog.eqGuardType Tryd.prog.depth 38 = false := by kernel_rfl
theorem fq58 : Flat Tryd.prog 2 58 3 true := flat_struct Tryd.underlying58 (by kernel_rfl) (.cons (by decide) rfl ty3 rfl (fq3.le rfl) (by decide) rfl (.cons (by decide) rfl ty3 rfl (fq3.le rfl) (by decide) rfl (.cons (by decide) rfl ty3 rfl (fq3.le rfl) (by decide) rfl .nil)))
theorem eg58 : Tryd.prog.eqGuardType Tryd.prog.depth 58 = false := by kernel_rfl
theorem fq59 : Flat Tryd.prog 2 59 3 true := flat_struct Tryd.underlying59 (by kernel_rfl) (.cons (by decide) rfl ty3 rfl (fq3.le rfl) (by decide) rfl (.cons (by decide) rfl ty3 rfl (fq3.le rfl) (by decide) rfl (.cons (by decide) rfl ty3 rfl (fq3.le rfl) (by decide) rfl .nil)))
theorem eg59 : Tryd.prog.eqGuardType Tryd.prog.depth 59 = false := by kernel_rfl
theorem fq78 : Flat Tryd.prog 2 78 3 true := flat_struct Tryd.underlying78 (by kernel_rfl) (.cons (by decide) rfl ty3 rfl (fq3.le rfl) (by decide) rfl (.cons (by decide) rfl ty3 rfl (fq3.le rfl) (by decide) rfl (.cons (by decide) rfl ty3 rfl (fq3.le rfl) (by decide) rfl .nil)))
theorem eg78 : Tryd.prog.eqGuardType Tryd.prog.depth 78 = false := by kernel_rfl
theorem fq82 : Flat Tryd.prog 2 82 7 true := flat_array Tryd.underlying82 ty3 fq3 (by decide) rfl
theorem eg82 : Tryd.prog.eqGuardType Tryd.prog.depth 82 = false := by kernel_rfl
theorem fq105 : Flat Tryd.prog 2 105 2 true := flat_struct Tryd.underlying105 (by kernel_rfl) (.cons (by decide) rfl ty3 rfl (fq3.le rfl) (by decide) rfl (.cons (by decide) rfl ty3 rfl (fq3.le rfl) (by decide) rfl .nil))
theorem eg105 : Tryd.prog.eqGuardType Tryd.prog.depth 105 = false := by kernel_rfl
theorem fq106 : Flat Tryd.prog 2 106 2 true := flat_struct Tryd.underlying106 (by kernel_rfl) (.cons (by decide) rfl ty3 rfl (fq3.le rfl) (by decide) rfl (.cons (by decide) rfl ty3 rfl (fq3.le rfl) (by decide) rfl .nil))
theorem eg106 : Tryd.prog.eqGuardType Tryd.prog.depth 106 = false := by kernel_rfl
theorem mixed : Tryd.prog.follows .mixedOrders = true := by kernel_rfl
theorem hb3 : HasBody Tryd.prog 3 := Tryd.call3
theorem hb4 : HasBody Tryd.prog 4 := Tryd.call4
theorem hb5 : HasBody Tryd.prog 5 := Tryd.call5
theorem hb6 : HasBody Tryd.prog 6 := Tryd.call6
theorem hb7 : HasBody Tryd.prog 7 := Tryd.call7
theorem hb8 : HasBody Tryd.prog 8 := Tryd.call8
theorem hb9 : HasBody Tryd.prog 9 := Tryd.call9
theorem hb10 : HasBody Tryd.prog 10 := Tryd.call10
theorem hb11 : HasBody Tryd.prog 11 := Tryd.call11
theorem hb12 : HasBody Tryd.prog 12 := Tryd.call12
theorem hb13 : HasBody Tryd.prog 13 := Tryd.call13
theorem hb14 : HasBody Tryd.prog 14 := Tryd.call14
theorem hb15 : HasBody Tryd.prog 15 := Tryd.call15
theorem hb16 : HasBody Tryd.prog 16 := Tryd.call16
theorem hb17 : HasBody Tryd.prog 17 := Tryd.call17
theorem hb18 : HasBody Tryd.prog 18 := Tryd.call18
theorem hb19 : HasBody Tryd.prog 19 := Tryd.call19
theorem hb20 : HasBody Tryd.prog 20 := Tryd.call20
theorem hb21 : HasBody Tryd.prog 21 := Tryd.call21
theorem hb22 : HasBody Tryd.prog 22 := Tryd.call22
theorem hb23 : HasBody Tryd.prog 23 := Tryd.call23
theorem hb24 : HasBody Tryd.prog 24 := Tryd.call24
theorem hb25 : HasBody Tryd.prog 25 := Tryd.call25
theorem hb26 : HasBody Tryd.prog 26 := Tryd.call26
theorem hb27 : HasBody Tryd.prog 27 := Tryd.call27
theorem hb28 : HasBody Tryd.prog 28 := Tryd.call28
theorem hb29 : HasBody Tryd.prog 29 := Tryd.call29
theorem hb30 : HasBody Tryd.prog 30 := Tryd.call30
theorem hb31 : HasBody Tryd.prog 31 := Tryd.call31
theorem hb32 : HasBody Tryd.prog 32 := Tryd.call32
theorem hb33 : HasBody Tryd.prog 33 := Tryd.call33
theorem hb34 : HasBody Tryd.prog 34 := Tryd.call34
theorem hb35 : HasBody Tryd.prog 35 := Tryd.call35
theorem hb36 : HasBody Tryd.prog 36 := Tryd.call36
theorem hb37 : HasBody Tryd.prog 37 := Tryd.call37
theorem hb38 : HasBody Tryd.prog 38 := Tryd.call38
theorem hb39 : HasBody Tryd.prog 39 := Tryd.call39
theorem hb40 : HasBody Tryd.prog 40 := Tryd.call40
theorem hb41 : HasBody Tryd.prog 41 := Tryd.call41
theorem hb42 : HasBody Tryd.prog 42 := Tryd.call42
theorem hb43 : HasBody Tryd.prog 43 := Tryd.call43
theorem hb44 : HasBody Tryd.prog 44 := Tryd.call44
theorem hb45 : HasBody Tryd.prog 45 := Tryd.call45
theorem hb46 : HasBody Tryd.prog 46 := Tryd.call46
theorem hb47 : HasBody Tryd.prog 47 := Tryd.call47
theorem hb48 : HasBody Tryd.prog 48 := Tryd.call48
theorem hb49 : HasBody Tryd.prog 49 := Tryd.call49
theorem hb50 : HasBody Tryd.prog 50 := Tryd.call50
theorem hb51 : HasBody Tryd.prog 51 := Tryd.call51
theorem hb52 : HasBody Tryd.prog 52 := Tryd.call52
theorem hb53 : HasBody Tryd.prog 53 := Tryd.call53
theorem hb54 : HasBody Tryd.prog 54 := Tryd.call54
theorem hb55 : HasBody Tryd.prog 55 := Tryd.call55
theorem hb56 : HasBody Tryd.prog 56 := Tryd.call56
theorem hb57 : HasBody Tryd.prog 57 := Tryd.call57
theorem hb58 : HasBody Tryd.prog 58 := Tryd.call58
theorem hb59 : HasBody Tryd.prog 59 := Tryd.call59
theorem hb60 : HasBody Tryd.prog 60 := Tryd.call60
theorem hb61 : HasBody Tryd.prog 61 := Tryd.call61
theorem hb62 : HasBody Tryd.prog 62 := Tryd.call62
theorem hb63 : HasBody Tryd.prog 63 := Tryd.call63
theorem hb64 : HasBody Tryd.prog 64 := Tryd.call64
theorem hb65 : HasBody Tryd.prog 65 := Tryd.call65
theorem hb66 : HasBody Tryd.prog 66 := Tryd.call66
theorem hb67 : HasBody Tryd.prog 67 := Tryd.call67
theorem hb68 : HasBody Tryd.prog 68 := Tryd.call68
theorem hb69 : HasBody Tryd.prog 69 := Tryd.call69
theorem hb70 : HasBody Tryd.prog 70 := Tryd.call70
theorem hb71 : HasBody Tryd.prog 71 := Tryd.call71
theorem hb72 : HasBody Tryd.prog 72 := Tryd.call72
theorem hb73 : HasBody Tryd.prog 73 := Tryd.call73
theorem hb74 : HasBody Tryd.prog 74 := Tryd.call74
theorem hb75 : HasBody Tryd.prog 75 := Tryd.call75
theorem hb76 : HasBody Tryd.prog 76 := Tryd.call76
theorem hb77 : HasBody Tryd.prog 77 := Tryd.call77
theorem hb93 : HasBody Tryd.prog 93 := Tryd.call93
theorem hb94 : HasBody Tryd.prog 94 := Tryd.call94
theorem hb99 : HasBody Tryd.prog 99 := Tryd.call99
end Go.Proofs.YtckaaaebegemoaaDoor
