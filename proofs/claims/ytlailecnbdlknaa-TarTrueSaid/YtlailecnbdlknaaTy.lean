/-
  Facts on the types and functions of this seat.
-/
import Derived.Test.YtlailecnbdlknaaHE
import Derived.Test.YtlailecnbdlknaaProg
import Derived.KernelRfl
set_option linter.all false
namespace Go.Proofs.Ytlailecnbdlknaa
open Go.H
open Go
theorem ty0 : TyOk Try.prog 0 ⟨1, 0, (Go.TypeDesc.tuple #[]), (Go.Value.tuple #[])⟩ := ⟨Try.underlying0, by kernel_rfl⟩
theorem ty1 : TyOk Try.prog 1 ⟨1, 8, (Go.TypeDesc.func #[] #[] false), Go.Value.nilFunc⟩ := ⟨Try.underlying1, by kernel_rfl⟩
theorem ty2 : TyOk Try.prog 2 ⟨1, 8, (Go.TypeDesc.int Go.IntKind.i64), (Go.Value.int Go.IntKind.i64 0)⟩ := ⟨Try.underlying2, by kernel_rfl⟩
theorem ty3 : TyOk Try.prog 3 ⟨1, 8, (Go.TypeDesc.int Go.IntKind.i64), (Go.Value.int Go.IntKind.i64 0)⟩ := ⟨Try.underlying3, by kernel_rfl⟩
theorem ty4 : TyOk Try.prog 4 ⟨1, 1, Go.TypeDesc.bool, (Go.Value.bool false)⟩ := ⟨Try.underlying4, by kernel_rfl⟩
theorem ty5 : TyOk Try.prog 5 ⟨1, 1, (Go.TypeDesc.int Go.IntKind.u8), (Go.Value.int Go.IntKind.u8 0)⟩ := ⟨Try.underlying5, by kernel_rfl⟩
theorem ty6 : TyOk Try.prog 6 ⟨1, 1, (Go.TypeDesc.int Go.IntKind.u8), (Go.Value.int Go.IntKind.u8 0)⟩ := ⟨Try.underlying6, by kernel_rfl⟩
theorem ty7 : TyOk Try.prog 7 ⟨4, 24, (Go.TypeDesc.struct #[{ name := "x", type := 2, offset := 0, embedded := false, tag := "", pkgPath := "runtime", byteOffset := 0 }, { name := "y", type := 3, offset := 1, embedded := false, tag := "", pkgPath := "runtime", byteOffset := 8 }, { name := "signed", type := 4, offset := 2, embedded := false, tag := "", pkgPath := "runtime", byteOffset := 16 }, { name := "code", type := 6, offset := 3, embedded := false, tag := "", pkgPath := "runtime", byteOffset := 17 }]), (Go.Value.agg #[Go.Value.int Go.IntKind.i64 0, Go.Value.int Go.IntKind.i64 0, Go.Value.bool false, Go.Value.int Go.IntKind.u8 0])⟩ := ⟨Try.underlying7, by kernel_rfl⟩
theorem ty8 : TyOk Try.prog 8 ⟨4, 24, (Go.TypeDesc.struct #[{ name := "x", type := 2, offset := 0, embedded := false, tag := "", pkgPath := "runtime", byteOffset := 0 }, { name := "y", type := 3, offset := 1, embedded := false, tag := "", pkgPath := "runtime", byteOffset := 8 }, { name := "signed", type := 4, offset := 2, embedded := false, tag := "", pkgPath := "runtime", byteOffset := 16 }, { name := "code", type := 6, offset := 3, embedded := false, tag := "", pkgPath := "runtime", byteOffset := 17 }]), (Go.Value.agg #[Go.Value.int Go.IntKind.i64 0, Go.Value.int Go.IntKind.i64 0, Go.Value.bool false, Go.Value.int Go.IntKind.u8 0])⟩ := ⟨Try.underlying8, by kernel_rfl⟩
theorem ty9 : TyOk Try.prog 9 ⟨1, 16, Go.TypeDesc.string, (Go.Value.string { data := #[] })⟩ := ⟨Try.underlying9, by kernel_rfl⟩
theorem ty10 : TyOk Try.prog 10 ⟨1, 16, Go.TypeDesc.string, (Go.Value.string { data := #[] })⟩ := ⟨Try.underlying10, by kernel_rfl⟩
theorem ty11 : TyOk Try.prog 11 ⟨1, 16, Go.TypeDesc.string, (Go.Value.string { data := #[] })⟩ := ⟨Try.underlying11, by kernel_rfl⟩
theorem ty12 : TyOk Try.prog 12 ⟨1, 8, (Go.TypeDesc.int Go.IntKind.u64), (Go.Value.int Go.IntKind.u64 0)⟩ := ⟨Try.underlying12, by kernel_rfl⟩
theorem ty13 : TyOk Try.prog 13 ⟨2, 24, (Go.TypeDesc.struct #[{ name := "msg", type := 9, offset := 0, embedded := false, tag := "", pkgPath := "runtime", byteOffset := 0 }, { name := "addr", type := 12, offset := 1, embedded := false, tag := "", pkgPath := "runtime", byteOffset := 16 }]), (Go.Value.agg #[Go.Value.string { data := #[] }, Go.Value.int Go.IntKind.u64 0])⟩ := ⟨Try.underlying13, by kernel_rfl⟩
theorem ty14 : TyOk Try.prog 14 ⟨2, 24, (Go.TypeDesc.struct #[{ name := "msg", type := 9, offset := 0, embedded := false, tag := "", pkgPath := "runtime", byteOffset := 0 }, { name := "addr", type := 12, offset := 1, embedded := false, tag := "", pkgPath := "runtime", byteOffset := 16 }]), (Go.Value.agg #[Go.Value.string { data := #[] }, Go.Value.int Go.IntKind.u64 0])⟩ := ⟨Try.underlying14, by kernel_rfl⟩
theorem ty15 : TyOk Try.prog 15 ⟨1, 8, (Go.TypeDesc.pointer 131), (Go.Value.pointer none)⟩ := ⟨Try.underlying15, by kernel_rfl⟩
theorem ty16 : TyOk Try.prog 16 ⟨1, 8, (Go.TypeDesc.pointer 134), (Go.Value.pointer none)⟩ := ⟨Try.underlying16, by kernel_rfl⟩
theorem ty17 : TyOk Try.prog 17 ⟨1, 8, (Go.TypeDesc.pointer 143), (Go.Value.pointer none)⟩ := ⟨Try.underlying17, by kernel_rfl⟩
theorem ty18 : TyOk Try.prog 18 ⟨1, 8, (Go.TypeDesc.struct #[{ name := "typ", type := 17, offset := 0, embedded := false, tag := "", pkgPath := "internal/runtime/maps", byteOffset := 0 }]), (Go.Value.agg #[Go.Value.pointer none])⟩ := ⟨Try.underlying18, by kernel_rfl⟩
theorem ty19 : TyOk Try.prog 19 ⟨1, 8, (Go.TypeDesc.struct #[{ name := "typ", type := 17, offset := 0, embedded := false, tag := "", pkgPath := "internal/runtime/maps", byteOffset := 0 }]), (Go.Value.agg #[Go.Value.pointer none])⟩ := ⟨Try.underlying19, by kernel_rfl⟩
theorem ty20 : TyOk Try.prog 20 ⟨1, 16, (Go.TypeDesc.interface #[]), Go.Value.nilIface⟩ := ⟨Try.underlying20, by kernel_rfl⟩
theorem ty21 : TyOk Try.prog 21 ⟨1, 4, (Go.TypeDesc.int Go.IntKind.i32), (Go.Value.int Go.IntKind.i32 0)⟩ := ⟨Try.underlying21, by kernel_rfl⟩
theorem ty22 : TyOk Try.prog 22 ⟨1, 24, (Go.TypeDesc.slice 3), (Go.Value.slice none 0 0)⟩ := ⟨Try.underlying22, by kernel_rfl⟩
theorem ty23 : TyOk Try.prog 23 ⟨1, 24, (Go.TypeDesc.slice 48), (Go.Value.slice none 0 0)⟩ := ⟨Try.underlying23, by kernel_rfl⟩
theorem ty24 : TyOk Try.prog 24 ⟨1, 24, (Go.TypeDesc.slice 51), (Go.Value.slice none 0 0)⟩ := ⟨Try.underlying24, by kernel_rfl⟩
theorem ty25 : TyOk Try.prog 25 ⟨3, 72, (Go.TypeDesc.struct #[{ name := "Stock", type := 22, offset := 0, embedded := false, tag := "", pkgPath := "", byteOffset := 0 }, { name := "Stills", type := 23, offset := 1, embedded := false, tag := "", pkgPath := "", byteOffset := 24 }, { name := "Sales", type := 24, offset := 2, embedded := false, tag := "", pkgPath := "", byteOffset := 48 }]), (Go.Value.agg #[Go.Value.slice none 0 0, Go.Value.slice none 0 0, Go.Value.slice none 0 0])⟩ := ⟨Try.underlying25, by kernel_rfl⟩
theorem ty26 : TyOk Try.prog 26 ⟨3, 72, (Go.TypeDesc.struct #[{ name := "Stock", type := 22, offset := 0, embedded := false, tag := "", pkgPath := "", byteOffset := 0 }, { name := "Stills", type := 23, offset := 1, embedded := false, tag := "", pkgPath := "", byteOffset := 24 }, { name := "Sales", type := 24, offset := 2, embedded := false, tag := "", pkgPath := "", byteOffset := 48 }]), (Go.Value.agg #[Go.Value.slice none 0 0, Go.Value.slice none 0 0, Go.Value.slice none 0 0])⟩ := ⟨Try.underlying26, by kernel_rfl⟩
theorem ty27 : TyOk Try.prog 27 ⟨1, 8, (Go.TypeDesc.func #[26, 3] #[4] false), Go.Value.nilFunc⟩ := ⟨Try.underlying27, by kernel_rfl⟩
theorem ty28 : TyOk Try.prog 28 ⟨1, 8, (Go.TypeDesc.func #[] #[4] false), Go.Value.nilFunc⟩ := ⟨Try.underlying28, by kernel_rfl⟩
theorem ty29 : TyOk Try.prog 29 ⟨1, 8, (Go.TypeDesc.int Go.IntKind.i64), (Go.Value.int Go.IntKind.i64 0)⟩ := ⟨Try.underlying29, by kernel_rfl⟩
theorem ty30 : TyOk Try.prog 30 ⟨1, 0, (Go.TypeDesc.tuple #[22, 3, 29]), (Go.Value.tuple #[Go.Value.slice none 0 0, Go.Value.int Go.IntKind.i64 0, Go.Value.int Go.IntKind.i64 0])⟩ := ⟨Try.underlying30, by kernel_rfl⟩
theorem ty31 : TyOk Try.prog 31 ⟨1, 8, (Go.TypeDesc.func #[26] #[22, 3, 29] false), Go.Value.nilFunc⟩ := ⟨Try.underlying31, by kernel_rfl⟩
theorem ty32 : TyOk Try.prog 32 ⟨1, 8, (Go.TypeDesc.func #[22, 22] #[4] false), Go.Value.nilFunc⟩ := ⟨Try.underlying32, by kernel_rfl⟩
theorem ty33 : TyOk Try.prog 33 ⟨1, 8, (Go.TypeDesc.func #[26] #[4] false), Go.Value.nilFunc⟩ := ⟨Try.underlying33, by kernel_rfl⟩
theorem ty34 : TyOk Try.prog 34 ⟨1, 24, (Go.TypeDesc.slice 61), (Go.Value.slice none 0 0)⟩ := ⟨Try.underlying34, by kernel_rfl⟩
theorem ty35 : TyOk Try.prog 35 ⟨1, 24, (Go.TypeDesc.slice 41), (Go.Value.slice none 0 0)⟩ := ⟨Try.underlying35, by kernel_rfl⟩
theorem ty36 : TyOk Try.prog 36 ⟨1, 0, (Go.TypeDesc.tuple #[35, 29]), (Go.Value.tuple #[Go.Value.slice none 0 0, Go.Value.int Go.IntKind.i64 0])⟩ := ⟨Try.underlying36, by kernel_rfl⟩
theorem ty37 : TyOk Try.prog 37 ⟨1, 8, (Go.TypeDesc.func #[26, 22] #[35, 29] false), Go.Value.nilFunc⟩ := ⟨Try.underlying37, by kernel_rfl⟩
theorem ty38 : TyOk Try.prog 38 ⟨1, 0, (Go.TypeDesc.tuple #[3, 22, 29]), (Go.Value.tuple #[Go.Value.int Go.IntKind.i64 0, Go.Value.slice none 0 0, Go.Value.int Go.IntKind.i64 0])⟩ := ⟨Try.underlying38, by kernel_rfl⟩
theorem ty39 : TyOk Try.prog 39 ⟨1, 8, (Go.TypeDesc.func #[26, 22] #[3, 22, 29] false), Go.Value.nilFunc⟩ := ⟨Try.underlying39, by kernel_rfl⟩
theorem ty40 : TyOk Try.prog 40 ⟨2, 16, (Go.TypeDesc.struct #[{ name := "Lo", type := 3, offset := 0, embedded := false, tag := "", pkgPath := "", byteOffset := 0 }, { name := "Hi", type := 3, offset := 1, embedded := false, tag := "", pkgPath := "", byteOffset := 8 }]), (Go.Value.agg #[Go.Value.int Go.IntKind.i64 0, Go.Value.int Go.IntKind.i64 0])⟩ := ⟨Try.underlying40, by kernel_rfl⟩
theorem ty41 : TyOk Try.prog 41 ⟨2, 16, (Go.TypeDesc.struct #[{ name := "Lo", type := 3, offset := 0, embedded := false, tag := "", pkgPath := "", byteOffset := 0 }, { name := "Hi", type := 3, offset := 1, embedded := false, tag := "", pkgPath := "", byteOffset := 8 }]), (Go.Value.agg #[Go.Value.int Go.IntKind.i64 0, Go.Value.int Go.IntKind.i64 0])⟩ := ⟨Try.underlying41, by kernel_rfl⟩
theorem ty42 : TyOk Try.prog 42 ⟨1, 0, (Go.TypeDesc.tuple #[35, 41, 29]), (Go.Value.tuple #[Go.Value.slice none 0 0, Go.Value.agg #[Go.Value.int Go.IntKind.i64 0, Go.Value.int Go.IntKind.i64 0], Go.Value.int Go.IntKind.i64 0])⟩ := ⟨Try.underlying42, by kernel_rfl⟩
theorem ty43 : TyOk Try.prog 43 ⟨1, 8, (Go.TypeDesc.func #[34] #[35, 41, 29] false), Go.Value.nilFunc⟩ := ⟨Try.underlying43, by kernel_rfl⟩
theorem ty44 : TyOk Try.prog 44 ⟨1, 8, (Go.TypeDesc.func #[35, 35] #[4] false), Go.Value.nilFunc⟩ := ⟨Try.underlying44, by kernel_rfl⟩
theorem ty45 : TyOk Try.prog 45 ⟨1, 8, (Go.TypeDesc.func #[26, 22, 34] #[4] false), Go.Value.nilFunc⟩ := ⟨Try.underlying45, by kernel_rfl⟩
theorem ty46 : TyOk Try.prog 46 ⟨1, 24, (Go.TypeDesc.slice 49), (Go.Value.slice none 0 0)⟩ := ⟨Try.underlying46, by kernel_rfl⟩
theorem ty47 : TyOk Try.prog 47 ⟨5, 56, (Go.TypeDesc.struct #[{ name := "In", type := 3, offset := 0, embedded := false, tag := "", pkgPath := "", byteOffset := 0 }, { name := "Takes", type := 3, offset := 1, embedded := false, tag := "", pkgPath := "", byteOffset := 8 }, { name := "Out", type := 35, offset := 2, embedded := false, tag := "", pkgPath := "", byteOffset := 16 }, { name := "Pay", type := 3, offset := 3, embedded := false, tag := "", pkgPath := "", byteOffset := 40 }, { name := "Most", type := 3, offset := 4, embedded := false, tag := "", pkgPath := "", byteOffset := 48 }]), (Go.Value.agg #[Go.Value.int Go.IntKind.i64 0, Go.Value.int Go.IntKind.i64 0, Go.Value.slice none 0 0, Go.Value.int Go.IntKind.i64 0, Go.Value.int Go.IntKind.i64 0])⟩ := ⟨Try.underlying47, by kernel_rfl⟩
theorem ty48 : TyOk Try.prog 48 ⟨5, 56, (Go.TypeDesc.struct #[{ name := "In", type := 3, offset := 0, embedded := false, tag := "", pkgPath := "", byteOffset := 0 }, { name := "Takes", type := 3, offset := 1, embedded := false, tag := "", pkgPath := "", byteOffset := 8 }, { name := "Out", type := 35, offset := 2, embedded := false, tag := "", pkgPath := "", byteOffset := 16 }, { name := "Pay", type := 3, offset := 3, embedded := false, tag := "", pkgPath := "", byteOffset := 40 }, { name := "Most", type := 3, offset := 4, embedded := false, tag := "", pkgPath := "", byteOffset := 48 }]), (Go.Value.agg #[Go.Value.int Go.IntKind.i64 0, Go.Value.int Go.IntKind.i64 0, Go.Value.slice none 0 0, Go.Value.int Go.IntKind.i64 0, Go.Value.int Go.IntKind.i64 0])⟩ := ⟨Try.underlying48, by kernel_rfl⟩
theorem ty49 : TyOk Try.prog 49 ⟨1, 2, (Go.TypeDesc.int Go.IntKind.u16), (Go.Value.int Go.IntKind.u16 0)⟩ := ⟨Try.underlying49, by kernel_rfl⟩
theorem ty50 : TyOk Try.prog 50 ⟨3, 24, (Go.TypeDesc.struct #[{ name := "Good", type := 3, offset := 0, embedded := false, tag := "", pkgPath := "", byteOffset := 0 }, { name := "Most", type := 3, offset := 1, embedded := false, tag := "", pkgPath := "", byteOffset := 8 }, { name := "Price", type := 3, offset := 2, embedded := false, tag := "", pkgPath := "", byteOffset := 16 }]), (Go.Value.agg #[Go.Value.int Go.IntKind.i64 0, Go.Value.int Go.IntKind.i64 0, Go.Value.int Go.IntKind.i64 0])⟩ := ⟨Try.underlying50, by kernel_rfl⟩
theorem ty51 : TyOk Try.prog 51 ⟨3, 24, (Go.TypeDesc.struct #[{ name := "Good", type := 3, offset := 0, embedded := false, tag := "", pkgPath := "", byteOffset := 0 }, { name := "Most", type := 3, offset := 1, embedded := false, tag := "", pkgPath := "", byteOffset := 8 }, { name := "Price", type := 3, offset := 2, embedded := false, tag := "", pkgPath := "", byteOffset := 16 }]), (Go.Value.agg #[Go.Value.int Go.IntKind.i64 0, Go.Value.int Go.IntKind.i64 0, Go.Value.int Go.IntKind.i64 0])⟩ := ⟨Try.underlying51, by kernel_rfl⟩
theorem ty52 : TyOk Try.prog 52 ⟨1, 8, (Go.TypeDesc.func #[26, 22, 46] #[4] false), Go.Value.nilFunc⟩ := ⟨Try.underlying52, by kernel_rfl⟩
theorem ty53 : TyOk Try.prog 53 ⟨1, 24, (Go.TypeDesc.slice 5), (Go.Value.slice none 0 0)⟩ := ⟨Try.underlying53, by kernel_rfl⟩
theorem ty54 : TyOk Try.prog 54 ⟨1, 8, (Go.TypeDesc.func #[26, 53] #[4] false), Go.Value.nilFunc⟩ := ⟨Try.underlying54, by kernel_rfl⟩
theorem ty55 : TyOk Try.prog 55 ⟨1, 8, (Go.TypeDesc.pointer 51), (Go.Value.pointer none)⟩ := ⟨Try.underlying55, by kernel_rfl⟩
theorem ty56 : TyOk Try.prog 56 ⟨1, 8, (Go.TypeDesc.pointer 48), (Go.Value.pointer none)⟩ := ⟨Try.underlying56, by kernel_rfl⟩
theorem ty57 : TyOk Try.prog 57 ⟨1, 8, (Go.TypeDesc.func #[26, 5, 5] #[4] false), Go.Value.nilFunc⟩ := ⟨Try.underlying57, by kernel_rfl⟩
theorem ty58 : TyOk Try.prog 58 ⟨1, 24, (Go.TypeDesc.slice 62), (Go.Value.slice none 0 0)⟩ := ⟨Try.underlying58, by kernel_rfl⟩
theorem ty59 : TyOk Try.prog 59 ⟨1, 8, (Go.TypeDesc.func #[61] #[4] false), Go.Value.nilFunc⟩ := ⟨Try.underlying59, by kernel_rfl⟩
theorem ty60 : TyOk Try.prog 60 ⟨4, 32, (Go.TypeDesc.struct #[{ name := "Empty", type := 41, offset := 0, embedded := false, tag := "", pkgPath := "", byteOffset := 0 }, { name := "Full", type := 41, offset := 2, embedded := false, tag := "", pkgPath := "", byteOffset := 16 }]), (Go.Value.agg #[Go.Value.int Go.IntKind.i64 0, Go.Value.int Go.IntKind.i64 0, Go.Value.int Go.IntKind.i64 0, Go.Value.int Go.IntKind.i64 0])⟩ := ⟨Try.underlying60, by kernel_rfl⟩
theorem ty61 : TyOk Try.prog 61 ⟨4, 32, (Go.TypeDesc.struct #[{ name := "Empty", type := 41, offset := 0, embedded := false, tag := "", pkgPath := "", byteOffset := 0 }, { name := "Full", type := 41, offset := 2, embedded := false, tag := "", pkgPath := "", byteOffset := 16 }]), (Go.Value.agg #[Go.Value.int Go.IntKind.i64 0, Go.Value.int Go.IntKind.i64 0, Go.Value.int Go.IntKind.i64 0, Go.Value.int Go.IntKind.i64 0])⟩ := ⟨Try.underlying61, by kernel_rfl⟩
theorem ty62 : TyOk Try.prog 62 ⟨1, 4, (Go.TypeDesc.int Go.IntKind.u32), (Go.Value.int Go.IntKind.u32 0)⟩ := ⟨Try.underlying62, by kernel_rfl⟩
theorem ty63 : TyOk Try.prog 63 ⟨1, 8, (Go.TypeDesc.func #[3, 3] #[41] false), Go.Value.nilFunc⟩ := ⟨Try.underlying63, by kernel_rfl⟩
theorem ty64 : TyOk Try.prog 64 ⟨1, 8, (Go.TypeDesc.func #[34, 58, 5] #[4] false), Go.Value.nilFunc⟩ := ⟨Try.underlying64, by kernel_rfl⟩
theorem ty65 : TyOk Try.prog 65 ⟨1, 8, (Go.TypeDesc.func #[] #[26] false), Go.Value.nilFunc⟩ := ⟨Try.underlying65, by kernel_rfl⟩
theorem ty66 : TyOk Try.prog 66 ⟨1, 8, (Go.TypeDesc.func #[93] #[] false), Go.Value.nilFunc⟩ := ⟨Try.underlying66, by kernel_rfl⟩
theorem ty67 : TyOk Try.prog 67 ⟨1, 8, (Go.TypeDesc.func #[93] #[] false), Go.Value.nilFunc⟩ := ⟨Try.underlying67, by kernel_rfl⟩
theorem ty68 : TyOk Try.prog 68 ⟨1, 8, (Go.TypeDesc.func #[26] #[67] false), Go.Value.nilFunc⟩ := ⟨Try.underlying68, by kernel_rfl⟩
theorem ty69 : TyOk Try.prog 69 ⟨1, 0, (Go.TypeDesc.tuple #[3, 22]), (Go.Value.tuple #[Go.Value.int Go.IntKind.i64 0, Go.Value.slice none 0 0])⟩ := ⟨Try.underlying69, by kernel_rfl⟩
theorem ty70 : TyOk Try.prog 70 ⟨1, 8, (Go.TypeDesc.func #[26, 22] #[3, 22] false), Go.Value.nilFunc⟩ := ⟨Try.underlying70, by kernel_rfl⟩
theorem ty71 : TyOk Try.prog 71 ⟨1, 24, (Go.TypeDesc.slice 22), (Go.Value.slice none 0 0)⟩ := ⟨Try.underlying71, by kernel_rfl⟩
theorem ty72 : TyOk Try.prog 72 ⟨1, 8, (Go.TypeDesc.func #[26, 22, 71] #[71] false), Go.Value.nilFunc⟩ := ⟨Try.underlying72, by kernel_rfl⟩
theorem ty73 : TyOk Try.prog 73 ⟨1, 8, (Go.TypeDesc.func #[26, 22] #[29] false), Go.Value.nilFunc⟩ := ⟨Try.underlying73, by kernel_rfl⟩
theorem ty74 : TyOk Try.prog 74 ⟨12, 96, (Go.TypeDesc.array 6 41), (Go.Value.agg #[Go.Value.int Go.IntKind.i64 0, Go.Value.int Go.IntKind.i64 0, Go.Value.int Go.IntKind.i64 0, Go.Value.int Go.IntKind.i64 0, Go.Value.int Go.IntKind.i64 0, Go.Value.int Go.IntKind.i64 0, Go.Value.int Go.IntKind.i64 0, Go.Value.int Go.IntKind.i64 0, Go.Value.int Go.IntKind.i64 0, Go.Value.int Go.IntKind.i64 0, Go.Value.int Go.IntKind.i64 0, Go.Value.int Go.IntKind.i64 0])⟩ := ⟨Try.underlying74, by kernel_rfl⟩
theorem ty75 : TyOk Try.prog 75 ⟨12, 96, (Go.TypeDesc.array 6 41), (Go.Value.agg #[Go.Value.int Go.IntKind.i64 0, Go.Value.int Go.IntKind.i64 0, Go.Value.int Go.IntKind.i64 0, Go.Value.int Go.IntKind.i64 0, Go.Value.int Go.IntKind.i64 0, Go.Value.int Go.IntKind.i64 0, Go.Value.int Go.IntKind.i64 0, Go.Value.int Go.IntKind.i64 0, Go.Value.int Go.IntKind.i64 0, Go.Value.int Go.IntKind.i64 0, Go.Value.int Go.IntKind.i64 0, Go.Value.int Go.IntKind.i64 0])⟩ := ⟨Try.underlying75, by kernel_rfl⟩
theorem ty76 : TyOk Try.prog 76 ⟨1, 0, (Go.TypeDesc.tuple #[75, 4]), (Go.Value.tuple #[Go.Value.agg #[Go.Value.int Go.IntKind.i64 0, Go.Value.int Go.IntKind.i64 0, Go.Value.int Go.IntKind.i64 0, Go.Value.int Go.IntKind.i64 0, Go.Value.int Go.IntKind.i64 0, Go.Value.int Go.IntKind.i64 0, Go.Value.int Go.IntKind.i64 0, Go.Value.int Go.IntKind.i64 0, Go.Value.int Go.IntKind.i64 0, Go.Value.int Go.IntKind.i64 0, Go.Value.int Go.IntKind.i64 0, Go.Value.int Go.IntKind.i64 0], Go.Value.bool false])⟩ := ⟨Try.underlying76, by kernel_rfl⟩
theorem ty77 : TyOk Try.prog 77 ⟨1, 8, (Go.TypeDesc.func #[26, 22] #[75, 4] false), Go.Value.nilFunc⟩ := ⟨Try.underlying77, by kernel_rfl⟩
theorem ty78 : TyOk Try.prog 78 ⟨1, 8, (Go.TypeDesc.func #[3] #[35] false), Go.Value.nilFunc⟩ := ⟨Try.underlying78, by kernel_rfl⟩
theorem ty79 : TyOk Try.prog 79 ⟨1, 8, (Go.TypeDesc.func #[3, 3, 3] #[4] false), Go.Value.nilFunc⟩ := ⟨Try.underlying79, by kernel_rfl⟩
theorem ty80 : TyOk Try.prog 80 ⟨1, 0, (Go.TypeDesc.tuple #[35, 4]), (Go.Value.tuple #[Go.Value.slice none 0 0, Go.Value.bool false])⟩ := ⟨Try.underlying80, by kernel_rfl⟩
theorem ty81 : TyOk Try.prog 81 ⟨1, 8, (Go.TypeDesc.func #[26, 22] #[35, 4] false), Go.Value.nilFunc⟩ := ⟨Try.underlying81, by kernel_rfl⟩
theorem ty82 : TyOk Try.prog 82 ⟨1, 24, (Go.TypeDesc.slice 4), (Go.Value.slice none 0 0)⟩ := ⟨Try.underlying82, by kernel_rfl⟩
theorem ty83 : TyOk Try.prog 83 ⟨1, 8, (Go.TypeDesc.func #[26, 82] #[3] false), Go.Value.nilFunc⟩ := ⟨Try.underlying83, by kernel_rfl⟩
theorem ty84 : TyOk Try.prog 84 ⟨1, 8, (Go.TypeDesc.func #[41, 3] #[4] false), Go.Value.nilFunc⟩ := ⟨Try.underlying84, by kernel_rfl⟩
theorem ty85 : TyOk Try.prog 85 ⟨1, 8, (Go.TypeDesc.func #[34, 59] #[4] false), Go.Value.nilFunc⟩ := ⟨Try.underlying85, by kernel_rfl⟩
theorem ty86 : TyOk Try.prog 86 ⟨1, 8, (Go.TypeDesc.func #[22] #[3] true), Go.Value.nilFunc⟩ := ⟨Try.underlying86, by kernel_rfl⟩
theorem ty87 : TyOk Try.prog 87 ⟨1, 8, (Go.TypeDesc.func #[48] #[4] false), Go.Value.nilFunc⟩ := ⟨Try.underlying87, by kernel_rfl⟩
theorem ty88 : TyOk Try.prog 88 ⟨1, 8, (Go.TypeDesc.func #[3] #[4] false), Go.Value.nilFunc⟩ := ⟨Try.underlying88, by kernel_rfl⟩
theorem ty89 : TyOk Try.prog 89 ⟨1, 8, (Go.TypeDesc.func #[51] #[4] false), Go.Value.nilFunc⟩ := ⟨Try.underlying89, by kernel_rfl⟩
theorem ty90 : TyOk Try.prog 90 ⟨1, 8, (Go.TypeDesc.func #[22, 88] #[4] false), Go.Value.nilFunc⟩ := ⟨Try.underlying90, by kernel_rfl⟩
theorem ty91 : TyOk Try.prog 91 ⟨1, 8, (Go.TypeDesc.func #[23, 87] #[4] false), Go.Value.nilFunc⟩ := ⟨Try.underlying91, by kernel_rfl⟩
theorem ty92 : TyOk Try.prog 92 ⟨1, 8, (Go.TypeDesc.func #[24, 89] #[4] false), Go.Value.nilFunc⟩ := ⟨Try.underlying92, by kernel_rfl⟩
theorem ty93 : TyOk Try.prog 93 ⟨1, 8, (Go.TypeDesc.func #[22] #[4] false), Go.Value.nilFunc⟩ := ⟨Try.underlying93, by kernel_rfl⟩
theorem ty94 : TyOk Try.prog 94 ⟨1, 8, (Go.TypeDesc.func #[22, 75] #[4] false), Go.Value.nilFunc⟩ := ⟨Try.underlying94, by kernel_rfl⟩
theorem ty95 : TyOk Try.prog 95 ⟨1, 8, (Go.TypeDesc.func #[48, 3] #[4] false), Go.Value.nilFunc⟩ := ⟨Try.underlying95, by kernel_rfl⟩
theorem ty96 : TyOk Try.prog 96 ⟨1, 8, (Go.TypeDesc.func #[26] #[75] false), Go.Value.nilFunc⟩ := ⟨Try.underlying96, by kernel_rfl⟩
theorem ty97 : TyOk Try.prog 97 ⟨1, 8, (Go.TypeDesc.func #[3, 3] #[3] false), Go.Value.nilFunc⟩ := ⟨Try.underlying97, by kernel_rfl⟩
theorem ty98 : TyOk Try.prog 98 ⟨1, 24, (Go.TypeDesc.slice 51), (Go.Value.slice none 0 0)⟩ := ⟨Try.underlying98, by kernel_rfl⟩
theorem ty99 : TyOk Try.prog 99 ⟨1, 8, (Go.TypeDesc.func #[22, 97] #[] false), Go.Value.nilFunc⟩ := ⟨Try.underlying99, by kernel_rfl⟩
theorem ty100 : TyOk Try.prog 100 ⟨1, 8, (Go.TypeDesc.pointer 75), (Go.Value.pointer none)⟩ := ⟨Try.underlying100, by kernel_rfl⟩
theorem ty101 : TyOk Try.prog 101 ⟨1, 8, (Go.TypeDesc.func #[35] #[35] false), Go.Value.nilFunc⟩ := ⟨Try.underlying101, by kernel_rfl⟩
theorem ty102 : TyOk Try.prog 102 ⟨1, 8, (Go.TypeDesc.func #[34, 59] #[3] false), Go.Value.nilFunc⟩ := ⟨Try.underlying102, by kernel_rfl⟩
theorem ty103 : TyOk Try.prog 103 ⟨1, 8, (Go.TypeDesc.func #[22, 88] #[3] false), Go.Value.nilFunc⟩ := ⟨Try.underlying103, by kernel_rfl⟩
theorem ty104 : TyOk Try.prog 104 ⟨1, 8, (Go.TypeDesc.func #[23, 87] #[3] false), Go.Value.nilFunc⟩ := ⟨Try.underlying104, by kernel_rfl⟩
theorem ty105 : TyOk Try.prog 105 ⟨1, 8, (Go.TypeDesc.func #[24, 89] #[3] false), Go.Value.nilFunc⟩ := ⟨Try.underlying105, by kernel_rfl⟩
theorem ty106 : TyOk Try.prog 106 ⟨1, 8, (Go.TypeDesc.func #[22, 3, 3, 3, 97] #[] false), Go.Value.nilFunc⟩ := ⟨Try.underlying106, by kernel_rfl⟩
theorem ty107 : TyOk Try.prog 107 ⟨1, 8, (Go.TypeDesc.func #[108] #[3] false), Go.Value.nilFunc⟩ := ⟨Try.underlying107, by kernel_rfl⟩
theorem ty108 : TyOk Try.prog 108 ⟨1, 8, (Go.TypeDesc.int Go.IntKind.u64), (Go.Value.int Go.IntKind.u64 0)⟩ := ⟨Try.underlying108, by kernel_rfl⟩
theorem ty109 : TyOk Try.prog 109 ⟨1, 8, (Go.TypeDesc.func #[22, 3, 3, 97] #[] false), Go.Value.nilFunc⟩ := ⟨Try.underlying109, by kernel_rfl⟩
theorem ty110 : TyOk Try.prog 110 ⟨1, 8, (Go.TypeDesc.int Go.IntKind.i64), (Go.Value.int Go.IntKind.i64 0)⟩ := ⟨Try.underlying110, by kernel_rfl⟩
theorem ty111 : TyOk Try.prog 111 ⟨1, 0, (Go.TypeDesc.tuple #[3, 110]), (Go.Value.tuple #[Go.Value.int Go.IntKind.i64 0, Go.Value.int Go.IntKind.i64 0])⟩ := ⟨Try.underlying111, by kernel_rfl⟩
theorem ty112 : TyOk Try.prog 112 ⟨1, 8, (Go.TypeDesc.func #[22, 3, 3, 97] #[3, 110] false), Go.Value.nilFunc⟩ := ⟨Try.underlying112, by kernel_rfl⟩
theorem ty113 : TyOk Try.prog 113 ⟨1, 8, (Go.TypeDesc.func #[22, 3, 3, 97] #[4] false), Go.Value.nilFunc⟩ := ⟨Try.underlying113, by kernel_rfl⟩
theorem ty114 : TyOk Try.prog 114 ⟨1, 8, (Go.TypeDesc.func #[22, 3, 3, 3, 97] #[3] false), Go.Value.nilFunc⟩ := ⟨Try.underlying114, by kernel_rfl⟩
theorem ty115 : TyOk Try.prog 115 ⟨1, 0, (Go.TypeDesc.tuple #[3, 4]), (Go.Value.tuple #[Go.Value.int Go.IntKind.i64 0, Go.Value.bool false])⟩ := ⟨Try.underlying115, by kernel_rfl⟩
theorem ty116 : TyOk Try.prog 116 ⟨1, 8, (Go.TypeDesc.func #[22, 3, 3, 3, 97] #[3, 4] false), Go.Value.nilFunc⟩ := ⟨Try.underlying116, by kernel_rfl⟩
theorem ty117 : TyOk Try.prog 117 ⟨1, 8, (Go.TypeDesc.func #[62] #[3] false), Go.Value.nilFunc⟩ := ⟨Try.underlying117, by kernel_rfl⟩
theorem ty118 : TyOk Try.prog 118 ⟨1, 8, (Go.TypeDesc.func #[119] #[3] false), Go.Value.nilFunc⟩ := ⟨Try.underlying118, by kernel_rfl⟩
theorem ty119 : TyOk Try.prog 119 ⟨1, 8, (Go.TypeDesc.int Go.IntKind.u64), (Go.Value.int Go.IntKind.u64 0)⟩ := ⟨Try.underlying119, by kernel_rfl⟩
theorem ty120 : TyOk Try.prog 120 ⟨1, 8, (Go.TypeDesc.int Go.IntKind.u64), (Go.Value.int Go.IntKind.u64 0)⟩ := ⟨Try.underlying120, by kernel_rfl⟩
theorem ty121 : TyOk Try.prog 121 ⟨1, 8, (Go.TypeDesc.func #[3] #[108] false), Go.Value.nilFunc⟩ := ⟨Try.underlying121, by kernel_rfl⟩
theorem ty122 : TyOk Try.prog 122 ⟨1, 8, (Go.TypeDesc.func #[] #[119] false), Go.Value.nilFunc⟩ := ⟨Try.underlying122, by kernel_rfl⟩
theorem ty123 : TyOk Try.prog 123 ⟨1, 8, (Go.TypeDesc.func #[22, 3, 124, 97] #[3] false), Go.Value.nilFunc⟩ := ⟨Try.underlying123, by kernel_rfl⟩
theorem ty124 : TyOk Try.prog 124 ⟨1, 8, (Go.TypeDesc.pointer 3), (Go.Value.pointer none)⟩ := ⟨Try.underlying124, by kernel_rfl⟩
theorem ty125 : TyOk Try.prog 125 ⟨1, 8, (Go.TypeDesc.func #[22, 3, 3, 3, 124, 97] #[3] false), Go.Value.nilFunc⟩ := ⟨Try.underlying125, by kernel_rfl⟩
theorem ty126 : TyOk Try.prog 126 ⟨1, 8, (Go.TypeDesc.pointer 120), (Go.Value.pointer none)⟩ := ⟨Try.underlying126, by kernel_rfl⟩
theorem ty127 : TyOk Try.prog 127 ⟨1, 0, (Go.TypeDesc.tuple #[3, 3]), (Go.Value.tuple #[Go.Value.int Go.IntKind.i64 0, Go.Value.int Go.IntKind.i64 0])⟩ := ⟨Try.underlying127, by kernel_rfl⟩
theorem ty128 : TyOk Try.prog 128 ⟨1, 8, (Go.TypeDesc.func #[22, 3, 3, 124, 97] #[3, 3] false), Go.Value.nilFunc⟩ := ⟨Try.underlying128, by kernel_rfl⟩
theorem ty129 : TyOk Try.prog 129 ⟨1, 8, (Go.TypeDesc.func #[] #[9] false), Go.Value.nilFunc⟩ := ⟨Try.underlying129, by kernel_rfl⟩
theorem ty130 : TyOk Try.prog 130 ⟨4, 40, (Go.TypeDesc.struct #[{ name := "_interface", type := 17, offset := 0, embedded := false, tag := "", pkgPath := "runtime", byteOffset := 0 }, { name := "concrete", type := 17, offset := 1, embedded := false, tag := "", pkgPath := "runtime", byteOffset := 8 }, { name := "asserted", type := 17, offset := 2, embedded := false, tag := "", pkgPath := "runtime", byteOffset := 16 }, { name := "missingMethod", type := 9, offset := 3, embedded := false, tag := "", pkgPath := "runtime", byteOffset := 24 }]), (Go.Value.agg #[Go.Value.pointer none, Go.Value.pointer none, Go.Value.pointer none, Go.Value.string { data := #[] }])⟩ := ⟨Try.underlying130, by kernel_rfl⟩
theorem ty131 : TyOk Try.prog 131 ⟨4, 40, (Go.TypeDesc.struct #[{ name := "_interface", type := 17, offset := 0, embedded := false, tag := "", pkgPath := "runtime", byteOffset := 0 }, { name := "concrete", type := 17, offset := 1, embedded := false, tag := "", pkgPath := "runtime", byteOffset := 8 }, { name := "asserted", type := 17, offset := 2, embedded := false, tag := "", pkgPath := "runtime", byteOffset := 16 }, { name := "missingMethod", type := 9, offset := 3, embedded := false, tag := "", pkgPath := "runtime", byteOffset := 24 }]), (Go.Value.agg #[Go.Value.pointer none, Go.Value.pointer none, Go.Value.pointer none, Go.Value.string { data := #[] }])⟩ := ⟨Try.underlying131, by kernel_rfl⟩
theorem ty132 : TyOk Try.prog 132 ⟨0, 0, (Go.TypeDesc.array 0 16), (Go.Value.agg #[])⟩ := ⟨Try.underlying132, by kernel_rfl⟩
theorem ty133 : TyOk Try.prog 133 ⟨0, 0, (Go.TypeDesc.struct #[{ name := "_", type := 132, offset := 0, embedded := false, tag := "", pkgPath := "runtime", byteOffset := 0 }]), (Go.Value.agg #[])⟩ := ⟨Try.underlying133, by kernel_rfl⟩
theorem ty134 : TyOk Try.prog 134 ⟨0, 0, (Go.TypeDesc.struct #[{ name := "_", type := 132, offset := 0, embedded := false, tag := "", pkgPath := "runtime", byteOffset := 0 }]), (Go.Value.agg #[])⟩ := ⟨Try.underlying134, by kernel_rfl⟩
theorem ty135 : TyOk Try.prog 135 ⟨1, 8, (Go.TypeDesc.func #[] #[3] false), Go.Value.nilFunc⟩ := ⟨Try.underlying135, by kernel_rfl⟩
theorem ty136 : TyOk Try.prog 136 ⟨1, 1, (Go.TypeDesc.int Go.IntKind.u8), (Go.Value.int Go.IntKind.u8 0)⟩ := ⟨Try.underlying136, by kernel_rfl⟩
theorem ty137 : TyOk Try.prog 137 ⟨1, 1, (Go.TypeDesc.int Go.IntKind.u8), (Go.Value.int Go.IntKind.u8 0)⟩ := ⟨Try.underlying137, by kernel_rfl⟩
theorem ty138 : TyOk Try.prog 138 ⟨1, 8, (Go.TypeDesc.func #[144, 144] #[4] false), Go.Value.nilFunc⟩ := ⟨Try.underlying138, by kernel_rfl⟩
theorem ty139 : TyOk Try.prog 139 ⟨1, 8, (Go.TypeDesc.pointer 5), (Go.Value.pointer none)⟩ := ⟨Try.underlying139, by kernel_rfl⟩
theorem fl7_0 : FldOk Try.prog 7 0 0 1 false := ⟨_, _, Try.underlying7, rfl, rfl, _, ty2, rfl, rfl⟩
theorem fl7_1 : FldOk Try.prog 7 1 1 1 false := ⟨_, _, Try.underlying7, rfl, rfl, _, ty3, rfl, rfl⟩
theorem fl7_2 : FldOk Try.prog 7 2 2 1 false := ⟨_, _, Try.underlying7, rfl, rfl, _, ty4, rfl, rfl⟩
theorem fl7_3 : FldOk Try.prog 7 3 3 1 false := ⟨_, _, Try.underlying7, rfl, rfl, _, ty6, rfl, rfl⟩
theorem fl8_0 : FldOk Try.prog 8 0 0 1 false := ⟨_, _, Try.underlying8, rfl, rfl, _, ty2, rfl, rfl⟩
theorem fl8_1 : FldOk Try.prog 8 1 1 1 false := ⟨_, _, Try.underlying8, rfl, rfl, _, ty3, rfl, rfl⟩
theorem fl8_2 : FldOk Try.prog 8 2 2 1 false := ⟨_, _, Try.underlying8, rfl, rfl, _, ty4, rfl, rfl⟩
theorem fl8_3 : FldOk Try.prog 8 3 3 1 false := ⟨_, _, Try.underlying8, rfl, rfl, _, ty6, rfl, rfl⟩
theorem fl13_0 : FldOk Try.prog 13 0 0 1 false := ⟨_, _, Try.underlying13, rfl, rfl, _, ty9, rfl, rfl⟩
theorem fl13_1 : FldOk Try.prog 13 1 1 1 false := ⟨_, _, Try.underlying13, rfl, rfl, _, ty12, rfl, rfl⟩
theorem fl14_0 : FldOk Try.prog 14 0 0 1 false := ⟨_, _, Try.underlying14, rfl, rfl, _, ty9, rfl, rfl⟩
theorem fl14_1 : FldOk Try.prog 14 1 1 1 false := ⟨_, _, Try.underlying14, rfl, rfl, _, ty12, rfl, rfl⟩
theorem fl18_0 : FldOk Try.prog 18 0 0 1 false := ⟨_, _, Try.underlying18, rfl, rfl, _, ty17, rfl, rfl⟩
theorem fl19_0 : FldOk Try.prog 19 0 0 1 false := ⟨_, _, Try.underlying19, rfl, rfl, _, ty17, rfl, rfl⟩
theorem fl25_0 : FldOk Try.prog 25 0 0 1 false := ⟨_, _, Try.underlying25, rfl, rfl, _, ty22, rfl, rfl⟩
theorem fl25_1 : FldOk Try.prog 25 1 1 1 false := ⟨_, _, Try.underlying25, rfl, rfl, _, ty23, rfl, rfl⟩
theorem fl25_2 : FldOk Try.prog 25 2 2 1 false := ⟨_, _, Try.underlying25, rfl, rfl, _, ty24, rfl, rfl⟩
theorem fl26_0 : FldOk Try.prog 26 0 0 1 false := ⟨_, _, Try.underlying26, rfl, rfl, _, ty22, rfl, rfl⟩
theorem fl26_1 : FldOk Try.prog 26 1 1 1 false := ⟨_, _, Try.underlying26, rfl, rfl, _, ty23, rfl, rfl⟩
theorem fl26_2 : FldOk Try.prog 26 2 2 1 false := ⟨_, _, Try.underlying26, rfl, rfl, _, ty24, rfl, rfl⟩
theorem fl40_0 : FldOk Try.prog 40 0 0 1 false := ⟨_, _, Try.underlying40, rfl, rfl, _, ty3, rfl, rfl⟩
theorem fl40_1 : FldOk Try.prog 40 1 1 1 false := ⟨_, _, Try.underlying40, rfl, rfl, _, ty3, rfl, rfl⟩
theorem fl41_0 : FldOk Try.prog 41 0 0 1 false := ⟨_, _, Try.underlying41, rfl, rfl, _, ty3, rfl, rfl⟩
theorem fl41_1 : FldOk Try.prog 41 1 1 1 false := ⟨_, _, Try.underlying41, rfl, rfl, _, ty3, rfl, rfl⟩
theorem fl47_0 : FldOk Try.prog 47 0 0 1 false := ⟨_, _, Try.underlying47, rfl, rfl, _, ty3, rfl, rfl⟩
theorem fl47_1 : FldOk Try.prog 47 1 1 1 false := ⟨_, _, Try.underlying47, rfl, rfl, _, ty3, rfl, rfl⟩
theorem fl47_2 : FldOk Try.prog 47 2 2 1 false := ⟨_, _, Try.underlying47, rfl, rfl, _, ty35, rfl, rfl⟩
theorem fl47_3 : FldOk Try.prog 47 3 3 1 false := ⟨_, _, Try.underlying47, rfl, rfl, _, ty3, rfl, rfl⟩
theorem fl47_4 : FldOk Try.prog 47 4 4 1 false := ⟨_, _, Try.underlying47, rfl, rfl, _, ty3, rfl, rfl⟩
theorem fl48_0 : FldOk Try.prog 48 0 0 1 false := ⟨_, _, Try.underlying48, rfl, rfl, _, ty3, rfl, rfl⟩
theorem fl48_1 : FldOk Try.prog 48 1 1 1 false := ⟨_, _, Try.underlying48, rfl, rfl, _, ty3, rfl, rfl⟩
theorem fl48_2 : FldOk Try.prog 48 2 2 1 false := ⟨_, _, Try.underlying48, rfl, rfl, _, ty35, rfl, rfl⟩
theorem fl48_3 : FldOk Try.prog 48 3 3 1 false := ⟨_, _, Try.underlying48, rfl, rfl, _, ty3, rfl, rfl⟩
theorem fl48_4 : FldOk Try.prog 48 4 4 1 false := ⟨_, _, Try.underlying48, rfl, rfl, _, ty3, rfl, rfl⟩
theorem fl50_0 : FldOk Try.prog 50 0 0 1 false := ⟨_, _, Try.underlying50, rfl, rfl, _, ty3, rfl, rfl⟩
theorem fl50_1 : FldOk Try.prog 50 1 1 1 false := ⟨_, _, Try.underlying50, rfl, rfl, _, ty3, rfl, rfl⟩
theorem fl50_2 : FldOk Try.prog 50 2 2 1 false := ⟨_, _, Try.underlying50, rfl, rfl, _, ty3, rfl, rfl⟩
theorem fl51_0 : FldOk Try.prog 51 0 0 1 false := ⟨_, _, Try.underlying51, rfl, rfl, _, ty3, rfl, rfl⟩
theorem fl51_1 : FldOk Try.prog 51 1 1 1 false := ⟨_, _, Try.underlying51, rfl, rfl, _, ty3, rfl, rfl⟩
theorem fl51_2 : FldOk Try.prog 51 2 2 1 false := ⟨_, _, Try.underlying51, rfl, rfl, _, ty3, rfl, rfl⟩
theorem fl60_0 : FldOk Try.prog 60 0 0 2 true := ⟨_, _, Try.underlying60, rfl, rfl, _, ty41, rfl, rfl⟩
theorem fl60_1 : FldOk Try.prog 60 1 2 2 true := ⟨_, _, Try.underlying60, rfl, rfl, _, ty41, rfl, rfl⟩
theorem fl61_0 : FldOk Try.prog 61 0 0 2 true := ⟨_, _, Try.underlying61, rfl, rfl, _, ty41, rfl, rfl⟩
theorem fl61_1 : FldOk Try.prog 61 1 2 2 true := ⟨_, _, Try.underlying61, rfl, rfl, _, ty41, rfl, rfl⟩
theorem fl130_0 : FldOk Try.prog 130 0 0 1 false := ⟨_, _, Try.underlying130, rfl, rfl, _, ty17, rfl, rfl⟩
theorem fl130_1 : FldOk Try.prog 130 1 1 1 false := ⟨_, _, Try.underlying130, rfl, rfl, _, ty17, rfl, rfl⟩
theorem fl130_2 : FldOk Try.prog 130 2 2 1 false := ⟨_, _, Try.underlying130, rfl, rfl, _, ty17, rfl, rfl⟩
theorem fl130_3 : FldOk Try.prog 130 3 3 1 false := ⟨_, _, Try.underlying130, rfl, rfl, _, ty9, rfl, rfl⟩
theorem fl131_0 : FldOk Try.prog 131 0 0 1 false := ⟨_, _, Try.underlying131, rfl, rfl, _, ty17, rfl, rfl⟩
theorem fl131_1 : FldOk Try.prog 131 1 1 1 false := ⟨_, _, Try.underlying131, rfl, rfl, _, ty17, rfl, rfl⟩
theorem fl131_2 : FldOk Try.prog 131 2 2 1 false := ⟨_, _, Try.underlying131, rfl, rfl, _, ty17, rfl, rfl⟩
theorem fl131_3 : FldOk Try.prog 131 3 3 1 false := ⟨_, _, Try.underlying131, rfl, rfl, _, ty9, rfl, rfl⟩
theorem bt7 : BtOk Try.prog 7 [Go.Value.int Go.IntKind.i64 0, Go.Value.int Go.IntKind.i64 0, Go.Value.bool false, Go.Value.int Go.IntKind.u8 0] (fun i => (#[(0, 1), (1, 1), (2, 1), (3, 1)] : Array (Nat × Nat))[i]?) := fun _ => by kernel_rfl
theorem bt8 : BtOk Try.prog 8 [Go.Value.int Go.IntKind.i64 0, Go.Value.int Go.IntKind.i64 0, Go.Value.bool false, Go.Value.int Go.IntKind.u8 0] (fun i => (#[(0, 1), (1, 1), (2, 1), (3, 1)] : Array (Nat × Nat))[i]?) := fun _ => by kernel_rfl
theorem bt13 : BtOk Try.prog 13 [Go.Value.string { data := #[] }, Go.Value.int Go.IntKind.u64 0] (fun i => (#[(0, 1), (1, 1)] : Array (Nat × Nat))[i]?) := fun _ => by kernel_rfl
theorem bt14 : BtOk Try.prog 14 [Go.Value.string { data := #[] }, Go.Value.int Go.IntKind.u64 0] (fun i => (#[(0, 1), (1, 1)] : Array (Nat × Nat))[i]?) := fun _ => by kernel_rfl
theorem bt18 : BtOk Try.prog 18 [Go.Value.pointer none] (fun i => (#[(0, 1)] : Array (Nat × Nat))[i]?) := fun _ => by kernel_rfl
theorem bt19 : BtOk Try.prog 19 [Go.Value.pointer none] (fun i => (#[(0, 1)] : Array (Nat × Nat))[i]?) := fun _ => by kernel_rfl
theorem sl22 : SlT Try.prog 22 3 := Try.underlying22
theorem sl23 : SlT Try.prog 23 48 := Try.underlying23
theorem sl24 : SlT Try.prog 24 51 := Try.underlying24
theorem bt25 : BtOk Try.prog 25 [Go.Value.slice none 0 0, Go.Value.slice none 0 0, Go.Value.slice none 0 0] (fun i => (#[(0, 1), (1, 1), (2, 1)] : Array (Nat × Nat))[i]?) := fun _ => by kernel_rfl
theorem bt26 : BtOk Try.prog 26 [Go.Value.slice none 0 0, Go.Value.slice none 0 0, Go.Value.slice none 0 0] (fun i => (#[(0, 1), (1, 1), (2, 1)] : Array (Nat × Nat))[i]?) := fun _ => by kernel_rfl
theorem sl34 : SlT Try.prog 34 61 := Try.underlying34
theorem sl35 : SlT Try.prog 35 41 := Try.underlying35
theorem bt40 : BtOk Try.prog 40 [Go.Value.int Go.IntKind.i64 0, Go.Value.int Go.IntKind.i64 0] (fun i => (#[(0, 1), (1, 1)] : Array (Nat × Nat))[i]?) := fun _ => by kernel_rfl
theorem bt41 : BtOk Try.prog 41 [Go.Value.int Go.IntKind.i64 0, Go.Value.int Go.IntKind.i64 0] (fun i => (#[(0, 1), (1, 1)] : Array (Nat × Nat))[i]?) := fun _ => by kernel_rfl
theorem sl46 : SlT Try.prog 46 49 := Try.underlying46
theorem bt47 : BtOk Try.prog 47 [Go.Value.int Go.IntKind.i64 0, Go.Value.int Go.IntKind.i64 0, Go.Value.slice none 0 0, Go.Value.int Go.IntKind.i64 0, Go.Value.int Go.IntKind.i64 0] (fun i => (#[(0, 1), (1, 1), (2, 1), (3, 1), (4, 1)] : Array (Nat × Nat))[i]?) := fun _ => by kernel_rfl
theorem bt48 : BtOk Try.prog 48 [Go.Value.int Go.IntKind.i64 0, Go.Value.int Go.IntKind.i64 0, Go.Value.slice none 0 0, Go.Value.int Go.IntKind.i64 0, Go.Value.int Go.IntKind.i64 0] (fun i => (#[(0, 1), (1, 1), (2, 1), (3, 1), (4, 1)] : Array (Nat × Nat))[i]?) := fun _ => by kernel_rfl
theorem bt50 : BtOk Try.prog 50 [Go.Value.int Go.IntKind.i64 0, Go.Value.int Go.IntKind.i64 0, Go.Value.int Go.IntKind.i64 0] (fun i => (#[(0, 1), (1, 1), (2, 1)] : Array (Nat × Nat))[i]?) := fun _ => by kernel_rfl
theorem bt51 : BtOk Try.prog 51 [Go.Value.int Go.IntKind.i64 0, Go.Value.int Go.IntKind.i64 0, Go.Value.int Go.IntKind.i64 0] (fun i => (#[(0, 1), (1, 1), (2, 1)] : Array (Nat × Nat))[i]?) := fun _ => by kernel_rfl
theorem sl53 : SlT Try.prog 53 5 := Try.underlying53
theorem sl58 : SlT Try.prog 58 62 := Try.underlying58
theorem bt60 : BtOk Try.prog 60 [Go.Value.int Go.IntKind.i64 0, Go.Value.int Go.IntKind.i64 0, Go.Value.int Go.IntKind.i64 0, Go.Value.int Go.IntKind.i64 0] (fun i => (#[(0, 2), (2, 2)] : Array (Nat × Nat))[i]?) := fun _ => by kernel_rfl
theorem bt61 : BtOk Try.prog 61 [Go.Value.int Go.IntKind.i64 0, Go.Value.int Go.IntKind.i64 0, Go.Value.int Go.IntKind.i64 0, Go.Value.int Go.IntKind.i64 0] (fun i => (#[(0, 2), (2, 2)] : Array (Nat × Nat))[i]?) := fun _ => by kernel_rfl
theorem sl71 : SlT Try.prog 71 22 := Try.underlying71
theorem bt74 : BtOk Try.prog 74 [Go.Value.int Go.IntKind.i64 0, Go.Value.int Go.IntKind.i64 0, Go.Value.int Go.IntKind.i64 0, Go.Value.int Go.IntKind.i64 0, Go.Value.int Go.IntKind.i64 0, Go.Value.int Go.IntKind.i64 0, Go.Value.int Go.IntKind.i64 0, Go.Value.int Go.IntKind.i64 0, Go.Value.int Go.IntKind.i64 0, Go.Value.int Go.IntKind.i64 0, Go.Value.int Go.IntKind.i64 0, Go.Value.int Go.IntKind.i64 0] (fun i => some (i * 2, 2)) := fun _ => by kernel_rfl
theorem bt75 : BtOk Try.prog 75 [Go.Value.int Go.IntKind.i64 0, Go.Value.int Go.IntKind.i64 0, Go.Value.int Go.IntKind.i64 0, Go.Value.int Go.IntKind.i64 0, Go.Value.int Go.IntKind.i64 0, Go.Value.int Go.IntKind.i64 0, Go.Value.int Go.IntKind.i64 0, Go.Value.int Go.IntKind.i64 0, Go.Value.int Go.IntKind.i64 0, Go.Value.int Go.IntKind.i64 0, Go.Value.int Go.IntKind.i64 0, Go.Value.int Go.IntKind.i64 0] (fun i => some (i * 2, 2)) := fun _ => by kernel_rfl
theorem sl82 : SlT Try.prog 82 4 := Try.underlying82
theorem sl98 : SlT Try.prog 98 51 := Try.underlying98
theorem bt130 : BtOk Try.prog 130 [Go.Value.pointer none, Go.Value.pointer none, Go.Value.pointer none, Go.Value.string { data := #[] }] (fun i => (#[(0, 1), (1, 1), (2, 1), (3, 1)] : Array (Nat × Nat))[i]?) := fun _ => by kernel_rfl
theorem bt131 : BtOk Try.prog 131 [Go.Value.pointer none, Go.Value.pointer none, Go.Value.pointer none, Go.Value.string { data := #[] }] (fun i => (#[(0, 1), (1, 1), (2, 1), (3, 1)] : Array (Nat × Nat))[i]?) := fun _ => by kernel_rfl
theorem bt133 : BtOk Try.prog 133 [] (fun i => (#[(0, 0)] : Array (Nat × Nat))[i]?) := fun _ => by kernel_rfl
theorem bt134 : BtOk Try.prog 134 [] (fun i => (#[(0, 0)] : Array (Nat × Nat))[i]?) := fun _ => by kernel_rfl
theorem fq2 : Flat Try.prog 1 2 1 false := flat_int Try.underlying2
theorem fq3 : Flat Try.prog 1 3 1 false := flat_int Try.underlying3
theorem fq29 : Flat Try.prog 1 29 1 false := flat_int Try.underlying29
theorem fq110 : Flat Try.prog 1 110 1 false := flat_int Try.underlying110
theorem fq40 : Flat Try.prog 2 40 2 true := flat_struct Try.underlying40 (by kernel_rfl) (.cons (by decide) rfl ty3 rfl (fq3.le rfl) (by decide) rfl (.cons (by decide) rfl ty3 rfl (fq3.le rfl) (by decide) rfl .nil))
theorem eg40 : Try.prog.eqGuardType Try.prog.depth 40 = false := by kernel_rfl
theorem fq41 : Flat Try.prog 2 41 2 true := flat_struct Try.underlying41 (by kernel_rfl) (.cons (by decide) rfl ty3 rfl (fq3.le rfl) (by decide) rfl (.cons (by decide) rfl ty3 rfl (fq3.le rfl) (by decide) rfl .nil))
theorem eg41 : Try.prog.eqGuardType Try.prog.depth 41 = false := by kernel_rfl
theorem fq50 : Flat Try.prog 2 50 3 true := flat_struct Try.underlying50 (by kernel_rfl) (.cons (by decide) rfl ty3 rfl (fq3.le rfl) (by decide) rfl (.cons (by decide) rfl ty3 rfl (fq3.le rfl) (by decide) rfl (.cons (by decide) rfl ty3 rfl (fq3.le rfl) (by decide) rfl .nil)))
theorem eg50 : Try.prog.eqGuardType Try.prog.depth 50 = false := by kernel_rfl
theorem fq51 : Flat Try.prog 2 51 3 true := flat_struct Try.underlying51 (by kernel_rfl) (.cons (by decide) rfl ty3 rfl (fq3.le rfl) (by decide) rfl (.cons (by decide) rfl ty3 rfl (fq3.le rfl) (by decide) rfl (.cons (by decide) rfl ty3 rfl (fq3.le rfl) (by decide) rfl .nil)))
theorem eg51 : Try.prog.eqGuardType Try.prog.depth 51 = false := by kernel_rfl
theorem fq60 : Flat Try.prog 3 60 4 true := flat_struct Try.underlying60 (by kernel_rfl) (.cons (by decide) rfl ty41 rfl (fq41.le rfl) (by decide) rfl (.cons (by decide) rfl ty41 rfl (fq41.le rfl) (by decide) rfl .nil))
theorem eg60 : Try.prog.eqGuardType Try.prog.depth 60 = false := by kernel_rfl
theorem fq61 : Flat Try.prog 3 61 4 true := flat_struct Try.underlying61 (by kernel_rfl) (.cons (by decide) rfl ty41 rfl (fq41.le rfl) (by decide) rfl (.cons (by decide) rfl ty41 rfl (fq41.le rfl) (by decide) rfl .nil))
theorem eg61 : Try.prog.eqGuardType Try.prog.depth 61 = false := by kernel_rfl
theorem fq74 : Flat Try.prog 3 74 12 true := flat_array Try.underlying74 ty41 fq41 (by decide) rfl
theorem eg74 : Try.prog.eqGuardType Try.prog.depth 74 = false := by kernel_rfl
theorem fq75 : Flat Try.prog 3 75 12 true := flat_array Try.underlying75 ty41 fq41 (by decide) rfl
theorem eg75 : Try.prog.eqGuardType Try.prog.depth 75 = false := by kernel_rfl
theorem mixed : Try.prog.follows .mixedOrders = true := by kernel_rfl
theorem hb3 : HasBody Try.prog 3 := Try.call3
theorem hb4 : HasBody Try.prog 4 := Try.call4
theorem hb5 : HasBody Try.prog 5 := Try.call5
theorem hb6 : HasBody Try.prog 6 := Try.call6
theorem hb7 : HasBody Try.prog 7 := Try.call7
theorem hb8 : HasBody Try.prog 8 := Try.call8
theorem hb9 : HasBody Try.prog 9 := Try.call9
theorem hb10 : HasBody Try.prog 10 := Try.call10
theorem hb11 : HasBody Try.prog 11 := Try.call11
theorem hb12 : HasBody Try.prog 12 := Try.call12
theorem hb13 : HasBody Try.prog 13 := Try.call13
theorem hb14 : HasBody Try.prog 14 := Try.call14
theorem hb15 : HasBody Try.prog 15 := Try.call15
theorem hb16 : HasBody Try.prog 16 := Try.call16
theorem hb17 : HasBody Try.prog 17 := Try.call17
theorem hb18 : HasBody Try.prog 18 := Try.call18
theorem hb19 : HasBody Try.prog 19 := Try.call19
theorem hb20 : HasBody Try.prog 20 := Try.call20
theorem hb21 : HasBody Try.prog 21 := Try.call21
theorem hb22 : HasBody Try.prog 22 := Try.call22
theorem hb23 : HasBody Try.prog 23 := Try.call23
theorem hb24 : HasBody Try.prog 24 := Try.call24
theorem hb25 : HasBody Try.prog 25 := Try.call25
theorem hb26 : HasBody Try.prog 26 := Try.call26
theorem hb27 : HasBody Try.prog 27 := Try.call27
theorem hb28 : HasBody Try.prog 28 := Try.call28
theorem hb29 : HasBody Try.prog 29 := Try.call29
theorem hb30 : HasBody Try.prog 30 := Try.call30
theorem hb31 : HasBody Try.prog 31 := Try.call31
theorem hb32 : HasBody Try.prog 32 := Try.call32
theorem hb33 : HasBody Try.prog 33 := Try.call33
theorem hb34 : HasBody Try.prog 34 := Try.call34
theorem hb35 : HasBody Try.prog 35 := Try.call35
theorem hb36 : HasBody Try.prog 36 := Try.call36
theorem hb37 : HasBody Try.prog 37 := Try.call37
theorem hb38 : HasBody Try.prog 38 := Try.call38
theorem hb39 : HasBody Try.prog 39 := Try.call39
theorem hb40 : HasBody Try.prog 40 := Try.call40
theorem hb41 : HasBody Try.prog 41 := Try.call41
theorem hb42 : HasBody Try.prog 42 := Try.call42
theorem hb43 : HasBody Try.prog 43 := Try.call43
theorem hb44 : HasBody Try.prog 44 := Try.call44
theorem hb45 : HasBody Try.prog 45 := Try.call45
theorem hb46 : HasBody Try.prog 46 := Try.call46
theorem hb47 : HasBody Try.prog 47 := Try.call47
theorem hb48 : HasBody Try.prog 48 := Try.call48
theorem hb49 : HasBody Try.prog 49 := Try.call49
theorem hb50 : HasBody Try.prog 50 := Try.call50
theorem hb51 : HasBody Try.prog 51 := Try.call51
theorem hb52 : HasBody Try.prog 52 := Try.call52
theorem hb53 : HasBody Try.prog 53 := Try.call53
theorem hb54 : HasBody Try.prog 54 := Try.call54
theorem hb55 : HasBody Try.prog 55 := Try.call55
theorem hb56 : HasBody Try.prog 56 := Try.call56
theorem hb57 : HasBody Try.prog 57 := Try.call57
theorem hb58 : HasBody Try.prog 58 := Try.call58
theorem hb59 : HasBody Try.prog 59 := Try.call59
theorem hb60 : HasBody Try.prog 60 := Try.call60
theorem hb61 : HasBody Try.prog 61 := Try.call61
theorem hb62 : HasBody Try.prog 62 := Try.call62
theorem hb63 : HasBody Try.prog 63 := Try.call63
theorem hb64 : HasBody Try.prog 64 := Try.call64
theorem hb65 : HasBody Try.prog 65 := Try.call65
theorem hb66 : HasBody Try.prog 66 := Try.call66
theorem hb67 : HasBody Try.prog 67 := Try.call67
theorem hb68 : HasBody Try.prog 68 := Try.call68
theorem hb69 : HasBody Try.prog 69 := Try.call69
theorem hb70 : HasBody Try.prog 70 := Try.call70
theorem hb71 : HasBody Try.prog 71 := Try.call71
theorem hb72 : HasBody Try.prog 72 := Try.call72
theorem hb73 : HasBody Try.prog 73 := Try.call73
theorem hb74 : HasBody Try.prog 74 := Try.call74
theorem hb75 : HasBody Try.prog 75 := Try.call75
theorem hb76 : HasBody Try.prog 76 := Try.call76
end Go.Proofs.Ytlailecnbdlknaa
