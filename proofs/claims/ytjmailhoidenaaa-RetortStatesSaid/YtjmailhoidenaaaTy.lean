/-
  Facts on the types and functions of this seat.
-/
import Derived.Test.YtjmailhoidenaaaH17
import Derived.Test.YtjmailhoidenaaaProg
import Derived.KernelRfl
set_option linter.all false
namespace Go.Proofs.Ytjmailhoidenaaa
open Go.H
open Go
theorem ty0 : TyOk Try.prog 0 ⟨1, 0, (Go.TypeDesc.tuple #[]), (Go.Value.tuple #[])⟩ := ⟨Try.underlying0, by kernel_rfl⟩
theorem ty1 : TyOk Try.prog 1 ⟨1, 8, (Go.TypeDesc.func #[] #[] false), Go.Value.nilFunc⟩ := ⟨Try.underlying1, by kernel_rfl⟩
theorem ty2 : TyOk Try.prog 2 ⟨1, 8, (Go.TypeDesc.int Go.IntKind.i64), (Go.Value.int Go.IntKind.i64 0)⟩ := ⟨Try.underlying2, by kernel_rfl⟩
theorem ty3 : TyOk Try.prog 3 ⟨1, 8, (Go.TypeDesc.int Go.IntKind.i64), (Go.Value.int Go.IntKind.i64 0)⟩ := ⟨Try.underlying3, by kernel_rfl⟩
theorem ty4 : TyOk Try.prog 4 ⟨1, 1, Go.TypeDesc.bool, (Go.Value.bool false)⟩ := ⟨Try.underlying4, by kernel_rfl⟩
theorem ty5 : TyOk Try.prog 5 ⟨1, 1, (Go.TypeDesc.int Go.IntKind.u8), (Go.Value.int Go.IntKind.u8 0)⟩ := ⟨Try.underlying5, by kernel_rfl⟩
theorem ty6 : TyOk Try.prog 6 ⟨1, 1, (Go.TypeDesc.int Go.IntKind.u8), (Go.Value.int Go.IntKind.u8 0)⟩ := ⟨Try.underlying6, by kernel_rfl⟩
theorem ty7 : TyOk Try.prog 7 ⟨4, 24, (Go.TypeDesc.struct #[{ name := "x", type := 2, offset := 0, embedded := false, tag := "", pkgPath := "runtime", byteOffset := 0 }, { name := "y", type := 3, offset := 1, embedded := false, tag := "", pkgPath := "runtime", byteOffset := 8 }, { name := "signed", type := 4, offset := 2, embedded := false, tag := "", pkgPath := "runtime", byteOffset := 16 }, { name := "code", type := 6, offset := 3, embedded := false, tag := "", pkgPath := "runtime", byteOffset := 17 }]), (Go.Value.agg #[Go.Value.int Go.IntKind.i64 0, Go.Value.int Go.IntKind.i64 0, Go.Value.bool false, Go.Value.int Go.IntKind.u8 0])⟩ := ⟨Try.underlying7, by kernel_rfl⟩
theorem ty8 : TyOk Try.prog 8 ⟨4, 24, (Go.TypeDesc.struct #[{ name := "x", type := 2, offset := 0, embedded := false, tag := "", pkgPath := "runtime", byteOffset := 0 }, { name := "y", type := 3, offset := 1, embedded := false, tag := "", pkgPath := "runtime", byteOffset := 8 }, { name := "signed", type := 4, offset := 2, embedded := false, tag := "", pkgPath := "runtime", byteOffset := 16 }, { name := "code", type := 6, offset := 3, embedded := false, tag := "", pkgPath := "runtime", byteOffset := 17 }]), (Go.Value.agg #[Go.Value.int Go.IntKind.i64 0, Go.Value.int Go.IntKind.i64 0, Go.Value.bool false, Go.Value.int Go.IntKind.u8 0])⟩ := ⟨Try.underlying8, by kernel_rfl⟩
theorem ty9 : TyOk Try.prog 9 ⟨1, 16, Go.TypeDesc.string, (Go.Value.string { data := #[] })⟩ := ⟨Try.underlying9, by kernel_rfl⟩
theorem ty10 : TyOk Try.prog 10 ⟨1, 16, Go.TypeDesc.string, (Go.Value.string { data := #[] })⟩ := ⟨Try.underlying10, by kernel_rfl⟩
theorem ty11 : TyOk Try.prog 11 ⟨1, 16, Go.TypeDesc.string, (Go.Value.string { data := #[] })⟩ := ⟨Try.underlying11, by kernel_rfl⟩
theorem ty12 : TyOk Try.prog 12 ⟨1, 8, (Go.TypeDesc.int Go.IntKind.u64), (Go.Value.int Go.IntKind.u64 0)⟩ := ⟨Try.underlying12, by kernel_rfl⟩
theorem ty13 : TyOk Try.prog 13 ⟨2, 24, (Go.TypeDesc.struct #[{ name := "msg", type := 9, offset := 0, embedded := false, tag := "", pkgPath := "runtime", byteOffset := 0 }, { name := "addr", type := 12, offset := 1, embedded := false, tag := "", pkgPath := "runtime", byteOffset := 16 }]), (Go.Value.agg #[Go.Value.string { data := #[] }, Go.Value.int Go.IntKind.u64 0])⟩ := ⟨Try.underlying13, by kernel_rfl⟩
theorem ty14 : TyOk Try.prog 14 ⟨2, 24, (Go.TypeDesc.struct #[{ name := "msg", type := 9, offset := 0, embedded := false, tag := "", pkgPath := "runtime", byteOffset := 0 }, { name := "addr", type := 12, offset := 1, embedded := false, tag := "", pkgPath := "runtime", byteOffset := 16 }]), (Go.Value.agg #[Go.Value.string { data := #[] }, Go.Value.int Go.IntKind.u64 0])⟩ := ⟨Try.underlying14, by kernel_rfl⟩
theorem ty15 : TyOk Try.prog 15 ⟨1, 8, (Go.TypeDesc.pointer 98), (Go.Value.pointer none)⟩ := ⟨Try.underlying15, by kernel_rfl⟩
theorem ty16 : TyOk Try.prog 16 ⟨1, 8, (Go.TypeDesc.pointer 101), (Go.Value.pointer none)⟩ := ⟨Try.underlying16, by kernel_rfl⟩
theorem ty17 : TyOk Try.prog 17 ⟨1, 8, (Go.TypeDesc.pointer 111), (Go.Value.pointer none)⟩ := ⟨Try.underlying17, by kernel_rfl⟩
theorem ty18 : TyOk Try.prog 18 ⟨1, 8, (Go.TypeDesc.struct #[{ name := "typ", type := 17, offset := 0, embedded := false, tag := "", pkgPath := "internal/runtime/maps", byteOffset := 0 }]), (Go.Value.agg #[Go.Value.pointer none])⟩ := ⟨Try.underlying18, by kernel_rfl⟩
theorem ty19 : TyOk Try.prog 19 ⟨1, 8, (Go.TypeDesc.struct #[{ name := "typ", type := 17, offset := 0, embedded := false, tag := "", pkgPath := "internal/runtime/maps", byteOffset := 0 }]), (Go.Value.agg #[Go.Value.pointer none])⟩ := ⟨Try.underlying19, by kernel_rfl⟩
theorem ty20 : TyOk Try.prog 20 ⟨1, 16, (Go.TypeDesc.interface #[]), Go.Value.nilIface⟩ := ⟨Try.underlying20, by kernel_rfl⟩
theorem ty21 : TyOk Try.prog 21 ⟨1, 4, (Go.TypeDesc.int Go.IntKind.i32), (Go.Value.int Go.IntKind.i32 0)⟩ := ⟨Try.underlying21, by kernel_rfl⟩
theorem ty22 : TyOk Try.prog 22 ⟨1, 24, (Go.TypeDesc.slice 38), (Go.Value.slice none 0 0)⟩ := ⟨Try.underlying22, by kernel_rfl⟩
theorem ty23 : TyOk Try.prog 23 ⟨6, 64, (Go.TypeDesc.struct #[{ name := "Curve", type := 22, offset := 0, embedded := false, tag := "", pkgPath := "", byteOffset := 0 }, { name := "Least", type := 3, offset := 1, embedded := false, tag := "", pkgPath := "", byteOffset := 24 }, { name := "Runs", type := 3, offset := 2, embedded := false, tag := "", pkgPath := "", byteOffset := 32 }, { name := "Scurf", type := 3, offset := 3, embedded := false, tag := "", pkgPath := "", byteOffset := 40 }, { name := "Coolings", type := 3, offset := 4, embedded := false, tag := "", pkgPath := "", byteOffset := 48 }, { name := "Gang", type := 3, offset := 5, embedded := false, tag := "", pkgPath := "", byteOffset := 56 }]), (Go.Value.agg #[Go.Value.slice none 0 0, Go.Value.int Go.IntKind.i64 0, Go.Value.int Go.IntKind.i64 0, Go.Value.int Go.IntKind.i64 0, Go.Value.int Go.IntKind.i64 0, Go.Value.int Go.IntKind.i64 0])⟩ := ⟨Try.underlying23, by kernel_rfl⟩
theorem ty24 : TyOk Try.prog 24 ⟨6, 64, (Go.TypeDesc.struct #[{ name := "Curve", type := 22, offset := 0, embedded := false, tag := "", pkgPath := "", byteOffset := 0 }, { name := "Least", type := 3, offset := 1, embedded := false, tag := "", pkgPath := "", byteOffset := 24 }, { name := "Runs", type := 3, offset := 2, embedded := false, tag := "", pkgPath := "", byteOffset := 32 }, { name := "Scurf", type := 3, offset := 3, embedded := false, tag := "", pkgPath := "", byteOffset := 40 }, { name := "Coolings", type := 3, offset := 4, embedded := false, tag := "", pkgPath := "", byteOffset := 48 }, { name := "Gang", type := 3, offset := 5, embedded := false, tag := "", pkgPath := "", byteOffset := 56 }]), (Go.Value.agg #[Go.Value.slice none 0 0, Go.Value.int Go.IntKind.i64 0, Go.Value.int Go.IntKind.i64 0, Go.Value.int Go.IntKind.i64 0, Go.Value.int Go.IntKind.i64 0, Go.Value.int Go.IntKind.i64 0])⟩ := ⟨Try.underlying24, by kernel_rfl⟩
theorem ty25 : TyOk Try.prog 25 ⟨1, 24, (Go.TypeDesc.slice 48), (Go.Value.slice none 0 0)⟩ := ⟨Try.underlying25, by kernel_rfl⟩
theorem ty26 : TyOk Try.prog 26 ⟨1, 8, (Go.TypeDesc.func #[24, 25] #[4] false), Go.Value.nilFunc⟩ := ⟨Try.underlying26, by kernel_rfl⟩
theorem ty27 : TyOk Try.prog 27 ⟨1, 8, (Go.TypeDesc.func #[] #[4] false), Go.Value.nilFunc⟩ := ⟨Try.underlying27, by kernel_rfl⟩
theorem ty28 : TyOk Try.prog 28 ⟨5, 40, (Go.TypeDesc.struct #[{ name := "State", type := 3, offset := 0, embedded := false, tag := "", pkgPath := "", byteOffset := 0 }, { name := "Since", type := 3, offset := 1, embedded := false, tag := "", pkgPath := "", byteOffset := 8 }, { name := "Tons", type := 3, offset := 2, embedded := false, tag := "", pkgPath := "", byteOffset := 16 }, { name := "Runs", type := 3, offset := 3, embedded := false, tag := "", pkgPath := "", byteOffset := 24 }, { name := "Coolings", type := 3, offset := 4, embedded := false, tag := "", pkgPath := "", byteOffset := 32 }]), (Go.Value.agg #[Go.Value.int Go.IntKind.i64 0, Go.Value.int Go.IntKind.i64 0, Go.Value.int Go.IntKind.i64 0, Go.Value.int Go.IntKind.i64 0, Go.Value.int Go.IntKind.i64 0])⟩ := ⟨Try.underlying28, by kernel_rfl⟩
theorem ty29 : TyOk Try.prog 29 ⟨5, 40, (Go.TypeDesc.struct #[{ name := "State", type := 3, offset := 0, embedded := false, tag := "", pkgPath := "", byteOffset := 0 }, { name := "Since", type := 3, offset := 1, embedded := false, tag := "", pkgPath := "", byteOffset := 8 }, { name := "Tons", type := 3, offset := 2, embedded := false, tag := "", pkgPath := "", byteOffset := 16 }, { name := "Runs", type := 3, offset := 3, embedded := false, tag := "", pkgPath := "", byteOffset := 24 }, { name := "Coolings", type := 3, offset := 4, embedded := false, tag := "", pkgPath := "", byteOffset := 32 }]), (Go.Value.agg #[Go.Value.int Go.IntKind.i64 0, Go.Value.int Go.IntKind.i64 0, Go.Value.int Go.IntKind.i64 0, Go.Value.int Go.IntKind.i64 0, Go.Value.int Go.IntKind.i64 0])⟩ := ⟨Try.underlying29, by kernel_rfl⟩
theorem ty30 : TyOk Try.prog 30 ⟨40, 320, (Go.TypeDesc.array 8 29), (Go.Value.agg #[Go.Value.int Go.IntKind.i64 0, Go.Value.int Go.IntKind.i64 0, Go.Value.int Go.IntKind.i64 0, Go.Value.int Go.IntKind.i64 0, Go.Value.int Go.IntKind.i64 0, Go.Value.int Go.IntKind.i64 0, Go.Value.int Go.IntKind.i64 0, Go.Value.int Go.IntKind.i64 0, Go.Value.int Go.IntKind.i64 0, Go.Value.int Go.IntKind.i64 0, Go.Value.int Go.IntKind.i64 0, Go.Value.int Go.IntKind.i64 0, Go.Value.int Go.IntKind.i64 0, Go.Value.int Go.IntKind.i64 0, Go.Value.int Go.IntKind.i64 0, Go.Value.int Go.IntKind.i64 0, Go.Value.int Go.IntKind.i64 0, Go.Value.int Go.IntKind.i64 0, Go.Value.int Go.IntKind.i64 0, Go.Value.int Go.IntKind.i64 0, Go.Value.int Go.IntKind.i64 0, Go.Value.int Go.IntKind.i64 0, Go.Value.int Go.IntKind.i64 0, Go.Value.int Go.IntKind.i64 0, Go.Value.int Go.IntKind.i64 0, Go.Value.int Go.IntKind.i64 0, Go.Value.int Go.IntKind.i64 0, Go.Value.int Go.IntKind.i64 0, Go.Value.int Go.IntKind.i64 0, Go.Value.int Go.IntKind.i64 0, Go.Value.int Go.IntKind.i64 0, Go.Value.int Go.IntKind.i64 0, Go.Value.int Go.IntKind.i64 0, Go.Value.int Go.IntKind.i64 0, Go.Value.int Go.IntKind.i64 0, Go.Value.int Go.IntKind.i64 0, Go.Value.int Go.IntKind.i64 0, Go.Value.int Go.IntKind.i64 0, Go.Value.int Go.IntKind.i64 0, Go.Value.int Go.IntKind.i64 0])⟩ := ⟨Try.underlying30, by kernel_rfl⟩
theorem ty31 : TyOk Try.prog 31 ⟨1, 8, (Go.TypeDesc.int Go.IntKind.i64), (Go.Value.int Go.IntKind.i64 0)⟩ := ⟨Try.underlying31, by kernel_rfl⟩
theorem ty32 : TyOk Try.prog 32 ⟨1, 0, (Go.TypeDesc.tuple #[30, 3, 31]), (Go.Value.tuple #[Go.Value.agg #[Go.Value.int Go.IntKind.i64 0, Go.Value.int Go.IntKind.i64 0, Go.Value.int Go.IntKind.i64 0, Go.Value.int Go.IntKind.i64 0, Go.Value.int Go.IntKind.i64 0, Go.Value.int Go.IntKind.i64 0, Go.Value.int Go.IntKind.i64 0, Go.Value.int Go.IntKind.i64 0, Go.Value.int Go.IntKind.i64 0, Go.Value.int Go.IntKind.i64 0, Go.Value.int Go.IntKind.i64 0, Go.Value.int Go.IntKind.i64 0, Go.Value.int Go.IntKind.i64 0, Go.Value.int Go.IntKind.i64 0, Go.Value.int Go.IntKind.i64 0, Go.Value.int Go.IntKind.i64 0, Go.Value.int Go.IntKind.i64 0, Go.Value.int Go.IntKind.i64 0, Go.Value.int Go.IntKind.i64 0, Go.Value.int Go.IntKind.i64 0, Go.Value.int Go.IntKind.i64 0, Go.Value.int Go.IntKind.i64 0, Go.Value.int Go.IntKind.i64 0, Go.Value.int Go.IntKind.i64 0, Go.Value.int Go.IntKind.i64 0, Go.Value.int Go.IntKind.i64 0, Go.Value.int Go.IntKind.i64 0, Go.Value.int Go.IntKind.i64 0, Go.Value.int Go.IntKind.i64 0, Go.Value.int Go.IntKind.i64 0, Go.Value.int Go.IntKind.i64 0, Go.Value.int Go.IntKind.i64 0, Go.Value.int Go.IntKind.i64 0, Go.Value.int Go.IntKind.i64 0, Go.Value.int Go.IntKind.i64 0, Go.Value.int Go.IntKind.i64 0, Go.Value.int Go.IntKind.i64 0, Go.Value.int Go.IntKind.i64 0, Go.Value.int Go.IntKind.i64 0, Go.Value.int Go.IntKind.i64 0], Go.Value.int Go.IntKind.i64 0, Go.Value.int Go.IntKind.i64 0])⟩ := ⟨Try.underlying32, by kernel_rfl⟩
theorem ty33 : TyOk Try.prog 33 ⟨1, 8, (Go.TypeDesc.func #[24, 25] #[30, 3, 31] false), Go.Value.nilFunc⟩ := ⟨Try.underlying33, by kernel_rfl⟩
theorem ty34 : TyOk Try.prog 34 ⟨1, 0, (Go.TypeDesc.tuple #[3, 31]), (Go.Value.tuple #[Go.Value.int Go.IntKind.i64 0, Go.Value.int Go.IntKind.i64 0])⟩ := ⟨Try.underlying34, by kernel_rfl⟩
theorem ty35 : TyOk Try.prog 35 ⟨1, 8, (Go.TypeDesc.func #[24, 25, 3] #[3, 31] false), Go.Value.nilFunc⟩ := ⟨Try.underlying35, by kernel_rfl⟩
theorem ty36 : TyOk Try.prog 36 ⟨1, 8, (Go.TypeDesc.func #[24, 25, 3] #[4] false), Go.Value.nilFunc⟩ := ⟨Try.underlying36, by kernel_rfl⟩
theorem ty37 : TyOk Try.prog 37 ⟨2, 16, (Go.TypeDesc.struct #[{ name := "Lo", type := 3, offset := 0, embedded := false, tag := "", pkgPath := "", byteOffset := 0 }, { name := "Hi", type := 3, offset := 1, embedded := false, tag := "", pkgPath := "", byteOffset := 8 }]), (Go.Value.agg #[Go.Value.int Go.IntKind.i64 0, Go.Value.int Go.IntKind.i64 0])⟩ := ⟨Try.underlying37, by kernel_rfl⟩
theorem ty38 : TyOk Try.prog 38 ⟨2, 16, (Go.TypeDesc.struct #[{ name := "Lo", type := 3, offset := 0, embedded := false, tag := "", pkgPath := "", byteOffset := 0 }, { name := "Hi", type := 3, offset := 1, embedded := false, tag := "", pkgPath := "", byteOffset := 8 }]), (Go.Value.agg #[Go.Value.int Go.IntKind.i64 0, Go.Value.int Go.IntKind.i64 0])⟩ := ⟨Try.underlying38, by kernel_rfl⟩
theorem ty39 : TyOk Try.prog 39 ⟨1, 0, (Go.TypeDesc.tuple #[38, 31]), (Go.Value.tuple #[Go.Value.agg #[Go.Value.int Go.IntKind.i64 0, Go.Value.int Go.IntKind.i64 0], Go.Value.int Go.IntKind.i64 0])⟩ := ⟨Try.underlying39, by kernel_rfl⟩
theorem ty40 : TyOk Try.prog 40 ⟨1, 8, (Go.TypeDesc.func #[24, 25, 3, 3] #[38, 31] false), Go.Value.nilFunc⟩ := ⟨Try.underlying40, by kernel_rfl⟩
theorem ty41 : TyOk Try.prog 41 ⟨1, 0, (Go.TypeDesc.tuple #[3, 38, 31]), (Go.Value.tuple #[Go.Value.int Go.IntKind.i64 0, Go.Value.agg #[Go.Value.int Go.IntKind.i64 0, Go.Value.int Go.IntKind.i64 0], Go.Value.int Go.IntKind.i64 0])⟩ := ⟨Try.underlying41, by kernel_rfl⟩
theorem ty42 : TyOk Try.prog 42 ⟨1, 8, (Go.TypeDesc.func #[24, 25] #[3, 38, 31] false), Go.Value.nilFunc⟩ := ⟨Try.underlying42, by kernel_rfl⟩
theorem ty43 : TyOk Try.prog 43 ⟨1, 8, (Go.TypeDesc.func #[24, 25, 3, 3] #[4] false), Go.Value.nilFunc⟩ := ⟨Try.underlying43, by kernel_rfl⟩
theorem ty44 : TyOk Try.prog 44 ⟨1, 2, (Go.TypeDesc.int Go.IntKind.u16), (Go.Value.int Go.IntKind.u16 0)⟩ := ⟨Try.underlying44, by kernel_rfl⟩
theorem ty45 : TyOk Try.prog 45 ⟨1, 8, (Go.TypeDesc.func #[24] #[4] false), Go.Value.nilFunc⟩ := ⟨Try.underlying45, by kernel_rfl⟩
theorem ty46 : TyOk Try.prog 46 ⟨8, 64, (Go.TypeDesc.array 8 3), (Go.Value.agg #[Go.Value.int Go.IntKind.i64 0, Go.Value.int Go.IntKind.i64 0, Go.Value.int Go.IntKind.i64 0, Go.Value.int Go.IntKind.i64 0, Go.Value.int Go.IntKind.i64 0, Go.Value.int Go.IntKind.i64 0, Go.Value.int Go.IntKind.i64 0, Go.Value.int Go.IntKind.i64 0])⟩ := ⟨Try.underlying46, by kernel_rfl⟩
theorem ty47 : TyOk Try.prog 47 ⟨4, 32, (Go.TypeDesc.struct #[{ name := "Hour", type := 3, offset := 0, embedded := false, tag := "", pkgPath := "", byteOffset := 0 }, { name := "Retort", type := 3, offset := 1, embedded := false, tag := "", pkgPath := "", byteOffset := 8 }, { name := "Kind", type := 3, offset := 2, embedded := false, tag := "", pkgPath := "", byteOffset := 16 }, { name := "Tons", type := 3, offset := 3, embedded := false, tag := "", pkgPath := "", byteOffset := 24 }]), (Go.Value.agg #[Go.Value.int Go.IntKind.i64 0, Go.Value.int Go.IntKind.i64 0, Go.Value.int Go.IntKind.i64 0, Go.Value.int Go.IntKind.i64 0])⟩ := ⟨Try.underlying47, by kernel_rfl⟩
theorem ty48 : TyOk Try.prog 48 ⟨4, 32, (Go.TypeDesc.struct #[{ name := "Hour", type := 3, offset := 0, embedded := false, tag := "", pkgPath := "", byteOffset := 0 }, { name := "Retort", type := 3, offset := 1, embedded := false, tag := "", pkgPath := "", byteOffset := 8 }, { name := "Kind", type := 3, offset := 2, embedded := false, tag := "", pkgPath := "", byteOffset := 16 }, { name := "Tons", type := 3, offset := 3, embedded := false, tag := "", pkgPath := "", byteOffset := 24 }]), (Go.Value.agg #[Go.Value.int Go.IntKind.i64 0, Go.Value.int Go.IntKind.i64 0, Go.Value.int Go.IntKind.i64 0, Go.Value.int Go.IntKind.i64 0])⟩ := ⟨Try.underlying48, by kernel_rfl⟩
theorem ty49 : TyOk Try.prog 49 ⟨1, 8, (Go.TypeDesc.func #[3, 3] #[38] false), Go.Value.nilFunc⟩ := ⟨Try.underlying49, by kernel_rfl⟩
theorem ty50 : TyOk Try.prog 50 ⟨1, 8, (Go.TypeDesc.func #[24, 25, 44, 44] #[4] false), Go.Value.nilFunc⟩ := ⟨Try.underlying50, by kernel_rfl⟩
theorem ty51 : TyOk Try.prog 51 ⟨1, 8, (Go.TypeDesc.func #[24, 25, 5, 5, 44] #[4] false), Go.Value.nilFunc⟩ := ⟨Try.underlying51, by kernel_rfl⟩
theorem ty52 : TyOk Try.prog 52 ⟨1, 24, (Go.TypeDesc.slice 5), (Go.Value.slice none 0 0)⟩ := ⟨Try.underlying52, by kernel_rfl⟩
theorem ty53 : TyOk Try.prog 53 ⟨1, 8, (Go.TypeDesc.func #[3, 3, 3] #[] false), Go.Value.nilFunc⟩ := ⟨Try.underlying53, by kernel_rfl⟩
theorem ty54 : TyOk Try.prog 54 ⟨1, 8, (Go.TypeDesc.func #[24, 25, 3, 52] #[4] false), Go.Value.nilFunc⟩ := ⟨Try.underlying54, by kernel_rfl⟩
theorem ty55 : TyOk Try.prog 55 ⟨1, 0, (Go.TypeDesc.tuple #[24, 25]), (Go.Value.tuple #[Go.Value.agg #[Go.Value.slice none 0 0, Go.Value.int Go.IntKind.i64 0, Go.Value.int Go.IntKind.i64 0, Go.Value.int Go.IntKind.i64 0, Go.Value.int Go.IntKind.i64 0, Go.Value.int Go.IntKind.i64 0], Go.Value.slice none 0 0])⟩ := ⟨Try.underlying55, by kernel_rfl⟩
theorem ty56 : TyOk Try.prog 56 ⟨1, 8, (Go.TypeDesc.func #[] #[24, 25] false), Go.Value.nilFunc⟩ := ⟨Try.underlying56, by kernel_rfl⟩
theorem ty57 : TyOk Try.prog 57 ⟨1, 8, (Go.TypeDesc.pointer 63), (Go.Value.pointer none)⟩ := ⟨Try.underlying57, by kernel_rfl⟩
theorem ty58 : TyOk Try.prog 58 ⟨1, 0, (Go.TypeDesc.tuple #[57, 3, 31]), (Go.Value.tuple #[Go.Value.pointer none, Go.Value.int Go.IntKind.i64 0, Go.Value.int Go.IntKind.i64 0])⟩ := ⟨Try.underlying58, by kernel_rfl⟩
theorem ty59 : TyOk Try.prog 59 ⟨1, 8, (Go.TypeDesc.func #[24, 25] #[57, 3, 31] false), Go.Value.nilFunc⟩ := ⟨Try.underlying59, by kernel_rfl⟩
theorem ty60 : TyOk Try.prog 60 ⟨1, 8, (Go.TypeDesc.map 3 3), (Go.Value.map none)⟩ := ⟨Try.underlying60, by kernel_rfl⟩
theorem ty61 : TyOk Try.prog 61 ⟨1, 24, (Go.TypeDesc.slice 86), (Go.Value.slice none 0 0)⟩ := ⟨Try.underlying61, by kernel_rfl⟩
theorem ty62 : TyOk Try.prog 62 ⟨57, 488, (Go.TypeDesc.struct #[{ name := "House", type := 24, offset := 0, embedded := true, tag := "", pkgPath := "", byteOffset := 0 }, { name := "ovens", type := 30, offset := 6, embedded := false, tag := "", pkgPath := "gasworks/retort", byteOffset := 64 }, { name := "done", type := 60, offset := 46, embedded := false, tag := "", pkgPath := "gasworks/retort", byteOffset := 384 }, { name := "last", type := 3, offset := 47, embedded := false, tag := "", pkgPath := "gasworks/retort", byteOffset := 392 }, { name := "runs", type := 61, offset := 48, embedded := false, tag := "", pkgPath := "gasworks/retort", byteOffset := 400 }, { name := "open", type := 46, offset := 49, embedded := false, tag := "", pkgPath := "gasworks/retort", byteOffset := 424 }]), (Go.Value.agg #[Go.Value.slice none 0 0, Go.Value.int Go.IntKind.i64 0, Go.Value.int Go.IntKind.i64 0, Go.Value.int Go.IntKind.i64 0, Go.Value.int Go.IntKind.i64 0, Go.Value.int Go.IntKind.i64 0, Go.Value.int Go.IntKind.i64 0, Go.Value.int Go.IntKind.i64 0, Go.Value.int Go.IntKind.i64 0, Go.Value.int Go.IntKind.i64 0, Go.Value.int Go.IntKind.i64 0, Go.Value.int Go.IntKind.i64 0, Go.Value.int Go.IntKind.i64 0, Go.Value.int Go.IntKind.i64 0, Go.Value.int Go.IntKind.i64 0, Go.Value.int Go.IntKind.i64 0, Go.Value.int Go.IntKind.i64 0, Go.Value.int Go.IntKind.i64 0, Go.Value.int Go.IntKind.i64 0, Go.Value.int Go.IntKind.i64 0, Go.Value.int Go.IntKind.i64 0, Go.Value.int Go.IntKind.i64 0, Go.Value.int Go.IntKind.i64 0, Go.Value.int Go.IntKind.i64 0, Go.Value.int Go.IntKind.i64 0, Go.Value.int Go.IntKind.i64 0, Go.Value.int Go.IntKind.i64 0, Go.Value.int Go.IntKind.i64 0, Go.Value.int Go.IntKind.i64 0, Go.Value.int Go.IntKind.i64 0, Go.Value.int Go.IntKind.i64 0, Go.Value.int Go.IntKind.i64 0, Go.Value.int Go.IntKind.i64 0, Go.Value.int Go.IntKind.i64 0, Go.Value.int Go.IntKind.i64 0, Go.Value.int Go.IntKind.i64 0, Go.Value.int Go.IntKind.i64 0, Go.Value.int Go.IntKind.i64 0, Go.Value.int Go.IntKind.i64 0, Go.Value.int Go.IntKind.i64 0, Go.Value.int Go.IntKind.i64 0, Go.Value.int Go.IntKind.i64 0, Go.Value.int Go.IntKind.i64 0, Go.Value.int Go.IntKind.i64 0, Go.Value.int Go.IntKind.i64 0, Go.Value.int Go.IntKind.i64 0, Go.Value.map none, Go.Value.int Go.IntKind.i64 0, Go.Value.slice none 0 0, Go.Value.int Go.IntKind.i64 0, Go.Value.int Go.IntKind.i64 0, Go.Value.int Go.IntKind.i64 0, Go.Value.int Go.IntKind.i64 0, Go.Value.int Go.IntKind.i64 0, Go.Value.int Go.IntKind.i64 0, Go.Value.int Go.IntKind.i64 0, Go.Value.int Go.IntKind.i64 0])⟩ := ⟨Try.underlying62, by kernel_rfl⟩
theorem ty63 : TyOk Try.prog 63 ⟨57, 488, (Go.TypeDesc.struct #[{ name := "House", type := 24, offset := 0, embedded := true, tag := "", pkgPath := "", byteOffset := 0 }, { name := "ovens", type := 30, offset := 6, embedded := false, tag := "", pkgPath := "gasworks/retort", byteOffset := 64 }, { name := "done", type := 60, offset := 46, embedded := false, tag := "", pkgPath := "gasworks/retort", byteOffset := 384 }, { name := "last", type := 3, offset := 47, embedded := false, tag := "", pkgPath := "gasworks/retort", byteOffset := 392 }, { name := "runs", type := 61, offset := 48, embedded := false, tag := "", pkgPath := "gasworks/retort", byteOffset := 400 }, { name := "open", type := 46, offset := 49, embedded := false, tag := "", pkgPath := "gasworks/retort", byteOffset := 424 }]), (Go.Value.agg #[Go.Value.slice none 0 0, Go.Value.int Go.IntKind.i64 0, Go.Value.int Go.IntKind.i64 0, Go.Value.int Go.IntKind.i64 0, Go.Value.int Go.IntKind.i64 0, Go.Value.int Go.IntKind.i64 0, Go.Value.int Go.IntKind.i64 0, Go.Value.int Go.IntKind.i64 0, Go.Value.int Go.IntKind.i64 0, Go.Value.int Go.IntKind.i64 0, Go.Value.int Go.IntKind.i64 0, Go.Value.int Go.IntKind.i64 0, Go.Value.int Go.IntKind.i64 0, Go.Value.int Go.IntKind.i64 0, Go.Value.int Go.IntKind.i64 0, Go.Value.int Go.IntKind.i64 0, Go.Value.int Go.IntKind.i64 0, Go.Value.int Go.IntKind.i64 0, Go.Value.int Go.IntKind.i64 0, Go.Value.int Go.IntKind.i64 0, Go.Value.int Go.IntKind.i64 0, Go.Value.int Go.IntKind.i64 0, Go.Value.int Go.IntKind.i64 0, Go.Value.int Go.IntKind.i64 0, Go.Value.int Go.IntKind.i64 0, Go.Value.int Go.IntKind.i64 0, Go.Value.int Go.IntKind.i64 0, Go.Value.int Go.IntKind.i64 0, Go.Value.int Go.IntKind.i64 0, Go.Value.int Go.IntKind.i64 0, Go.Value.int Go.IntKind.i64 0, Go.Value.int Go.IntKind.i64 0, Go.Value.int Go.IntKind.i64 0, Go.Value.int Go.IntKind.i64 0, Go.Value.int Go.IntKind.i64 0, Go.Value.int Go.IntKind.i64 0, Go.Value.int Go.IntKind.i64 0, Go.Value.int Go.IntKind.i64 0, Go.Value.int Go.IntKind.i64 0, Go.Value.int Go.IntKind.i64 0, Go.Value.int Go.IntKind.i64 0, Go.Value.int Go.IntKind.i64 0, Go.Value.int Go.IntKind.i64 0, Go.Value.int Go.IntKind.i64 0, Go.Value.int Go.IntKind.i64 0, Go.Value.int Go.IntKind.i64 0, Go.Value.map none, Go.Value.int Go.IntKind.i64 0, Go.Value.slice none 0 0, Go.Value.int Go.IntKind.i64 0, Go.Value.int Go.IntKind.i64 0, Go.Value.int Go.IntKind.i64 0, Go.Value.int Go.IntKind.i64 0, Go.Value.int Go.IntKind.i64 0, Go.Value.int Go.IntKind.i64 0, Go.Value.int Go.IntKind.i64 0, Go.Value.int Go.IntKind.i64 0])⟩ := ⟨Try.underlying63, by kernel_rfl⟩
theorem ty64 : TyOk Try.prog 64 ⟨1, 8, (Go.TypeDesc.func #[3, 3, 3] #[4] false), Go.Value.nilFunc⟩ := ⟨Try.underlying64, by kernel_rfl⟩
theorem ty65 : TyOk Try.prog 65 ⟨1, 8, (Go.TypeDesc.func #[3] #[3] false), Go.Value.nilFunc⟩ := ⟨Try.underlying65, by kernel_rfl⟩
theorem ty66 : TyOk Try.prog 66 ⟨1, 8, (Go.TypeDesc.func #[3] #[4] false), Go.Value.nilFunc⟩ := ⟨Try.underlying66, by kernel_rfl⟩
theorem ty67 : TyOk Try.prog 67 ⟨1, 0, (Go.TypeDesc.tuple #[25, 4]), (Go.Value.tuple #[Go.Value.slice none 0 0, Go.Value.bool false])⟩ := ⟨Try.underlying67, by kernel_rfl⟩
theorem ty68 : TyOk Try.prog 68 ⟨1, 8, (Go.TypeDesc.func #[24, 25, 3, 3] #[25, 4] false), Go.Value.nilFunc⟩ := ⟨Try.underlying68, by kernel_rfl⟩
theorem ty69 : TyOk Try.prog 69 ⟨1, 8, (Go.TypeDesc.func #[84] #[] false), Go.Value.nilFunc⟩ := ⟨Try.underlying69, by kernel_rfl⟩
theorem ty70 : TyOk Try.prog 70 ⟨1, 8, (Go.TypeDesc.func #[84] #[] false), Go.Value.nilFunc⟩ := ⟨Try.underlying70, by kernel_rfl⟩
theorem ty71 : TyOk Try.prog 71 ⟨1, 8, (Go.TypeDesc.func #[] #[70] false), Go.Value.nilFunc⟩ := ⟨Try.underlying71, by kernel_rfl⟩
theorem ty72 : TyOk Try.prog 72 ⟨1, 8, (Go.TypeDesc.func #[22] #[38] true), Go.Value.nilFunc⟩ := ⟨Try.underlying72, by kernel_rfl⟩
theorem ty73 : TyOk Try.prog 73 ⟨1, 24, (Go.TypeDesc.slice 3), (Go.Value.slice none 0 0)⟩ := ⟨Try.underlying73, by kernel_rfl⟩
theorem ty74 : TyOk Try.prog 74 ⟨1, 8, (Go.TypeDesc.func #[24, 25] #[73] false), Go.Value.nilFunc⟩ := ⟨Try.underlying74, by kernel_rfl⟩
theorem ty75 : TyOk Try.prog 75 ⟨1, 8, (Go.TypeDesc.func #[24, 25, 3] #[38] false), Go.Value.nilFunc⟩ := ⟨Try.underlying75, by kernel_rfl⟩
theorem ty76 : TyOk Try.prog 76 ⟨1, 8, (Go.TypeDesc.map 3 38), (Go.Value.map none)⟩ := ⟨Try.underlying76, by kernel_rfl⟩
theorem ty77 : TyOk Try.prog 77 ⟨1, 8, (Go.TypeDesc.struct #[{ name := "e", type := 31, offset := 0, embedded := false, tag := "", pkgPath := "gasworks/retort", byteOffset := 0 }]), (Go.Value.agg #[Go.Value.int Go.IntKind.i64 0])⟩ := ⟨Try.underlying77, by kernel_rfl⟩
theorem ty78 : TyOk Try.prog 78 ⟨1, 8, (Go.TypeDesc.struct #[{ name := "e", type := 31, offset := 0, embedded := false, tag := "", pkgPath := "gasworks/retort", byteOffset := 0 }]), (Go.Value.agg #[Go.Value.int Go.IntKind.i64 0])⟩ := ⟨Try.underlying78, by kernel_rfl⟩
theorem ty79 : TyOk Try.prog 79 ⟨1, 0, (Go.TypeDesc.tuple #[78, 4]), (Go.Value.tuple #[Go.Value.agg #[Go.Value.int Go.IntKind.i64 0], Go.Value.bool false])⟩ := ⟨Try.underlying79, by kernel_rfl⟩
theorem ty80 : TyOk Try.prog 80 ⟨1, 8, (Go.TypeDesc.func #[48] #[] false), Go.Value.nilFunc⟩ := ⟨Try.underlying80, by kernel_rfl⟩
theorem ty81 : TyOk Try.prog 81 ⟨1, 8, (Go.TypeDesc.func #[48] #[4] false), Go.Value.nilFunc⟩ := ⟨Try.underlying81, by kernel_rfl⟩
theorem ty82 : TyOk Try.prog 82 ⟨1, 0, (Go.TypeDesc.tuple #[29, 31]), (Go.Value.tuple #[Go.Value.agg #[Go.Value.int Go.IntKind.i64 0, Go.Value.int Go.IntKind.i64 0, Go.Value.int Go.IntKind.i64 0, Go.Value.int Go.IntKind.i64 0, Go.Value.int Go.IntKind.i64 0], Go.Value.int Go.IntKind.i64 0])⟩ := ⟨Try.underlying82, by kernel_rfl⟩
theorem ty83 : TyOk Try.prog 83 ⟨1, 8, (Go.TypeDesc.func #[24, 29, 48] #[29, 31] false), Go.Value.nilFunc⟩ := ⟨Try.underlying83, by kernel_rfl⟩
theorem ty84 : TyOk Try.prog 84 ⟨1, 8, (Go.TypeDesc.func #[3, 38] #[4] false), Go.Value.nilFunc⟩ := ⟨Try.underlying84, by kernel_rfl⟩
theorem ty85 : TyOk Try.prog 85 ⟨3, 24, (Go.TypeDesc.struct #[{ name := "tons", type := 3, offset := 0, embedded := false, tag := "", pkgPath := "gasworks/retort", byteOffset := 0 }, { name := "from", type := 3, offset := 1, embedded := false, tag := "", pkgPath := "gasworks/retort", byteOffset := 8 }, { name := "until", type := 3, offset := 2, embedded := false, tag := "", pkgPath := "gasworks/retort", byteOffset := 16 }]), (Go.Value.agg #[Go.Value.int Go.IntKind.i64 0, Go.Value.int Go.IntKind.i64 0, Go.Value.int Go.IntKind.i64 0])⟩ := ⟨Try.underlying85, by kernel_rfl⟩
theorem ty86 : TyOk Try.prog 86 ⟨3, 24, (Go.TypeDesc.struct #[{ name := "tons", type := 3, offset := 0, embedded := false, tag := "", pkgPath := "gasworks/retort", byteOffset := 0 }, { name := "from", type := 3, offset := 1, embedded := false, tag := "", pkgPath := "gasworks/retort", byteOffset := 8 }, { name := "until", type := 3, offset := 2, embedded := false, tag := "", pkgPath := "gasworks/retort", byteOffset := 16 }]), (Go.Value.agg #[Go.Value.int Go.IntKind.i64 0, Go.Value.int Go.IntKind.i64 0, Go.Value.int Go.IntKind.i64 0])⟩ := ⟨Try.underlying86, by kernel_rfl⟩
theorem ty87 : TyOk Try.prog 87 ⟨1, 8, (Go.TypeDesc.func #[25, 3] #[3] false), Go.Value.nilFunc⟩ := ⟨Try.underlying87, by kernel_rfl⟩
theorem ty88 : TyOk Try.prog 88 ⟨1, 8, (Go.TypeDesc.func #[38] #[4] false), Go.Value.nilFunc⟩ := ⟨Try.underlying88, by kernel_rfl⟩
theorem ty89 : TyOk Try.prog 89 ⟨1, 8, (Go.TypeDesc.func #[22, 88] #[4] false), Go.Value.nilFunc⟩ := ⟨Try.underlying89, by kernel_rfl⟩
theorem ty90 : TyOk Try.prog 90 ⟨1, 8, (Go.TypeDesc.func #[57, 94, 48] #[] false), Go.Value.nilFunc⟩ := ⟨Try.underlying90, by kernel_rfl⟩
theorem ty91 : TyOk Try.prog 91 ⟨1, 8, (Go.TypeDesc.func #[94, 48] #[] false), Go.Value.nilFunc⟩ := ⟨Try.underlying91, by kernel_rfl⟩
theorem ty92 : TyOk Try.prog 92 ⟨5, 40, (Go.TypeDesc.array 5 90), (Go.Value.agg #[Go.Value.nilFunc, Go.Value.nilFunc, Go.Value.nilFunc, Go.Value.nilFunc, Go.Value.nilFunc])⟩ := ⟨Try.underlying92, by kernel_rfl⟩
theorem ty93 : TyOk Try.prog 93 ⟨1, 8, (Go.TypeDesc.func #[4, 31] #[] false), Go.Value.nilFunc⟩ := ⟨Try.underlying93, by kernel_rfl⟩
theorem ty94 : TyOk Try.prog 94 ⟨1, 8, (Go.TypeDesc.pointer 29), (Go.Value.pointer none)⟩ := ⟨Try.underlying94, by kernel_rfl⟩
theorem ty95 : TyOk Try.prog 95 ⟨1, 8, (Go.TypeDesc.func #[22, 88] #[3] false), Go.Value.nilFunc⟩ := ⟨Try.underlying95, by kernel_rfl⟩
theorem ty96 : TyOk Try.prog 96 ⟨1, 8, (Go.TypeDesc.func #[] #[9] false), Go.Value.nilFunc⟩ := ⟨Try.underlying96, by kernel_rfl⟩
theorem ty97 : TyOk Try.prog 97 ⟨4, 40, (Go.TypeDesc.struct #[{ name := "_interface", type := 17, offset := 0, embedded := false, tag := "", pkgPath := "runtime", byteOffset := 0 }, { name := "concrete", type := 17, offset := 1, embedded := false, tag := "", pkgPath := "runtime", byteOffset := 8 }, { name := "asserted", type := 17, offset := 2, embedded := false, tag := "", pkgPath := "runtime", byteOffset := 16 }, { name := "missingMethod", type := 9, offset := 3, embedded := false, tag := "", pkgPath := "runtime", byteOffset := 24 }]), (Go.Value.agg #[Go.Value.pointer none, Go.Value.pointer none, Go.Value.pointer none, Go.Value.string { data := #[] }])⟩ := ⟨Try.underlying97, by kernel_rfl⟩
theorem ty98 : TyOk Try.prog 98 ⟨4, 40, (Go.TypeDesc.struct #[{ name := "_interface", type := 17, offset := 0, embedded := false, tag := "", pkgPath := "runtime", byteOffset := 0 }, { name := "concrete", type := 17, offset := 1, embedded := false, tag := "", pkgPath := "runtime", byteOffset := 8 }, { name := "asserted", type := 17, offset := 2, embedded := false, tag := "", pkgPath := "runtime", byteOffset := 16 }, { name := "missingMethod", type := 9, offset := 3, embedded := false, tag := "", pkgPath := "runtime", byteOffset := 24 }]), (Go.Value.agg #[Go.Value.pointer none, Go.Value.pointer none, Go.Value.pointer none, Go.Value.string { data := #[] }])⟩ := ⟨Try.underlying98, by kernel_rfl⟩
theorem ty99 : TyOk Try.prog 99 ⟨0, 0, (Go.TypeDesc.array 0 16), (Go.Value.agg #[])⟩ := ⟨Try.underlying99, by kernel_rfl⟩
theorem ty100 : TyOk Try.prog 100 ⟨0, 0, (Go.TypeDesc.struct #[{ name := "_", type := 99, offset := 0, embedded := false, tag := "", pkgPath := "runtime", byteOffset := 0 }]), (Go.Value.agg #[])⟩ := ⟨Try.underlying100, by kernel_rfl⟩
theorem ty101 : TyOk Try.prog 101 ⟨0, 0, (Go.TypeDesc.struct #[{ name := "_", type := 99, offset := 0, embedded := false, tag := "", pkgPath := "runtime", byteOffset := 0 }]), (Go.Value.agg #[])⟩ := ⟨Try.underlying101, by kernel_rfl⟩
theorem ty102 : TyOk Try.prog 102 ⟨1, 8, (Go.TypeDesc.func #[] #[3] false), Go.Value.nilFunc⟩ := ⟨Try.underlying102, by kernel_rfl⟩
theorem ty103 : TyOk Try.prog 103 ⟨1, 4, (Go.TypeDesc.int Go.IntKind.u32), (Go.Value.int Go.IntKind.u32 0)⟩ := ⟨Try.underlying103, by kernel_rfl⟩
theorem ty104 : TyOk Try.prog 104 ⟨1, 1, (Go.TypeDesc.int Go.IntKind.u8), (Go.Value.int Go.IntKind.u8 0)⟩ := ⟨Try.underlying104, by kernel_rfl⟩
theorem ty105 : TyOk Try.prog 105 ⟨1, 1, (Go.TypeDesc.int Go.IntKind.u8), (Go.Value.int Go.IntKind.u8 0)⟩ := ⟨Try.underlying105, by kernel_rfl⟩
theorem ty106 : TyOk Try.prog 106 ⟨1, 8, (Go.TypeDesc.func #[112, 112] #[4] false), Go.Value.nilFunc⟩ := ⟨Try.underlying106, by kernel_rfl⟩
theorem ty107 : TyOk Try.prog 107 ⟨1, 8, (Go.TypeDesc.pointer 5), (Go.Value.pointer none)⟩ := ⟨Try.underlying107, by kernel_rfl⟩
theorem ty108 : TyOk Try.prog 108 ⟨1, 4, (Go.TypeDesc.int Go.IntKind.i32), (Go.Value.int Go.IntKind.i32 0)⟩ := ⟨Try.underlying108, by kernel_rfl⟩
theorem ty109 : TyOk Try.prog 109 ⟨1, 4, (Go.TypeDesc.int Go.IntKind.i32), (Go.Value.int Go.IntKind.i32 0)⟩ := ⟨Try.underlying109, by kernel_rfl⟩
theorem fl7_0 : FldOk Try.prog 7 0 0 1 false := ⟨_, _, Try.underlying7, rfl, rfl, _, ty2, rfl, rfl⟩
theorem fl7_1 : FldOk Try.prog 7 1 1 1 false := ⟨_, _, Try.underlying7, rfl, rfl, _, ty3, rfl, rfl⟩
theorem fl7_2 : FldOk Try.prog 7 2 2 1 false := ⟨_, _, Try.underlying7, rfl, rfl, _, ty4, rfl, rfl⟩
theorem fl7_3 : FldOk Try.prog 7 3 3 1 false := ⟨_, _, Try.underlying7, rfl, rfl, _, ty6, rfl, rfl⟩
theorem fl8_0 : FldOk Try.prog 8 0 0 1 false := ⟨_, _, Try.underlying8, rfl, rfl, _, ty2, rfl, rfl⟩
theorem fl8_1 : FldOk Try.prog 8 1 1 1 false := ⟨_, _, Try.underlying8, rfl, rfl, _, ty3, rfl, rfl⟩
theorem fl8_2 : FldOk Try.prog 8 2 2 1 false := ⟨_, _, Try.underlying8, rfl, rfl, _, ty4, rfl, rfl⟩
theorem fl8_3 : FldOk Try.prog 8 3 3 1 false := ⟨_, _, Try.underlying8, rfl, rfl, _, ty6, rfl, rfl⟩
theorem fl13_0 : FldOk Try.prog 13 0 0 1 false := ⟨_, _, Try.underlying13, rfl, rfl, _, ty9, rfl, rfl⟩
theorem fl13_1 : FldOk Try.prog 13 1 1 1 false := ⟨_, _, Try.underlying13, rfl, rfl, _, ty12, rfl, rfl⟩
theorem fl14_0 : FldOk Try.prog 14 0 0 1 false := ⟨_, _, Try.underlying14, rfl, rfl, _, ty9, rfl, rfl⟩
theorem fl14_1 : FldOk Try.prog 14 1 1 1 false := ⟨_, _, Try.underlying14, rfl, rfl, _, ty12, rfl, rfl⟩
theorem fl18_0 : FldOk Try.prog 18 0 0 1 false := ⟨_, _, Try.underlying18, rfl, rfl, _, ty17, rfl, rfl⟩
theorem fl19_0 : FldOk Try.prog 19 0 0 1 false := ⟨_, _, Try.underlying19, rfl, rfl, _, ty17, rfl, rfl⟩
theorem fl23_0 : FldOk Try.prog 23 0 0 1 false := ⟨_, _, Try.underlying23, rfl, rfl, _, ty22, rfl, rfl⟩
theorem fl23_1 : FldOk Try.prog 23 1 1 1 false := ⟨_, _, Try.underlying23, rfl, rfl, _, ty3, rfl, rfl⟩
theorem fl23_2 : FldOk Try.prog 23 2 2 1 false := ⟨_, _, Try.underlying23, rfl, rfl, _, ty3, rfl, rfl⟩
theorem fl23_3 : FldOk Try.prog 23 3 3 1 false := ⟨_, _, Try.underlying23, rfl, rfl, _, ty3, rfl, rfl⟩
theorem fl23_4 : FldOk Try.prog 23 4 4 1 false := ⟨_, _, Try.underlying23, rfl, rfl, _, ty3, rfl, rfl⟩
theorem fl23_5 : FldOk Try.prog 23 5 5 1 false := ⟨_, _, Try.underlying23, rfl, rfl, _, ty3, rfl, rfl⟩
theorem fl24_0 : FldOk Try.prog 24 0 0 1 false := ⟨_, _, Try.underlying24, rfl, rfl, _, ty22, rfl, rfl⟩
theorem fl24_1 : FldOk Try.prog 24 1 1 1 false := ⟨_, _, Try.underlying24, rfl, rfl, _, ty3, rfl, rfl⟩
theorem fl24_2 : FldOk Try.prog 24 2 2 1 false := ⟨_, _, Try.underlying24, rfl, rfl, _, ty3, rfl, rfl⟩
theorem fl24_3 : FldOk Try.prog 24 3 3 1 false := ⟨_, _, Try.underlying24, rfl, rfl, _, ty3, rfl, rfl⟩
theorem fl24_4 : FldOk Try.prog 24 4 4 1 false := ⟨_, _, Try.underlying24, rfl, rfl, _, ty3, rfl, rfl⟩
theorem fl24_5 : FldOk Try.prog 24 5 5 1 false := ⟨_, _, Try.underlying24, rfl, rfl, _, ty3, rfl, rfl⟩
theorem fl28_0 : FldOk Try.prog 28 0 0 1 false := ⟨_, _, Try.underlying28, rfl, rfl, _, ty3, rfl, rfl⟩
theorem fl28_1 : FldOk Try.prog 28 1 1 1 false := ⟨_, _, Try.underlying28, rfl, rfl, _, ty3, rfl, rfl⟩
theorem fl28_2 : FldOk Try.prog 28 2 2 1 false := ⟨_, _, Try.underlying28, rfl, rfl, _, ty3, rfl, rfl⟩
theorem fl28_3 : FldOk Try.prog 28 3 3 1 false := ⟨_, _, Try.underlying28, rfl, rfl, _, ty3, rfl, rfl⟩
theorem fl28_4 : FldOk Try.prog 28 4 4 1 false := ⟨_, _, Try.underlying28, rfl, rfl, _, ty3, rfl, rfl⟩
theorem fl29_0 : FldOk Try.prog 29 0 0 1 false := ⟨_, _, Try.underlying29, rfl, rfl, _, ty3, rfl, rfl⟩
theorem fl29_1 : FldOk Try.prog 29 1 1 1 false := ⟨_, _, Try.underlying29, rfl, rfl, _, ty3, rfl, rfl⟩
theorem fl29_2 : FldOk Try.prog 29 2 2 1 false := ⟨_, _, Try.underlying29, rfl, rfl, _, ty3, rfl, rfl⟩
theorem fl29_3 : FldOk Try.prog 29 3 3 1 false := ⟨_, _, Try.underlying29, rfl, rfl, _, ty3, rfl, rfl⟩
theorem fl29_4 : FldOk Try.prog 29 4 4 1 false := ⟨_, _, Try.underlying29, rfl, rfl, _, ty3, rfl, rfl⟩
theorem fl37_0 : FldOk Try.prog 37 0 0 1 false := ⟨_, _, Try.underlying37, rfl, rfl, _, ty3, rfl, rfl⟩
theorem fl37_1 : FldOk Try.prog 37 1 1 1 false := ⟨_, _, Try.underlying37, rfl, rfl, _, ty3, rfl, rfl⟩
theorem fl38_0 : FldOk Try.prog 38 0 0 1 false := ⟨_, _, Try.underlying38, rfl, rfl, _, ty3, rfl, rfl⟩
theorem fl38_1 : FldOk Try.prog 38 1 1 1 false := ⟨_, _, Try.underlying38, rfl, rfl, _, ty3, rfl, rfl⟩
theorem fl47_0 : FldOk Try.prog 47 0 0 1 false := ⟨_, _, Try.underlying47, rfl, rfl, _, ty3, rfl, rfl⟩
theorem fl47_1 : FldOk Try.prog 47 1 1 1 false := ⟨_, _, Try.underlying47, rfl, rfl, _, ty3, rfl, rfl⟩
theorem fl47_2 : FldOk Try.prog 47 2 2 1 false := ⟨_, _, Try.underlying47, rfl, rfl, _, ty3, rfl, rfl⟩
theorem fl47_3 : FldOk Try.prog 47 3 3 1 false := ⟨_, _, Try.underlying47, rfl, rfl, _, ty3, rfl, rfl⟩
theorem fl48_0 : FldOk Try.prog 48 0 0 1 false := ⟨_, _, Try.underlying48, rfl, rfl, _, ty3, rfl, rfl⟩
theorem fl48_1 : FldOk Try.prog 48 1 1 1 false := ⟨_, _, Try.underlying48, rfl, rfl, _, ty3, rfl, rfl⟩
theorem fl48_2 : FldOk Try.prog 48 2 2 1 false := ⟨_, _, Try.underlying48, rfl, rfl, _, ty3, rfl, rfl⟩
theorem fl48_3 : FldOk Try.prog 48 3 3 1 false := ⟨_, _, Try.underlying48, rfl, rfl, _, ty3, rfl, rfl⟩
theorem fl62_0 : FldOk Try.prog 62 0 0 6 true := ⟨_, _, Try.underlying62, rfl, rfl, _, ty24, rfl, rfl⟩
theorem fl62_1 : FldOk Try.prog 62 1 6 40 true := ⟨_, _, Try.underlying62, rfl, rfl, _, ty30, rfl, rfl⟩
theorem fl62_2 : FldOk Try.prog 62 2 46 1 false := ⟨_, _, Try.underlying62, rfl, rfl, _, ty60, rfl, rfl⟩
theorem fl62_3 : FldOk Try.prog 62 3 47 1 false := ⟨_, _, Try.underlying62, rfl, rfl, _, ty3, rfl, rfl⟩
theorem fl62_4 : FldOk Try.prog 62 4 48 1 false := ⟨_, _, Try.underlying62, rfl, rfl, _, ty61, rfl, rfl⟩
theorem fl62_5 : FldOk Try.prog 62 5 49 8 true := ⟨_, _, Try.underlying62, rfl, rfl, _, ty46, rfl, rfl⟩
theorem fl63_0 : FldOk Try.prog 63 0 0 6 true := ⟨_, _, Try.underlying63, rfl, rfl, _, ty24, rfl, rfl⟩
theorem fl63_1 : FldOk Try.prog 63 1 6 40 true := ⟨_, _, Try.underlying63, rfl, rfl, _, ty30, rfl, rfl⟩
theorem fl63_2 : FldOk Try.prog 63 2 46 1 false := ⟨_, _, Try.underlying63, rfl, rfl, _, ty60, rfl, rfl⟩
theorem fl63_3 : FldOk Try.prog 63 3 47 1 false := ⟨_, _, Try.underlying63, rfl, rfl, _, ty3, rfl, rfl⟩
theorem fl63_4 : FldOk Try.prog 63 4 48 1 false := ⟨_, _, Try.underlying63, rfl, rfl, _, ty61, rfl, rfl⟩
theorem fl63_5 : FldOk Try.prog 63 5 49 8 true := ⟨_, _, Try.underlying63, rfl, rfl, _, ty46, rfl, rfl⟩
theorem fl77_0 : FldOk Try.prog 77 0 0 1 false := ⟨_, _, Try.underlying77, rfl, rfl, _, ty31, rfl, rfl⟩
theorem fl78_0 : FldOk Try.prog 78 0 0 1 false := ⟨_, _, Try.underlying78, rfl, rfl, _, ty31, rfl, rfl⟩
theorem fl85_0 : FldOk Try.prog 85 0 0 1 false := ⟨_, _, Try.underlying85, rfl, rfl, _, ty3, rfl, rfl⟩
theorem fl85_1 : FldOk Try.prog 85 1 1 1 false := ⟨_, _, Try.underlying85, rfl, rfl, _, ty3, rfl, rfl⟩
theorem fl85_2 : FldOk Try.prog 85 2 2 1 false := ⟨_, _, Try.underlying85, rfl, rfl, _, ty3, rfl, rfl⟩
theorem fl86_0 : FldOk Try.prog 86 0 0 1 false := ⟨_, _, Try.underlying86, rfl, rfl, _, ty3, rfl, rfl⟩
theorem fl86_1 : FldOk Try.prog 86 1 1 1 false := ⟨_, _, Try.underlying86, rfl, rfl, _, ty3, rfl, rfl⟩
theorem fl86_2 : FldOk Try.prog 86 2 2 1 false := ⟨_, _, Try.underlying86, rfl, rfl, _, ty3, rfl, rfl⟩
theorem fl97_0 : FldOk Try.prog 97 0 0 1 false := ⟨_, _, Try.underlying97, rfl, rfl, _, ty17, rfl, rfl⟩
theorem fl97_1 : FldOk Try.prog 97 1 1 1 false := ⟨_, _, Try.underlying97, rfl, rfl, _, ty17, rfl, rfl⟩
theorem fl97_2 : FldOk Try.prog 97 2 2 1 false := ⟨_, _, Try.underlying97, rfl, rfl, _, ty17, rfl, rfl⟩
theorem fl97_3 : FldOk Try.prog 97 3 3 1 false := ⟨_, _, Try.underlying97, rfl, rfl, _, ty9, rfl, rfl⟩
theorem fl98_0 : FldOk Try.prog 98 0 0 1 false := ⟨_, _, Try.underlying98, rfl, rfl, _, ty17, rfl, rfl⟩
theorem fl98_1 : FldOk Try.prog 98 1 1 1 false := ⟨_, _, Try.underlying98, rfl, rfl, _, ty17, rfl, rfl⟩
theorem fl98_2 : FldOk Try.prog 98 2 2 1 false := ⟨_, _, Try.underlying98, rfl, rfl, _, ty17, rfl, rfl⟩
theorem fl98_3 : FldOk Try.prog 98 3 3 1 false := ⟨_, _, Try.underlying98, rfl, rfl, _, ty9, rfl, rfl⟩
theorem bt7 : BtOk Try.prog 7 [Go.Value.int Go.IntKind.i64 0, Go.Value.int Go.IntKind.i64 0, Go.Value.bool false, Go.Value.int Go.IntKind.u8 0] (fun i => (#[(0, 1), (1, 1), (2, 1), (3, 1)] : Array (Nat × Nat))[i]?) := fun _ => by kernel_rfl
theorem bt8 : BtOk Try.prog 8 [Go.Value.int Go.IntKind.i64 0, Go.Value.int Go.IntKind.i64 0, Go.Value.bool false, Go.Value.int Go.IntKind.u8 0] (fun i => (#[(0, 1), (1, 1), (2, 1), (3, 1)] : Array (Nat × Nat))[i]?) := fun _ => by kernel_rfl
theorem bt13 : BtOk Try.prog 13 [Go.Value.string { data := #[] }, Go.Value.int Go.IntKind.u64 0] (fun i => (#[(0, 1), (1, 1)] : Array (Nat × Nat))[i]?) := fun _ => by kernel_rfl
theorem bt14 : BtOk Try.prog 14 [Go.Value.string { data := #[] }, Go.Value.int Go.IntKind.u64 0] (fun i => (#[(0, 1), (1, 1)] : Array (Nat × Nat))[i]?) := fun _ => by kernel_rfl
theorem bt18 : BtOk Try.prog 18 [Go.Value.pointer none] (fun i => (#[(0, 1)] : Array (Nat × Nat))[i]?) := fun _ => by kernel_rfl
theorem bt19 : BtOk Try.prog 19 [Go.Value.pointer none] (fun i => (#[(0, 1)] : Array (Nat × Nat))[i]?) := fun _ => by kernel_rfl
theorem sl22 : SlT Try.prog 22 38 := Try.underlying22
theorem bt23 : BtOk Try.prog 23 [Go.Value.slice none 0 0, Go.Value.int Go.IntKind.i64 0, Go.Value.int Go.IntKind.i64 0, Go.Value.int Go.IntKind.i64 0, Go.Value.int Go.IntKind.i64 0, Go.Value.int Go.IntKind.i64 0] (fun i => (#[(0, 1), (1, 1), (2, 1), (3, 1), (4, 1), (5, 1)] : Array (Nat × Nat))[i]?) := fun _ => by kernel_rfl
theorem bt24 : BtOk Try.prog 24 [Go.Value.slice none 0 0, Go.Value.int Go.IntKind.i64 0, Go.Value.int Go.IntKind.i64 0, Go.Value.int Go.IntKind.i64 0, Go.Value.int Go.IntKind.i64 0, Go.Value.int Go.IntKind.i64 0] (fun i => (#[(0, 1), (1, 1), (2, 1), (3, 1), (4, 1), (5, 1)] : Array (Nat × Nat))[i]?) := fun _ => by kernel_rfl
theorem sl25 : SlT Try.prog 25 48 := Try.underlying25
theorem bt28 : BtOk Try.prog 28 [Go.Value.int Go.IntKind.i64 0, Go.Value.int Go.IntKind.i64 0, Go.Value.int Go.IntKind.i64 0, Go.Value.int Go.IntKind.i64 0, Go.Value.int Go.IntKind.i64 0] (fun i => (#[(0, 1), (1, 1), (2, 1), (3, 1), (4, 1)] : Array (Nat × Nat))[i]?) := fun _ => by kernel_rfl
theorem bt29 : BtOk Try.prog 29 [Go.Value.int Go.IntKind.i64 0, Go.Value.int Go.IntKind.i64 0, Go.Value.int Go.IntKind.i64 0, Go.Value.int Go.IntKind.i64 0, Go.Value.int Go.IntKind.i64 0] (fun i => (#[(0, 1), (1, 1), (2, 1), (3, 1), (4, 1)] : Array (Nat × Nat))[i]?) := fun _ => by kernel_rfl
theorem bt30 : BtOk Try.prog 30 [Go.Value.int Go.IntKind.i64 0, Go.Value.int Go.IntKind.i64 0, Go.Value.int Go.IntKind.i64 0, Go.Value.int Go.IntKind.i64 0, Go.Value.int Go.IntKind.i64 0, Go.Value.int Go.IntKind.i64 0, Go.Value.int Go.IntKind.i64 0, Go.Value.int Go.IntKind.i64 0, Go.Value.int Go.IntKind.i64 0, Go.Value.int Go.IntKind.i64 0, Go.Value.int Go.IntKind.i64 0, Go.Value.int Go.IntKind.i64 0, Go.Value.int Go.IntKind.i64 0, Go.Value.int Go.IntKind.i64 0, Go.Value.int Go.IntKind.i64 0, Go.Value.int Go.IntKind.i64 0, Go.Value.int Go.IntKind.i64 0, Go.Value.int Go.IntKind.i64 0, Go.Value.int Go.IntKind.i64 0, Go.Value.int Go.IntKind.i64 0, Go.Value.int Go.IntKind.i64 0, Go.Value.int Go.IntKind.i64 0, Go.Value.int Go.IntKind.i64 0, Go.Value.int Go.IntKind.i64 0, Go.Value.int Go.IntKind.i64 0, Go.Value.int Go.IntKind.i64 0, Go.Value.int Go.IntKind.i64 0, Go.Value.int Go.IntKind.i64 0, Go.Value.int Go.IntKind.i64 0, Go.Value.int Go.IntKind.i64 0, Go.Value.int Go.IntKind.i64 0, Go.Value.int Go.IntKind.i64 0, Go.Value.int Go.IntKind.i64 0, Go.Value.int Go.IntKind.i64 0, Go.Value.int Go.IntKind.i64 0, Go.Value.int Go.IntKind.i64 0, Go.Value.int Go.IntKind.i64 0, Go.Value.int Go.IntKind.i64 0, Go.Value.int Go.IntKind.i64 0, Go.Value.int Go.IntKind.i64 0] (fun i => some (i * 5, 5)) := fun _ => by kernel_rfl
theorem bt37 : BtOk Try.prog 37 [Go.Value.int Go.IntKind.i64 0, Go.Value.int Go.IntKind.i64 0] (fun i => (#[(0, 1), (1, 1)] : Array (Nat × Nat))[i]?) := fun _ => by kernel_rfl
theorem bt38 : BtOk Try.prog 38 [Go.Value.int Go.IntKind.i64 0, Go.Value.int Go.IntKind.i64 0] (fun i => (#[(0, 1), (1, 1)] : Array (Nat × Nat))[i]?) := fun _ => by kernel_rfl
theorem bt46 : BtOk Try.prog 46 [Go.Value.int Go.IntKind.i64 0, Go.Value.int Go.IntKind.i64 0, Go.Value.int Go.IntKind.i64 0, Go.Value.int Go.IntKind.i64 0, Go.Value.int Go.IntKind.i64 0, Go.Value.int Go.IntKind.i64 0, Go.Value.int Go.IntKind.i64 0, Go.Value.int Go.IntKind.i64 0] (fun i => some (i * 1, 1)) := fun _ => by kernel_rfl
theorem bt47 : BtOk Try.prog 47 [Go.Value.int Go.IntKind.i64 0, Go.Value.int Go.IntKind.i64 0, Go.Value.int Go.IntKind.i64 0, Go.Value.int Go.IntKind.i64 0] (fun i => (#[(0, 1), (1, 1), (2, 1), (3, 1)] : Array (Nat × Nat))[i]?) := fun _ => by kernel_rfl
theorem bt48 : BtOk Try.prog 48 [Go.Value.int Go.IntKind.i64 0, Go.Value.int Go.IntKind.i64 0, Go.Value.int Go.IntKind.i64 0, Go.Value.int Go.IntKind.i64 0] (fun i => (#[(0, 1), (1, 1), (2, 1), (3, 1)] : Array (Nat × Nat))[i]?) := fun _ => by kernel_rfl
theorem sl52 : SlT Try.prog 52 5 := Try.underlying52
theorem sl61 : SlT Try.prog 61 86 := Try.underlying61
theorem bt62 : BtOk Try.prog 62 [Go.Value.slice none 0 0, Go.Value.int Go.IntKind.i64 0, Go.Value.int Go.IntKind.i64 0, Go.Value.int Go.IntKind.i64 0, Go.Value.int Go.IntKind.i64 0, Go.Value.int Go.IntKind.i64 0, Go.Value.int Go.IntKind.i64 0, Go.Value.int Go.IntKind.i64 0, Go.Value.int Go.IntKind.i64 0, Go.Value.int Go.IntKind.i64 0, Go.Value.int Go.IntKind.i64 0, Go.Value.int Go.IntKind.i64 0, Go.Value.int Go.IntKind.i64 0, Go.Value.int Go.IntKind.i64 0, Go.Value.int Go.IntKind.i64 0, Go.Value.int Go.IntKind.i64 0, Go.Value.int Go.IntKind.i64 0, Go.Value.int Go.IntKind.i64 0, Go.Value.int Go.IntKind.i64 0, Go.Value.int Go.IntKind.i64 0, Go.Value.int Go.IntKind.i64 0, Go.Value.int Go.IntKind.i64 0, Go.Value.int Go.IntKind.i64 0, Go.Value.int Go.IntKind.i64 0, Go.Value.int Go.IntKind.i64 0, Go.Value.int Go.IntKind.i64 0, Go.Value.int Go.IntKind.i64 0, Go.Value.int Go.IntKind.i64 0, Go.Value.int Go.IntKind.i64 0, Go.Value.int Go.IntKind.i64 0, Go.Value.int Go.IntKind.i64 0, Go.Value.int Go.IntKind.i64 0, Go.Value.int Go.IntKind.i64 0, Go.Value.int Go.IntKind.i64 0, Go.Value.int Go.IntKind.i64 0, Go.Value.int Go.IntKind.i64 0, Go.Value.int Go.IntKind.i64 0, Go.Value.int Go.IntKind.i64 0, Go.Value.int Go.IntKind.i64 0, Go.Value.int Go.IntKind.i64 0, Go.Value.int Go.IntKind.i64 0, Go.Value.int Go.IntKind.i64 0, Go.Value.int Go.IntKind.i64 0, Go.Value.int Go.IntKind.i64 0, Go.Value.int Go.IntKind.i64 0, Go.Value.int Go.IntKind.i64 0, Go.Value.map none, Go.Value.int Go.IntKind.i64 0, Go.Value.slice none 0 0, Go.Value.int Go.IntKind.i64 0, Go.Value.int Go.IntKind.i64 0, Go.Value.int Go.IntKind.i64 0, Go.Value.int Go.IntKind.i64 0, Go.Value.int Go.IntKind.i64 0, Go.Value.int Go.IntKind.i64 0, Go.Value.int Go.IntKind.i64 0, Go.Value.int Go.IntKind.i64 0] (fun i => (#[(0, 6), (6, 40), (46, 1), (47, 1), (48, 1), (49, 8)] : Array (Nat × Nat))[i]?) := fun _ => by kernel_rfl
theorem bt63 : BtOk Try.prog 63 [Go.Value.slice none 0 0, Go.Value.int Go.IntKind.i64 0, Go.Value.int Go.IntKind.i64 0, Go.Value.int Go.IntKind.i64 0, Go.Value.int Go.IntKind.i64 0, Go.Value.int Go.IntKind.i64 0, Go.Value.int Go.IntKind.i64 0, Go.Value.int Go.IntKind.i64 0, Go.Value.int Go.IntKind.i64 0, Go.Value.int Go.IntKind.i64 0, Go.Value.int Go.IntKind.i64 0, Go.Value.int Go.IntKind.i64 0, Go.Value.int Go.IntKind.i64 0, Go.Value.int Go.IntKind.i64 0, Go.Value.int Go.IntKind.i64 0, Go.Value.int Go.IntKind.i64 0, Go.Value.int Go.IntKind.i64 0, Go.Value.int Go.IntKind.i64 0, Go.Value.int Go.IntKind.i64 0, Go.Value.int Go.IntKind.i64 0, Go.Value.int Go.IntKind.i64 0, Go.Value.int Go.IntKind.i64 0, Go.Value.int Go.IntKind.i64 0, Go.Value.int Go.IntKind.i64 0, Go.Value.int Go.IntKind.i64 0, Go.Value.int Go.IntKind.i64 0, Go.Value.int Go.IntKind.i64 0, Go.Value.int Go.IntKind.i64 0, Go.Value.int Go.IntKind.i64 0, Go.Value.int Go.IntKind.i64 0, Go.Value.int Go.IntKind.i64 0, Go.Value.int Go.IntKind.i64 0, Go.Value.int Go.IntKind.i64 0, Go.Value.int Go.IntKind.i64 0, Go.Value.int Go.IntKind.i64 0, Go.Value.int Go.IntKind.i64 0, Go.Value.int Go.IntKind.i64 0, Go.Value.int Go.IntKind.i64 0, Go.Value.int Go.IntKind.i64 0, Go.Value.int Go.IntKind.i64 0, Go.Value.int Go.IntKind.i64 0, Go.Value.int Go.IntKind.i64 0, Go.Value.int Go.IntKind.i64 0, Go.Value.int Go.IntKind.i64 0, Go.Value.int Go.IntKind.i64 0, Go.Value.int Go.IntKind.i64 0, Go.Value.map none, Go.Value.int Go.IntKind.i64 0, Go.Value.slice none 0 0, Go.Value.int Go.IntKind.i64 0, Go.Value.int Go.IntKind.i64 0, Go.Value.int Go.IntKind.i64 0, Go.Value.int Go.IntKind.i64 0, Go.Value.int Go.IntKind.i64 0, Go.Value.int Go.IntKind.i64 0, Go.Value.int Go.IntKind.i64 0, Go.Value.int Go.IntKind.i64 0] (fun i => (#[(0, 6), (6, 40), (46, 1), (47, 1), (48, 1), (49, 8)] : Array (Nat × Nat))[i]?) := fun _ => by kernel_rfl
theorem sl73 : SlT Try.prog 73 3 := Try.underlying73
theorem bt77 : BtOk Try.prog 77 [Go.Value.int Go.IntKind.i64 0] (fun i => (#[(0, 1)] : Array (Nat × Nat))[i]?) := fun _ => by kernel_rfl
theorem bt78 : BtOk Try.prog 78 [Go.Value.int Go.IntKind.i64 0] (fun i => (#[(0, 1)] : Array (Nat × Nat))[i]?) := fun _ => by kernel_rfl
theorem bt85 : BtOk Try.prog 85 [Go.Value.int Go.IntKind.i64 0, Go.Value.int Go.IntKind.i64 0, Go.Value.int Go.IntKind.i64 0] (fun i => (#[(0, 1), (1, 1), (2, 1)] : Array (Nat × Nat))[i]?) := fun _ => by kernel_rfl
theorem bt86 : BtOk Try.prog 86 [Go.Value.int Go.IntKind.i64 0, Go.Value.int Go.IntKind.i64 0, Go.Value.int Go.IntKind.i64 0] (fun i => (#[(0, 1), (1, 1), (2, 1)] : Array (Nat × Nat))[i]?) := fun _ => by kernel_rfl
theorem bt92 : BtOk Try.prog 92 [Go.Value.nilFunc, Go.Value.nilFunc, Go.Value.nilFunc, Go.Value.nilFunc, Go.Value.nilFunc] (fun i => some (i * 1, 1)) := fun _ => by kernel_rfl
theorem bt97 : BtOk Try.prog 97 [Go.Value.pointer none, Go.Value.pointer none, Go.Value.pointer none, Go.Value.string { data := #[] }] (fun i => (#[(0, 1), (1, 1), (2, 1), (3, 1)] : Array (Nat × Nat))[i]?) := fun _ => by kernel_rfl
theorem bt98 : BtOk Try.prog 98 [Go.Value.pointer none, Go.Value.pointer none, Go.Value.pointer none, Go.Value.string { data := #[] }] (fun i => (#[(0, 1), (1, 1), (2, 1), (3, 1)] : Array (Nat × Nat))[i]?) := fun _ => by kernel_rfl
theorem bt100 : BtOk Try.prog 100 [] (fun i => (#[(0, 0)] : Array (Nat × Nat))[i]?) := fun _ => by kernel_rfl
theorem bt101 : BtOk Try.prog 101 [] (fun i => (#[(0, 0)] : Array (Nat × Nat))[i]?) := fun _ => by kernel_rfl
theorem fq2 : Flat Try.prog 1 2 1 false := flat_int Try.underlying2
theorem fq3 : Flat Try.prog 1 3 1 false := flat_int Try.underlying3
theorem fq31 : Flat Try.prog 1 31 1 false := flat_int Try.underlying31
theorem fq28 : Flat Try.prog 2 28 5 true := flat_struct Try.underlying28 (by kernel_rfl) (.cons (by decide) rfl ty3 rfl (fq3.le rfl) (by decide) rfl (.cons (by decide) rfl ty3 rfl (fq3.le rfl) (by decide) rfl (.cons (by decide) rfl ty3 rfl (fq3.le rfl) (by decide) rfl (.cons (by decide) rfl ty3 rfl (fq3.le rfl) (by decide) rfl (.cons (by decide) rfl ty3 rfl (fq3.le rfl) (by decide) rfl .nil)))))
theorem eg28 : Try.prog.eqGuardType Try.prog.depth 28 = false := by kernel_rfl
theorem fq29 : Flat Try.prog 2 29 5 true := flat_struct Try.underlying29 (by kernel_rfl) (.cons (by decide) rfl ty3 rfl (fq3.le rfl) (by decide) rfl (.cons (by decide) rfl ty3 rfl (fq3.le rfl) (by decide) rfl (.cons (by decide) rfl ty3 rfl (fq3.le rfl) (by decide) rfl (.cons (by decide) rfl ty3 rfl (fq3.le rfl) (by decide) rfl (.cons (by decide) rfl ty3 rfl (fq3.le rfl) (by decide) rfl .nil)))))
theorem eg29 : Try.prog.eqGuardType Try.prog.depth 29 = false := by kernel_rfl
theorem fq30 : Flat Try.prog 3 30 40 true := flat_array Try.underlying30 ty29 fq29 (by decide) rfl
theorem eg30 : Try.prog.eqGuardType Try.prog.depth 30 = false := by kernel_rfl
theorem fq37 : Flat Try.prog 2 37 2 true := flat_struct Try.underlying37 (by kernel_rfl) (.cons (by decide) rfl ty3 rfl (fq3.le rfl) (by decide) rfl (.cons (by decide) rfl ty3 rfl (fq3.le rfl) (by decide) rfl .nil))
theorem eg37 : Try.prog.eqGuardType Try.prog.depth 37 = false := by kernel_rfl
theorem fq38 : Flat Try.prog 2 38 2 true := flat_struct Try.underlying38 (by kernel_rfl) (.cons (by decide) rfl ty3 rfl (fq3.le rfl) (by decide) rfl (.cons (by decide) rfl ty3 rfl (fq3.le rfl) (by decide) rfl .nil))
theorem eg38 : Try.prog.eqGuardType Try.prog.depth 38 = false := by kernel_rfl
theorem fq46 : Flat Try.prog 2 46 8 true := flat_array Try.underlying46 ty3 fq3 (by decide) rfl
theorem eg46 : Try.prog.eqGuardType Try.prog.depth 46 = false := by kernel_rfl
theorem fq47 : Flat Try.prog 2 47 4 true := flat_struct Try.underlying47 (by kernel_rfl) (.cons (by decide) rfl ty3 rfl (fq3.le rfl) (by decide) rfl (.cons (by decide) rfl ty3 rfl (fq3.le rfl) (by decide) rfl (.cons (by decide) rfl ty3 rfl (fq3.le rfl) (by decide) rfl (.cons (by decide) rfl ty3 rfl (fq3.le rfl) (by decide) rfl .nil))))
theorem eg47 : Try.prog.eqGuardType Try.prog.depth 47 = false := by kernel_rfl
theorem fq48 : Flat Try.prog 2 48 4 true := flat_struct Try.underlying48 (by kernel_rfl) (.cons (by decide) rfl ty3 rfl (fq3.le rfl) (by decide) rfl (.cons (by decide) rfl ty3 rfl (fq3.le rfl) (by decide) rfl (.cons (by decide) rfl ty3 rfl (fq3.le rfl) (by decide) rfl (.cons (by decide) rfl ty3 rfl (fq3.le rfl) (by decide) rfl .nil))))
theorem eg48 : Try.prog.eqGuardType Try.prog.depth 48 = false := by kernel_rfl
theorem fq77 : Flat Try.prog 2 77 1 true := flat_struct Try.underlying77 (by kernel_rfl) (.cons (by decide) rfl ty31 rfl (fq31.le rfl) (by decide) rfl .nil)
theorem eg77 : Try.prog.eqGuardType Try.prog.depth 77 = false := by kernel_rfl
theorem fq78 : Flat Try.prog 2 78 1 true := flat_struct Try.underlying78 (by kernel_rfl) (.cons (by decide) rfl ty31 rfl (fq31.le rfl) (by decide) rfl .nil)
theorem eg78 : Try.prog.eqGuardType Try.prog.depth 78 = false := by kernel_rfl
theorem fq85 : Flat Try.prog 2 85 3 true := flat_struct Try.underlying85 (by kernel_rfl) (.cons (by decide) rfl ty3 rfl (fq3.le rfl) (by decide) rfl (.cons (by decide) rfl ty3 rfl (fq3.le rfl) (by decide) rfl (.cons (by decide) rfl ty3 rfl (fq3.le rfl) (by decide) rfl .nil)))
theorem eg85 : Try.prog.eqGuardType Try.prog.depth 85 = false := by kernel_rfl
theorem fq86 : Flat Try.prog 2 86 3 true := flat_struct Try.underlying86 (by kernel_rfl) (.cons (by decide) rfl ty3 rfl (fq3.le rfl) (by decide) rfl (.cons (by decide) rfl ty3 rfl (fq3.le rfl) (by decide) rfl (.cons (by decide) rfl ty3 rfl (fq3.le rfl) (by decide) rfl .nil)))
theorem eg86 : Try.prog.eqGuardType Try.prog.depth 86 = false := by kernel_rfl
theorem mixed : Try.prog.follows .mixedOrders = true := by kernel_rfl
theorem hb3 : HasBody Try.prog 3 := Try.call3
theorem hb4 : HasBody Try.prog 4 := Try.call4
theorem hb5 : HasBody Try.prog 5 := Try.call5
theorem hb6 : HasBody Try.prog 6 := Try.call6
theorem hb7 : HasBody Try.prog 7 := Try.call7
theorem hb8 : HasBody Try.prog 8 := Try.call8
theorem hb9 : HasBody Try.prog 9 := Try.call9
theorem hb10 : HasBody Try.prog 10 := Try.call10
theorem hb11 : HasBody Try.prog 11 := Try.call11
theorem hb12 : HasBody Try.prog 12 := Try.call12
theorem hb13 : HasBody Try.prog 13 := Try.call13
theorem hb14 : HasBody Try.prog 14 := Try.call14
theorem hb15 : HasBody Try.prog 15 := Try.call15
theorem hb16 : HasBody Try.prog 16 := Try.call16
theorem hb17 : HasBody Try.prog 17 := Try.call17
theorem hb18 : HasBody Try.prog 18 := Try.call18
theorem hb19 : HasBody Try.prog 19 := Try.call19
theorem hb20 : HasBody Try.prog 20 := Try.call20
theorem hb21 : HasBody Try.prog 21 := Try.call21
theorem hb22 : HasBody Try.prog 22 := Try.call22
theorem hb23 : HasBody Try.prog 23 := Try.call23
theorem hb24 : HasBody Try.prog 24 := Try.call24
theorem hb25 : HasBody Try.prog 25 := Try.call25
theorem hb26 : HasBody Try.prog 26 := Try.call26
theorem hb27 : HasBody Try.prog 27 := Try.call27
theorem hb28 : HasBody Try.prog 28 := Try.call28
theorem hb29 : HasBody Try.prog 29 := Try.call29
theorem hb30 : HasBody Try.prog 30 := Try.call30
theorem hb31 : HasBody Try.prog 31 := Try.call31
theorem hb32 : HasBody Try.prog 32 := Try.call32
theorem hb33 : HasBody Try.prog 33 := Try.call33
theorem hb34 : HasBody Try.prog 34 := Try.call34
theorem hb35 : HasBody Try.prog 35 := Try.call35
theorem hb36 : HasBody Try.prog 36 := Try.call36
theorem hb37 : HasBody Try.prog 37 := Try.call37
theorem hb38 : HasBody Try.prog 38 := Try.call38
theorem hb39 : HasBody Try.prog 39 := Try.call39
theorem hb40 : HasBody Try.prog 40 := Try.call40
theorem hb41 : HasBody Try.prog 41 := Try.call41
theorem hb42 : HasBody Try.prog 42 := Try.call42
theorem hb43 : HasBody Try.prog 43 := Try.call43
theorem hb44 : HasBody Try.prog 44 := Try.call44
theorem hb45 : HasBody Try.prog 45 := Try.call45
theorem hb46 : HasBody Try.prog 46 := Try.call46
theorem hb47 : HasBody Try.prog 47 := Try.call47
theorem hb48 : HasBody Try.prog 48 := Try.call48
theorem hb49 : HasBody Try.prog 49 := Try.call49
theorem hb50 : HasBody Try.prog 50 := Try.call50
theorem hb51 : HasBody Try.prog 51 := Try.call51
end Go.Proofs.Ytjmailhoidenaaa
