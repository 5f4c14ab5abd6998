/-
  Facts on some more types.
-/
import Derived.Test.YtjmailhoidenaaaTy
set_option linter.all false
namespace Go.Proofs.Ytjmailhoidenaaa
open Go Go.H
set_option maxRecDepth 100000
theorem ty5 : TyOk Try.prog 5 ⟨1, 1, (Go.TypeDesc.int Go.IntKind.u8), (Go.Value.int Go.IntKind.u8 0)⟩ := ⟨Try.underlying5, by kernel_rfl⟩
theorem ty25 : TyOk Try.prog 25 ⟨1, 24, (Go.TypeDesc.slice 48), (Go.Value.slice none 0 0)⟩ := ⟨Try.underlying25, by kernel_rfl⟩
theorem ty52 : TyOk Try.prog 52 ⟨1, 24, (Go.TypeDesc.slice 5), (Go.Value.slice none 0 0)⟩ := ⟨Try.underlying52, by kernel_rfl⟩
theorem sl52 : SlT Try.prog 52 5 := Try.underlying52
end Go.Proofs.Ytjmailhoidenaaa
