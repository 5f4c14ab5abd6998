/-
  The law BookTogether holds for every input: it returns true, and its arguments read as before; its tied card.
-/
import Derived.Test.YtlpkiolopelpfaaDoorRows
import Derived.Test.YtlpkiolopelpfaaDoorCards
import Derived.Test.YtlpkiolopelpfaaDoorTie
import Derived.Test.YtlpkiolopelpfaaDoorW1
import Derived.Test.YtlpkiolopelpfaaDoorW30
import Derived.WalkKit
import Derived.ProofKit
import Derived.OpenShut
import Derived.ShutString
import Derived.ChangeOld
import Derived.Below
import Derived.SizedLaws
import Derived.SevenTiedAt
namespace Go.Proofs.YtlpkiolopelpfaaDoor.bookTogether
open Go.ChangeShapes Go.WideShapes Go.ChangeAt Go.RowKit Go.H
open Go.ChangeMaps (open_string shut_string)
set_option linter.all false
theorem own : ownKnob Tryd.prog.godebug = none := by kernel_rfl
theorem laidOut : laidOutB Tryd.prog = true := by kernel_rfl
set_option maxRecDepth 100000 in
theorem lifted (os : Os) (started : os.Started) (H : Type) (enc : TypeId × Value → H) :
    ReturnsInHanded {} Tryd.checked os 4 .any (fun w args => (Rows.bookTogetherSpec.pre enc Tryd.prog Tryd.f4 Rows.bookTogetherRow.domain false w args ∧ laidMetH Tryd.prog Rows.bookTogetherRow.laid w) ∧ sizedMet enc Tryd.prog Tryd.f4 (OpenSpec.ofChange Rows.bookTogetherSpec) false w args) (Rows.bookTogetherSpec.post enc Tryd.prog Tryd.f4 false true false false) := by
  refine returnsInHanded_of_change_and (C := Tryd.checked) (X := fun w _ => laidMetH Tryd.prog Rows.bookTogetherRow.laid w) (fun _ _ _ hh h => h.of_heap hh) own started (by kernel_rfl) Tryd.func4
    (ChangeSpec.witness_at (enc := enc) (C := Tryd.checked) (os := os) (X := fun w _ => laidMetH Tryd.prog Rows.bookTogetherRow.laid w) false (laidWorld os) #[.slice none 0 0, .slice none 0 0, .int .u8 0] 8 rfl (by kernel_rfl) (by kernel_rfl) (by kernel_rfl) (by kernel_rfl) (by kernel_rfl) (laidWorld_met os _)) ?_
  intro W base args ds gs before hval0 hW hcnd hsz0 hL _
  have hT := pow_of_laid hL
  have hval : ∀ (j : Nat) t v, Tryd.f4.params[j]? = some t → args[j]? = some v → Value.okWide Tryd.prog W .any base t v := hval0
  have hW' := hW
  obtain ⟨p, q, hA0, hV, rfl, hfz, hnd⟩ := hW
  have hA : DataW.TrodAll enc Tryd.prog W 0 (fun _ => true) true Tryd.f4.params.toList args.toList ds p := hA0
  rw [Tryd.params4] at hA hval
  obtain ⟨v0, vs0, d0, ds0, p0, q0, hargs, rfl, rfl, h0, r0⟩ := trodAll_cons hA
  obtain ⟨v1, vs1, d1, ds1, p1, q1, rfl, rfl, rfl, h1, r1⟩ := trodAll_cons r0
  obtain ⟨v2, vs2, d2, ds2, p2, q2, rfl, rfl, rfl, h2, r2⟩ := trodAll_cons r1
  obtain ⟨rfl, rfl, rfl⟩ := trodAll_nil r2
  obtain rfl : args = #[v0, v1, v2] := by cases args; simp_all
  obtain ⟨rfl, rfl⟩ := trodVars_none hV
  have k0 := h0
  have lt0 : ∀ x ∈ p0, x.block < W.heap.size := by obtain ⟨m, hm⟩ := k0; exact DataW.trod_lt m _ _ _ hm
  have cp0 := cap_ok Tryd.underlying32 (hval 0 32 v0 rfl rfl)
  obtain ⟨a0, c0, l0, rfl, lm0, hl0⟩ := open_loads (hval 0 32 v0 rfl rfl) h0
  have cq0 := cp0 _ _ _ rfl
  have k1 := h1
  have lt1 : ∀ x ∈ p1, x.block < W.heap.size := by obtain ⟨m, hm⟩ := k1; exact DataW.trod_lt m _ _ _ hm
  have cp1 := cap_ok Tryd.underlying33 (hval 1 33 v1 rfl rfl)
  obtain ⟨a1, c1, l1, rfl, lm1, hl1⟩ := open_leaves (hval 1 33 v1 rfl rfl) h1
  have cq1 := cp1 _ _ _ rfl
  obtain ⟨a2, rfl, rfl, rfl, w2⟩ := open_int Tryd.underlying5 (hval 2 5 v2 rfl rfl) h2
  obtain ⟨n2, rfl⟩ := Int.eq_ofNat_of_zero_le (in8_of w2).1
  have hn2 : n2 ≤ 255 := by have := (in8_of w2).2; omega
  clear hA0 hval0 hsz0
  refine (calls_of_full (v := .bool true) fun R hR => BookTogether_c hl0 cq0 hl1 lm1 cq1 hn2 hT hR).mono fun e W' ⟨he, bel⟩ => ?_
  subst he
  exact ⟨_, rfl, _, _, _, [], _, [], hW', trodAll_mk1 (shut_bool Tryd.underlying4 _), (trodAll_cons_mk (Below.trod laidOut (by kernel_rfl) (of_decide_eq_true (by kernel_rfl)) k0 bel lt0) (trodAll_cons_mk (Below.trod laidOut (by kernel_rfl) (of_decide_eq_true (by kernel_rfl)) k1 bel lt1) (trodAll_cons_mk (shut_int Tryd.underlying5 w2) trodAll_mk0))), rfl, bel.frame _, fun h => by cases h⟩
theorem over : Rows.bookTogetherRow.holds Tryd.pinned (OpenSpec.ofChange Rows.bookTogetherSpec) :=
  OpenClaim.holds_of_wide 4 Tryd.f4 rfl rfl rfl rfl rfl rfl rfl ⟨rfl, rfl, rfl, rfl, rfl⟩ rfl rfl rfl rfl rfl (by kernel_rfl) Tryd.func4 (by kernel_rfl)
    (of_decide_eq_true (by kernel_rfl)) (by unfold Func.isWrapper; first | (rw [if_pos (by decide +kernel)]; kernel_rfl) | (rw [if_neg (by decide +kernel)]; exact ⟨rfl, rfl⟩))
    (fun os started H enc _ => lifted os started H enc)
theorem proved : Rows.BookTogetherSaid := over
theorem card : Rows.BookTogetherCardSaid :=
  Claim7.holds_tied_plain_at .later [] [.data, .data, .data, .sentinel] true (true, "30b139ea9b53af5b1f84ad9d48e5e56c6c66238d62ec1b789d861d36b69babc7") true
    proved (fun _ h => by cases h) (by kernel_rfl) (fun _ h => by cases h) bookTogether_row_tie rfl ⟨rfl, rfl⟩ (by kernel_rfl) rfl
    (fun f fn hf hfn => by
      obtain rfl : f = 4 := Option.some.inj ((show Tryd.prog.funcNamed "gasworks/gasworkslaw14.BookTogether" = some 4 by kernel_rfl).symm.trans hf) |>.symm
      obtain rfl : fn = Tryd.f4 := (Option.some.inj (Tryd.func4.symm.trans hfn)).symm
      exact ⟨by kernel_rfl, fun j t ht => by
        rw [Tryd.params4] at ht
        have h3 : t = 32 ∨ t = 33 ∨ t = 5 := by
          have hm := List.mem_of_getElem? (by simpa using ht : ([32, 33, 5] : List Nat)[j]? = some t)
          simp only [List.mem_cons, List.not_mem_nil, or_false] at hm
          rcases hm with h9 | h9 | h9 <;> simp [h9]
        rcases h3 with rfl | rfl | rfl
        · exact (show Tryd.prog.wantsStandIn 32 = false by kernel_rfl)
        · exact (show Tryd.prog.wantsStandIn 33 = false by kernel_rfl)
        · exact (show Tryd.prog.wantsStandIn 5 = false by kernel_rfl)⟩)
    (by kernel_rfl)
end Go.Proofs.YtlpkiolopelpfaaDoor.bookTogether
namespace Go.Proofs.YtlpkiolopelpfaaDoor
theorem bookTogether_holds : Rows.BookTogetherCardSaid := bookTogether.card
#print axioms bookTogether_holds
end Go.Proofs.YtlpkiolopelpfaaDoor
