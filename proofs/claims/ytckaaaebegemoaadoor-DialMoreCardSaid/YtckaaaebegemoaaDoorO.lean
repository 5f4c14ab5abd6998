/-
  Rounds, dials and lists of numbers, as a law's arguments read; the package's table, as it is laid.
-/
import Derived.Test.YtckaaaebegemoaaDoorHG
import Derived.Test.YtckaaaebegemoaaDoorTy
import Derived.Test.YtckaaaebegemoaaDoorP1
import Derived.Test.YtckaaaebegemoaaDoorRows
import Derived.ProofKit
import Derived.OpenShut
import Derived.LaidLaws
import Derived.LaidHandle
import Derived.Stop.Joined
import Derived.Handed
import Derived.MakeChecks
set_option linter.all false
namespace Go.Proofs.YtckaaaebegemoaaDoor
open Go Go.H
set_option maxRecDepth 100000
section
variable {H : Type} {enc : TypeId × Value → H} {w : World} {sp : Nat → Bool} {held : Bool}
theorem cells3 : Tryd.prog.cellsOf 3 = 1 := by kernel_rfl
theorem cells4 : Tryd.prog.cellsOf 4 = 1 := by kernel_rfl
theorem cells47 : Tryd.prog.cellsOf 47 = 1 := by kernel_rfl
theorem cells38 : Tryd.prog.cellsOf 38 = 2 := by kernel_rfl
theorem cells45 : Tryd.prog.cellsOf 45 = 4 := by kernel_rfl
theorem cells82 : Tryd.prog.cellsOf 82 = 7 := by kernel_rfl
theorem open_i {n : Nat} {l : List Value} {y : DataW H × List MemPlace} (h : DataW.trod enc Tryd.prog w 0 sp held n 3 l = some y) : ∃ i : Int, l = [I i] := by
  obtain ⟨i, e, _⟩ := open_num Tryd.underlying3 h
  exact ⟨i, e⟩
theorem open_b {n : Nat} {l : List Value} {y : DataW H × List MemPlace} (h : DataW.trod enc Tryd.prog w 0 sp held n 4 l = some y) : ∃ b : Bool, l = [.bool b] := by
  cases n with
  | zero => simp [DataW.trod] at h
  | succ n =>
    unfold DataW.trod at h
    rw [Tryd.underlying4] at h
    split at h <;> simp_all
def i16 := { n : Int // 0 ≤ n ∧ n ≤ 65535 }
theorem open_span (n : Nat) (l : List Value) (y : DataW H × List MemPlace) (h : DataW.trod enc Tryd.prog w 0 sp held n 38 l = some y) : ∃ x, l = eSpan x := by
  obtain ⟨hl, hf⟩ := trod_struct_open Tryd.underlying38 h
  rw [cells38] at hl
  obtain ⟨a, b, rfl⟩ := list2 hl
  obtain ⟨_, _, h1⟩ := hf _ (List.mem_cons_self)
  obtain ⟨_, _, h2⟩ := hf _ (List.mem_cons_of_mem _ List.mem_cons_self)
  simp only [cells3] at h1 h2
  obtain ⟨a, e1⟩ := open_i h1
  obtain ⟨b, e2⟩ := open_i h2
  cases e1; cases e2
  exact ⟨⟨a, b⟩, rfl⟩
theorem open_dial (n : Nat) (l : List Value) (y : DataW H × List MemPlace) (h : DataW.trod enc Tryd.prog w 0 sp held n 45 l = some y) : ∃ x, l = eDial x := by
  obtain ⟨hl, hf⟩ := trod_struct_open Tryd.underlying45 h
  rw [cells45] at hl
  obtain ⟨a, b, c, d, rfl⟩ := list4 hl
  obtain ⟨_, _, h1⟩ := hf _ (List.mem_cons_self)
  obtain ⟨_, _, h2⟩ := hf _ (List.mem_cons_of_mem _ List.mem_cons_self)
  obtain ⟨_, _, h3⟩ := hf _ (List.mem_cons_of_mem _ (List.mem_cons_of_mem _ List.mem_cons_self))
  simp only [cells3, cells4, cells38] at h1 h2 h3
  obtain ⟨a, e1⟩ := open_i h1
  obtain ⟨x, e2⟩ := open_span _ _ _ h2
  obtain ⟨b, e3⟩ := open_b h3
  cases e1; cases e2; cases e3
  exact ⟨⟨a, x, b⟩, rfl⟩
theorem open_u16 (n : Nat) (l : List Value) (y : DataW H × List MemPlace) (h : DataW.trod enc Tryd.prog w 0 sp held n 47 l = some y) : ∃ x : i16, l = [.int .u16 x.1] := by
  obtain ⟨i, e, hw⟩ := open_num Tryd.underlying47 h
  exact ⟨⟨i, in16_of hw⟩, e⟩
theorem all_sub {p : Int → Prop} (xs : List { n : Int // p n }) : ∀ x ∈ xs.map Subtype.val, p x := fun x hx => by
  obtain ⟨y, _, rfl⟩ := List.mem_map.1 hx
  exact y.2
variable {v : Value} {d : DataW H} {ps : List MemPlace} {r : Reach} {b : Nat}
theorem open_by16 (hv : Value.okWide Tryd.prog w r b 46 v) (h : DataW.Trod enc Tryd.prog w 0 sp held 46 v d ps) : ∃ a c xs, v = .slice a (xs : List Int).length c ∧ xs.length ≤ 9223372036854775807 ∧ SlV (full w) 1 (fun n => [.int .u16 n]) a xs ∧ ∀ x ∈ xs, 0 ≤ x ∧ x ≤ 65535 := by
  obtain ⟨a, c, xs, e, h1, h2⟩ := open_arg (en := fun n => [Value.int .u16 n]) Tryd.underlying46 cells47 (by decide) open_u16 hv h
  exact ⟨a, c, _, e, h1, h2, all_sub xs⟩
theorem open_dialA (hv : Value.okWide Tryd.prog w r b 45 v) (h : DataW.Trod enc Tryd.prog w 0 sp held 45 v d ps) : ∃ x : Dial, v = .agg ⟨eDial x⟩ := by
  obtain ⟨n, hn⟩ := h
  unfold Value.okWide at hv
  rw [Tryd.underlying45] at hv
  obtain ⟨⟨cs⟩, rfl, _, _⟩ := hv
  obtain ⟨x, e⟩ := open_dial _ _ _ hn
  have e : cs = eDial x := e
  rw [e]; exact ⟨x, rfl⟩
end
/-! ### The table -/
theorem gT : Tryd.prog.globalNamed "gasworks/dial.turns" = some 0 := by kernel_rfl
theorem gTy : (Tryd.prog.globals[0]?).map (·.type) = some 82 := by kernel_rfl
theorem turns_of_laid {w : World} (h : laidMetH Tryd.prog [("gasworks/dial.turns", Rows.laid_gasworks_dial_turns)] w) : TurnsV (full w) := by
  have h' : laidMet Tryd.prog [("gasworks/dial.turns", Rows.laid_gasworks_dial_turns)] w := h
  obtain ⟨ps, ⟨g, t, cs, fuel, p, q, hg, ht, hvar, hd, _, hps⟩, _, hrow⟩ := h'
  obtain rfl := Option.some.inj (gT.symm.trans hg)
  obtain rfl := Option.some.inj (gTy.symm.trans ht)
  have hcs : cs = ⟨turnsL⟩ := by
    obtain ⟨l⟩ := cs
    congr 1
    obtain ⟨xs, m, rfl, hx, hl, hn, hall⟩ := DataW.trod_array Tryd.underlying82 hd
    rw [cells82] at hl
    have hx' : xs.map (·.1) = [.lit (.int .i64 1), .lit (.int .i64 10), .lit (.int .i64 100), .lit (.int .i64 1000), .lit (.int .i64 10000), .lit (.int .i64 100000), .lit (.int .i64 1000000)] := by
      have := congrArg Prod.fst hx
      exact (DataW.agg.inj this).symm
    simp only [cells3] at hall
    have key : ∀ i, i < 7 → ∀ k, (xs.map (·.1))[i]? = some (.lit (.int .i64 k)) → l[i]? = some (I k) := by
      intro i hi k hk
      have h1 := hall i hi
      have hlt : i < l.length := by have : l.length = 7 := hl; omega
      rw [Nat.mul_one, List.drop_eq_getElem_cons hlt] at h1
      have e1 : (l[i] :: l.drop (i + 1)).take 1 = [l[i]] := rfl
      rw [e1] at h1
      rw [List.getElem?_map] at hk
      cases hxi : xs[i]? with
      | none => rw [hxi] at hk; cases hk
      | some y =>
        rw [hxi] at hk h1
        simp only [Option.map_some, Option.some.injEq] at hk
        cases m with
        | zero => simp [DataW.trod] at h1
        | succ m =>
          unfold DataW.trod at h1
          rw [Tryd.underlying3] at h1
          split at h1 <;> simp_all
          all_goals first
            | (obtain ⟨_, h2⟩ := h1; rw [← h2] at hk; simp at hk; simp [*])
            | skip
    refine List.ext_getElem? fun i => ?_
    by_cases hi : i < 7
    · have h7 : i = 0 ∨ i = 1 ∨ i = 2 ∨ i = 3 ∨ i = 4 ∨ i = 5 ∨ i = 6 := by omega
      rcases h7 with rfl | rfl | rfl | rfl | rfl | rfl | rfl <;> exact key _ (by decide) _ (by rw [hx']; rfl)
    · have : l.length = 7 := hl
      rw [List.getElem?_eq_none (by omega), List.getElem?_eq_none (by show (turnsL.length) ≤ i; simp only [turnsL, List.length_cons, List.length_nil]; omega)]
  subst hcs
  have hm : MemPlace.cell 0 0 ∈ ps := by
    rw [hps]
    refine List.mem_append_left _ (List.mem_append_left _ ?_)
    show MemPlace.cell 0 0 ∈ MemPlace.row ⟨0, 0, none⟩ 7
    decide
  obtain ⟨⟨c, t, hc⟩, _⟩ := hrow 0 0 hm
  refine ⟨t, mem_full.2 ?_⟩
  unfold World.var? at hvar
  rw [gT] at hvar
  simp only [Option.bind_some, hc] at hvar
  rw [hc, Option.some.inj hvar]
noncomputable def laidWorld (os : Os) : World :=
  { World.holding Tryd.prog os ⟨#[], #[], []⟩ with heap := (World.holding Tryd.prog os ⟨#[], #[], []⟩).heap.modify 0 fun
      | .cells _ t frozen => .cells ⟨turnsL⟩ t frozen
      | o => o }
theorem laidWorld_met (os : Os) (args : Array Value) : laidMetH Tryd.prog [("gasworks/dial.turns", Rows.laid_gasworks_dial_turns)] ((laidWorld os).forCall (fun _ _ => 0) ⟨#[], args, []⟩).memory :=
  show laidMet _ _ _ from laidMet_of_run' 8 (by kernel_rfl) (by kernel_rfl)
end Go.Proofs.YtckaaaebegemoaaDoor
