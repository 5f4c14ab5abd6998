/-
  Rows of bytes as strings; what the reference's reader meets.
-/
import Derived.Test.YtlpkiolopelpfaaDoorP8
import Derived.Test.YtlpkiolopelpfaaDoorHV
import Derived.Test.YtlpkiolopelpfaaDoorRows
import Derived.ProofKit
import Derived.OpenShut
import Derived.LaidLaws
import Derived.LaidHandle
import Derived.Stop.Joined
import Derived.Handed
import Derived.MakeChecks
import Derived.Test.YtlpkiolopelpfaaDoorD
set_option linter.all false
namespace Go.Proofs.YtlpkiolopelpfaaDoor
open Go Go.H
def u8 (bs : List Int) : List UInt8 := bs.map fun x => UInt8.ofNat x.toNat
def byt (bs : List Int) : Prop := ∀ b ∈ bs, 0 ≤ b ∧ b ≤ 255
theorem u8_len (bs : List Int) : (u8 bs).length = bs.length := List.length_map _
theorem u8_val {x : Int} (h : 0 ≤ x ∧ x ≤ 255) : (((UInt8.ofNat x.toNat).toNat : Nat) : Int) = x := by
  rw [UInt8.toNat_ofNat']; omega
theorem slv_u8 {h : Hp} {a : Option Addr} {bs : List Int} (hb : byt bs) (hs : SlV h 1 eB a bs) : SlV h 1 eU a (u8 bs) := by
  rcases hs with rfl | ⟨b, o, l, t, fz, rfl, hm, hx⟩
  · exact .inl rfl
  · refine .inr ⟨b, o, l, t, fz, rfl, hm, fun i q hq => ?_⟩
    simp only [u8, List.getElem?_map, Option.map_eq_some_iff] at hq
    obtain ⟨x, hx1, rfl⟩ := hq
    rw [hx i x hx1]
    show [U8 x] = [U8 _]
    rw [u8_val (hb x (List.mem_of_getElem? hx1))]
theorem pk_byt : ∀ {l : List Nat}, (∀ x ∈ l, x < 16) → byt (pk l)
  | [], _ => fun b hb => by cases hb
  | [_], _ => fun b hb => by simp [pk] at hb
  | a :: c :: l, h => fun b hb => by
    have h1 := h a List.mem_cons_self
    have h2 := h c (List.mem_cons_of_mem _ List.mem_cons_self)
    rw [pk] at hb
    rcases List.mem_cons.1 hb with rfl | hb
    · omega
    · exact pk_byt (fun x hx => h x (List.mem_cons_of_mem _ (List.mem_cons_of_mem _ hx))) b hb
theorem logB_byt (l : List Sight) : byt (logB l) := by rw [logB_eq]; exact pk_byt (padL_lt (hvA_lt _))
section
variable {bs all : List Int} (h : refP (hvL bs) 0 = all)
include h
end
section
variable {P : Program} {r : Option Nat} {E : Env} {h : Hp} {K : Value → Hp → Prop} {T : List PanicEntry → Hp → Prop} {dst : Option Nat} {ty : TypeId} {pos : String} {af : Array Edge} {gd : Option (Nat × Bool)}
theorem xv_cvB {s t e : TypeId} {x : Operand} {a : Option Addr} {n c : Nat} {bs : List Int} (hs : SlT P s e) (he8 : P.underlying e = some (.int .u8)) (ht : P.underlying t = some .string) (hx : ev E x = some (.slice a n c)) (hn : n = bs.length) (hb : byt bs) (hl : SlV h 1 eB a bs)
    (H : K (S (u8 bs)) h) : XV P r ⟨dst, .convert s t x, ty, pos, af, gd⟩ K T E h := by
  cases bs with
  | nil =>
    subst hn
    refine xv_of_run (by simp [plainOp]) fun w ρ ho he => ?_
    cases a with
    | none =>
      have hr := run_convert_bytes_nil (P := P) w s e hs he8 ([] : List Int).length c t ht
      exact ⟨S [], h, w, by simp only [execOp, he _ _ hx, Sem.run_bind, hr, Result.andThen_ok]; rfl, H, .refl ho⟩
    | some a =>
      have hr := run_convert_bytes_back (P := P) w s t e a c [] hs he8 ht (fun j hj => by simp at hj)
      exact ⟨S [], h, w, by simp only [execOp, he _ _ hx, Sem.run_bind]; rw [show ([] : List Int).length = ([] : List UInt8).length from rfl, hr]; rfl, H, .refl ho⟩
  | cons y ys =>
    obtain ⟨b9, o9, li, t9, fz, rfl, hm, hx9⟩ := (slv_u8 hb hl).at (i := 0) (by simp [u8])
    have hread := slv_flat2 eU_len hx9
    rw [Nat.mul_one] at hread
    exact xv_cvBS hs he8 ht hx (by rw [hn, u8_len]) hm (by rw [hn, ← u8_len]; exact hread) H
end
theorem eqc_sightD (a b : Sight) : (!eqc [I a.hour, I a.height] [I b.hour, I b.height]) = !decide (a = b) := by
  obtain ⟨a, a'⟩ := a
  obtain ⟨b, b'⟩ := b
  simp only [eqc, Sight.mk.injEq]
  by_cases ha : a = b <;> by_cases hb : a' = b' <;> simp [ha, hb]
end Go.Proofs.YtlpkiolopelpfaaDoor

/-
  Sights, loads, leaves, bytes, as a law's arguments read; the library's tables, as they are laid.
-/
set_option linter.all false
namespace Go.Proofs.YtlpkiolopelpfaaDoor
open Go Go.H
set_option maxRecDepth 100000
section
variable {H : Type} {enc : TypeId × Value → H} {w : World} {sp : Nat → Bool} {held : Bool}
theorem cells3 : Tryd.prog.cellsOf 3 = 1 := by kernel_rfl
theorem cells60 : Tryd.prog.cellsOf 60 = 1 := by kernel_rfl
theorem cells72 : Tryd.prog.cellsOf 72 = 2 := by kernel_rfl
theorem cells75 : Tryd.prog.cellsOf 75 = 4 := by kernel_rfl
theorem open_i {n : Nat} {l : List Value} {y : DataW H × List MemPlace} (h : DataW.trod enc Tryd.prog w 0 sp held n 3 l = some y) : ∃ i : Int, l = [I i] := by
  obtain ⟨i, e, _⟩ := open_num Tryd.underlying3 h
  exact ⟨i, e⟩
theorem open_int1 (n : Nat) (l : List Value) (y : DataW H × List MemPlace) (h : DataW.trod enc Tryd.prog w 0 sp held n 3 l = some y) : ∃ x : Int, l = eI (id x) := open_i h
def i8 := { n : Int // 0 ≤ n ∧ n ≤ 255 }
theorem open_load (n : Nat) (l : List Value) (y : DataW H × List MemPlace) (h : DataW.trod enc Tryd.prog w 0 sp held n 75 l = some y) : ∃ x : Load, l = eLoad (id x) := by
  obtain ⟨hl, hf⟩ := trod_struct_open Tryd.underlying75 h
  rw [cells75] at hl
  obtain ⟨a, b, c, d, rfl⟩ := list4 hl
  obtain ⟨_, _, h1⟩ := hf _ (List.mem_cons_self)
  obtain ⟨_, _, h2⟩ := hf _ (List.mem_cons_of_mem _ List.mem_cons_self)
  obtain ⟨_, _, h3⟩ := hf _ (List.mem_cons_of_mem _ (List.mem_cons_of_mem _ List.mem_cons_self))
  obtain ⟨_, _, h4⟩ := hf _ (List.mem_cons_of_mem _ (List.mem_cons_of_mem _ (List.mem_cons_of_mem _ List.mem_cons_self)))
  simp only [cells3] at h1 h2 h3 h4
  obtain ⟨a, e1⟩ := open_i h1
  obtain ⟨b, e2⟩ := open_i h2
  obtain ⟨c, e3⟩ := open_i h3
  obtain ⟨d, e4⟩ := open_i h4
  cases e1; cases e2; cases e3; cases e4
  exact ⟨⟨a, b, c, d⟩, rfl⟩
def LeafW (w : World) := { x : Leaf // SlV (full w) 1 eI x.ra x.rds ∧ x.rds.length ≤ 9223372036854775807 }
theorem open_leaf (n : Nat) (l : List Value) (y : DataW H × List MemPlace) (h : DataW.trod enc Tryd.prog w 0 sp held n 72 l = some y) : ∃ x : LeafW w, l = eLeaf x.1 := by
  obtain ⟨hl, hf⟩ := trod_struct_open Tryd.underlying72 h
  rw [cells72] at hl
  obtain ⟨a, b, rfl⟩ := list2 hl
  obtain ⟨_, _, h1⟩ := hf _ (List.mem_cons_self)
  obtain ⟨_, _, h2⟩ := hf _ (List.mem_cons_of_mem _ List.mem_cons_self)
  simp only [cells3, cells60] at h1 h2
  obtain ⟨a, e1⟩ := open_i h1
  obtain ⟨sa, sc, ss, e2, l2, q2⟩ := open_slv (en := fun x => eI (id x)) Tryd.underlying60 cells3 (by decide) open_int1 h2
  cases e1; cases e2
  exact ⟨⟨⟨a, sa, sc, ss⟩, q2, l2⟩, rfl⟩
variable {v : Value} {d : DataW H} {ps : List MemPlace} {r : Reach} {b : Nat}
theorem open_loads (hv : Value.okWide Tryd.prog w r b 32 v) (h : DataW.Trod enc Tryd.prog w 0 sp held 32 v d ps) : ∃ a c xs, v = .slice a (xs : List Load).length c ∧ xs.length ≤ 9223372036854775807 ∧ SlV (full w) 4 eLoad a xs := by
  obtain ⟨a, c, xs, e, h1, h2⟩ := open_arg (f := id) Tryd.underlying32 cells75 (by decide) open_load hv h
  exact ⟨a, c, _, e, h1, h2⟩
theorem open_leaves (hv : Value.okWide Tryd.prog w r b 33 v) (h : DataW.Trod enc Tryd.prog w 0 sp held 33 v d ps) : ∃ a c xs, v = .slice a (xs : List Leaf).length c ∧ xs.length ≤ 9223372036854775807 ∧ LeavesV (full w) a xs := by
  obtain ⟨a, c, xs, e, h1, h2⟩ := open_arg Tryd.underlying33 cells72 (by decide) open_leaf hv h
  exact ⟨a, c, _, e, h1, h2, fun x hx => by
    obtain ⟨y, _, rfl⟩ := List.mem_map.1 hx
    exact y.2.1⟩
end
def u64L : List Value := (List.range 20).map fun i => .int .u64 (10 ^ i)
def tab32 : List Value := [0, 1, 28, 2, 29, 14, 24, 3, 30, 22, 20, 15, 25, 17, 4, 8, 31, 27, 13, 23, 21, 19, 16, 7, 26, 12, 18, 6, 11, 5, 10, 9].map U8
def tab64 : List Value := [0, 1, 56, 2, 57, 49, 28, 3, 61, 58, 42, 50, 38, 29, 17, 4, 62, 47, 59, 36, 45, 43, 51, 22, 53, 39, 33, 30, 24, 18, 12, 5, 63, 55, 48, 27, 60, 41, 37, 16, 46, 35, 44, 21, 52, 32, 23, 11, 54, 26, 40, 15, 34, 20, 31, 10, 25, 14, 19, 9, 13, 8, 7, 6].map U8
abbrev laid4 : List (String × DataW Unit) := [("math/bits.deBruijn32tab", Rows.laid_math_bits_deBruijn32tab), ("math/bits.deBruijn64tab", Rows.laid_math_bits_deBruijn64tab), ("internal/strconv.uint64pow10", Rows.laid_internal_strconv_uint64pow10), ("bytes.ErrTooLarge", Rows.laid_bytes_ErrTooLarge)]
abbrev tooLarge : ByteArray := { data := #[98, 121, 116, 101, 115, 46, 66, 117, 102, 102, 101, 114, 58, 32, 116, 111, 111, 32, 108, 97, 114, 103, 101] }
noncomputable def low : Nat := (World.holding Tryd.prog default ⟨#[], #[], []⟩).heap.size
noncomputable def laidWorld (os : Os) : World :=
  let w0 := World.holding Tryd.prog os ⟨#[.cells #[.string tooLarge] 159], #[], []⟩
  { w0 with heap := (((w0.heap.modify 0 fun
      | .cells _ t frozen => .cells #[.iface 145 (.pointer (some ⟨low, 0, none⟩))] t frozen
      | o => o).modify 2 fun
      | .cells _ t frozen => .cells ⟨u64L⟩ t frozen
      | o => o).modify 3 fun
      | .cells _ t frozen => .cells ⟨tab32⟩ t frozen
      | o => o).modify 4 fun
      | .cells _ t frozen => .cells ⟨tab64⟩ t frozen
      | o => o }
theorem laidWorld_met (os : Os) (args : Array Value) : laidMetH Tryd.prog laid4 ((laidWorld os).forCall (fun _ _ => 0) ⟨#[], args, []⟩).memory :=
  show laidMet _ _ _ from laidMet_of_run' 8 (by kernel_rfl) (by kernel_rfl)
end Go.Proofs.YtlpkiolopelpfaaDoor

/-
  The table of powers of ten, as it is laid.
-/
set_option linter.all false
namespace Go.Proofs.YtlpkiolopelpfaaDoor
open Go Go.H
set_option maxRecDepth 100000
theorem laid_ints {w : World} {t e n : Nat} {k : IntKind} {ns : List Int} {fuel : Nat} {l : List Value} {p : List MemPlace} (ht : Tryd.prog.underlying t = some (.array n e)) (he : Tryd.prog.underlying e = some (.int k)) (hc : Tryd.prog.cellsOf e = 1) (hct : Tryd.prog.cellsOf t = n) (hn : ns.length = n)
    (hd : DataW.trod (fun _ => ()) Tryd.prog w 0 (fun _ => true) false fuel t l = some (.agg (ns.map fun x => .lit (.int k x)), p)) : l = ns.map (.int k) := by
  obtain ⟨xs, m, rfl, hx, hl, hxl, hall⟩ := DataW.trod_array ht hd
  rw [hct] at hl
  have hx' : xs.map (·.1) = ns.map fun x => (DataW.lit (.int k x) : DataW Unit) := by
    have := congrArg Prod.fst hx
    exact (DataW.agg.inj this).symm
  refine List.ext_getElem? fun i => ?_
  by_cases hi : i < n
  · have hlt : i < l.length := by omega
    have hnt : i < ns.length := by omega
    have h1 := hall i hi
    rw [hc, Nat.mul_one, List.drop_eq_getElem_cons hlt] at h1
    have e1 : (l[i] :: l.drop (i + 1)).take 1 = [l[i]] := rfl
    rw [e1] at h1
    have hxi : i < xs.length := by omega
    have h2 := congrArg (·[i]?) hx'
    simp only [List.getElem?_map, List.getElem?_eq_getElem hxi, List.getElem?_eq_getElem hnt, Option.map_some, Option.some.injEq] at h2
    rw [List.getElem?_eq_getElem hxi] at h1
    obtain ⟨q, e2, _⟩ := open_num he h1
    rw [e2] at h1
    cases m with
    | zero => simp [DataW.trod] at h1
    | succ m =>
      unfold DataW.trod at h1
      rw [he] at h1
      have e3 : l[i] = .int k q := by injection e2
      rw [List.getElem?_eq_getElem hlt, List.getElem?_map, List.getElem?_eq_getElem hnt, e3]
      split at h1 <;> simp_all
      all_goals first
        | (obtain ⟨_, h3⟩ := h1; rw [← h3] at h2; simpa using h2)
        | skip
  · rw [List.getElem?_eq_none (by omega), List.getElem?_eq_none (by rw [List.length_map]; omega)]
theorem cap_ok {P : Program} {w : World} {t e : TypeId} {v : Value} {r : Reach} {b : Nat} (ht : P.underlying t = some (.slice e)) (hv : Value.okWide P w r b t v) : ∀ a n c, v = .slice a n c → n ≤ c := by
  rintro a n c rfl
  unfold Value.okWide at hv
  rw [ht] at hv
  simp only [Cell.okWide, Cell.ok, ht] at hv
  cases a with
  | some a => exact hv.1
  | none => cases n <;> cases c <;> simp_all
def powL : List Int := [1, 10, 100, 1000, 10000, 100000, 1000000, 10000000, 100000000, 1000000000, 10000000000, 100000000000, 1000000000000, 10000000000000, 100000000000000, 1000000000000000, 10000000000000000, 100000000000000000, 1000000000000000000, 10000000000000000000]
def PowV (h : Hp) : Prop := ∃ t, (2, .cells ⟨powL.map (.int .u64)⟩ t) ∈ h
theorem PowV.sub {h g : Hp} (H : PowV h) (hs : h ⊆ g) : PowV g := H.imp fun t ht => hs ht
theorem gP : Tryd.prog.globalNamed "internal/strconv.uint64pow10" = some 2 := by kernel_rfl
theorem gPT : (Tryd.prog.globals[2]?).map (·.type) = some 138 := by kernel_rfl
theorem cells132 : Tryd.prog.cellsOf 132 = 1 := by kernel_rfl
theorem cells138 : Tryd.prog.cellsOf 138 = 20 := by kernel_rfl
theorem pow_of_laid {w : World} (h : laidMetH Tryd.prog laid4 w) : PowV (full w) := by
  have h' : laidMet Tryd.prog laid4 w := h
  obtain ⟨ps, ⟨_, _, _, _, _, _, _, _, _, _, ⟨_, _, _, _, _, _, _, _, _, _, ⟨g, t, cs, fuel, p, q, hg, ht, hvar, hd, _, hps⟩, e1⟩, e0⟩, _, hrow⟩ := h'
  obtain rfl := Option.some.inj (gP.symm.trans hg)
  obtain rfl := Option.some.inj (gPT.symm.trans ht)
  have hcs : cs = ⟨powL.map (.int .u64)⟩ := by
    obtain ⟨l⟩ := cs
    congr 1
    exact laid_ints (ns := powL) Tryd.underlying138 Tryd.underlying132 cells132 cells138 rfl hd
  subst hcs
  have hm : MemPlace.cell 2 0 ∈ ps := by
    rw [e0, e1, hps]
    refine List.mem_append_right _ (List.mem_append_right _ (List.mem_append_left _ (List.mem_append_left _ ?_)))
    show MemPlace.cell 2 0 ∈ MemPlace.row ⟨2, 0, none⟩ 20
    decide
  obtain ⟨⟨c, t, hc⟩, _⟩ := hrow 2 0 hm
  refine ⟨t, mem_full.2 ?_⟩
  unfold World.var? at hvar
  rw [gP] at hvar
  simp only [Option.bind_some, hc] at hvar
  rw [hc, Option.some.inj hvar]
end Go.Proofs.YtlpkiolopelpfaaDoor

/-
  Walks.
-/
namespace Go.Proofs.YtlpkiolopelpfaaDoor
open Go Go.H
set_option maxRecDepth 100000
set_option maxHeartbeats 8000000
set_option linter.all false
theorem within_c (n l u : Int) {h : Hp} {R : Ending → Hp → Prop} (H1 : l ≤ n → n ≤ u → R (.returned (.bool true)) h) (H2 : ¬ (l ≤ n ∧ n ≤ u) → R (.returned (.bool false)) h) :
    ACalls Tryd.prog 49 ⟨[.int .i64 n, .int .i64 l, .int .i64 u]⟩ h R := by
  refine calls_of_xc (N := 15) Tryd.func49 rfl (by rfl) ?_
  refine xc_seq (xc_region ?_)
  refine xr_op rfl rfl (xv_assign rfl ?_)
  refine xr_end rfl ?_
  refine th_n ?_
  refine xc_seq (xc_region ?_)
  refine xr_op rfl rfl (xv_move rfl ?_)
  refine xr_op rfl rfl (xv_move rfl ?_)
  refine xr_op rfl rfl (xv_leq2 rfl rfl (fun q1 => ?_) (fun q1 => ?_))
  · refine xr_op rfl rfl (xv_move rfl ?_)
    refine xr_gd rfl rfl rfl (xv_move rfl ?_)
    refine xr_gd rfl rfl rfl (xv_move rfl ?_)
    refine xr_gd rfl rfl rfl (xv_leq2 rfl rfl (fun q2 => ?_) (fun q2 => ?_))
    · refine xr_op rfl rfl (xv_pick rfl rfl ?_)
      refine xr_op rfl rfl (xv_assign rfl ?_)
      refine xr_end rfl ?_
      refine th_n ?_
      refine xc_ret ?_
      refine body_ret (h' := h) rfl (ro_tmp rfl ro_nil) (by (first|((repeat first|exact s_0|exact s_1|exact s_3|refine s_4 ?_|refine s_5 ?_|refine s_6 ?_|refine s_7 ?_);done)|((repeat first|exact s_0|exact s_1|exact s_3|refine s_4 ?_|refine s_5 ?_|refine s_6 ?_|refine s_8 ?_);done))) ?_
      first | exact H1 (by omega) (by omega) | exact H2 (by omega)
    · refine xr_op rfl rfl (xv_pick rfl rfl ?_)
      refine xr_op rfl rfl (xv_assign rfl ?_)
      refine xr_end rfl ?_
      refine th_n ?_
      refine xc_ret ?_
      refine body_ret (h' := h) rfl (ro_tmp rfl ro_nil) (by (first|((repeat first|exact s_0|exact s_1|exact s_3|refine s_4 ?_|refine s_5 ?_|refine s_6 ?_|refine s_7 ?_);done)|((repeat first|exact s_0|exact s_1|exact s_3|refine s_4 ?_|refine s_5 ?_|refine s_6 ?_|refine s_8 ?_);done))) ?_
      first | exact H1 (by omega) (by omega) | exact H2 (by omega)
  · refine xr_op rfl rfl (xv_move rfl ?_)
    refine xr_no rfl rfl rfl rfl ?_
    refine xr_no rfl rfl rfl rfl ?_
    refine xr_no rfl rfl rfl rfl ?_
    refine xr_op rfl rfl (xv_pick rfl rfl ?_)
    refine xr_op rfl rfl (xv_assign rfl ?_)
    refine xr_end rfl ?_
    refine th_n ?_
    refine xc_ret ?_
    refine body_ret (h' := h) rfl (ro_tmp rfl ro_nil) (by (first|((repeat first|exact s_0|exact s_1|exact s_3|refine s_4 ?_|refine s_5 ?_|refine s_6 ?_|refine s_7 ?_);done)|((repeat first|exact s_0|exact s_1|exact s_3|refine s_4 ?_|refine s_5 ?_|refine s_6 ?_|refine s_8 ?_);done))) ?_
    first | exact H1 (by omega) (by omega) | exact H2 (by omega)

theorem isNaN_c {x : Int} {h : Hp} {R : Ending → Hp → Prop} (H : R (.returned (.bool false)) h) : ACalls Tryd.prog 68 ⟨[I x]⟩ h R := by
  refine calls_of_xc (N := 6) Tryd.func68 rfl (by rfl) ?_
  refine xc_seq (xc_region ?_)
  refine xr_op rfl rfl (xv_assign rfl ?_)
  refine xr_end rfl ?_
  refine th_n ?_
  refine xc_seq (xc_region ?_)
  refine xr_op rfl rfl (xv_move rfl ?_)
  refine xr_op rfl rfl (xv_move rfl ?_)
  refine xr_op rfl rfl (xv_neqF rfl rfl rfl ?_)
  refine xr_op rfl rfl (xv_assign rfl ?_)
  refine xr_end rfl ?_
  refine th_n ?_
  refine xc_ret ?_
  refine body_ret (h' := h) rfl (ro_tmp rfl ro_nil) (by (first|((repeat first|exact s_0|exact s_1|exact s_3|refine s_4 ?_|refine s_5 ?_|refine s_6 ?_|refine s_7 ?_);done)|((repeat first|exact s_0|exact s_1|exact s_3|refine s_4 ?_|refine s_5 ?_|refine s_6 ?_|refine s_8 ?_);done))) ?_
  exact H

theorem cmp_c {x y : Int} {h : Hp} {R : Ending → Hp → Prop} (H : R (.returned (I (cmpI x y))) h) : ACalls Tryd.prog 50 ⟨[I x, I y]⟩ h R := by
  refine calls_of_xc (N := 20) Tryd.func50 rfl (by rfl) ?_
  refine xc_seq (xc_region ?_)
  refine xr_op rfl rfl (xv_assign rfl ?_)
  refine xr_end rfl ?_
  refine th_n ?_
  refine xc_seq (xc_region ?_)
  refine xr_op rfl rfl (xv_move rfl ?_)
  refine xr_op rfl rfl (xv_calls rfl hb68 (isNaN_c (up_ret ?_)))
  refine xr_op rfl rfl (xv_assign rfl ?_)
  refine xr_end rfl ?_
  refine th_n ?_
  refine xc_seq (xc_region ?_)
  refine xr_op rfl rfl (xv_move rfl ?_)
  refine xr_op rfl rfl (xv_calls rfl hb68 (isNaN_c (up_ret ?_)))
  refine xr_op rfl rfl (xv_assign rfl ?_)
  refine xr_end rfl ?_
  refine th_n ?_
  refine xc_seq ?_
  refine xc_seq (xc_region ?_)
  refine xr_op rfl rfl (xv_move rfl ?_)
  refine xr_end rfl ?_
  refine th_n ?_
  refine xc_false rfl ?_
  refine xc_skip ?_
  refine th_n ?_
  refine xc_seq ?_
  refine xc_seq (xc_region ?_)
  refine xr_op rfl rfl (xv_move rfl ?_)
  refine xr_end rfl ?_
  refine th_n ?_
  refine xc_false rfl ?_
  refine xc_skip ?_
  refine th_n ?_
  refine xc_seq ?_
  refine xc_seq (xc_region ?_)
  refine xr_op rfl rfl (xv_move rfl ?_)
  refine xr_op rfl rfl (xv_move rfl ?_)
  refine xr_op rfl rfl (xv_lss2 rfl rfl (fun q1 => ?_) (fun q1 => ?_))
  · refine xr_end rfl ?_
    refine th_n ?_
    refine xc_true rfl ?_
    refine xc_seq (xc_region ?_)
    refine xr_op rfl rfl (xv_assign rfl ?_)
    refine xr_end rfl ?_
    refine th_n ?_
    refine xc_ret ?_
    refine th_r ?_
    refine body_ret (h' := h) rfl (ro_tmp rfl ro_nil) (by (first|((repeat first|exact s_0|exact s_1|exact s_3|refine s_4 ?_|refine s_5 ?_|refine s_6 ?_|refine s_7 ?_);done)|((repeat first|exact s_0|exact s_1|exact s_3|refine s_4 ?_|refine s_5 ?_|refine s_6 ?_|refine s_8 ?_);done))) ?_
    first | (rw [show cmpI x y = -1 by unfold cmpI; rw [if_pos (by omega)]] at H; exact H) | (rw [show cmpI x y = 1 by unfold cmpI; rw [if_neg (by omega), if_pos (by omega)]] at H; exact H) | (rw [show cmpI x y = 0 by unfold cmpI; rw [if_neg (by omega), if_neg (by omega)]] at H; exact H)
  · refine xr_end rfl ?_
    refine th_n ?_
    refine xc_false rfl ?_
    refine xc_skip ?_
    refine th_n ?_
    refine xc_seq ?_
    refine xc_seq (xc_region ?_)
    refine xr_op rfl rfl (xv_move rfl ?_)
    refine xr_op rfl rfl (xv_move rfl ?_)
    refine xr_op rfl rfl (xv_gtr2 rfl rfl (fun q2 => ?_) (fun q2 => ?_))
    · refine xr_end rfl ?_
      refine th_n ?_
      refine xc_true rfl ?_
      refine xc_seq (xc_region ?_)
      refine xr_op rfl rfl (xv_assign rfl ?_)
      refine xr_end rfl ?_
      refine th_n ?_
      refine xc_ret ?_
      refine th_r ?_
      refine body_ret (h' := h) rfl (ro_tmp rfl ro_nil) (by (first|((repeat first|exact s_0|exact s_1|exact s_3|refine s_4 ?_|refine s_5 ?_|refine s_6 ?_|refine s_7 ?_);done)|((repeat first|exact s_0|exact s_1|exact s_3|refine s_4 ?_|refine s_5 ?_|refine s_6 ?_|refine s_8 ?_);done))) ?_
      first | (rw [show cmpI x y = -1 by unfold cmpI; rw [if_pos (by omega)]] at H; exact H) | (rw [show cmpI x y = 1 by unfold cmpI; rw [if_neg (by omega), if_pos (by omega)]] at H; exact H) | (rw [show cmpI x y = 0 by unfold cmpI; rw [if_neg (by omega), if_neg (by omega)]] at H; exact H)
    · refine xr_end rfl ?_
      refine th_n ?_
      refine xc_false rfl ?_
      refine xc_skip ?_
      refine th_n ?_
      refine xc_seq (xc_region ?_)
      refine xr_op rfl rfl (xv_assign rfl ?_)
      refine xr_end rfl ?_
      refine th_n ?_
      refine xc_ret ?_
      refine body_ret (h' := h) rfl (ro_tmp rfl ro_nil) (by (first|((repeat first|exact s_0|exact s_1|exact s_3|refine s_4 ?_|refine s_5 ?_|refine s_6 ?_|refine s_7 ?_);done)|((repeat first|exact s_0|exact s_1|exact s_3|refine s_4 ?_|refine s_5 ?_|refine s_6 ?_|refine s_8 ?_);done))) ?_
      first | (rw [show cmpI x y = -1 by unfold cmpI; rw [if_pos (by omega)]] at H; exact H) | (rw [show cmpI x y = 1 by unfold cmpI; rw [if_neg (by omega), if_pos (by omega)]] at H; exact H) | (rw [show cmpI x y = 0 by unfold cmpI; rw [if_neg (by omega), if_neg (by omega)]] at H; exact H)

theorem or_c {p q : Int} {b : Nat} {h : Hp} {R : Ending → Hp → Prop} (hm : (b, .cells ⟨[I p, I q]⟩ 3 (0, 0)) ∈ h) (H : R (.returned (I (if p ≠ 0 then p else q))) h) : ACalls Tryd.prog 59 ⟨[.slice (some ⟨b, 0, none⟩) 2 2]⟩ h R := by
  refine calls_of_xc (N := 18) Tryd.func59 rfl (by rfl) ?_
  refine xc_seq (xc_region ?_)
  refine xr_op rfl rfl (xv_assign rfl ?_)
  refine xr_end rfl ?_
  refine th_n ?_
  refine xc_seq (xc_region ?_)
  refine xr_op rfl rfl (xv_assign rfl ?_)
  refine xr_end rfl ?_
  refine th_n ?_
  refine xc_seq ?_
  refine xc_seq (xc_region ?_)
  refine xr_op rfl rfl (xv_move rfl ?_)
  refine xr_op rfl rfl (xv_len sl60 rfl ?_)
  refine xr_op rfl rfl (xv_move rfl ?_)
  refine xr_end rfl ?_
  refine th_n ?_
  refine xc_block ?_
  refine xc_loop (σ := Nat) (fun k => k ≤ 2 ∧ (0 < k → p = 0) ∧ (1 < k → q = 0)) (fun k => ((((emp.put (some 3) (I 0)).put (some 6) (.slice (some ⟨b, 0, none⟩) 2 2)).put (some 7) (I 2)).put (some 8) (I k))) (fun k => h) (fun k => 2 - k) 0 ⟨by omega, fun h9 => absurd h9 (by omega), fun h9 => absurd h9 (by omega)⟩ (le_put (le_put (le_put (le_put (le_emp _) rfl) rfl) rfl) rfl) (by (first|((repeat first|exact s_0|exact s_1|exact s_3|refine s_4 ?_|refine s_5 ?_|refine s_6 ?_|refine s_7 ?_);done)|((repeat first|exact s_0|exact s_1|exact s_3|refine s_4 ?_|refine s_5 ?_|refine s_6 ?_|refine s_8 ?_);done))) ?_
  rintro k ⟨hk, hp0, hq0⟩
  refine xc_seq (xc_region ?_)
  refine xr_op rfl rfl (xv_lss2 rfl rfl (fun q1 => ?_) (fun q1 => ?_))
  · refine xr_end rfl ?_
    refine th_n ?_
    refine xc_seq ?_
    refine xc_true rfl ?_
    refine xc_skip ?_
    refine th_n ?_
    refine xc_seq ?_
    refine xc_block ?_
    refine xc_seq (xc_region ?_)
    obtain ⟨v, hv, hvp, hvq⟩ : ∃ v, ([I p, I q] : List Value)[0 + k * 1]? = some (I v) ∧ (k = 0 → v = p) ∧ (k = 1 → v = q) := by
      rcases (show k = 0 ∨ k = 1 by (first|omega|(dsimp only at *;omega)|(simp at *;omega))) with rfl | rfl
      · exact ⟨p, rfl, fun _ => rfl, fun h9 => by omega⟩
      · exact ⟨q, rfl, fun h9 => by omega, fun _ => rfl⟩
    refine xr_op rfl rfl (xv_ia (sz := 1) (j := k) sl60 ty3 rfl rfl rfl (by (first | assumption | with_reducible exact Int.toNat_natCast _ | with_reducible rfl | rfl)) (by (first|omega|(dsimp only at *;omega)|(simp at *;omega))) (by (first|omega|(dsimp only at *;omega)|(simp at *;omega))) ?_)
    refine xr_op rfl rfl (xv_load1 ty3 rfl rfl (by ((repeat first|exact z_0|assumption|refine z_1 ?_|(refine z_l ?_;(repeat first|exact z_0|assumption|refine z_1 ?_);done)|refine z_r ?_);done)) hv ?_)
    refine xr_op rfl rfl (xv_assign rfl ?_)
    refine xr_end rfl ?_
    refine th_n ?_
    refine xc_seq (xc_region ?_)
    refine xr_op rfl rfl (xv_move rfl ?_)
    refine xr_op rfl rfl (xv_move rfl ?_)
    refine xr_op rfl rfl (xv_neq2 rfl rfl (fun q2 => ?_) (fun q2 => ?_))
    · refine xr_end rfl ?_
      refine th_n ?_
      refine xc_true rfl ?_
      refine xc_seq (xc_region ?_)
      rw [or_val (k := k) (v := v) (by (first|omega|(dsimp only at *;omega)|(simp at *;omega))) hp0 hvp hvq (by assumption)] at H
      refine xr_op rfl rfl (xv_move rfl ?_)
      refine xr_op rfl rfl (xv_assign rfl ?_)
      refine xr_end rfl ?_
      refine th_n ?_
      refine xc_ret ?_
      refine bk_r ?_
      refine th_r ?_
      refine th_r ?_
      refine bk_r ?_
      refine th_r ?_
      refine body_ret (h' := h) rfl (ro_tmp rfl ro_nil) (by (first|((repeat first|exact s_0|exact s_1|exact s_3|refine s_4 ?_|refine s_5 ?_|refine s_6 ?_|refine s_7 ?_);done)|((repeat first|exact s_0|exact s_1|exact s_3|refine s_4 ?_|refine s_5 ?_|refine s_6 ?_|refine s_8 ?_);done))) ?_
      exact H
    · refine xr_end rfl ?_
      refine th_n ?_
      refine xc_false rfl ?_
      refine xc_skip ?_
      refine bk_n ?_
      refine th_n ?_
      refine xc_region ?_
      refine xr_op rfl rfl (xv_add rfl rfl (wrap_i64 (by (first|omega|(dsimp only at *;omega)|(simp at *;omega))) (by (first|omega|(dsimp only at *;omega)|(simp at *;omega)))) ?_)
      refine xr_op rfl rfl (xv_move rfl ?_)
      refine xr_end rfl ?_
      exact rnd (k + 1) (or_inv (by (first|omega|(dsimp only at *;omega)|(simp at *;omega))) hp0 hq0 hvp hvq (by omega)) (by (first|omega|(dsimp only at *;omega)|(simp at *;omega))) (le_put (le_put (le_put (le_put (le_emp _) rfl) rfl) rfl) rfl) (by (first|((repeat first|exact s_0|exact s_1|exact s_3|refine s_4 ?_|refine s_5 ?_|refine s_6 ?_|refine s_7 ?_);done)|((repeat first|exact s_0|exact s_1|exact s_3|refine s_4 ?_|refine s_5 ?_|refine s_6 ?_|refine s_8 ?_);done)))
  · refine xr_end rfl ?_
    refine th_n ?_
    refine xc_seq ?_
    refine xc_false rfl ?_
    refine xc_exit ?_
    refine th_x ?_
    refine th_x ?_
    refine bk_same ?_
    refine th_n ?_
    refine xc_seq (xc_region ?_)
    rw [or_end (hp0 (by (first|omega|(dsimp only at *;omega)|(simp at *;omega)))) (hq0 (by (first|omega|(dsimp only at *;omega)|(simp at *;omega))))] at H
    refine xr_op rfl rfl (xv_move rfl ?_)
    refine xr_op rfl rfl (xv_assign rfl ?_)
    refine xr_end rfl ?_
    refine th_n ?_
    refine xc_ret ?_
    refine body_ret (h' := h) rfl (ro_tmp rfl ro_nil) (by (first|((repeat first|exact s_0|exact s_1|exact s_3|refine s_4 ?_|refine s_5 ?_|refine s_6 ?_|refine s_7 ?_);done)|((repeat first|exact s_0|exact s_1|exact s_3|refine s_4 ?_|refine s_5 ?_|refine s_6 ?_|refine s_8 ?_);done))) ?_
    exact H

theorem isSight_c {x : Sight} {h : Hp} {R : Ending → Hp → Prop} (H : R (.returned (.bool (decide (sightOk x)))) h) : ACalls Tryd.prog 18 ⟨[.agg ⟨eSight x⟩]⟩ h R := by
  refine calls_of_xc (N := 11) Tryd.func18 rfl (by rfl) ?_
  refine xc_seq (xc_region ?_)
  refine xr_op rfl rfl (xv_box rfl (fun b1 hb1 => ?_))
  refine xr_op rfl rfl (xv_assign rfl ?_)
  refine xr_end rfl ?_
  refine th_n ?_
  refine xc_seq (xc_region ?_)
  refine xr_op rfl rfl (xv_faddr fl44_0 rfl ?_)
  refine xr_op rfl rfl (xv_load1 ty3 rfl rfl (by ((repeat first|exact z_0|assumption|refine z_1 ?_|(refine z_l ?_;(repeat first|exact z_0|assumption|refine z_1 ?_);done)|refine z_r ?_);done)) (by rfl) ?_)
  refine xr_op rfl rfl (xv_calls rfl hb49 (within_c _ _ _ (fun hl2 hu3 => up_ret ?_) (fun hn4 => up_ret ?_)))
  · refine xr_op rfl rfl (xv_move rfl ?_)
    refine xr_gd rfl rfl rfl (xv_faddr fl44_1 rfl ?_)
    refine xr_gd rfl rfl rfl (xv_load1 ty3 rfl rfl (by ((repeat first|exact z_0|assumption|refine z_1 ?_|(refine z_l ?_;(repeat first|exact z_0|assumption|refine z_1 ?_);done)|refine z_r ?_);done)) (by rfl) ?_)
    refine xr_gd rfl rfl rfl (xv_calls rfl hb49 (within_c _ _ _ (fun hl5 hu6 => up_ret ?_) (fun hn7 => up_ret ?_)))
    · refine xr_op rfl rfl (xv_pick rfl rfl ?_)
      refine xr_op rfl rfl (xv_assign rfl ?_)
      refine xr_end rfl ?_
      refine th_n ?_
      refine xc_ret ?_
      refine body_ret (h' := h) rfl (ro_tmp rfl ro_nil) (by (first|((repeat first|exact s_0|exact s_1|exact s_3|refine s_4 ?_|refine s_5 ?_|refine s_6 ?_|refine s_7 ?_);done)|((repeat first|exact s_0|exact s_1|exact s_3|refine s_4 ?_|refine s_5 ?_|refine s_6 ?_|refine s_8 ?_);done))) ?_
      first | (rw [decide_eq_true (show sightOk x by unfold sightOk; omega)] at H; exact H) | (rw [decide_eq_false (show ¬ sightOk x by unfold sightOk; omega)] at H; exact H)
    · refine xr_op rfl rfl (xv_pick rfl rfl ?_)
      refine xr_op rfl rfl (xv_assign rfl ?_)
      refine xr_end rfl ?_
      refine th_n ?_
      refine xc_ret ?_
      refine body_ret (h' := h) rfl (ro_tmp rfl ro_nil) (by (first|((repeat first|exact s_0|exact s_1|exact s_3|refine s_4 ?_|refine s_5 ?_|refine s_6 ?_|refine s_7 ?_);done)|((repeat first|exact s_0|exact s_1|exact s_3|refine s_4 ?_|refine s_5 ?_|refine s_6 ?_|refine s_8 ?_);done))) ?_
      first | (rw [decide_eq_true (show sightOk x by unfold sightOk; omega)] at H; exact H) | (rw [decide_eq_false (show ¬ sightOk x by unfold sightOk; omega)] at H; exact H)
  · refine xr_op rfl rfl (xv_move rfl ?_)
    refine xr_no rfl rfl rfl rfl ?_
    refine xr_no rfl rfl rfl rfl ?_
    refine xr_no rfl rfl rfl rfl ?_
    refine xr_op rfl rfl (xv_pick rfl rfl ?_)
    refine xr_op rfl rfl (xv_assign rfl ?_)
    refine xr_end rfl ?_
    refine th_n ?_
    refine xc_ret ?_
    refine body_ret (h' := h) rfl (ro_tmp rfl ro_nil) (by (first|((repeat first|exact s_0|exact s_1|exact s_3|refine s_4 ?_|refine s_5 ?_|refine s_6 ?_|refine s_7 ?_);done)|((repeat first|exact s_0|exact s_1|exact s_3|refine s_4 ?_|refine s_5 ?_|refine s_6 ?_|refine s_8 ?_);done))) ?_
    first | (rw [decide_eq_true (show sightOk x by unfold sightOk; omega)] at H; exact H) | (rw [decide_eq_false (show ¬ sightOk x by unfold sightOk; omega)] at H; exact H)

theorem isLoad_c {x : Load} {h : Hp} {R : Ending → Hp → Prop} (H : R (.returned (.bool (decide (loadOk x)))) h) : ACalls Tryd.prog 36 ⟨[.agg ⟨eLoad x⟩]⟩ h R := by
  refine calls_of_xc (N := 21) Tryd.func36 rfl (by rfl) ?_
  refine xc_seq (xc_region ?_)
  refine xr_op rfl rfl (xv_box rfl (fun b1 hb1 => ?_))
  refine xr_op rfl rfl (xv_assign rfl ?_)
  refine xr_end rfl ?_
  refine th_n ?_
  refine xc_seq (xc_region ?_)
  refine xr_op rfl rfl (xv_faddr fl75_0 rfl ?_)
  refine xr_op rfl rfl (xv_load1 ty3 rfl rfl (by ((repeat first|exact z_0|assumption|refine z_1 ?_|(refine z_l ?_;(repeat first|exact z_0|assumption|refine z_1 ?_);done)|refine z_r ?_);done)) (by rfl) ?_)
  refine xr_op rfl rfl (xv_calls rfl hb49 (within_c _ _ _ (fun hl2 hu3 => up_ret ?_) (fun hn4 => up_ret ?_)))
  · refine xr_op rfl rfl (xv_move rfl ?_)
    refine xr_gd rfl rfl rfl (xv_faddr fl75_1 rfl ?_)
    refine xr_gd rfl rfl rfl (xv_load1 ty3 rfl rfl (by ((repeat first|exact z_0|assumption|refine z_1 ?_|(refine z_l ?_;(repeat first|exact z_0|assumption|refine z_1 ?_);done)|refine z_r ?_);done)) (by rfl) ?_)
    refine xr_gd rfl rfl rfl (xv_calls rfl hb49 (within_c _ _ _ (fun hl5 hu6 => up_ret ?_) (fun hn7 => up_ret ?_)))
    · refine xr_op rfl rfl (xv_pick rfl rfl ?_)
      refine xr_op rfl rfl (xv_move rfl ?_)
      refine xr_gd rfl rfl rfl (xv_faddr fl75_2 rfl ?_)
      refine xr_gd rfl rfl rfl (xv_load1 ty3 rfl rfl (by ((repeat first|exact z_0|assumption|refine z_1 ?_|(refine z_l ?_;(repeat first|exact z_0|assumption|refine z_1 ?_);done)|refine z_r ?_);done)) (by rfl) ?_)
      refine xr_gd rfl rfl rfl (xv_calls rfl hb49 (within_c _ _ _ (fun hl8 hu9 => up_ret ?_) (fun hn10 => up_ret ?_)))
      · refine xr_op rfl rfl (xv_pick rfl rfl ?_)
        refine xr_op rfl rfl (xv_move rfl ?_)
        refine xr_gd rfl rfl rfl (xv_faddr fl75_3 rfl ?_)
        refine xr_gd rfl rfl rfl (xv_load1 ty3 rfl rfl (by ((repeat first|exact z_0|assumption|refine z_1 ?_|(refine z_l ?_;(repeat first|exact z_0|assumption|refine z_1 ?_);done)|refine z_r ?_);done)) (by rfl) ?_)
        refine xr_gd rfl rfl rfl (xv_calls rfl hb49 (within_c _ _ _ (fun hl11 hu12 => up_ret ?_) (fun hn13 => up_ret ?_)))
        · refine xr_op rfl rfl (xv_pick rfl rfl ?_)
          refine xr_op rfl rfl (xv_assign rfl ?_)
          refine xr_end rfl ?_
          refine th_n ?_
          refine xc_ret ?_
          refine body_ret (h' := h) rfl (ro_tmp rfl ro_nil) (by (first|((repeat first|exact s_0|exact s_1|exact s_3|refine s_4 ?_|refine s_5 ?_|refine s_6 ?_|refine s_7 ?_);done)|((repeat first|exact s_0|exact s_1|exact s_3|refine s_4 ?_|refine s_5 ?_|refine s_6 ?_|refine s_8 ?_);done))) ?_
          first | (rw [decide_eq_true (show loadOk x by unfold loadOk; omega)] at H; exact H) | (rw [decide_eq_false (show ¬ loadOk x by unfold loadOk; omega)] at H; exact H)
        · refine xr_op rfl rfl (xv_pick rfl rfl ?_)
          refine xr_op rfl rfl (xv_assign rfl ?_)
          refine xr_end rfl ?_
          refine th_n ?_
          refine xc_ret ?_
          refine body_ret (h' := h) rfl (ro_tmp rfl ro_nil) (by (first|((repeat first|exact s_0|exact s_1|exact s_3|refine s_4 ?_|refine s_5 ?_|refine s_6 ?_|refine s_7 ?_);done)|((repeat first|exact s_0|exact s_1|exact s_3|refine s_4 ?_|refine s_5 ?_|refine s_6 ?_|refine s_8 ?_);done))) ?_
          first | (rw [decide_eq_true (show loadOk x by unfold loadOk; omega)] at H; exact H) | (rw [decide_eq_false (show ¬ loadOk x by unfold loadOk; omega)] at H; exact H)
      · refine xr_op rfl rfl (xv_pick rfl rfl ?_)
        refine xr_op rfl rfl (xv_move rfl ?_)
        refine xr_no rfl rfl rfl rfl ?_
        refine xr_no rfl rfl rfl rfl ?_
        refine xr_no rfl rfl rfl rfl ?_
        refine xr_op rfl rfl (xv_pick rfl rfl ?_)
        refine xr_op rfl rfl (xv_assign rfl ?_)
        refine xr_end rfl ?_
        refine th_n ?_
        refine xc_ret ?_
        refine body_ret (h' := h) rfl (ro_tmp rfl ro_nil) (by (first|((repeat first|exact s_0|exact s_1|exact s_3|refine s_4 ?_|refine s_5 ?_|refine s_6 ?_|refine s_7 ?_);done)|((repeat first|exact s_0|exact s_1|exact s_3|refine s_4 ?_|refine s_5 ?_|refine s_6 ?_|refine s_8 ?_);done))) ?_
        first | (rw [decide_eq_true (show loadOk x by unfold loadOk; omega)] at H; exact H) | (rw [decide_eq_false (show ¬ loadOk x by unfold loadOk; omega)] at H; exact H)
    · refine xr_op rfl rfl (xv_pick rfl rfl ?_)
      refine xr_op rfl rfl (xv_move rfl ?_)
      refine xr_no rfl rfl rfl rfl ?_
      refine xr_no rfl rfl rfl rfl ?_
      refine xr_no rfl rfl rfl rfl ?_
      refine xr_op rfl rfl (xv_pick rfl rfl ?_)
      refine xr_op rfl rfl (xv_move rfl ?_)
      refine xr_no rfl rfl rfl rfl ?_
      refine xr_no rfl rfl rfl rfl ?_
      refine xr_no rfl rfl rfl rfl ?_
      refine xr_op rfl rfl (xv_pick rfl rfl ?_)
      refine xr_op rfl rfl (xv_assign rfl ?_)
      refine xr_end rfl ?_
      refine th_n ?_
      refine xc_ret ?_
      refine body_ret (h' := h) rfl (ro_tmp rfl ro_nil) (by (first|((repeat first|exact s_0|exact s_1|exact s_3|refine s_4 ?_|refine s_5 ?_|refine s_6 ?_|refine s_7 ?_);done)|((repeat first|exact s_0|exact s_1|exact s_3|refine s_4 ?_|refine s_5 ?_|refine s_6 ?_|refine s_8 ?_);done))) ?_
      first | (rw [decide_eq_true (show loadOk x by unfold loadOk; omega)] at H; exact H) | (rw [decide_eq_false (show ¬ loadOk x by unfold loadOk; omega)] at H; exact H)
  · refine xr_op rfl rfl (xv_move rfl ?_)
    refine xr_no rfl rfl rfl rfl ?_
    refine xr_no rfl rfl rfl rfl ?_
    refine xr_no rfl rfl rfl rfl ?_
    refine xr_op rfl rfl (xv_pick rfl rfl ?_)
    refine xr_op rfl rfl (xv_move rfl ?_)
    refine xr_no rfl rfl rfl rfl ?_
    refine xr_no rfl rfl rfl rfl ?_
    refine xr_no rfl rfl rfl rfl ?_
    refine xr_op rfl rfl (xv_pick rfl rfl ?_)
    refine xr_op rfl rfl (xv_move rfl ?_)
    refine xr_no rfl rfl rfl rfl ?_
    refine xr_no rfl rfl rfl rfl ?_
    refine xr_no rfl rfl rfl rfl ?_
    refine xr_op rfl rfl (xv_pick rfl rfl ?_)
    refine xr_op rfl rfl (xv_assign rfl ?_)
    refine xr_end rfl ?_
    refine th_n ?_
    refine xc_ret ?_
    refine body_ret (h' := h) rfl (ro_tmp rfl ro_nil) (by (first|((repeat first|exact s_0|exact s_1|exact s_3|refine s_4 ?_|refine s_5 ?_|refine s_6 ?_|refine s_7 ?_);done)|((repeat first|exact s_0|exact s_1|exact s_3|refine s_4 ?_|refine s_5 ?_|refine s_6 ?_|refine s_8 ?_);done))) ?_
    first | (rw [decide_eq_true (show loadOk x by unfold loadOk; omega)] at H; exact H) | (rw [decide_eq_false (show ¬ loadOk x by unfold loadOk; omega)] at H; exact H)

theorem bad_c {x : Int} {h : Hp} {R : Ending → Hp → Prop} (H : R (.returned (.bool (!decide (rdOk x)))) h) : ACalls Tryd.prog 65 ⟨[I x]⟩ h R := by
  refine calls_of_xc (N := 6) Tryd.func65 rfl (by rfl) ?_
  refine xc_seq (xc_region ?_)
  refine xr_op rfl rfl (xv_assign rfl ?_)
  refine xr_end rfl ?_
  refine th_n ?_
  refine xc_seq (xc_region ?_)
  refine xr_op rfl rfl (xv_move rfl ?_)
  refine xr_op rfl rfl (xv_calls rfl hb49 (within_c _ _ _ (fun hl1 hu2 => up_ret ?_) (fun hn3 => up_ret ?_)))
  · refine xr_op rfl rfl (xv_not rfl ?_)
    refine xr_op rfl rfl (xv_assign rfl ?_)
    refine xr_end rfl ?_
    refine th_n ?_
    refine xc_ret ?_
    refine body_ret (h' := h) rfl (ro_tmp rfl ro_nil) (by (first|((repeat first|exact s_0|exact s_1|exact s_3|refine s_4 ?_|refine s_5 ?_|refine s_6 ?_|refine s_7 ?_);done)|((repeat first|exact s_0|exact s_1|exact s_3|refine s_4 ?_|refine s_5 ?_|refine s_6 ?_|refine s_8 ?_);done))) ?_
    first | (rw [decide_eq_true (show rdOk x by unfold rdOk; omega)] at H; exact H) | (rw [decide_eq_false (show ¬ rdOk x by unfold rdOk; omega)] at H; exact H)
  · refine xr_op rfl rfl (xv_not rfl ?_)
    refine xr_op rfl rfl (xv_assign rfl ?_)
    refine xr_end rfl ?_
    refine th_n ?_
    refine xc_ret ?_
    refine body_ret (h' := h) rfl (ro_tmp rfl ro_nil) (by (first|((repeat first|exact s_0|exact s_1|exact s_3|refine s_4 ?_|refine s_5 ?_|refine s_6 ?_|refine s_7 ?_);done)|((repeat first|exact s_0|exact s_1|exact s_3|refine s_4 ?_|refine s_5 ?_|refine s_6 ?_|refine s_8 ?_);done))) ?_
    first | (rw [decide_eq_true (show rdOk x by unfold rdOk; omega)] at H; exact H) | (rw [decide_eq_false (show ¬ rdOk x by unfold rdOk; omega)] at H; exact H)

theorem indexI_c {a : Option Addr} {c : Nat} {xs : List Int} {f : Value} {p : Int → Bool} {h : Hp} {R : Ending → Hp → Prop} (hs : SlV h 1 eI a xs) (hlen : xs.length ≤ 4611686018427387904)
    (hf : ∀ x ∈ xs, ∀ R', R' (.returned (.bool (p x))) h → AFn Tryd.prog f [I x] h R')
    (H1 : ∀ (k : Nat) (x : Int), xs[k]? = some x → p x = true → R (.returned (I k)) h) (H2 : (∀ (k : Nat) (x : Int), xs[k]? = some x → p x = false) → R (.returned (I (-1))) h) :
    ACalls Tryd.prog 77 ⟨[.slice a xs.length c, f]⟩ h R := by
  refine calls_of_xc (N := 19) Tryd.func77 rfl (by rfl) ?_
  refine xc_seq (xc_region ?_)
  refine xr_op rfl rfl (xv_assign rfl ?_)
  refine xr_end rfl ?_
  refine th_n ?_
  refine xc_seq ?_
  refine xc_seq (xc_region ?_)
  refine xr_op rfl rfl (xv_move rfl ?_)
  refine xr_op rfl rfl (xv_len sl60 rfl ?_)
  refine xr_op rfl rfl (xv_move rfl ?_)
  refine xr_end rfl ?_
  refine th_n ?_
  refine xc_block ?_
  refine xc_loop (σ := Nat) (fun k => k ≤ xs.length ∧ ∀ j x, j < k → xs[j]? = some x → p x = false) (fun k => ((((emp.put (some 0) (.slice a xs.length c)).put (some 1) (f)).put (some 7) (I xs.length)).put (some 8) (I k))) (fun k => h) (fun k => xs.length - k) 0 ⟨Nat.zero_le _, fun _ _ h0 => absurd h0 (Nat.not_lt_zero _)⟩ (le_put (le_put (le_put (le_put (le_emp _) rfl) rfl) rfl) rfl) (by (first|((repeat first|exact s_0|exact s_1|exact s_3|refine s_4 ?_|refine s_5 ?_|refine s_6 ?_|refine s_7 ?_);done)|((repeat first|exact s_0|exact s_1|exact s_3|refine s_4 ?_|refine s_5 ?_|refine s_6 ?_|refine s_8 ?_);done))) ?_
  rintro k ⟨hk, hall⟩
  refine xc_seq (xc_region ?_)
  refine xr_op rfl rfl (xv_lss2 rfl rfl (fun q1 => ?_) (fun q1 => ?_))
  · refine xr_end rfl ?_
    refine th_n ?_
    refine xc_seq ?_
    refine xc_true rfl ?_
    refine xc_skip ?_
    refine th_n ?_
    refine xc_seq ?_
    refine xc_block ?_
    refine xc_seq (xc_region ?_)
    refine xr_op rfl rfl (xv_move rfl ?_)
    refine xr_op rfl rfl (xv_assign rfl ?_)
    refine xr_end rfl ?_
    refine th_n ?_
    refine xc_seq (xc_region ?_)
    refine xr_op rfl rfl (xv_move rfl ?_)
    refine xr_op rfl rfl (xv_move rfl ?_)
    refine xr_op rfl rfl (xv_move rfl ?_)
    have hlt : k < xs.length := by omega
    obtain ⟨b, o, l, t, fz, rfl, hm, hx⟩ := hs.at hlt
    obtain ⟨x, hkx⟩ : ∃ x, xs[k]? = some x := ⟨_, List.getElem?_eq_getElem hlt⟩
    refine xr_op rfl rfl (xv_ia (sz := 1) sl60 ty3 rfl rfl rfl (by (first | assumption | with_reducible exact Int.toNat_natCast _ | with_reducible rfl | rfl)) (by (first|omega|(dsimp only at *;omega)|(simp at *;omega))) (by (first|omega|(dsimp only at *;omega)|(simp at *;omega))) ?_)
    refine xr_op rfl rfl (xv_load1 ty3 rfl rfl hm (take_get (hx k x hkx) (j := 0) rfl) ?_)
    refine xr_op rfl rfl (xv_fn rfl rfl (hf x (List.mem_of_getElem? hkx) _ (up_ret ?_)))
    refine xr_end rfl ?_
    refine th_n ?_
    refine xc_bool rfl (fun q2 => ?_) (fun q2 => ?_)
    · refine xc_seq (xc_region ?_)
      refine xr_op rfl rfl (xv_move rfl ?_)
      refine xr_op rfl rfl (xv_assign rfl ?_)
      refine xr_end rfl ?_
      refine th_n ?_
      refine xc_ret ?_
      refine bk_r ?_
      refine th_r ?_
      refine th_r ?_
      refine bk_r ?_
      refine th_r ?_
      refine body_ret (h' := h) rfl (ro_tmp rfl ro_nil) (by (first|((repeat first|exact s_0|exact s_1|exact s_3|refine s_4 ?_|refine s_5 ?_|refine s_6 ?_|refine s_7 ?_);done)|((repeat first|exact s_0|exact s_1|exact s_3|refine s_4 ?_|refine s_5 ?_|refine s_6 ?_|refine s_8 ?_);done))) ?_
      first | exact H1 k x hkx (by assumption) | exact H2 (fun j x hj => hall j x (List.getElem?_eq_some_iff.1 hj).1 hj)
    · refine xc_skip ?_
      refine bk_n ?_
      refine th_n ?_
      refine xc_region ?_
      refine xr_op rfl rfl (xv_add rfl rfl (wrap_i64 (by (first|omega|(dsimp only at *;omega)|(simp at *;omega))) (by (first|omega|(dsimp only at *;omega)|(simp at *;omega)))) ?_)
      refine xr_op rfl rfl (xv_move rfl ?_)
      refine xr_end rfl ?_
      exact rnd (k + 1) ⟨by omega, fun j y hj hy => by
        rcases Nat.lt_succ_iff_lt_or_eq.1 hj with hj | rfl
        · exact hall j y hj hy
        · rw [hkx] at hy; cases hy; assumption⟩ (by omega) (le_put (le_put (le_put (le_put (le_emp _) rfl) rfl) rfl) rfl) (by (first|((repeat first|exact s_0|exact s_1|exact s_3|refine s_4 ?_|refine s_5 ?_|refine s_6 ?_|refine s_7 ?_);done)|((repeat first|exact s_0|exact s_1|exact s_3|refine s_4 ?_|refine s_5 ?_|refine s_6 ?_|refine s_8 ?_);done)))
  · refine xr_end rfl ?_
    refine th_n ?_
    refine xc_seq ?_
    refine xc_false rfl ?_
    refine xc_exit ?_
    refine th_x ?_
    refine th_x ?_
    refine bk_same ?_
    refine th_n ?_
    refine xc_seq (xc_region ?_)
    obtain rfl : k = xs.length := by omega
    refine xr_op rfl rfl (xv_assign rfl ?_)
    refine xr_end rfl ?_
    refine th_n ?_
    refine xc_ret ?_
    refine body_ret (h' := h) rfl (ro_tmp rfl ro_nil) (by (first|((repeat first|exact s_0|exact s_1|exact s_3|refine s_4 ?_|refine s_5 ?_|refine s_6 ?_|refine s_7 ?_);done)|((repeat first|exact s_0|exact s_1|exact s_3|refine s_4 ?_|refine s_5 ?_|refine s_6 ?_|refine s_8 ?_);done))) ?_
    first | exact H1 k x hkx (by assumption) | exact H2 (fun j x hj => hall j x (List.getElem?_eq_some_iff.1 hj).1 hj)

theorem containsI_c {a : Option Addr} {c : Nat} {xs : List Int} {f : Value} {p : Int → Bool} {h : Hp} {R : Ending → Hp → Prop} (hs : SlV h 1 eI a xs) (hlen : xs.length ≤ 4611686018427387904)
    (hf : ∀ x ∈ xs, ∀ R', R' (.returned (.bool (p x))) h → AFn Tryd.prog f [I x] h R')
    (H1 : ∀ x ∈ xs, p x = true → R (.returned (.bool true)) h) (H2 : (∀ x ∈ xs, p x = false) → R (.returned (.bool false)) h) :
    ACalls Tryd.prog 66 ⟨[.slice a xs.length c, f]⟩ h R := by
  refine calls_of_xc (N := 9) Tryd.func66 rfl (by rfl) ?_
  refine xc_seq (xc_region ?_)
  refine xr_op rfl rfl (xv_assign rfl ?_)
  refine xr_end rfl ?_
  refine th_n ?_
  refine xc_seq (xc_region ?_)
  refine xr_op rfl rfl (xv_move rfl ?_)
  refine xr_op rfl rfl (xv_move rfl ?_)
  refine xr_op rfl rfl (xv_calls rfl hb77 (indexI_c hs hlen hf (fun k x hkx hpx => up_ret ?_) (fun hno => up_ret ?_)))
  · refine xr_op rfl rfl (xv_geq2 rfl rfl (fun q1 => ?_) (fun q1 => ?_))
    · refine xr_op rfl rfl (xv_assign rfl ?_)
      refine xr_end rfl ?_
      refine th_n ?_
      refine xc_ret ?_
      refine body_ret (h' := h) rfl (ro_tmp rfl ro_nil) (by (first|((repeat first|exact s_0|exact s_1|exact s_3|refine s_4 ?_|refine s_5 ?_|refine s_6 ?_|refine s_7 ?_);done)|((repeat first|exact s_0|exact s_1|exact s_3|refine s_4 ?_|refine s_5 ?_|refine s_6 ?_|refine s_8 ?_);done))) ?_
      first | (exfalso; omega) | exact H1 x (List.mem_of_getElem? hkx) hpx | exact H2 (fun y hy => by obtain ⟨j, hj⟩ := List.getElem?_of_mem hy; exact hno j y hj)
    · refine xr_op rfl rfl (xv_assign rfl ?_)
      refine xr_end rfl ?_
      refine th_n ?_
      refine xc_ret ?_
      refine body_ret (h' := h) rfl (ro_tmp rfl ro_nil) (by (first|((repeat first|exact s_0|exact s_1|exact s_3|refine s_4 ?_|refine s_5 ?_|refine s_6 ?_|refine s_7 ?_);done)|((repeat first|exact s_0|exact s_1|exact s_3|refine s_4 ?_|refine s_5 ?_|refine s_6 ?_|refine s_8 ?_);done))) ?_
      first | (exfalso; omega) | exact H1 x (List.mem_of_getElem? hkx) hpx | exact H2 (fun y hy => by obtain ⟨j, hj⟩ := List.getElem?_of_mem hy; exact hno j y hj)
  · refine xr_op rfl rfl (xv_geq2 rfl rfl (fun q2 => ?_) (fun q2 => ?_))
    · refine xr_op rfl rfl (xv_assign rfl ?_)
      refine xr_end rfl ?_
      refine th_n ?_
      refine xc_ret ?_
      refine body_ret (h' := h) rfl (ro_tmp rfl ro_nil) (by (first|((repeat first|exact s_0|exact s_1|exact s_3|refine s_4 ?_|refine s_5 ?_|refine s_6 ?_|refine s_7 ?_);done)|((repeat first|exact s_0|exact s_1|exact s_3|refine s_4 ?_|refine s_5 ?_|refine s_6 ?_|refine s_8 ?_);done))) ?_
      first | (exfalso; omega) | exact H1 x (List.mem_of_getElem? hkx) hpx | exact H2 (fun y hy => by obtain ⟨j, hj⟩ := List.getElem?_of_mem hy; exact hno j y hj)
    · refine xr_op rfl rfl (xv_assign rfl ?_)
      refine xr_end rfl ?_
      refine th_n ?_
      refine xc_ret ?_
      refine body_ret (h' := h) rfl (ro_tmp rfl ro_nil) (by (first|((repeat first|exact s_0|exact s_1|exact s_3|refine s_4 ?_|refine s_5 ?_|refine s_6 ?_|refine s_7 ?_);done)|((repeat first|exact s_0|exact s_1|exact s_3|refine s_4 ?_|refine s_5 ?_|refine s_6 ?_|refine s_8 ?_);done))) ?_
      first | (exfalso; omega) | exact H1 x (List.mem_of_getElem? hkx) hpx | exact H2 (fun y hy => by obtain ⟨j, hj⟩ := List.getElem?_of_mem hy; exact hno j y hj)

theorem isLeaf_c {x : Leaf} {h : Hp} {R : Ending → Hp → Prop} (hr : SlV h 1 eI x.ra x.rds) (hl : x.rds.length ≤ 1000000) (H : R (.returned (.bool (decide (leafOk x)))) h) : ACalls Tryd.prog 43 ⟨[.agg ⟨eLeaf x⟩]⟩ h R := by
  refine calls_of_xc (N := 20) Tryd.func43 rfl (by rfl) ?_
  refine xc_seq (xc_region ?_)
  refine xr_op rfl rfl (xv_box rfl (fun b1 hb1 => ?_))
  refine xr_op rfl rfl (xv_assign rfl ?_)
  refine xr_end rfl ?_
  refine th_n ?_
  refine xc_seq (xc_region ?_)
  refine xr_op rfl rfl (xv_assign rfl ?_)
  refine xr_end rfl ?_
  refine th_n ?_
  refine xc_seq (xc_region ?_)
  refine xr_op rfl rfl (xv_faddr fl72_0 rfl ?_)
  refine xr_op rfl rfl (xv_load1 ty3 rfl rfl (by ((repeat first|exact z_0|assumption|refine z_1 ?_|(refine z_l ?_;(repeat first|exact z_0|assumption|refine z_1 ?_);done)|refine z_r ?_);done)) (by rfl) ?_)
  refine xr_op rfl rfl (xv_calls rfl hb49 (within_c _ _ _ (fun hl2 hu3 => up_ret ?_) (fun hn4 => up_ret ?_)))
  · refine xr_op rfl rfl (xv_move rfl ?_)
    refine xr_gd rfl rfl rfl (xv_faddr fl72_1 rfl ?_)
    refine xr_gd rfl rfl rfl (xv_load1 ty60 rfl rfl (by ((repeat first|exact z_0|assumption|refine z_1 ?_|(refine z_l ?_;(repeat first|exact z_0|assumption|refine z_1 ?_);done)|refine z_r ?_);done)) (by rfl) ?_)
    refine xr_gd rfl rfl rfl (xv_len sl60 rfl ?_)
    refine xr_gd rfl rfl rfl (xv_leq2 rfl rfl (fun q5 => ?_) (fun q5 => ?_))
    · refine xr_op rfl rfl (xv_pick rfl rfl ?_)
      refine xr_op rfl rfl (xv_move rfl ?_)
      refine xr_gd rfl rfl rfl (xv_faddr fl72_1 rfl ?_)
      refine xr_gd rfl rfl rfl (xv_load1 ty60 rfl rfl (by ((repeat first|exact z_0|assumption|refine z_1 ?_|(refine z_l ?_;(repeat first|exact z_0|assumption|refine z_1 ?_);done)|refine z_r ?_);done)) (by rfl) ?_)
      refine xr_gd rfl rfl rfl (xv_move rfl ?_)
      refine xr_gd rfl rfl rfl (xv_calls rfl hb66 (containsI_c (hr.sub (by intro z9 hz9; ((repeat first|exact z_0|assumption|refine z_1 ?_|(refine z_l ?_;(repeat first|exact z_0|assumption|refine z_1 ?_);done)|refine z_r ?_);done))) (by omega) (p := fun n => !decide (rdOk n)) (fun z hz R9 hR => afn_func hb65 (bad_c hR)) (fun z9 hz9 hbd => up_ret ?_) (fun hall => up_ret ?_)))
      · refine xr_gd rfl rfl rfl (xv_not rfl ?_)
        refine xr_op rfl rfl (xv_pick rfl rfl ?_)
        refine xr_op rfl rfl (xv_assign rfl ?_)
        refine xr_end rfl ?_
        refine th_n ?_
        refine xc_ret ?_
        refine body_ret (h' := h) rfl (ro_tmp rfl ro_nil) (by (first|((repeat first|exact s_0|exact s_1|exact s_3|refine s_4 ?_|refine s_5 ?_|refine s_6 ?_|refine s_7 ?_);done)|((repeat first|exact s_0|exact s_1|exact s_3|refine s_4 ?_|refine s_5 ?_|refine s_6 ?_|refine s_8 ?_);done))) ?_
        first | (rw [decide_eq_true (show leafOk x from ⟨by omega, by omega, fun n9 hn9 => by simpa using hall n9 hn9⟩)] at H; exact H) | (rw [decide_eq_false (show ¬ leafOk x from fun hq9 => by have := hq9.1; have := hq9.2.1; first | omega | (have h8 := hq9.2.2 z9 hz9; simp [h8] at hbd))] at H; exact H)
      · refine xr_gd rfl rfl rfl (xv_not rfl ?_)
        refine xr_op rfl rfl (xv_pick rfl rfl ?_)
        refine xr_op rfl rfl (xv_assign rfl ?_)
        refine xr_end rfl ?_
        refine th_n ?_
        refine xc_ret ?_
        refine body_ret (h' := h) rfl (ro_tmp rfl ro_nil) (by (first|((repeat first|exact s_0|exact s_1|exact s_3|refine s_4 ?_|refine s_5 ?_|refine s_6 ?_|refine s_7 ?_);done)|((repeat first|exact s_0|exact s_1|exact s_3|refine s_4 ?_|refine s_5 ?_|refine s_6 ?_|refine s_8 ?_);done))) ?_
        first | (rw [decide_eq_true (show leafOk x from ⟨by omega, by omega, fun n9 hn9 => by simpa using hall n9 hn9⟩)] at H; exact H) | (rw [decide_eq_false (show ¬ leafOk x from fun hq9 => by have := hq9.1; have := hq9.2.1; first | omega | (have h8 := hq9.2.2 z9 hz9; simp [h8] at hbd))] at H; exact H)
    · refine xr_op rfl rfl (xv_pick rfl rfl ?_)
      refine xr_op rfl rfl (xv_move rfl ?_)
      refine xr_no rfl rfl rfl rfl ?_
      refine xr_no rfl rfl rfl rfl ?_
      refine xr_no rfl rfl rfl rfl ?_
      refine xr_no rfl rfl rfl rfl ?_
      refine xr_no rfl rfl rfl rfl ?_
      refine xr_op rfl rfl (xv_pick rfl rfl ?_)
      refine xr_op rfl rfl (xv_assign rfl ?_)
      refine xr_end rfl ?_
      refine th_n ?_
      refine xc_ret ?_
      refine body_ret (h' := h) rfl (ro_tmp rfl ro_nil) (by (first|((repeat first|exact s_0|exact s_1|exact s_3|refine s_4 ?_|refine s_5 ?_|refine s_6 ?_|refine s_7 ?_);done)|((repeat first|exact s_0|exact s_1|exact s_3|refine s_4 ?_|refine s_5 ?_|refine s_6 ?_|refine s_8 ?_);done))) ?_
      first | (rw [decide_eq_true (show leafOk x from ⟨by omega, by omega, fun n9 hn9 => by simpa using hall n9 hn9⟩)] at H; exact H) | (rw [decide_eq_false (show ¬ leafOk x from fun hq9 => by have := hq9.1; have := hq9.2.1; first | omega | (have h8 := hq9.2.2 z9 hz9; simp [h8] at hbd))] at H; exact H)
  · refine xr_op rfl rfl (xv_move rfl ?_)
    refine xr_no rfl rfl rfl rfl ?_
    refine xr_no rfl rfl rfl rfl ?_
    refine xr_no rfl rfl rfl rfl ?_
    refine xr_no rfl rfl rfl rfl ?_
    refine xr_op rfl rfl (xv_pick rfl rfl ?_)
    refine xr_op rfl rfl (xv_move rfl ?_)
    refine xr_no rfl rfl rfl rfl ?_
    refine xr_no rfl rfl rfl rfl ?_
    refine xr_no rfl rfl rfl rfl ?_
    refine xr_no rfl rfl rfl rfl ?_
    refine xr_no rfl rfl rfl rfl ?_
    refine xr_op rfl rfl (xv_pick rfl rfl ?_)
    refine xr_op rfl rfl (xv_assign rfl ?_)
    refine xr_end rfl ?_
    refine th_n ?_
    refine xc_ret ?_
    refine body_ret (h' := h) rfl (ro_tmp rfl ro_nil) (by (first|((repeat first|exact s_0|exact s_1|exact s_3|refine s_4 ?_|refine s_5 ?_|refine s_6 ?_|refine s_7 ?_);done)|((repeat first|exact s_0|exact s_1|exact s_3|refine s_4 ?_|refine s_5 ?_|refine s_6 ?_|refine s_8 ?_);done))) ?_
    first | (rw [decide_eq_true (show leafOk x from ⟨by omega, by omega, fun n9 hn9 => by simpa using hall n9 hn9⟩)] at H; exact H) | (rw [decide_eq_false (show ¬ leafOk x from fun hq9 => by have := hq9.1; have := hq9.2.1; first | omega | (have h8 := hq9.2.2 z9 hz9; simp [h8] at hbd))] at H; exact H)

theorem cmpSight_c {x y : Sight} {h : Hp} {R : Ending → Hp → Prop} (H : R (.returned (I (cmpI x.hour y.hour))) h) : ACalls Tryd.prog 19 ⟨[.agg ⟨eSight x⟩, .agg ⟨eSight y⟩]⟩ h R := by
  refine calls_of_xc (N := 10) Tryd.func19 rfl (by rfl) ?_
  refine xc_seq (xc_region ?_)
  refine xr_op rfl rfl (xv_box rfl (fun b1 hb1 => ?_))
  refine xr_op rfl rfl (xv_box rfl (fun b2 hb2 => ?_))
  refine xr_op rfl rfl (xv_assign rfl ?_)
  refine xr_end rfl ?_
  refine th_n ?_
  refine xc_seq (xc_region ?_)
  refine xr_op rfl rfl (xv_faddr fl44_0 rfl ?_)
  refine xr_op rfl rfl (xv_load1 ty3 rfl rfl (by ((repeat first|exact z_0|assumption|refine z_1 ?_|(refine z_l ?_;(repeat first|exact z_0|assumption|refine z_1 ?_);done)|refine z_r ?_);done)) (by rfl) ?_)
  refine xr_op rfl rfl (xv_faddr fl44_0 rfl ?_)
  refine xr_op rfl rfl (xv_load1 ty3 rfl rfl (by ((repeat first|exact z_0|assumption|refine z_1 ?_|(refine z_l ?_;(repeat first|exact z_0|assumption|refine z_1 ?_);done)|refine z_r ?_);done)) (by rfl) ?_)
  refine xr_op rfl rfl (xv_calls rfl hb50 (cmp_c (up_ret ?_)))
  refine xr_op rfl rfl (xv_assign rfl ?_)
  refine xr_end rfl ?_
  refine th_n ?_
  refine xc_ret ?_
  refine body_ret (h' := h) rfl (ro_tmp rfl ro_nil) (by (first|((repeat first|exact s_0|exact s_1|exact s_3|refine s_4 ?_|refine s_5 ?_|refine s_6 ?_|refine s_7 ?_);done)|((repeat first|exact s_0|exact s_1|exact s_3|refine s_4 ?_|refine s_5 ?_|refine s_6 ?_|refine s_8 ?_);done))) ?_
  exact H

theorem cmpLeaf_c {x y : Leaf} {h : Hp} {R : Ending → Hp → Prop} (H : R (.returned (I (cmpI x.house y.house))) h) : ACalls Tryd.prog 44 ⟨[.agg ⟨eLeaf x⟩, .agg ⟨eLeaf y⟩]⟩ h R := by
  refine calls_of_xc (N := 10) Tryd.func44 rfl (by rfl) ?_
  refine xc_seq (xc_region ?_)
  refine xr_op rfl rfl (xv_box rfl (fun b1 hb1 => ?_))
  refine xr_op rfl rfl (xv_box rfl (fun b2 hb2 => ?_))
  refine xr_op rfl rfl (xv_assign rfl ?_)
  refine xr_end rfl ?_
  refine th_n ?_
  refine xc_seq (xc_region ?_)
  refine xr_op rfl rfl (xv_faddr fl72_0 rfl ?_)
  refine xr_op rfl rfl (xv_load1 ty3 rfl rfl (by ((repeat first|exact z_0|assumption|refine z_1 ?_|(refine z_l ?_;(repeat first|exact z_0|assumption|refine z_1 ?_);done)|refine z_r ?_);done)) (by rfl) ?_)
  refine xr_op rfl rfl (xv_faddr fl72_0 rfl ?_)
  refine xr_op rfl rfl (xv_load1 ty3 rfl rfl (by ((repeat first|exact z_0|assumption|refine z_1 ?_|(refine z_l ?_;(repeat first|exact z_0|assumption|refine z_1 ?_);done)|refine z_r ?_);done)) (by rfl) ?_)
  refine xr_op rfl rfl (xv_calls rfl hb50 (cmp_c (up_ret ?_)))
  refine xr_op rfl rfl (xv_assign rfl ?_)
  refine xr_end rfl ?_
  refine th_n ?_
  refine xc_ret ?_
  refine body_ret (h' := h) rfl (ro_tmp rfl ro_nil) (by (first|((repeat first|exact s_0|exact s_1|exact s_3|refine s_4 ?_|refine s_5 ?_|refine s_6 ?_|refine s_7 ?_);done)|((repeat first|exact s_0|exact s_1|exact s_3|refine s_4 ?_|refine s_5 ?_|refine s_6 ?_|refine s_8 ?_);done))) ?_
  exact H

theorem cmpLoad_c {x y : Load} {h : Hp} {R : Ending → Hp → Prop} (H : R (.returned (I (cmpL x y))) h) : ACalls Tryd.prog 37 ⟨[.agg ⟨eLoad x⟩, .agg ⟨eLoad y⟩]⟩ h R := by
  refine calls_of_xc (N := 17) Tryd.func37 rfl (by rfl) ?_
  refine xc_seq (xc_region ?_)
  refine xr_op rfl rfl (xv_box rfl (fun b1 hb1 => ?_))
  refine xr_op rfl rfl (xv_box rfl (fun b2 hb2 => ?_))
  refine xr_op rfl rfl (xv_assign rfl ?_)
  refine xr_end rfl ?_
  refine th_n ?_
  refine xc_seq ?_
  refine xc_draw0 [(0, .S), (1, .R), (2, .S), (3, .R), (4, .R), (5, .S), (6, .R), (7, .S), (8, .R), (9, .R), (10, .P), (10, .A), (11, .O), (12, .S)] mixed (by kernel_rfl) ?_
  refine js_S rfl rfl (.inl rfl) (xv_faddr fl75_0 rfl ⟨rfl, rfl⟩) ?_
  refine js_R0 rfl rfl (.inl rfl) (xv_load1 ty3 rfl rfl (by ((repeat first|exact z_0|assumption|refine z_1 ?_|(refine z_l ?_;(repeat first|exact z_0|assumption|refine z_1 ?_);done)|refine z_r ?_);done)) (by rfl) ⟨rfl, rfl⟩) ?_
  refine js_S rfl rfl (.inl rfl) (xv_faddr fl75_0 rfl ⟨rfl, rfl⟩) ?_
  refine js_R0 rfl rfl (.inl rfl) (xv_load1 ty3 rfl rfl (by ((repeat first|exact z_0|assumption|refine z_1 ?_|(refine z_l ?_;(repeat first|exact z_0|assumption|refine z_1 ?_);done)|refine z_r ?_);done)) (by rfl) ⟨rfl, rfl⟩) ?_
  refine js_R0 rfl rfl (.inl rfl) (xv_calls rfl hb50 (cmp_c (up_ret ⟨rfl, rfl⟩))) ?_
  refine js_S rfl rfl (.inl rfl) (xv_faddr fl75_1 rfl ⟨rfl, rfl⟩) ?_
  refine js_R0 rfl rfl (.inl rfl) (xv_load1 ty3 rfl rfl (by ((repeat first|exact z_0|assumption|refine z_1 ?_|(refine z_l ?_;(repeat first|exact z_0|assumption|refine z_1 ?_);done)|refine z_r ?_);done)) (by rfl) ⟨rfl, rfl⟩) ?_
  refine js_S rfl rfl (.inl rfl) (xv_faddr fl75_1 rfl ⟨rfl, rfl⟩) ?_
  refine js_R0 rfl rfl (.inl rfl) (xv_load1 ty3 rfl rfl (by ((repeat first|exact z_0|assumption|refine z_1 ?_|(refine z_l ?_;(repeat first|exact z_0|assumption|refine z_1 ?_);done)|refine z_r ?_);done)) (by rfl) ⟨rfl, rfl⟩) ?_
  refine js_R0 rfl rfl (.inl rfl) (xv_calls rfl hb50 (cmp_c (up_ret ⟨rfl, rfl⟩))) ?_
  refine js_P rfl rfl rfl (al_buildSlice sl60 ty3 rfl rfl rfl rfl rfl (by ((try apply evl_some rfl);(repeat (first|exact (rfl : _ = [])|apply evl_cons rfl (by (first|exact v_1|exact v_2|exact v_3|exact v_4|exact v_5|exact v_6|exact v_7|exact v_8|exact v_9|exact rfl))|exact rfl))))) ?_
  refine js_A0 rfl rfl rfl rfl rfl ⟨rfl, rfl, trivial⟩ (fun b4 hb4 => ?_)
  refine js_O0 rfl rfl (.inl rfl) (xv_calls rfl hb59 (or_c (by ((repeat first|exact z_0|assumption|refine z_1 ?_|(refine z_l ?_;(repeat first|exact z_0|assumption|refine z_1 ?_);done)|refine z_r ?_);done)) (up_ret ?_)))
  refine js_S rfl rfl (.inl rfl) (xv_assign rfl ⟨rfl, rfl⟩) ?_
  refine j_end0 ?_
  refine th_n ?_
  refine xc_ret ?_
  refine body_ret (h' := h) rfl (ro_tmp rfl ro_nil) (by (first|((repeat first|exact s_0|exact s_1|exact s_3|refine s_4 ?_|refine s_5 ?_|refine s_6 ?_|refine s_7 ?_);done)|((repeat first|exact s_0|exact s_1|exact s_3|refine s_4 ?_|refine s_5 ?_|refine s_6 ?_|refine s_8 ?_);done))) ?_
  exact H

end Go.Proofs.YtlpkiolopelpfaaDoor
