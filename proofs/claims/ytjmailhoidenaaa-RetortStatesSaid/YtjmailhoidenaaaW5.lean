/-
  Walks.
-/
import Derived.Test.YtjmailhoidenaaaW4
import Derived.Test.YtjmailhoidenaaaH15
namespace Go.Proofs.Ytjmailhoidenaaa
open Go Go.H
set_option maxRecDepth 100000
set_option maxHeartbeats 2000000
set_option linter.all false
theorem playdef_ret {ps pe : Nat} {h : Hp} {R : Ending → FrameMode → Hp → Prop} (H : R (.returned (.tuple #[])) .returning h) :
    DCalls Try.prog 35 ⟨[.pointer (some ⟨ps, 0, none⟩), .pointer (some ⟨pe, 0, none⟩)]⟩ .returning h R := by
  refine dcalls_rec (N := 18) Try.func35 (by rfl) rfl (by rfl) rfl rfl ?_
  refine xc_seq (xc_region ?_)
  refine xr_op rfl rfl (xv_move rfl ?_)
  refine xr_op rfl rfl (xv_neNil0 ⟨_, Try.underlying20⟩ rfl ?_)
  refine xr_end rfl ?_
  refine th_n ?_
  refine xc_false rfl ?_
  refine xc_skip ?_
  refine ⟨rfl, _, (by (first | ((repeat first | exact List.Sublist.refl _ | exact List.nil_sublist _ | exact List.Sublist.cons_cons _ (List.Sublist.refl _) | exact List.sublist_append_left _ _ | refine List.Sublist.append (List.Sublist.refl _) ?_ | refine List.Sublist.cons_cons _ ?_ | refine List.Sublist.cons _ ?_ | refine List.Sublist.trans ?_ (List.sublist_append_right _ _)); done) | ((repeat first | exact List.Sublist.refl _ | exact List.nil_sublist _ | exact List.Sublist.cons_cons _ (List.Sublist.refl _) | exact List.sublist_append_left _ _ | refine List.Sublist.append (List.Sublist.refl _) ?_ | refine List.Sublist.cons_cons _ ?_ | refine List.Sublist.cons _ ?_ | refine List.Sublist.trans ?_ (List.sublist_append_left _ _)); done))), ?_⟩
  exact H

theorem playdef_pan {ps pe : Nat} {e : Int} {h h1 h2 : Hp} {u v : Value} {R : Ending → FrameMode → Hp → Prop}
    (hs : Upd h ps (.cells ⟨[u]⟩ 57 (0, 0)) (.cells ⟨[.pointer none]⟩ 57 (0, 0)) h1) (he : Upd h1 pe (.cells ⟨[v]⟩ 31 (0, 0)) (.cells ⟨[I e]⟩ 31 (0, 0)) h2)
    (H : R (.returned (.tuple #[])) (.panicking [{ v := .iface 78 (.agg #[.int .i64 e]), recovered := true }]) h2) :
    DCalls Try.prog 35 ⟨[.pointer (some ⟨ps, 0, none⟩), .pointer (some ⟨pe, 0, none⟩)]⟩ (.panicking (mis e)) h R := by
  refine dcalls_rec (N := 18) Try.func35 (by rfl) rfl (by rfl) rfl rfl ?_
  refine xc_seq (xc_region ?_)
  refine xr_op rfl rfl (xv_move rfl ?_)
  refine xr_op rfl rfl (xv_neNil ⟨_, Try.underlying20⟩ rfl rfl ?_)
  refine xr_end rfl ?_
  refine th_n ?_
  refine xc_true rfl ?_
  refine xc_seq (xc_region ?_)
  refine xr_op rfl rfl (xv_move rfl ?_)
  refine xr_op rfl rfl (xv_assertOk ty78 rfl rfl ?_)
  refine xr_op rfl rfl (xv_move rfl ?_)
  refine xr_op rfl rfl (xv_extract rfl rfl ?_)
  refine xr_op rfl rfl (xv_extract rfl rfl ?_)
  refine xr_op rfl rfl (xv_alloc ty78 (fun b1 hb1 => ?_))
  refine xr_op rfl rfl (xv_s ty78 rfl rfl (by (first | (apply Upd.append; (repeat first | exact Upd.here | assumption | apply Upd.there | apply Upd.left); done) | ((repeat first | exact Upd.here | assumption | apply Upd.there | apply Upd.left); done) | (apply Upd.append; apply Upd.append; (repeat first | exact Upd.here | assumption | apply Upd.there | apply Upd.left); done) | ((repeat first | exact Upd.here | assumption | apply Upd.append | apply Upd.there); done))) (by ((try apply evl_some rfl); (repeat (first | exact (rfl : _ = []) | apply evl_cons rfl (by (first | exact evv (.int _ _) | exact evv (.bool _) | exact evv (.pointer _) | exact evv (.slice _ _ _) | exact evv (.agg _) | exact evv (.map _) | exact evv (.func _ _ _) | exact evv (.iface _ _) | exact evv (.nilIface) | exact evv (.nilFunc) | exact evv (.string _) | exact evv (.tuple _) | exact rfl)) | exact rfl)))) (by rfl) (by rfl) (by rfl) (by ((try apply evl_some rfl); (repeat (first | exact (rfl : _ = []) | apply evl_cons rfl (by (first | exact evv (.int _ _) | exact evv (.bool _) | exact evv (.pointer _) | exact evv (.slice _ _ _) | exact evv (.agg _) | exact evv (.map _) | exact evv (.func _ _ _) | exact evv (.iface _ _) | exact evv (.nilIface) | exact evv (.nilFunc) | exact evv (.string _) | exact evv (.tuple _) | exact rfl)) | exact rfl)))) ?_)
  refine xr_op rfl rfl (xv_assign rfl ?_)
  refine xr_end rfl ?_
  refine th_n ?_
  refine xc_seq ?_
  refine xc_seq (xc_region ?_)
  refine xr_op rfl rfl (xv_move rfl ?_)
  refine xr_op rfl rfl (xv_not rfl ?_)
  refine xr_end rfl ?_
  refine th_n ?_
  refine xc_false rfl ?_
  refine xc_skip ?_
  refine th_n ?_
  refine xc_draw [(0, .S), (1, .S), (2, .O), (3, .O)] [(b1, .cells ⟨[I e]⟩ 78)] h mixed (by kernel_rfl) (List.perm_append_singleton _ _) ?_
  refine js_S rfl rfl (.inl rfl) (xv_faddr fl78_0 rfl ⟨rfl, rfl⟩) ?_
  refine js_S rfl rfl (.inl rfl) (xv_load1 ty31 rfl rfl (by (first | ((repeat first | exact zm0 | assumption | refine zm1 ?_ | refine zmr ?_); done) | ((repeat refine zm1 ?_); refine zml ?_; (repeat first | exact zm0 | assumption | refine zm1 ?_ | refine zmr ?_); done) | ((repeat refine zm1 ?_); refine zmr ?_; (repeat refine zm1 ?_); refine zml ?_; (repeat first | exact zm0 | assumption | refine zm1 ?_ | refine zmr ?_); done) | ((repeat first | exact zm0 | assumption | refine zm1 ?_ | refine zml ?_); done))) (by rfl) ⟨rfl, rfl⟩) ?_
  refine js_O rfl rfl (.inl rfl) (xv_s1 ty57 rfl rfl rfl (by (first | (apply Upd.append; (repeat first | exact Upd.here | assumption | apply Upd.there | apply Upd.left); done) | ((repeat first | exact Upd.here | assumption | apply Upd.there | apply Upd.left); done) | (apply Upd.append; apply Upd.append; (repeat first | exact Upd.here | assumption | apply Upd.there | apply Upd.left); done) | ((repeat first | exact Upd.here | assumption | apply Upd.append | apply Upd.there); done))) (by (first | rfl | exact Vec.one _ _)) (by (first | decide | exact Nat.le_of_ble_eq_true rfl | (simp only [List.length_cons, List.length_nil]; omega) | (simp; done))) (by ((try apply evl_some rfl); (repeat (first | exact (rfl : _ = []) | apply evl_cons rfl (by (first | exact evv (.int _ _) | exact evv (.bool _) | exact evv (.pointer _) | exact evv (.slice _ _ _) | exact evv (.agg _) | exact evv (.map _) | exact evv (.func _ _ _) | exact evv (.iface _ _) | exact evv (.nilIface) | exact evv (.nilFunc) | exact evv (.string _) | exact evv (.tuple _) | exact rfl)) | exact rfl)))) ?_)
  refine jo_same ?_
  refine js_O rfl rfl (.inl rfl) (xv_s1 ty31 rfl rfl rfl (by (first | (apply Upd.append; (repeat first | exact Upd.here | assumption | apply Upd.there | apply Upd.left); done) | ((repeat first | exact Upd.here | assumption | apply Upd.there | apply Upd.left); done) | (apply Upd.append; apply Upd.append; (repeat first | exact Upd.here | assumption | apply Upd.there | apply Upd.left); done) | ((repeat first | exact Upd.here | assumption | apply Upd.append | apply Upd.there); done))) (by (first | rfl | exact Vec.one _ _)) (by (first | decide | exact Nat.le_of_ble_eq_true rfl | (simp only [List.length_cons, List.length_nil]; omega) | (simp; done))) (by ((try apply evl_some rfl); (repeat (first | exact (rfl : _ = []) | apply evl_cons rfl (by (first | exact evv (.int _ _) | exact evv (.bool _) | exact evv (.pointer _) | exact evv (.slice _ _ _) | exact evv (.agg _) | exact evv (.map _) | exact evv (.func _ _ _) | exact evv (.iface _ _) | exact evv (.nilIface) | exact evv (.nilFunc) | exact evv (.string _) | exact evv (.tuple _) | exact rfl)) | exact rfl)))) ?_)
  refine jo_same ?_
  refine j_endp (List.perm_append_singleton _ _) ?_
  refine ⟨rfl, h2, (by (first | ((repeat first | exact List.Sublist.refl _ | exact List.nil_sublist _ | exact List.Sublist.cons_cons _ (List.Sublist.refl _) | exact List.sublist_append_left _ _ | refine List.Sublist.append (List.Sublist.refl _) ?_ | refine List.Sublist.cons_cons _ ?_ | refine List.Sublist.cons _ ?_ | refine List.Sublist.trans ?_ (List.sublist_append_right _ _)); done) | ((repeat first | exact List.Sublist.refl _ | exact List.nil_sublist _ | exact List.Sublist.cons_cons _ (List.Sublist.refl _) | exact List.sublist_append_left _ _ | refine List.Sublist.append (List.Sublist.refl _) ?_ | refine List.Sublist.cons_cons _ ?_ | refine List.Sublist.cons _ ?_ | refine List.Sublist.trans ?_ (List.sublist_append_left _ _)); done))), ?_⟩
  exact H

end Go.Proofs.Ytjmailhoidenaaa
