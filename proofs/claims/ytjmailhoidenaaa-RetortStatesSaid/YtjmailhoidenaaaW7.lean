/-
  Walks.
-/
import Derived.Test.YtjmailhoidenaaaW6
namespace Go.Proofs.Ytjmailhoidenaaa
open Go Go.H
set_option maxRecDepth 100000
set_option maxHeartbeats 2000000
set_option linter.all false
theorem Play_c {a al : Option Addr} {c cl : Nat} {w : House} {l : List Stoke} {h : Hp} {R : Ending → Hp → Prop} (hs : SlV h 2 eSpan a w.curve) (hlen : w.curve.length ≤ 4611686018427387904) (hl : SlV h 4 eStoke al l)
    (H1 : ∀ i e, play w l = .error (i, e) → R (.returned (.tuple ⟨[.agg ⟨eOvens (fun _ => ⟨0, 0, 0, 0, 0⟩)⟩, I i, I e]⟩)) h)
    (H2 : ∀ S, play w l = .ok S → S.Ok l.length → R (.returned (.tuple ⟨[.agg ⟨eOvens S.ov⟩, I l.length, I 0]⟩)) h) :
    ACalls Try.prog 11 ⟨[.agg ⟨eHouse a c w⟩, .slice al l.length cl]⟩ h R := by
  refine calls_of_xc (N := 25) Try.func11 rfl (by rfl) ?_
  refine xc_seq (xc_region ?_)
  refine xr_op rfl rfl (xv_box rfl (fun b1 hb1 => ?_))
  refine xr_op rfl rfl (xv_alloc ty30 (fun b2 hb2 => ?_))
  refine xr_op rfl rfl (xv_assign rfl ?_)
  refine xr_op rfl rfl (xv_assign rfl ?_)
  refine xr_end rfl ?_
  refine th_n ?_
  refine xc_seq (xc_region ?_)
  refine xr_op rfl rfl (xv_loadA ty24 rfl rfl (by (first | ((repeat first | exact zm0 | assumption | refine zm1 ?_ | refine zmr ?_); done) | ((repeat refine zm1 ?_); refine zml ?_; (repeat first | exact zm0 | assumption | refine zm1 ?_ | refine zmr ?_); done) | ((repeat refine zm1 ?_); refine zmr ?_; (repeat refine zm1 ?_); refine zml ?_; (repeat first | exact zm0 | assumption | refine zm1 ?_ | refine zmr ?_); done) | ((repeat first | exact zm0 | assumption | refine zm1 ?_ | refine zml ?_); done))) (by ((try apply evl_some rfl); (repeat (first | exact (rfl : _ = []) | apply evl_cons rfl (by (first | exact evv (.int _ _) | exact evv (.bool _) | exact evv (.pointer _) | exact evv (.slice _ _ _) | exact evv (.agg _) | exact evv (.map _) | exact evv (.func _ _ _) | exact evv (.iface _ _) | exact evv (.nilIface) | exact evv (.nilFunc) | exact evv (.string _) | exact evv (.tuple _) | exact rfl)) | exact rfl)))) (by rfl) ?_)
  refine xr_op rfl rfl (xv_move rfl ?_)
  refine xr_op rfl rfl (xv_calls rfl hb23 (play_c (hs.sub (by intro z hz; (first | ((repeat first | exact zm0 | assumption | refine zm1 ?_ | refine zmr ?_); done) | ((repeat refine zm1 ?_); refine zml ?_; (repeat first | exact zm0 | assumption | refine zm1 ?_ | refine zmr ?_); done) | ((repeat refine zm1 ?_); refine zmr ?_; (repeat refine zm1 ?_); refine zml ?_; (repeat first | exact zm0 | assumption | refine zm1 ?_ | refine zmr ?_); done) | ((repeat first | exact zm0 | assumption | refine zm1 ?_ | refine zml ?_); done)))) hlen (hl.sub (by intro z hz; (first | ((repeat first | exact zm0 | assumption | refine zm1 ?_ | refine zmr ?_); done) | ((repeat refine zm1 ?_); refine zml ?_; (repeat first | exact zm0 | assumption | refine zm1 ?_ | refine zmr ?_); done) | ((repeat refine zm1 ?_); refine zmr ?_; (repeat refine zm1 ?_); refine zml ?_; (repeat first | exact zm0 | assumption | refine zm1 ?_ | refine zmr ?_); done) | ((repeat first | exact zm0 | assumption | refine zm1 ?_ | refine zml ?_); done)))) (fun i e hpe => up_ret ?_) (fun S bsh bm es cm V hpo hS hV hM => up_ret ?_)))
  · refine xr_op rfl rfl (xv_move rfl ?_)
    refine xr_op rfl rfl (xv_extract rfl rfl ?_)
    refine xr_op rfl rfl (xv_extract rfl rfl ?_)
    refine xr_op rfl rfl (xv_extract rfl rfl ?_)
    refine xr_op rfl rfl (xv_assign rfl ?_)
    refine xr_op rfl rfl (xv_assign rfl ?_)
    refine xr_op rfl rfl (xv_assign rfl ?_)
    refine xr_end rfl ?_
    refine th_n ?_
    refine xc_seq ?_
    refine xc_seq (xc_region ?_)
    refine xr_op rfl rfl (xv_move rfl ?_)
    refine xr_op rfl rfl (xv_neqT rfl rfl (play_err hpe) ?_)
    refine xr_end rfl ?_
    refine th_n ?_
    refine xc_true rfl ?_
    refine xc_seq (xc_region ?_)
    refine xr_op rfl rfl (xv_loadA ty30 rfl rfl (by (first | ((repeat first | exact zm0 | assumption | refine zm1 ?_ | refine zmr ?_); done) | ((repeat refine zm1 ?_); refine zml ?_; (repeat first | exact zm0 | assumption | refine zm1 ?_ | refine zmr ?_); done) | ((repeat refine zm1 ?_); refine zmr ?_; (repeat refine zm1 ?_); refine zml ?_; (repeat first | exact zm0 | assumption | refine zm1 ?_ | refine zmr ?_); done) | ((repeat first | exact zm0 | assumption | refine zm1 ?_ | refine zml ?_); done))) (by ((try apply evl_some rfl); (repeat (first | exact (rfl : _ = []) | apply evl_cons rfl (by (first | exact evv (.int _ _) | exact evv (.bool _) | exact evv (.pointer _) | exact evv (.slice _ _ _) | exact evv (.agg _) | exact evv (.map _) | exact evv (.func _ _ _) | exact evv (.iface _ _) | exact evv (.nilIface) | exact evv (.nilFunc) | exact evv (.string _) | exact evv (.tuple _) | exact rfl)) | exact rfl)))) (by rfl) ?_)
    refine xr_op rfl rfl (xv_move rfl ?_)
    refine xr_op rfl rfl (xv_move rfl ?_)
    refine xr_op rfl rfl (xv_s ty30 rfl rfl (by (first | (apply Upd.append; (repeat first | exact Upd.here | assumption | apply Upd.there | apply Upd.left); done) | ((repeat first | exact Upd.here | assumption | apply Upd.there | apply Upd.left); done) | (apply Upd.append; apply Upd.append; (repeat first | exact Upd.here | assumption | apply Upd.there | apply Upd.left); done) | ((repeat first | exact Upd.here | assumption | apply Upd.append | apply Upd.there); done))) (by ((try apply evl_some rfl); (repeat (first | exact (rfl : _ = []) | apply evl_cons rfl (by (first | exact evv (.int _ _) | exact evv (.bool _) | exact evv (.pointer _) | exact evv (.slice _ _ _) | exact evv (.agg _) | exact evv (.map _) | exact evv (.func _ _ _) | exact evv (.iface _ _) | exact evv (.nilIface) | exact evv (.nilFunc) | exact evv (.string _) | exact evv (.tuple _) | exact rfl)) | exact rfl)))) (by rfl) (by rfl) (by rfl) (by ((try apply evl_some rfl); (repeat (first | exact (rfl : _ = []) | apply evl_cons rfl (by (first | exact evv (.int _ _) | exact evv (.bool _) | exact evv (.pointer _) | exact evv (.slice _ _ _) | exact evv (.agg _) | exact evv (.map _) | exact evv (.func _ _ _) | exact evv (.iface _ _) | exact evv (.nilIface) | exact evv (.nilFunc) | exact evv (.string _) | exact evv (.tuple _) | exact rfl)) | exact rfl)))) ?_)
    refine xr_op rfl rfl (xv_assign rfl ?_)
    refine xr_op rfl rfl (xv_assign rfl ?_)
    refine xr_end rfl ?_
    refine th_n ?_
    refine xc_ret ?_
    refine th_r ?_
    refine body_ret (h' := h) rfl (ro_cellA ty30 rfl rfl (by (first | ((repeat first | exact zm0 | assumption | refine zm1 ?_ | refine zmr ?_); done) | ((repeat refine zm1 ?_); refine zml ?_; (repeat first | exact zm0 | assumption | refine zm1 ?_ | refine zmr ?_); done) | ((repeat refine zm1 ?_); refine zmr ?_; (repeat refine zm1 ?_); refine zml ?_; (repeat first | exact zm0 | assumption | refine zm1 ?_ | refine zmr ?_); done) | ((repeat first | exact zm0 | assumption | refine zm1 ?_ | refine zml ?_); done))) (by rfl) (by rfl) (ro_tmp rfl (ro_tmp rfl ro_nil))) (by (first | ((repeat first | exact List.Sublist.refl _ | exact List.nil_sublist _ | exact List.Sublist.cons_cons _ (List.Sublist.refl _) | exact List.sublist_append_left _ _ | refine List.Sublist.append (List.Sublist.refl _) ?_ | refine List.Sublist.cons_cons _ ?_ | refine List.Sublist.cons _ ?_ | refine List.Sublist.trans ?_ (List.sublist_append_right _ _)); done) | ((repeat first | exact List.Sublist.refl _ | exact List.nil_sublist _ | exact List.Sublist.cons_cons _ (List.Sublist.refl _) | exact List.sublist_append_left _ _ | refine List.Sublist.append (List.Sublist.refl _) ?_ | refine List.Sublist.cons_cons _ ?_ | refine List.Sublist.cons _ ?_ | refine List.Sublist.trans ?_ (List.sublist_append_left _ _)); done))) ?_
    first | exact H1 _ _ hpe | exact H2 S hpo hS
  · refine xr_op rfl rfl (xv_move rfl ?_)
    refine xr_op rfl rfl (xv_extract rfl rfl ?_)
    refine xr_op rfl rfl (xv_extract rfl rfl ?_)
    refine xr_op rfl rfl (xv_extract rfl rfl ?_)
    refine xr_op rfl rfl (xv_assign rfl ?_)
    refine xr_op rfl rfl (xv_assign rfl ?_)
    refine xr_op rfl rfl (xv_assign rfl ?_)
    refine xr_end rfl ?_
    refine th_n ?_
    refine xc_seq ?_
    refine xc_seq (xc_region ?_)
    refine xr_op rfl rfl (xv_move rfl ?_)
    refine xr_op rfl rfl (xv_neqF rfl rfl rfl ?_)
    refine xr_end rfl ?_
    refine th_n ?_
    refine xc_false rfl ?_
    refine xc_skip ?_
    refine th_n ?_
    refine xc_seq (xc_region ?_)
    refine xr_op rfl rfl (xv_move rfl ?_)
    refine xr_op rfl rfl (xv_nilp rfl ?_)
    refine xr_op rfl rfl (xv_faddr fl63_1 rfl ?_)
    refine xr_op rfl rfl (xv_loadA ty30 rfl rfl (by (first | ((repeat first | exact zm0 | assumption | refine zm1 ?_ | refine zmr ?_); done) | ((repeat refine zm1 ?_); refine zml ?_; (repeat first | exact zm0 | assumption | refine zm1 ?_ | refine zmr ?_); done) | ((repeat refine zm1 ?_); refine zmr ?_; (repeat refine zm1 ?_); refine zml ?_; (repeat first | exact zm0 | assumption | refine zm1 ?_ | refine zmr ?_); done) | ((repeat first | exact zm0 | assumption | refine zm1 ?_ | refine zml ?_); done))) (by ((try apply evl_some rfl); (repeat (first | exact (rfl : _ = []) | apply evl_cons rfl (by (first | exact evv (.int _ _) | exact evv (.bool _) | exact evv (.pointer _) | exact evv (.slice _ _ _) | exact evv (.agg _) | exact evv (.map _) | exact evv (.func _ _ _) | exact evv (.iface _ _) | exact evv (.nilIface) | exact evv (.nilFunc) | exact evv (.string _) | exact evv (.tuple _) | exact rfl)) | exact rfl)))) (by rfl) ?_)
    refine xr_op rfl rfl (xv_move rfl ?_)
    refine xr_op rfl rfl (xv_s ty30 rfl rfl (by (first | (apply Upd.append; (repeat first | exact Upd.here | assumption | apply Upd.there | apply Upd.left); done) | ((repeat first | exact Upd.here | assumption | apply Upd.there | apply Upd.left); done) | (apply Upd.append; apply Upd.append; (repeat first | exact Upd.here | assumption | apply Upd.there | apply Upd.left); done) | ((repeat first | exact Upd.here | assumption | apply Upd.append | apply Upd.there); done))) (by ((try apply evl_some rfl); (repeat (first | exact (rfl : _ = []) | apply evl_cons rfl (by (first | exact evv (.int _ _) | exact evv (.bool _) | exact evv (.pointer _) | exact evv (.slice _ _ _) | exact evv (.agg _) | exact evv (.map _) | exact evv (.func _ _ _) | exact evv (.iface _ _) | exact evv (.nilIface) | exact evv (.nilFunc) | exact evv (.string _) | exact evv (.tuple _) | exact rfl)) | exact rfl)))) (by rfl) (by rfl) (by rfl) (by ((try apply evl_some rfl); (repeat (first | exact (rfl : _ = []) | apply evl_cons rfl (by (first | exact evv (.int _ _) | exact evv (.bool _) | exact evv (.pointer _) | exact evv (.slice _ _ _) | exact evv (.agg _) | exact evv (.map _) | exact evv (.func _ _ _) | exact evv (.iface _ _) | exact evv (.nilIface) | exact evv (.nilFunc) | exact evv (.string _) | exact evv (.tuple _) | exact rfl)) | exact rfl)))) ?_)
    refine xr_op rfl rfl (xv_assign rfl ?_)
    refine xr_op rfl rfl (xv_assign rfl ?_)
    refine xr_end rfl ?_
    refine th_n ?_
    refine xc_ret ?_
    refine body_ret (h' := h) rfl (ro_cellA ty30 rfl rfl (by (first | ((repeat first | exact zm0 | assumption | refine zm1 ?_ | refine zmr ?_); done) | ((repeat refine zm1 ?_); refine zml ?_; (repeat first | exact zm0 | assumption | refine zm1 ?_ | refine zmr ?_); done) | ((repeat refine zm1 ?_); refine zmr ?_; (repeat refine zm1 ?_); refine zml ?_; (repeat first | exact zm0 | assumption | refine zm1 ?_ | refine zmr ?_); done) | ((repeat first | exact zm0 | assumption | refine zm1 ?_ | refine zml ?_); done))) (by rfl) (by rfl) (ro_tmp rfl (ro_tmp rfl ro_nil))) (by (first | ((repeat first | exact List.Sublist.refl _ | exact List.nil_sublist _ | exact List.Sublist.cons_cons _ (List.Sublist.refl _) | exact List.sublist_append_left _ _ | refine List.Sublist.append (List.Sublist.refl _) ?_ | refine List.Sublist.cons_cons _ ?_ | refine List.Sublist.cons _ ?_ | refine List.Sublist.trans ?_ (List.sublist_append_right _ _)); done) | ((repeat first | exact List.Sublist.refl _ | exact List.nil_sublist _ | exact List.Sublist.cons_cons _ (List.Sublist.refl _) | exact List.sublist_append_left _ _ | refine List.Sublist.append (List.Sublist.refl _) ?_ | refine List.Sublist.cons_cons _ ?_ | refine List.Sublist.cons _ ?_ | refine List.Sublist.trans ?_ (List.sublist_append_left _ _)); done))) ?_
    first | exact H1 _ _ hpe | exact H2 S hpo hS

end Go.Proofs.Ytjmailhoidenaaa
