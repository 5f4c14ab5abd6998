/-
  Walks.
-/
import Derived.Test.YtjmailhoidenaaaA
import Derived.Test.YtjmailhoidenaaaP02
namespace Go.Proofs.Ytjmailhoidenaaa
open Go Go.H
set_option maxRecDepth 100000
set_option maxHeartbeats 2000000
set_option linter.all false
theorem sample_c {h : Hp} {R : Ending → Hp → Prop}
    (H : ∀ bc bl, R (.returned (.tuple ⟨[.agg ⟨eHouse (some ⟨bc, 0, none⟩) 3 sW⟩, .slice (some ⟨bl, 0, none⟩) 5 5]⟩)) ((bl, .cells ⟨sL.flatMap eStoke⟩ 48 (0, 0)) :: (bc, .cells ⟨sW.curve.flatMap eSpan⟩ 38 (0, 0)) :: h)) :
    ACalls Try.prog 22 ⟨[]⟩ h R := by
  refine calls_of_xc (N := 15) Try.func22 rfl (by rfl) ?_
  refine xc_seq (xc_region ?_)
  refine xr_op rfl rfl (xv_alloc ty24 (fun b1 hb1 => ?_))
  refine xr_op rfl rfl (xv_assign rfl ?_)
  refine xr_end rfl ?_
  refine th_n ?_
  refine xc_seq (xc_region ?_)
  refine xr_op rfl rfl (xv_calls rfl hb20 (span_c _ _ (up_ret ?_)))
  refine xr_op rfl rfl (xv_calls rfl hb20 (span_c _ _ (up_ret ?_)))
  refine xr_op rfl rfl (xv_calls rfl hb20 (span_c _ _ (up_ret ?_)))
  refine xr_op rfl rfl ((al_buildSlice sl22 ty38 rfl rfl rfl rfl rfl (by ((try apply evl_some rfl); (repeat (first | exact (rfl : _ = []) | apply evl_cons rfl (by (first | exact evv (.int _ _) | exact evv (.bool _) | exact evv (.pointer _) | exact evv (.slice _ _ _) | exact evv (.agg _) | exact evv (.map _) | exact evv (.func _ _ _) | exact evv (.iface _ _) | exact evv (.nilIface) | exact evv (.nilFunc) | exact evv (.string _) | exact evv (.tuple _) | exact rfl)) | exact rfl))))).xv (fun bc hbc => ?_))
  refine xr_op rfl rfl (xv_build bt24 rfl (by ((try apply evl_some rfl); (repeat (first | exact (rfl : _ = []) | apply evl_cons rfl (by (first | exact evv (.int _ _) | exact evv (.bool _) | exact evv (.pointer _) | exact evv (.slice _ _ _) | exact evv (.agg _) | exact evv (.map _) | exact evv (.func _ _ _) | exact evv (.iface _ _) | exact evv (.nilIface) | exact evv (.nilFunc) | exact evv (.string _) | exact evv (.tuple _) | exact rfl)) | exact rfl)))) ?_)
  refine xr_op rfl rfl (xv_alloc ty24 (fun b2 hb2 => ?_))
  refine xr_op rfl rfl (xv_s ty24 rfl rfl (by (first | (apply Upd.append; (repeat first | exact Upd.here | assumption | apply Upd.there | apply Upd.left); done) | ((repeat first | exact Upd.here | assumption | apply Upd.there | apply Upd.left); done) | (apply Upd.append; apply Upd.append; (repeat first | exact Upd.here | assumption | apply Upd.there | apply Upd.left); done) | ((repeat first | exact Upd.here | assumption | apply Upd.append | apply Upd.there); done))) (by ((try apply evl_some rfl); (repeat (first | exact (rfl : _ = []) | apply evl_cons rfl (by (first | exact evv (.int _ _) | exact evv (.bool _) | exact evv (.pointer _) | exact evv (.slice _ _ _) | exact evv (.agg _) | exact evv (.map _) | exact evv (.func _ _ _) | exact evv (.iface _ _) | exact evv (.nilIface) | exact evv (.nilFunc) | exact evv (.string _) | exact evv (.tuple _) | exact rfl)) | exact rfl)))) (by rfl) (by rfl) (by rfl) (by ((try apply evl_some rfl); (repeat (first | exact (rfl : _ = []) | apply evl_cons rfl (by (first | exact evv (.int _ _) | exact evv (.bool _) | exact evv (.pointer _) | exact evv (.slice _ _ _) | exact evv (.agg _) | exact evv (.map _) | exact evv (.func _ _ _) | exact evv (.iface _ _) | exact evv (.nilIface) | exact evv (.nilFunc) | exact evv (.string _) | exact evv (.tuple _) | exact rfl)) | exact rfl)))) ?_)
  refine xr_end rfl ?_
  refine th_n ?_
  refine xc_seq (xc_region ?_)
  refine xr_op rfl rfl (xv_loadA ty24 rfl rfl (by (first | ((repeat first | exact zm0 | assumption | refine zm1 ?_ | refine zmr ?_); done) | ((repeat refine zm1 ?_); refine zml ?_; (repeat first | exact zm0 | assumption | refine zm1 ?_ | refine zmr ?_); done) | ((repeat refine zm1 ?_); refine zmr ?_; (repeat refine zm1 ?_); refine zml ?_; (repeat first | exact zm0 | assumption | refine zm1 ?_ | refine zmr ?_); done) | ((repeat first | exact zm0 | assumption | refine zm1 ?_ | refine zml ?_); done))) (by ((try apply evl_some rfl); (repeat (first | exact (rfl : _ = []) | apply evl_cons rfl (by (first | exact evv (.int _ _) | exact evv (.bool _) | exact evv (.pointer _) | exact evv (.slice _ _ _) | exact evv (.agg _) | exact evv (.map _) | exact evv (.func _ _ _) | exact evv (.iface _ _) | exact evv (.nilIface) | exact evv (.nilFunc) | exact evv (.string _) | exact evv (.tuple _) | exact rfl)) | exact rfl)))) (by rfl) ?_)
  refine xr_op rfl rfl (xv_build bt48 rfl (by ((try apply evl_some rfl); (repeat (first | exact (rfl : _ = []) | apply evl_cons rfl (by (first | exact evv (.int _ _) | exact evv (.bool _) | exact evv (.pointer _) | exact evv (.slice _ _ _) | exact evv (.agg _) | exact evv (.map _) | exact evv (.func _ _ _) | exact evv (.iface _ _) | exact evv (.nilIface) | exact evv (.nilFunc) | exact evv (.string _) | exact evv (.tuple _) | exact rfl)) | exact rfl)))) ?_)
  refine xr_op rfl rfl (xv_build bt48 rfl (by ((try apply evl_some rfl); (repeat (first | exact (rfl : _ = []) | apply evl_cons rfl (by (first | exact evv (.int _ _) | exact evv (.bool _) | exact evv (.pointer _) | exact evv (.slice _ _ _) | exact evv (.agg _) | exact evv (.map _) | exact evv (.func _ _ _) | exact evv (.iface _ _) | exact evv (.nilIface) | exact evv (.nilFunc) | exact evv (.string _) | exact evv (.tuple _) | exact rfl)) | exact rfl)))) ?_)
  refine xr_op rfl rfl (xv_build bt48 rfl (by ((try apply evl_some rfl); (repeat (first | exact (rfl : _ = []) | apply evl_cons rfl (by (first | exact evv (.int _ _) | exact evv (.bool _) | exact evv (.pointer _) | exact evv (.slice _ _ _) | exact evv (.agg _) | exact evv (.map _) | exact evv (.func _ _ _) | exact evv (.iface _ _) | exact evv (.nilIface) | exact evv (.nilFunc) | exact evv (.string _) | exact evv (.tuple _) | exact rfl)) | exact rfl)))) ?_)
  refine xr_op rfl rfl (xv_build bt48 rfl (by ((try apply evl_some rfl); (repeat (first | exact (rfl : _ = []) | apply evl_cons rfl (by (first | exact evv (.int _ _) | exact evv (.bool _) | exact evv (.pointer _) | exact evv (.slice _ _ _) | exact evv (.agg _) | exact evv (.map _) | exact evv (.func _ _ _) | exact evv (.iface _ _) | exact evv (.nilIface) | exact evv (.nilFunc) | exact evv (.string _) | exact evv (.tuple _) | exact rfl)) | exact rfl)))) ?_)
  refine xr_op rfl rfl (xv_build bt48 rfl (by ((try apply evl_some rfl); (repeat (first | exact (rfl : _ = []) | apply evl_cons rfl (by (first | exact evv (.int _ _) | exact evv (.bool _) | exact evv (.pointer _) | exact evv (.slice _ _ _) | exact evv (.agg _) | exact evv (.map _) | exact evv (.func _ _ _) | exact evv (.iface _ _) | exact evv (.nilIface) | exact evv (.nilFunc) | exact evv (.string _) | exact evv (.tuple _) | exact rfl)) | exact rfl)))) ?_)
  refine xr_op rfl rfl ((al_buildSlice sl25 ty48 rfl rfl rfl rfl rfl (by ((try apply evl_some rfl); (repeat (first | exact (rfl : _ = []) | apply evl_cons rfl (by (first | exact evv (.int _ _) | exact evv (.bool _) | exact evv (.pointer _) | exact evv (.slice _ _ _) | exact evv (.agg _) | exact evv (.map _) | exact evv (.func _ _ _) | exact evv (.iface _ _) | exact evv (.nilIface) | exact evv (.nilFunc) | exact evv (.string _) | exact evv (.tuple _) | exact rfl)) | exact rfl))))).xv (fun bl hbl => ?_))
  refine xr_op rfl rfl (xv_s ty24 rfl rfl (by (first | (apply Upd.append; (repeat first | exact Upd.here | assumption | apply Upd.there | apply Upd.left); done) | ((repeat first | exact Upd.here | assumption | apply Upd.there | apply Upd.left); done) | (apply Upd.append; apply Upd.append; (repeat first | exact Upd.here | assumption | apply Upd.there | apply Upd.left); done) | ((repeat first | exact Upd.here | assumption | apply Upd.append | apply Upd.there); done))) (by ((try apply evl_some rfl); (repeat (first | exact (rfl : _ = []) | apply evl_cons rfl (by (first | exact evv (.int _ _) | exact evv (.bool _) | exact evv (.pointer _) | exact evv (.slice _ _ _) | exact evv (.agg _) | exact evv (.map _) | exact evv (.func _ _ _) | exact evv (.iface _ _) | exact evv (.nilIface) | exact evv (.nilFunc) | exact evv (.string _) | exact evv (.tuple _) | exact rfl)) | exact rfl)))) (by rfl) (by rfl) (by rfl) (by ((try apply evl_some rfl); (repeat (first | exact (rfl : _ = []) | apply evl_cons rfl (by (first | exact evv (.int _ _) | exact evv (.bool _) | exact evv (.pointer _) | exact evv (.slice _ _ _) | exact evv (.agg _) | exact evv (.map _) | exact evv (.func _ _ _) | exact evv (.iface _ _) | exact evv (.nilIface) | exact evv (.nilFunc) | exact evv (.string _) | exact evv (.tuple _) | exact rfl)) | exact rfl)))) ?_)
  refine xr_op rfl rfl (xv_assign rfl ?_)
  refine xr_end rfl ?_
  refine th_n ?_
  refine xc_ret ?_
  refine body_ret (h' := ((bl, .cells ⟨sL.flatMap eStoke⟩ 48 (0, 0)) :: (bc, .cells ⟨sW.curve.flatMap eSpan⟩ 38 (0, 0)) :: h)) rfl (ro_cellA ty24 rfl rfl (by (first | ((repeat first | exact zm0 | assumption | refine zm1 ?_ | refine zmr ?_); done) | ((repeat refine zm1 ?_); refine zml ?_; (repeat first | exact zm0 | assumption | refine zm1 ?_ | refine zmr ?_); done) | ((repeat refine zm1 ?_); refine zmr ?_; (repeat refine zm1 ?_); refine zml ?_; (repeat first | exact zm0 | assumption | refine zm1 ?_ | refine zmr ?_); done) | ((repeat first | exact zm0 | assumption | refine zm1 ?_ | refine zml ?_); done))) (by rfl) (by rfl) (ro_tmp rfl ro_nil)) (by (first | ((repeat first | exact List.Sublist.refl _ | exact List.nil_sublist _ | exact List.Sublist.cons_cons _ (List.Sublist.refl _) | exact List.sublist_append_left _ _ | refine List.Sublist.append (List.Sublist.refl _) ?_ | refine List.Sublist.cons_cons _ ?_ | refine List.Sublist.cons _ ?_ | refine List.Sublist.trans ?_ (List.sublist_append_right _ _)); done) | ((repeat first | exact List.Sublist.refl _ | exact List.nil_sublist _ | exact List.Sublist.cons_cons _ (List.Sublist.refl _) | exact List.sublist_append_left _ _ | refine List.Sublist.append (List.Sublist.refl _) ?_ | refine List.Sublist.cons_cons _ ?_ | refine List.Sublist.cons _ ?_ | refine List.Sublist.trans ?_ (List.sublist_append_left _ _)); done))) ?_
  exact H bc bl

theorem awake_c {h : Hp} {R : Ending → Hp → Prop} (H : R (.returned (.bool true)) h) : ACalls Try.prog 10 ⟨[]⟩ h R := by
  refine calls_of_xc (N := 112) Try.func10 rfl (by rfl) ?_
  refine xc_seq (xc_region ?_)
  refine xr_op rfl rfl (xv_assign rfl ?_)
  refine xr_end rfl ?_
  refine th_n ?_
  refine xc_seq (xc_region ?_)
  refine xr_op rfl rfl (xv_calls rfl hb22 (sample_c (fun bc bl => up_ret ?_)))
  refine xr_op rfl rfl (xv_move rfl ?_)
  refine xr_op rfl rfl (xv_extract rfl rfl ?_)
  refine xr_op rfl rfl (xv_extract rfl rfl ?_)
  refine xr_op rfl rfl (xv_alloc ty24 (fun bw hbw => ?_))
  refine xr_op rfl rfl (xv_s ty24 rfl rfl (by (first | (apply Upd.append; (repeat first | exact Upd.here | assumption | apply Upd.there | apply Upd.left); done) | ((repeat first | exact Upd.here | assumption | apply Upd.there | apply Upd.left); done) | (apply Upd.append; apply Upd.append; (repeat first | exact Upd.here | assumption | apply Upd.there | apply Upd.left); done) | ((repeat first | exact Upd.here | assumption | apply Upd.append | apply Upd.there); done))) (by ((try apply evl_some rfl); (repeat (first | exact (rfl : _ = []) | apply evl_cons rfl (by (first | exact evv (.int _ _) | exact evv (.bool _) | exact evv (.pointer _) | exact evv (.slice _ _ _) | exact evv (.agg _) | exact evv (.map _) | exact evv (.func _ _ _) | exact evv (.iface _ _) | exact evv (.nilIface) | exact evv (.nilFunc) | exact evv (.string _) | exact evv (.tuple _) | exact rfl)) | exact rfl)))) (by rfl) (by rfl) (by rfl) (by ((try apply evl_some rfl); (repeat (first | exact (rfl : _ = []) | apply evl_cons rfl (by (first | exact evv (.int _ _) | exact evv (.bool _) | exact evv (.pointer _) | exact evv (.slice _ _ _) | exact evv (.agg _) | exact evv (.map _) | exact evv (.func _ _ _) | exact evv (.iface _ _) | exact evv (.nilIface) | exact evv (.nilFunc) | exact evv (.string _) | exact evv (.tuple _) | exact rfl)) | exact rfl)))) ?_)
  refine xr_op rfl rfl (xv_assign rfl ?_)
  refine xr_end rfl ?_
  refine th_n ?_
  refine xc_seq (xc_region ?_)
  refine xr_op rfl rfl (xv_loadA ty24 rfl rfl (by (first | ((repeat first | exact zm0 | assumption | refine zm1 ?_ | refine zmr ?_); done) | ((repeat refine zm1 ?_); refine zml ?_; (repeat first | exact zm0 | assumption | refine zm1 ?_ | refine zmr ?_); done) | ((repeat refine zm1 ?_); refine zmr ?_; (repeat refine zm1 ?_); refine zml ?_; (repeat first | exact zm0 | assumption | refine zm1 ?_ | refine zmr ?_); done) | ((repeat first | exact zm0 | assumption | refine zm1 ?_ | refine zml ?_); done))) (by ((try apply evl_some rfl); (repeat (first | exact (rfl : _ = []) | apply evl_cons rfl (by (first | exact evv (.int _ _) | exact evv (.bool _) | exact evv (.pointer _) | exact evv (.slice _ _ _) | exact evv (.agg _) | exact evv (.map _) | exact evv (.func _ _ _) | exact evv (.iface _ _) | exact evv (.nilIface) | exact evv (.nilFunc) | exact evv (.string _) | exact evv (.tuple _) | exact rfl)) | exact rfl)))) (by rfl) ?_)
  refine xr_op rfl rfl (xv_move rfl ?_)
  refine xr_op rfl rfl (xv_calls rfl hb11 (aPlay (by (first | ((repeat first | exact zm0 | assumption | refine zm1 ?_ | refine zmr ?_); done) | ((repeat refine zm1 ?_); refine zml ?_; (repeat first | exact zm0 | assumption | refine zm1 ?_ | refine zmr ?_); done) | ((repeat refine zm1 ?_); refine zmr ?_; (repeat refine zm1 ?_); refine zml ?_; (repeat first | exact zm0 | assumption | refine zm1 ?_ | refine zmr ?_); done) | ((repeat first | exact zm0 | assumption | refine zm1 ?_ | refine zml ?_); done))) (by (first | ((repeat first | exact zm0 | assumption | refine zm1 ?_ | refine zmr ?_); done) | ((repeat refine zm1 ?_); refine zml ?_; (repeat first | exact zm0 | assumption | refine zm1 ?_ | refine zmr ?_); done) | ((repeat refine zm1 ?_); refine zmr ?_; (repeat refine zm1 ?_); refine zml ?_; (repeat first | exact zm0 | assumption | refine zm1 ?_ | refine zmr ?_); done) | ((repeat first | exact zm0 | assumption | refine zm1 ?_ | refine zml ?_); done))) (up_ret ?_)))
  refine xr_op rfl rfl (xv_move rfl ?_)
  refine xr_op rfl rfl (xv_extract rfl rfl ?_)
  refine xr_op rfl rfl (xv_extract rfl rfl ?_)
  refine xr_op rfl rfl (xv_extract rfl rfl ?_)
  refine xr_op rfl rfl (xv_alloc ty30 (fun b1 hb1 => ?_))
  refine xr_op rfl rfl (xv_s ty30 rfl rfl (by (first | (apply Upd.append; (repeat first | exact Upd.here | assumption | apply Upd.there | apply Upd.left); done) | ((repeat first | exact Upd.here | assumption | apply Upd.there | apply Upd.left); done) | (apply Upd.append; apply Upd.append; (repeat first | exact Upd.here | assumption | apply Upd.there | apply Upd.left); done) | ((repeat first | exact Upd.here | assumption | apply Upd.append | apply Upd.there); done))) (by ((try apply evl_some rfl); (repeat (first | exact (rfl : _ = []) | apply evl_cons rfl (by (first | exact evv (.int _ _) | exact evv (.bool _) | exact evv (.pointer _) | exact evv (.slice _ _ _) | exact evv (.agg _) | exact evv (.map _) | exact evv (.func _ _ _) | exact evv (.iface _ _) | exact evv (.nilIface) | exact evv (.nilFunc) | exact evv (.string _) | exact evv (.tuple _) | exact rfl)) | exact rfl)))) (by rfl) (by rfl) (by rfl) (by ((try apply evl_some rfl); (repeat (first | exact (rfl : _ = []) | apply evl_cons rfl (by (first | exact evv (.int _ _) | exact evv (.bool _) | exact evv (.pointer _) | exact evv (.slice _ _ _) | exact evv (.agg _) | exact evv (.map _) | exact evv (.func _ _ _) | exact evv (.iface _ _) | exact evv (.nilIface) | exact evv (.nilFunc) | exact evv (.string _) | exact evv (.tuple _) | exact rfl)) | exact rfl)))) ?_)
  refine xr_op rfl rfl (xv_assign rfl ?_)
  refine xr_op rfl rfl (xv_assign rfl ?_)
  refine xr_end rfl ?_
  refine th_n ?_
  refine xc_seq (xc_region ?_)
  refine xr_op rfl rfl (xv_loadA ty24 rfl rfl (by (first | ((repeat first | exact zm0 | assumption | refine zm1 ?_ | refine zmr ?_); done) | ((repeat refine zm1 ?_); refine zml ?_; (repeat first | exact zm0 | assumption | refine zm1 ?_ | refine zmr ?_); done) | ((repeat refine zm1 ?_); refine zmr ?_; (repeat refine zm1 ?_); refine zml ?_; (repeat first | exact zm0 | assumption | refine zm1 ?_ | refine zmr ?_); done) | ((repeat first | exact zm0 | assumption | refine zm1 ?_ | refine zml ?_); done))) (by ((try apply evl_some rfl); (repeat (first | exact (rfl : _ = []) | apply evl_cons rfl (by (first | exact evv (.int _ _) | exact evv (.bool _) | exact evv (.pointer _) | exact evv (.slice _ _ _) | exact evv (.agg _) | exact evv (.map _) | exact evv (.func _ _ _) | exact evv (.iface _ _) | exact evv (.nilIface) | exact evv (.nilFunc) | exact evv (.string _) | exact evv (.tuple _) | exact rfl)) | exact rfl)))) (by rfl) ?_)
  refine xr_op rfl rfl (xv_move rfl ?_)
  refine xr_op rfl rfl (xv_calls rfl hb15 (aMake (by (first | ((repeat first | exact zm0 | assumption | refine zm1 ?_ | refine zmr ?_); done) | ((repeat refine zm1 ?_); refine zml ?_; (repeat first | exact zm0 | assumption | refine zm1 ?_ | refine zmr ?_); done) | ((repeat refine zm1 ?_); refine zmr ?_; (repeat refine zm1 ?_); refine zml ?_; (repeat first | exact zm0 | assumption | refine zm1 ?_ | refine zmr ?_); done) | ((repeat first | exact zm0 | assumption | refine zm1 ?_ | refine zml ?_); done))) (by (first | ((repeat first | exact zm0 | assumption | refine zm1 ?_ | refine zmr ?_); done) | ((repeat refine zm1 ?_); refine zml ?_; (repeat first | exact zm0 | assumption | refine zm1 ?_ | refine zmr ?_); done) | ((repeat refine zm1 ?_); refine zmr ?_; (repeat refine zm1 ?_); refine zml ?_; (repeat first | exact zm0 | assumption | refine zm1 ?_ | refine zmr ?_); done) | ((repeat first | exact zm0 | assumption | refine zm1 ?_ | refine zml ?_); done))) (up_ret ?_)))
  refine xr_op rfl rfl (xv_move rfl ?_)
  refine xr_op rfl rfl (xv_extract rfl rfl ?_)
  refine xr_op rfl rfl (xv_extract rfl rfl ?_)
  refine xr_op rfl rfl (xv_alloc ty38 (fun b2 hb2 => ?_))
  refine xr_op rfl rfl (xv_s ty38 rfl rfl (by (first | (apply Upd.append; (repeat first | exact Upd.here | assumption | apply Upd.there | apply Upd.left); done) | ((repeat first | exact Upd.here | assumption | apply Upd.there | apply Upd.left); done) | (apply Upd.append; apply Upd.append; (repeat first | exact Upd.here | assumption | apply Upd.there | apply Upd.left); done) | ((repeat first | exact Upd.here | assumption | apply Upd.append | apply Upd.there); done))) (by ((try apply evl_some rfl); (repeat (first | exact (rfl : _ = []) | apply evl_cons rfl (by (first | exact evv (.int _ _) | exact evv (.bool _) | exact evv (.pointer _) | exact evv (.slice _ _ _) | exact evv (.agg _) | exact evv (.map _) | exact evv (.func _ _ _) | exact evv (.iface _ _) | exact evv (.nilIface) | exact evv (.nilFunc) | exact evv (.string _) | exact evv (.tuple _) | exact rfl)) | exact rfl)))) (by rfl) (by rfl) (by rfl) (by ((try apply evl_some rfl); (repeat (first | exact (rfl : _ = []) | apply evl_cons rfl (by (first | exact evv (.int _ _) | exact evv (.bool _) | exact evv (.pointer _) | exact evv (.slice _ _ _) | exact evv (.agg _) | exact evv (.map _) | exact evv (.func _ _ _) | exact evv (.iface _ _) | exact evv (.nilIface) | exact evv (.nilFunc) | exact evv (.string _) | exact evv (.tuple _) | exact rfl)) | exact rfl)))) ?_)
  refine xr_op rfl rfl (xv_assign rfl ?_)
  refine xr_end rfl ?_
  refine th_n ?_
  refine xc_seq (xc_region ?_)
  refine xr_op rfl rfl (xv_loadA ty24 rfl rfl (by (first | ((repeat first | exact zm0 | assumption | refine zm1 ?_ | refine zmr ?_); done) | ((repeat refine zm1 ?_); refine zml ?_; (repeat first | exact zm0 | assumption | refine zm1 ?_ | refine zmr ?_); done) | ((repeat refine zm1 ?_); refine zmr ?_; (repeat refine zm1 ?_); refine zml ?_; (repeat first | exact zm0 | assumption | refine zm1 ?_ | refine zmr ?_); done) | ((repeat first | exact zm0 | assumption | refine zm1 ?_ | refine zml ?_); done))) (by ((try apply evl_some rfl); (repeat (first | exact (rfl : _ = []) | apply evl_cons rfl (by (first | exact evv (.int _ _) | exact evv (.bool _) | exact evv (.pointer _) | exact evv (.slice _ _ _) | exact evv (.agg _) | exact evv (.map _) | exact evv (.func _ _ _) | exact evv (.iface _ _) | exact evv (.nilIface) | exact evv (.nilFunc) | exact evv (.string _) | exact evv (.tuple _) | exact rfl)) | exact rfl)))) (by rfl) ?_)
  refine xr_op rfl rfl (xv_move rfl ?_)
  refine xr_op rfl rfl (xv_calls rfl hb17 (aPeak (by (first | ((repeat first | exact zm0 | assumption | refine zm1 ?_ | refine zmr ?_); done) | ((repeat refine zm1 ?_); refine zml ?_; (repeat first | exact zm0 | assumption | refine zm1 ?_ | refine zmr ?_); done) | ((repeat refine zm1 ?_); refine zmr ?_; (repeat refine zm1 ?_); refine zml ?_; (repeat first | exact zm0 | assumption | refine zm1 ?_ | refine zmr ?_); done) | ((repeat first | exact zm0 | assumption | refine zm1 ?_ | refine zml ?_); done))) (by (first | ((repeat first | exact zm0 | assumption | refine zm1 ?_ | refine zmr ?_); done) | ((repeat refine zm1 ?_); refine zml ?_; (repeat first | exact zm0 | assumption | refine zm1 ?_ | refine zmr ?_); done) | ((repeat refine zm1 ?_); refine zmr ?_; (repeat refine zm1 ?_); refine zml ?_; (repeat first | exact zm0 | assumption | refine zm1 ?_ | refine zmr ?_); done) | ((repeat first | exact zm0 | assumption | refine zm1 ?_ | refine zml ?_); done))) (up_ret ?_)))
  refine xr_op rfl rfl (xv_move rfl ?_)
  refine xr_op rfl rfl (xv_extract rfl rfl ?_)
  refine xr_op rfl rfl (xv_extract rfl rfl ?_)
  refine xr_op rfl rfl (xv_extract rfl rfl ?_)
  refine xr_op rfl rfl (xv_alloc ty38 (fun b3 hb3 => ?_))
  refine xr_op rfl rfl (xv_assign rfl ?_)
  refine xr_op rfl rfl (xv_s ty38 rfl rfl (by (first | (apply Upd.append; (repeat first | exact Upd.here | assumption | apply Upd.there | apply Upd.left); done) | ((repeat first | exact Upd.here | assumption | apply Upd.there | apply Upd.left); done) | (apply Upd.append; apply Upd.append; (repeat first | exact Upd.here | assumption | apply Upd.there | apply Upd.left); done) | ((repeat first | exact Upd.here | assumption | apply Upd.append | apply Upd.there); done))) (by ((try apply evl_some rfl); (repeat (first | exact (rfl : _ = []) | apply evl_cons rfl (by (first | exact evv (.int _ _) | exact evv (.bool _) | exact evv (.pointer _) | exact evv (.slice _ _ _) | exact evv (.agg _) | exact evv (.map _) | exact evv (.func _ _ _) | exact evv (.iface _ _) | exact evv (.nilIface) | exact evv (.nilFunc) | exact evv (.string _) | exact evv (.tuple _) | exact rfl)) | exact rfl)))) (by rfl) (by rfl) (by rfl) (by ((try apply evl_some rfl); (repeat (first | exact (rfl : _ = []) | apply evl_cons rfl (by (first | exact evv (.int _ _) | exact evv (.bool _) | exact evv (.pointer _) | exact evv (.slice _ _ _) | exact evv (.agg _) | exact evv (.map _) | exact evv (.func _ _ _) | exact evv (.iface _ _) | exact evv (.nilIface) | exact evv (.nilFunc) | exact evv (.string _) | exact evv (.tuple _) | exact rfl)) | exact rfl)))) ?_)
  refine xr_op rfl rfl (xv_assign rfl ?_)
  refine xr_end rfl ?_
  refine th_n ?_
  refine xc_seq (xc_region ?_)
  refine xr_op rfl rfl (xv_loadA ty24 rfl rfl (by (first | ((repeat first | exact zm0 | assumption | refine zm1 ?_ | refine zmr ?_); done) | ((repeat refine zm1 ?_); refine zml ?_; (repeat first | exact zm0 | assumption | refine zm1 ?_ | refine zmr ?_); done) | ((repeat refine zm1 ?_); refine zmr ?_; (repeat refine zm1 ?_); refine zml ?_; (repeat first | exact zm0 | assumption | refine zm1 ?_ | refine zmr ?_); done) | ((repeat first | exact zm0 | assumption | refine zm1 ?_ | refine zml ?_); done))) (by ((try apply evl_some rfl); (repeat (first | exact (rfl : _ = []) | apply evl_cons rfl (by (first | exact evv (.int _ _) | exact evv (.bool _) | exact evv (.pointer _) | exact evv (.slice _ _ _) | exact evv (.agg _) | exact evv (.map _) | exact evv (.func _ _ _) | exact evv (.iface _ _) | exact evv (.nilIface) | exact evv (.nilFunc) | exact evv (.string _) | exact evv (.tuple _) | exact rfl)) | exact rfl)))) (by rfl) ?_)
  refine xr_op rfl rfl (xv_move rfl ?_)
  refine xr_op rfl rfl (xv_calls rfl hb13 (aSoon (by (first | ((repeat first | exact zm0 | assumption | refine zm1 ?_ | refine zmr ?_); done) | ((repeat refine zm1 ?_); refine zml ?_; (repeat first | exact zm0 | assumption | refine zm1 ?_ | refine zmr ?_); done) | ((repeat refine zm1 ?_); refine zmr ?_; (repeat refine zm1 ?_); refine zml ?_; (repeat first | exact zm0 | assumption | refine zm1 ?_ | refine zmr ?_); done) | ((repeat first | exact zm0 | assumption | refine zm1 ?_ | refine zml ?_); done))) (by (first | ((repeat first | exact zm0 | assumption | refine zm1 ?_ | refine zmr ?_); done) | ((repeat refine zm1 ?_); refine zml ?_; (repeat first | exact zm0 | assumption | refine zm1 ?_ | refine zmr ?_); done) | ((repeat refine zm1 ?_); refine zmr ?_; (repeat refine zm1 ?_); refine zml ?_; (repeat first | exact zm0 | assumption | refine zm1 ?_ | refine zmr ?_); done) | ((repeat first | exact zm0 | assumption | refine zm1 ?_ | refine zml ?_); done))) (up_ret ?_)))
  refine xr_op rfl rfl (xv_move rfl ?_)
  refine xr_op rfl rfl (xv_extract rfl rfl ?_)
  refine xr_op rfl rfl (xv_extract rfl rfl ?_)
  refine xr_op rfl rfl (xv_assign rfl ?_)
  refine xr_op rfl rfl (xv_assign rfl ?_)
  refine xr_end rfl ?_
  refine th_n ?_
  refine xc_seq ?_
  refine xc_drawL (L := [(bw, fun o => o = .cells ⟨eHouse (some ⟨bc, 0, none⟩) 3 sW⟩ 24 (0, 0))]) [(0, .S), (1, .S), (2, .S), (3, .P), (10, .P), (3, .A), (4, .O), (5, .O), (6, .S), (7, .S), (8, .S), (9, .S), (10, .A), (11, .O), (12, .S), (13, .S)] [] _ mixed (by kernel_rfl) (by rw [List.append_nil]) (holds1 (by (first | ((repeat first | exact zm0 | assumption | refine zm1 ?_ | refine zmr ?_); done) | ((repeat refine zm1 ?_); refine zml ?_; (repeat first | exact zm0 | assumption | refine zm1 ?_ | refine zmr ?_); done) | ((repeat refine zm1 ?_); refine zmr ?_; (repeat refine zm1 ?_); refine zml ?_; (repeat first | exact zm0 | assumption | refine zm1 ?_ | refine zmr ?_); done) | ((repeat first | exact zm0 | assumption | refine zm1 ?_ | refine zml ?_); done))) rfl) ?_
  refine js_I rfl rfl (.inl rfl) (fun hh hv => by obtain ⟨o, hm, rfl⟩ := hv bw _ List.mem_cons_self; exact xv_loadA ty24 rfl rfl (List.mem_append_left _ hm) (by ((try apply evl_some rfl); (repeat (first | exact (rfl : _ = []) | apply evl_cons rfl (by (first | exact evv (.int _ _) | exact evv (.bool _) | exact evv (.pointer _) | exact evv (.slice _ _ _) | exact evv (.agg _) | exact evv (.map _) | exact evv (.func _ _ _) | exact evv (.iface _ _) | exact evv (.nilIface) | exact evv (.nilFunc) | exact evv (.string _) | exact evv (.tuple _) | exact rfl)) | exact rfl)))) (by rfl) ⟨rfl, rfl⟩) ?_
  refine js_S rfl rfl (.inl rfl) (xv_move rfl ⟨rfl, rfl⟩) ?_
  refine js_S rfl rfl (.inl rfl) (xv_build bt48 rfl (by ((try apply evl_some rfl); (repeat (first | exact (rfl : _ = []) | apply evl_cons rfl (by (first | exact evv (.int _ _) | exact evv (.bool _) | exact evv (.pointer _) | exact evv (.slice _ _ _) | exact evv (.agg _) | exact evv (.map _) | exact evv (.func _ _ _) | exact evv (.iface _ _) | exact evv (.nilIface) | exact evv (.nilFunc) | exact evv (.string _) | exact evv (.tuple _) | exact rfl)) | exact rfl)))) ⟨rfl, rfl⟩) ?_
  refine js_P rfl rfl rfl (al_buildSlice sl25 ty48 rfl rfl rfl rfl rfl (by ((try apply evl_some rfl); (repeat (first | exact (rfl : _ = []) | apply evl_cons rfl (by (first | exact evv (.int _ _) | exact evv (.bool _) | exact evv (.pointer _) | exact evv (.slice _ _ _) | exact evv (.agg _) | exact evv (.map _) | exact evv (.func _ _ _) | exact evv (.iface _ _) | exact evv (.nilIface) | exact evv (.nilFunc) | exact evv (.string _) | exact evv (.tuple _) | exact rfl)) | exact rfl))))) ?_
  refine js_P rfl rfl rfl (al_alloc ty30) ?_
  refine js_A0 rfl rfl rfl rfl rfl ⟨rfl, trivial⟩ (fun b6 hb6 => ?_)
  refine js_OL0 rfl rfl (.inl rfl) (xv_append (V := .at bl 5 []) (n := 5) (xs := sL.flatMap eStoke) sl25 ty48 rfl rfl rfl ⟨rfl, by decide, rfl⟩ (.there (.there (.there (.there (.there .here))))) (by (first | ((repeat first | exact zm0 | assumption | refine zm1 ?_ | refine zmr ?_); done) | ((repeat refine zm1 ?_); refine zml ?_; (repeat first | exact zm0 | assumption | refine zm1 ?_ | refine zmr ?_); done) | ((repeat refine zm1 ?_); refine zmr ?_; (repeat refine zm1 ?_); refine zml ?_; (repeat first | exact zm0 | assumption | refine zm1 ?_ | refine zmr ?_); done) | ((repeat first | exact zm0 | assumption | refine zm1 ?_ | refine zml ?_); done))) (by ((try apply evl_some rfl); (repeat (first | exact (rfl : _ = []) | apply evl_cons rfl (by (first | exact evv (.int _ _) | exact evv (.bool _) | exact evv (.pointer _) | exact evv (.slice _ _ _) | exact evv (.agg _) | exact evv (.map _) | exact evv (.func _ _ _) | exact evv (.iface _ _) | exact evv (.nilIface) | exact evv (.nilFunc) | exact evv (.string _) | exact evv (.tuple _) | exact rfl)) | exact rfl)))) rfl rfl (by omega) (by simp only []; omega) (by omega) (fun V2 hV2 => ?_))
  refine ⟨holds1 (by (first | ((repeat first | exact zm0 | assumption | refine zm1 ?_ | refine zmr ?_); done) | ((repeat refine zm1 ?_); refine zml ?_; (repeat first | exact zm0 | assumption | refine zm1 ?_ | refine zmr ?_); done) | ((repeat refine zm1 ?_); refine zmr ?_; (repeat refine zm1 ?_); refine zml ?_; (repeat first | exact zm0 | assumption | refine zm1 ?_ | refine zmr ?_); done) | ((repeat first | exact zm0 | assumption | refine zm1 ?_ | refine zml ?_); done))) rfl, ?_⟩
  refine js_OL0 rfl rfl (.inl rfl) (xv_calls rfl hb11 (aPlay2 (by (first | ((repeat first | exact zm0 | assumption | refine zm1 ?_ | refine zmr ?_); done) | ((repeat refine zm1 ?_); refine zml ?_; (repeat first | exact zm0 | assumption | refine zm1 ?_ | refine zmr ?_); done) | ((repeat refine zm1 ?_); refine zmr ?_; (repeat refine zm1 ?_); refine zml ?_; (repeat first | exact zm0 | assumption | refine zm1 ?_ | refine zmr ?_); done) | ((repeat first | exact zm0 | assumption | refine zm1 ?_ | refine zml ?_); done))) hV2 (by intro z hz; (first | ((repeat first | exact zm0 | assumption | refine zm1 ?_ | refine zmr ?_); done) | ((repeat refine zm1 ?_); refine zml ?_; (repeat first | exact zm0 | assumption | refine zm1 ?_ | refine zmr ?_); done) | ((repeat refine zm1 ?_); refine zmr ?_; (repeat refine zm1 ?_); refine zml ?_; (repeat first | exact zm0 | assumption | refine zm1 ?_ | refine zmr ?_); done) | ((repeat first | exact zm0 | assumption | refine zm1 ?_ | refine zml ?_); done))) (up_ret ?_)))
  refine ⟨holds1 (by (first | ((repeat first | exact zm0 | assumption | refine zm1 ?_ | refine zmr ?_); done) | ((repeat refine zm1 ?_); refine zml ?_; (repeat first | exact zm0 | assumption | refine zm1 ?_ | refine zmr ?_); done) | ((repeat refine zm1 ?_); refine zmr ?_; (repeat refine zm1 ?_); refine zml ?_; (repeat first | exact zm0 | assumption | refine zm1 ?_ | refine zmr ?_); done) | ((repeat first | exact zm0 | assumption | refine zm1 ?_ | refine zml ?_); done))) rfl, ?_⟩
  refine js_S rfl rfl (.inl rfl) (xv_move rfl ⟨rfl, rfl⟩) ?_
  refine js_S rfl rfl (.inl rfl) (xv_extract rfl rfl ⟨rfl, rfl⟩) ?_
  refine js_S rfl rfl (.inl rfl) (xv_extract rfl rfl ⟨rfl, rfl⟩) ?_
  refine js_S rfl rfl (.inl rfl) (xv_extract rfl rfl ⟨rfl, rfl⟩) ?_
  refine js_A0 rfl rfl rfl rfl rfl trivial (fun b7 hb7 => ?_)
  refine js_OL0 rfl rfl (.inl rfl) (xv_s ty30 rfl rfl (by (first | (apply Upd.append; (repeat first | exact Upd.here | assumption | apply Upd.there | apply Upd.left); done) | ((repeat first | exact Upd.here | assumption | apply Upd.there | apply Upd.left); done) | (apply Upd.append; apply Upd.append; (repeat first | exact Upd.here | assumption | apply Upd.there | apply Upd.left); done) | ((repeat first | exact Upd.here | assumption | apply Upd.append | apply Upd.there); done))) (by ((try apply evl_some rfl); (repeat (first | exact (rfl : _ = []) | apply evl_cons rfl (by (first | exact evv (.int _ _) | exact evv (.bool _) | exact evv (.pointer _) | exact evv (.slice _ _ _) | exact evv (.agg _) | exact evv (.map _) | exact evv (.func _ _ _) | exact evv (.iface _ _) | exact evv (.nilIface) | exact evv (.nilFunc) | exact evv (.string _) | exact evv (.tuple _) | exact rfl)) | exact rfl)))) (by rfl) (by rfl) (by rfl) (by ((try apply evl_some rfl); (repeat (first | exact (rfl : _ = []) | apply evl_cons rfl (by (first | exact evv (.int _ _) | exact evv (.bool _) | exact evv (.pointer _) | exact evv (.slice _ _ _) | exact evv (.agg _) | exact evv (.map _) | exact evv (.func _ _ _) | exact evv (.iface _ _) | exact evv (.nilIface) | exact evv (.nilFunc) | exact evv (.string _) | exact evv (.tuple _) | exact rfl)) | exact rfl)))) ?_)
  refine ⟨holds1 (by (first | ((repeat first | exact zm0 | assumption | refine zm1 ?_ | refine zmr ?_); done) | ((repeat refine zm1 ?_); refine zml ?_; (repeat first | exact zm0 | assumption | refine zm1 ?_ | refine zmr ?_); done) | ((repeat refine zm1 ?_); refine zmr ?_; (repeat refine zm1 ?_); refine zml ?_; (repeat first | exact zm0 | assumption | refine zm1 ?_ | refine zmr ?_); done) | ((repeat first | exact zm0 | assumption | refine zm1 ?_ | refine zml ?_); done))) rfl, ?_⟩
  refine js_S rfl rfl (.inl rfl) (xv_assign rfl ⟨rfl, rfl⟩) ?_
  refine js_S rfl rfl (.inl rfl) (xv_assign rfl ⟨rfl, rfl⟩) ?_
  refine j_end0 ?_
  refine th_n ?_
  refine xc_seq ?_
  refine xc_draw0 [(0, .S), (1, .R), (2, .S), (3, .S), (4, .S), (5, .S), (6, .R), (7, .S), (8, .S), (9, .S), (10, .S), (11, .S), (12, .S), (13, .S), (14, .S), (15, .S), (16, .S), (17, .S), (18, .S), (19, .R), (20, .S), (21, .S), (22, .S), (23, .S), (24, .S), (25, .S), (26, .S), (27, .S), (28, .S), (29, .S), (30, .S), (31, .S), (32, .R), (33, .S), (34, .S), (35, .S), (36, .S), (37, .S), (38, .S), (39, .S), (40, .S), (41, .S), (42, .S), (43, .S), (44, .S), (45, .S), (46, .S), (47, .S), (48, .S), (49, .S), (50, .S), (51, .S), (52, .S), (53, .S), (54, .S), (55, .S), (56, .S)] mixed (by kernel_rfl) ?_
  refine js_S rfl rfl (.inl rfl) (xv_iaA (sz := 5) Try.underlying30 ty29 rfl rfl rfl (by (first | assumption | with_reducible exact Int.toNat_natCast _ | with_reducible rfl | rfl)) (by (first | omega | (dsimp only at *; omega) | (simp at *; omega))) (by (first | omega | (dsimp only at *; omega) | (simp at *; omega))) ⟨rfl, rfl⟩) ?_
  refine js_R0 rfl rfl (.inl rfl) (xv_loadA ty29 rfl rfl (by (first | ((repeat first | exact zm0 | assumption | refine zm1 ?_ | refine zmr ?_); done) | ((repeat refine zm1 ?_); refine zml ?_; (repeat first | exact zm0 | assumption | refine zm1 ?_ | refine zmr ?_); done) | ((repeat refine zm1 ?_); refine zmr ?_; (repeat refine zm1 ?_); refine zml ?_; (repeat first | exact zm0 | assumption | refine zm1 ?_ | refine zmr ?_); done) | ((repeat first | exact zm0 | assumption | refine zm1 ?_ | refine zml ?_); done))) (by ((try apply evl_some rfl); (repeat (first | exact (rfl : _ = []) | apply evl_cons rfl (by (first | exact evv (.int _ _) | exact evv (.bool _) | exact evv (.pointer _) | exact evv (.slice _ _ _) | exact evv (.agg _) | exact evv (.map _) | exact evv (.func _ _ _) | exact evv (.iface _ _) | exact evv (.nilIface) | exact evv (.nilFunc) | exact evv (.string _) | exact evv (.tuple _) | exact rfl)) | exact rfl)))) (by rfl) ⟨rfl, rfl⟩) ?_
  refine js_S rfl rfl (.inl rfl) (xv_build bt29 rfl (by ((try apply evl_some rfl); (repeat (first | exact (rfl : _ = []) | apply evl_cons rfl (by (first | exact evv (.int _ _) | exact evv (.bool _) | exact evv (.pointer _) | exact evv (.slice _ _ _) | exact evv (.agg _) | exact evv (.map _) | exact evv (.func _ _ _) | exact evv (.iface _ _) | exact evv (.nilIface) | exact evv (.nilFunc) | exact evv (.string _) | exact evv (.tuple _) | exact rfl)) | exact rfl)))) ⟨rfl, rfl⟩) ?_
  refine js_S rfl rfl (.inl rfl) (xv_eqA (b := true) fq29 rfl eg29 rfl rfl rfl rfl (by ((repeat' first | assumption | exact numNil | refine numCons ?_ | refine numApp ?_ ?_); done)) (by ((repeat' first | assumption | exact numNil | refine numCons ?_ | refine numApp ?_ ?_); done)) rfl ⟨rfl, rfl⟩) ?_
  refine js_S rfl rfl (.inl rfl) (xv_move rfl ⟨rfl, rfl⟩) ?_
  refine js_S rfl rfl (.inr ⟨_, _, rfl, rfl⟩) (xv_iaA (sz := 5) Try.underlying30 ty29 rfl rfl rfl (by (first | assumption | with_reducible exact Int.toNat_natCast _ | with_reducible rfl | rfl)) (by (first | omega | (dsimp only at *; omega) | (simp at *; omega))) (by (first | omega | (dsimp only at *; omega) | (simp at *; omega))) ⟨rfl, rfl⟩) ?_
  refine js_R0 rfl rfl (.inr ⟨_, _, rfl, rfl⟩) (xv_loadA ty29 rfl rfl (by (first | ((repeat first | exact zm0 | assumption | refine zm1 ?_ | refine zmr ?_); done) | ((repeat refine zm1 ?_); refine zml ?_; (repeat first | exact zm0 | assumption | refine zm1 ?_ | refine zmr ?_); done) | ((repeat refine zm1 ?_); refine zmr ?_; (repeat refine zm1 ?_); refine zml ?_; (repeat first | exact zm0 | assumption | refine zm1 ?_ | refine zmr ?_); done) | ((repeat first | exact zm0 | assumption | refine zm1 ?_ | refine zml ?_); done))) (by ((try apply evl_some rfl); (repeat (first | exact (rfl : _ = []) | apply evl_cons rfl (by (first | exact evv (.int _ _) | exact evv (.bool _) | exact evv (.pointer _) | exact evv (.slice _ _ _) | exact evv (.agg _) | exact evv (.map _) | exact evv (.func _ _ _) | exact evv (.iface _ _) | exact evv (.nilIface) | exact evv (.nilFunc) | exact evv (.string _) | exact evv (.tuple _) | exact rfl)) | exact rfl)))) (by rfl) ⟨rfl, rfl⟩) ?_
  refine js_S rfl rfl (.inr ⟨_, _, rfl, rfl⟩) (xv_build bt29 rfl (by ((try apply evl_some rfl); (repeat (first | exact (rfl : _ = []) | apply evl_cons rfl (by (first | exact evv (.int _ _) | exact evv (.bool _) | exact evv (.pointer _) | exact evv (.slice _ _ _) | exact evv (.agg _) | exact evv (.map _) | exact evv (.func _ _ _) | exact evv (.iface _ _) | exact evv (.nilIface) | exact evv (.nilFunc) | exact evv (.string _) | exact evv (.tuple _) | exact rfl)) | exact rfl)))) ⟨rfl, rfl⟩) ?_
  refine js_S rfl rfl (.inr ⟨_, _, rfl, rfl⟩) (xv_eqA (b := true) fq29 rfl eg29 rfl rfl rfl rfl (by ((repeat' first | assumption | exact numNil | refine numCons ?_ | refine numApp ?_ ?_); done)) (by ((repeat' first | assumption | exact numNil | refine numCons ?_ | refine numApp ?_ ?_); done)) rfl ⟨rfl, rfl⟩) ?_
  refine js_S rfl rfl (.inl rfl) (xv_pick rfl rfl ⟨rfl, rfl⟩) ?_
  refine js_S rfl rfl (.inl rfl) (xv_move rfl ⟨rfl, rfl⟩) ?_
  refine js_S rfl rfl (.inr ⟨_, _, rfl, rfl⟩) (xv_move rfl ⟨rfl, rfl⟩) ?_
  refine js_S rfl rfl (.inr ⟨_, _, rfl, rfl⟩) (xv_eqlT rfl rfl rfl ⟨rfl, rfl⟩) ?_
  refine js_S rfl rfl (.inl rfl) (xv_pick rfl rfl ⟨rfl, rfl⟩) ?_
  refine js_S rfl rfl (.inl rfl) (xv_move rfl ⟨rfl, rfl⟩) ?_
  refine js_S rfl rfl (.inr ⟨_, _, rfl, rfl⟩) (xv_move rfl ⟨rfl, rfl⟩) ?_
  refine js_S rfl rfl (.inr ⟨_, _, rfl, rfl⟩) (xv_eqlT rfl rfl rfl ⟨rfl, rfl⟩) ?_
  refine js_S rfl rfl (.inl rfl) (xv_pick rfl rfl ⟨rfl, rfl⟩) ?_
  refine js_S rfl rfl (.inl rfl) (xv_move rfl ⟨rfl, rfl⟩) ?_
  refine js_R0 rfl rfl (.inr ⟨_, _, rfl, rfl⟩) (xv_loadA ty38 rfl rfl (by (first | ((repeat first | exact zm0 | assumption | refine zm1 ?_ | refine zmr ?_); done) | ((repeat refine zm1 ?_); refine zml ?_; (repeat first | exact zm0 | assumption | refine zm1 ?_ | refine zmr ?_); done) | ((repeat refine zm1 ?_); refine zmr ?_; (repeat refine zm1 ?_); refine zml ?_; (repeat first | exact zm0 | assumption | refine zm1 ?_ | refine zmr ?_); done) | ((repeat first | exact zm0 | assumption | refine zm1 ?_ | refine zml ?_); done))) (by ((try apply evl_some rfl); (repeat (first | exact (rfl : _ = []) | apply evl_cons rfl (by (first | exact evv (.int _ _) | exact evv (.bool _) | exact evv (.pointer _) | exact evv (.slice _ _ _) | exact evv (.agg _) | exact evv (.map _) | exact evv (.func _ _ _) | exact evv (.iface _ _) | exact evv (.nilIface) | exact evv (.nilFunc) | exact evv (.string _) | exact evv (.tuple _) | exact rfl)) | exact rfl)))) (by rfl) ⟨rfl, rfl⟩) ?_
  refine js_S rfl rfl (.inr ⟨_, _, rfl, rfl⟩) (xv_calls rfl hb20 (span_c _ _ (up_ret ⟨rfl, rfl⟩))) ?_
  refine js_S rfl rfl (.inr ⟨_, _, rfl, rfl⟩) (xv_eqA (b := true) fq38 rfl eg38 rfl rfl rfl rfl (by ((repeat' first | assumption | exact numNil | refine numCons ?_ | refine numApp ?_ ?_); done)) (by ((repeat' first | assumption | exact numNil | refine numCons ?_ | refine numApp ?_ ?_); done)) rfl ⟨rfl, rfl⟩) ?_
  refine js_S rfl rfl (.inl rfl) (xv_pick rfl rfl ⟨rfl, rfl⟩) ?_
  refine js_S rfl rfl (.inl rfl) (xv_move rfl ⟨rfl, rfl⟩) ?_
  refine js_S rfl rfl (.inr ⟨_, _, rfl, rfl⟩) (xv_move rfl ⟨rfl, rfl⟩) ?_
  refine js_S rfl rfl (.inr ⟨_, _, rfl, rfl⟩) (xv_eqlT rfl rfl rfl ⟨rfl, rfl⟩) ?_
  refine js_S rfl rfl (.inl rfl) (xv_pick rfl rfl ⟨rfl, rfl⟩) ?_
  refine js_S rfl rfl (.inl rfl) (xv_move rfl ⟨rfl, rfl⟩) ?_
  refine js_S rfl rfl (.inr ⟨_, _, rfl, rfl⟩) (xv_move rfl ⟨rfl, rfl⟩) ?_
  refine js_S rfl rfl (.inr ⟨_, _, rfl, rfl⟩) (xv_eqlT rfl rfl rfl ⟨rfl, rfl⟩) ?_
  refine js_S rfl rfl (.inl rfl) (xv_pick rfl rfl ⟨rfl, rfl⟩) ?_
  refine js_S rfl rfl (.inl rfl) (xv_move rfl ⟨rfl, rfl⟩) ?_
  refine js_R0 rfl rfl (.inr ⟨_, _, rfl, rfl⟩) (xv_loadA ty38 rfl rfl (by (first | ((repeat first | exact zm0 | assumption | refine zm1 ?_ | refine zmr ?_); done) | ((repeat refine zm1 ?_); refine zml ?_; (repeat first | exact zm0 | assumption | refine zm1 ?_ | refine zmr ?_); done) | ((repeat refine zm1 ?_); refine zmr ?_; (repeat refine zm1 ?_); refine zml ?_; (repeat first | exact zm0 | assumption | refine zm1 ?_ | refine zmr ?_); done) | ((repeat first | exact zm0 | assumption | refine zm1 ?_ | refine zml ?_); done))) (by ((try apply evl_some rfl); (repeat (first | exact (rfl : _ = []) | apply evl_cons rfl (by (first | exact evv (.int _ _) | exact evv (.bool _) | exact evv (.pointer _) | exact evv (.slice _ _ _) | exact evv (.agg _) | exact evv (.map _) | exact evv (.func _ _ _) | exact evv (.iface _ _) | exact evv (.nilIface) | exact evv (.nilFunc) | exact evv (.string _) | exact evv (.tuple _) | exact rfl)) | exact rfl)))) (by rfl) ⟨rfl, rfl⟩) ?_
  refine js_S rfl rfl (.inr ⟨_, _, rfl, rfl⟩) (xv_calls rfl hb20 (span_c _ _ (up_ret ⟨rfl, rfl⟩))) ?_
  refine js_S rfl rfl (.inr ⟨_, _, rfl, rfl⟩) (xv_eqA (b := true) fq38 rfl eg38 rfl rfl rfl rfl (by ((repeat' first | assumption | exact numNil | refine numCons ?_ | refine numApp ?_ ?_); done)) (by ((repeat' first | assumption | exact numNil | refine numCons ?_ | refine numApp ?_ ?_); done)) rfl ⟨rfl, rfl⟩) ?_
  refine js_S rfl rfl (.inl rfl) (xv_pick rfl rfl ⟨rfl, rfl⟩) ?_
  refine js_S rfl rfl (.inl rfl) (xv_move rfl ⟨rfl, rfl⟩) ?_
  refine js_S rfl rfl (.inr ⟨_, _, rfl, rfl⟩) (xv_move rfl ⟨rfl, rfl⟩) ?_
  refine js_S rfl rfl (.inr ⟨_, _, rfl, rfl⟩) (xv_eqlT rfl rfl rfl ⟨rfl, rfl⟩) ?_
  refine js_S rfl rfl (.inl rfl) (xv_pick rfl rfl ⟨rfl, rfl⟩) ?_
  refine js_S rfl rfl (.inl rfl) (xv_move rfl ⟨rfl, rfl⟩) ?_
  refine js_S rfl rfl (.inr ⟨_, _, rfl, rfl⟩) (xv_move rfl ⟨rfl, rfl⟩) ?_
  refine js_S rfl rfl (.inr ⟨_, _, rfl, rfl⟩) (xv_eqlT rfl rfl rfl ⟨rfl, rfl⟩) ?_
  refine js_S rfl rfl (.inl rfl) (xv_pick rfl rfl ⟨rfl, rfl⟩) ?_
  refine js_S rfl rfl (.inl rfl) (xv_move rfl ⟨rfl, rfl⟩) ?_
  refine js_S rfl rfl (.inr ⟨_, _, rfl, rfl⟩) (xv_move rfl ⟨rfl, rfl⟩) ?_
  refine js_S rfl rfl (.inr ⟨_, _, rfl, rfl⟩) (xv_eqlT rfl rfl rfl ⟨rfl, rfl⟩) ?_
  refine js_S rfl rfl (.inl rfl) (xv_pick rfl rfl ⟨rfl, rfl⟩) ?_
  refine js_S rfl rfl (.inl rfl) (xv_move rfl ⟨rfl, rfl⟩) ?_
  refine js_S rfl rfl (.inr ⟨_, _, rfl, rfl⟩) (xv_move rfl ⟨rfl, rfl⟩) ?_
  refine js_S rfl rfl (.inr ⟨_, _, rfl, rfl⟩) (xv_eqlT rfl rfl rfl ⟨rfl, rfl⟩) ?_
  refine js_S rfl rfl (.inl rfl) (xv_pick rfl rfl ⟨rfl, rfl⟩) ?_
  refine js_S rfl rfl (.inl rfl) (xv_move rfl ⟨rfl, rfl⟩) ?_
  refine js_S rfl rfl (.inr ⟨_, _, rfl, rfl⟩) (xv_move rfl ⟨rfl, rfl⟩) ?_
  refine js_S rfl rfl (.inr ⟨_, _, rfl, rfl⟩) (xv_eqlT rfl rfl rfl ⟨rfl, rfl⟩) ?_
  refine js_S rfl rfl (.inl rfl) (xv_pick rfl rfl ⟨rfl, rfl⟩) ?_
  refine js_S rfl rfl (.inl rfl) (xv_assign rfl ⟨rfl, rfl⟩) ?_
  refine j_end0 ?_
  refine th_n ?_
  refine xc_ret ?_
  refine body_ret (h' := h) rfl (ro_tmp rfl ro_nil) (by (first | ((repeat first | exact List.Sublist.refl _ | exact List.nil_sublist _ | exact List.Sublist.cons_cons _ (List.Sublist.refl _) | exact List.sublist_append_left _ _ | refine List.Sublist.append (List.Sublist.refl _) ?_ | refine List.Sublist.cons_cons _ ?_ | refine List.Sublist.cons _ ?_ | refine List.Sublist.trans ?_ (List.sublist_append_right _ _)); done) | ((repeat first | exact List.Sublist.refl _ | exact List.nil_sublist _ | exact List.Sublist.cons_cons _ (List.Sublist.refl _) | exact List.sublist_append_left _ _ | refine List.Sublist.append (List.Sublist.refl _) ?_ | refine List.Sublist.cons_cons _ ?_ | refine List.Sublist.cons _ ?_ | refine List.Sublist.trans ?_ (List.sublist_append_left _ _)); done))) ?_
  exact H

theorem large_c {a al : Option Addr} {c cl n : Nat} {w : House} {h : Hp} {R : Ending → Hp → Prop}
    (H1 : R (.returned (.bool true)) h) (H2 : w.curve.length ≤ 28 → n ≤ 52 → R (.returned (.bool false)) h) :
    ACalls Try.prog 9 ⟨[.agg ⟨eHouse a c w⟩, .slice al n cl]⟩ h R := by
  refine calls_of_xc (N := 14) Try.func9 rfl (by rfl) ?_
  refine xc_seq (xc_region ?_)
  refine xr_op rfl rfl (xv_box rfl (fun b1 hb1 => ?_))
  refine xr_op rfl rfl (xv_assign rfl ?_)
  refine xr_end rfl ?_
  refine th_n ?_
  refine xc_seq (xc_region ?_)
  refine xr_op rfl rfl (xv_faddr fl24_0 rfl ?_)
  refine xr_op rfl rfl (xv_load1 ty22 rfl rfl (by (first | ((repeat first | exact zm0 | assumption | refine zm1 ?_ | refine zmr ?_); done) | ((repeat refine zm1 ?_); refine zml ?_; (repeat first | exact zm0 | assumption | refine zm1 ?_ | refine zmr ?_); done) | ((repeat refine zm1 ?_); refine zmr ?_; (repeat refine zm1 ?_); refine zml ?_; (repeat first | exact zm0 | assumption | refine zm1 ?_ | refine zmr ?_); done) | ((repeat first | exact zm0 | assumption | refine zm1 ?_ | refine zml ?_); done))) (by rfl) ?_)
  refine xr_op rfl rfl (xv_len sl22 rfl ?_)
  refine xr_op rfl rfl (xv_gtr2 rfl rfl (fun q2 => ?_) (fun q2 => ?_))
  · refine xr_op rfl rfl (xv_move rfl ?_)
    refine xr_no rfl rfl rfl rfl ?_
    refine xr_no rfl rfl rfl rfl ?_
    refine xr_no rfl rfl rfl rfl ?_
    refine xr_op rfl rfl (xv_pick rfl rfl ?_)
    refine xr_op rfl rfl (xv_assign rfl ?_)
    refine xr_end rfl ?_
    refine th_n ?_
    refine xc_ret ?_
    refine body_ret (h' := h) rfl (ro_tmp rfl ro_nil) (by (first | ((repeat first | exact List.Sublist.refl _ | exact List.nil_sublist _ | exact List.Sublist.cons_cons _ (List.Sublist.refl _) | exact List.sublist_append_left _ _ | refine List.Sublist.append (List.Sublist.refl _) ?_ | refine List.Sublist.cons_cons _ ?_ | refine List.Sublist.cons _ ?_ | refine List.Sublist.trans ?_ (List.sublist_append_right _ _)); done) | ((repeat first | exact List.Sublist.refl _ | exact List.nil_sublist _ | exact List.Sublist.cons_cons _ (List.Sublist.refl _) | exact List.sublist_append_left _ _ | refine List.Sublist.append (List.Sublist.refl _) ?_ | refine List.Sublist.cons_cons _ ?_ | refine List.Sublist.cons _ ?_ | refine List.Sublist.trans ?_ (List.sublist_append_left _ _)); done))) ?_
    first | exact H1 | exact H2 (by omega) (by omega)
  · refine xr_op rfl rfl (xv_move rfl ?_)
    refine xr_gd rfl rfl rfl (xv_move rfl ?_)
    refine xr_gd rfl rfl rfl (xv_len sl25 rfl ?_)
    refine xr_gd rfl rfl rfl (xv_gtr2 rfl rfl (fun q3 => ?_) (fun q3 => ?_))
    · refine xr_op rfl rfl (xv_pick rfl rfl ?_)
      refine xr_op rfl rfl (xv_assign rfl ?_)
      refine xr_end rfl ?_
      refine th_n ?_
      refine xc_ret ?_
      refine body_ret (h' := h) rfl (ro_tmp rfl ro_nil) (by (first | ((repeat first | exact List.Sublist.refl _ | exact List.nil_sublist _ | exact List.Sublist.cons_cons _ (List.Sublist.refl _) | exact List.sublist_append_left _ _ | refine List.Sublist.append (List.Sublist.refl _) ?_ | refine List.Sublist.cons_cons _ ?_ | refine List.Sublist.cons _ ?_ | refine List.Sublist.trans ?_ (List.sublist_append_right _ _)); done) | ((repeat first | exact List.Sublist.refl _ | exact List.nil_sublist _ | exact List.Sublist.cons_cons _ (List.Sublist.refl _) | exact List.sublist_append_left _ _ | refine List.Sublist.append (List.Sublist.refl _) ?_ | refine List.Sublist.cons_cons _ ?_ | refine List.Sublist.cons _ ?_ | refine List.Sublist.trans ?_ (List.sublist_append_left _ _)); done))) ?_
      first | exact H1 | exact H2 (by omega) (by omega)
    · refine xr_op rfl rfl (xv_pick rfl rfl ?_)
      refine xr_op rfl rfl (xv_assign rfl ?_)
      refine xr_end rfl ?_
      refine th_n ?_
      refine xc_ret ?_
      refine body_ret (h' := h) rfl (ro_tmp rfl ro_nil) (by (first | ((repeat first | exact List.Sublist.refl _ | exact List.nil_sublist _ | exact List.Sublist.cons_cons _ (List.Sublist.refl _) | exact List.sublist_append_left _ _ | refine List.Sublist.append (List.Sublist.refl _) ?_ | refine List.Sublist.cons_cons _ ?_ | refine List.Sublist.cons _ ?_ | refine List.Sublist.trans ?_ (List.sublist_append_right _ _)); done) | ((repeat first | exact List.Sublist.refl _ | exact List.nil_sublist _ | exact List.Sublist.cons_cons _ (List.Sublist.refl _) | exact List.sublist_append_left _ _ | refine List.Sublist.append (List.Sublist.refl _) ?_ | refine List.Sublist.cons_cons _ ?_ | refine List.Sublist.cons _ ?_ | refine List.Sublist.trans ?_ (List.sublist_append_left _ _)); done))) ?_
      first | exact H1 | exact H2 (by omega) (by omega)

theorem States_c {a al : Option Addr} {c cl : Nat} {w : House} {l : List Stoke} {h : Hp} {R : Ending → Hp → Prop} (hs : SlV h 2 eSpan a w.curve) (hl : SlV h 4 eStoke al l) (H : R (.returned (.bool true)) h) :
    ACalls Try.prog 8 ⟨[.agg ⟨eHouse a c w⟩, .slice al l.length cl]⟩ h R := by
  refine calls_of_xc (N := 170) Try.func8 rfl (by rfl) ?_
  refine xc_seq (xc_region ?_)
  refine xr_op rfl rfl (xv_box rfl (fun b2 hb2 => ?_))
  refine xr_op rfl rfl (xv_assign rfl ?_)
  refine xr_end rfl ?_
  refine th_n ?_
  refine xc_seq ?_
  refine xc_seq (xc_region ?_)
  refine xr_op rfl rfl (xv_loadA ty24 rfl rfl (by (first | ((repeat first | exact zm0 | assumption | refine zm1 ?_ | refine zmr ?_); done) | ((repeat refine zm1 ?_); refine zml ?_; (repeat first | exact zm0 | assumption | refine zm1 ?_ | refine zmr ?_); done) | ((repeat refine zm1 ?_); refine zmr ?_; (repeat refine zm1 ?_); refine zml ?_; (repeat first | exact zm0 | assumption | refine zm1 ?_ | refine zmr ?_); done) | ((repeat first | exact zm0 | assumption | refine zm1 ?_ | refine zml ?_); done))) (by ((try apply evl_some rfl); (repeat (first | exact (rfl : _ = []) | apply evl_cons rfl (by (first | exact evv (.int _ _) | exact evv (.bool _) | exact evv (.pointer _) | exact evv (.slice _ _ _) | exact evv (.agg _) | exact evv (.map _) | exact evv (.func _ _ _) | exact evv (.iface _ _) | exact evv (.nilIface) | exact evv (.nilFunc) | exact evv (.string _) | exact evv (.tuple _) | exact rfl)) | exact rfl)))) (by rfl) ?_)
  refine xr_op rfl rfl (xv_move rfl ?_)
  refine xr_op rfl rfl (xv_calls rfl hb9 (large_c (up_ret ?_) (fun hlc hll => up_ret ?_)))
  · refine xr_end rfl ?_
    refine th_n ?_
    refine xc_true rfl ?_
    refine xc_seq (xc_region ?_)
    refine xr_op rfl rfl (xv_calls rfl hb10 (awake_c (up_ret ?_)))
    refine xr_op rfl rfl (xv_assign rfl ?_)
    refine xr_end rfl ?_
    refine th_n ?_
    refine xc_ret ?_
    refine th_r ?_
    refine body_ret (h' := h) rfl (ro_tmp rfl ro_nil) (by (first | ((repeat first | exact List.Sublist.refl _ | exact List.nil_sublist _ | exact List.Sublist.cons_cons _ (List.Sublist.refl _) | exact List.sublist_append_left _ _ | refine List.Sublist.append (List.Sublist.refl _) ?_ | refine List.Sublist.cons_cons _ ?_ | refine List.Sublist.cons _ ?_ | refine List.Sublist.trans ?_ (List.sublist_append_right _ _)); done) | ((repeat first | exact List.Sublist.refl _ | exact List.nil_sublist _ | exact List.Sublist.cons_cons _ (List.Sublist.refl _) | exact List.sublist_append_left _ _ | refine List.Sublist.append (List.Sublist.refl _) ?_ | refine List.Sublist.cons_cons _ ?_ | refine List.Sublist.cons _ ?_ | refine List.Sublist.trans ?_ (List.sublist_append_left _ _)); done))) ?_
    exact H
  · refine xr_end rfl ?_
    refine th_n ?_
    refine xc_false rfl ?_
    refine xc_skip ?_
    refine th_n ?_
    refine xc_seq (xc_region ?_)
    have hlen : w.curve.length ≤ 4611686018427387904 := Nat.le_trans hlc (by decide)
    refine xr_op rfl rfl (xv_loadA ty24 rfl rfl (by (first | ((repeat first | exact zm0 | assumption | refine zm1 ?_ | refine zmr ?_); done) | ((repeat refine zm1 ?_); refine zml ?_; (repeat first | exact zm0 | assumption | refine zm1 ?_ | refine zmr ?_); done) | ((repeat refine zm1 ?_); refine zmr ?_; (repeat refine zm1 ?_); refine zml ?_; (repeat first | exact zm0 | assumption | refine zm1 ?_ | refine zmr ?_); done) | ((repeat first | exact zm0 | assumption | refine zm1 ?_ | refine zml ?_); done))) (by ((try apply evl_some rfl); (repeat (first | exact (rfl : _ = []) | apply evl_cons rfl (by (first | exact evv (.int _ _) | exact evv (.bool _) | exact evv (.pointer _) | exact evv (.slice _ _ _) | exact evv (.agg _) | exact evv (.map _) | exact evv (.func _ _ _) | exact evv (.iface _ _) | exact evv (.nilIface) | exact evv (.nilFunc) | exact evv (.string _) | exact evv (.tuple _) | exact rfl)) | exact rfl)))) (by rfl) ?_)
    refine xr_op rfl rfl (xv_move rfl ?_)
    refine xr_op rfl rfl (xv_calls rfl hb11 (Play_c (hs.sub (by intro z hz; (first | ((repeat first | exact zm0 | assumption | refine zm1 ?_ | refine zmr ?_); done) | ((repeat refine zm1 ?_); refine zml ?_; (repeat first | exact zm0 | assumption | refine zm1 ?_ | refine zmr ?_); done) | ((repeat refine zm1 ?_); refine zmr ?_; (repeat refine zm1 ?_); refine zml ?_; (repeat first | exact zm0 | assumption | refine zm1 ?_ | refine zmr ?_); done) | ((repeat first | exact zm0 | assumption | refine zm1 ?_ | refine zml ?_); done)))) hlen (hl.sub (by intro z hz; (first | ((repeat first | exact zm0 | assumption | refine zm1 ?_ | refine zmr ?_); done) | ((repeat refine zm1 ?_); refine zml ?_; (repeat first | exact zm0 | assumption | refine zm1 ?_ | refine zmr ?_); done) | ((repeat refine zm1 ?_); refine zmr ?_; (repeat refine zm1 ?_); refine zml ?_; (repeat first | exact zm0 | assumption | refine zm1 ?_ | refine zmr ?_); done) | ((repeat first | exact zm0 | assumption | refine zm1 ?_ | refine zml ?_); done)))) (fun i e hpe => up_ret ?_) (fun S hpo hS => up_ret ?_)))
    · refine xr_op rfl rfl (xv_move rfl ?_)
      refine xr_op rfl rfl (xv_extract rfl rfl ?_)
      refine xr_op rfl rfl (xv_extract rfl rfl ?_)
      refine xr_op rfl rfl (xv_extract rfl rfl ?_)
      refine xr_op rfl rfl (xv_alloc ty30 (fun b5 hb5 => ?_))
      refine xr_op rfl rfl (xv_s ty30 rfl rfl (by (first | (apply Upd.append; (repeat first | exact Upd.here | assumption | apply Upd.there | apply Upd.left); done) | ((repeat first | exact Upd.here | assumption | apply Upd.there | apply Upd.left); done) | (apply Upd.append; apply Upd.append; (repeat first | exact Upd.here | assumption | apply Upd.there | apply Upd.left); done) | ((repeat first | exact Upd.here | assumption | apply Upd.append | apply Upd.there); done))) (by ((try apply evl_some rfl); (repeat (first | exact (rfl : _ = []) | apply evl_cons rfl (by (first | exact evv (.int _ _) | exact evv (.bool _) | exact evv (.pointer _) | exact evv (.slice _ _ _) | exact evv (.agg _) | exact evv (.map _) | exact evv (.func _ _ _) | exact evv (.iface _ _) | exact evv (.nilIface) | exact evv (.nilFunc) | exact evv (.string _) | exact evv (.tuple _) | exact rfl)) | exact rfl)))) (by rfl) (by rfl) (by rfl) (by ((try apply evl_some rfl); (repeat (first | exact (rfl : _ = []) | apply evl_cons rfl (by (first | exact evv (.int _ _) | exact evv (.bool _) | exact evv (.pointer _) | exact evv (.slice _ _ _) | exact evv (.agg _) | exact evv (.map _) | exact evv (.func _ _ _) | exact evv (.iface _ _) | exact evv (.nilIface) | exact evv (.nilFunc) | exact evv (.string _) | exact evv (.tuple _) | exact rfl)) | exact rfl)))) ?_)
      refine xr_op rfl rfl (xv_assign rfl ?_)
      refine xr_op rfl rfl (xv_assign rfl ?_)
      refine xr_end rfl ?_
      refine th_n ?_
      refine xc_seq ?_
      refine xc_seq (xc_region ?_)
      refine xr_op rfl rfl (xv_move rfl ?_)
      refine xr_op rfl rfl (xv_neqT rfl rfl (play_err hpe) ?_)
      refine xr_end rfl ?_
      refine th_n ?_
      refine xc_true rfl ?_
      refine xc_seq (xc_region ?_)
      refine xr_op rfl rfl (xv_loadA ty30 rfl rfl (by (first | ((repeat first | exact zm0 | assumption | refine zm1 ?_ | refine zmr ?_); done) | ((repeat refine zm1 ?_); refine zml ?_; (repeat first | exact zm0 | assumption | refine zm1 ?_ | refine zmr ?_); done) | ((repeat refine zm1 ?_); refine zmr ?_; (repeat refine zm1 ?_); refine zml ?_; (repeat first | exact zm0 | assumption | refine zm1 ?_ | refine zmr ?_); done) | ((repeat first | exact zm0 | assumption | refine zm1 ?_ | refine zml ?_); done))) (by ((try apply evl_some rfl); (repeat (first | exact (rfl : _ = []) | apply evl_cons rfl (by (first | exact evv (.int _ _) | exact evv (.bool _) | exact evv (.pointer _) | exact evv (.slice _ _ _) | exact evv (.agg _) | exact evv (.map _) | exact evv (.func _ _ _) | exact evv (.iface _ _) | exact evv (.nilIface) | exact evv (.nilFunc) | exact evv (.string _) | exact evv (.tuple _) | exact rfl)) | exact rfl)))) (by rfl) ?_)
      refine xr_op rfl rfl (xv_build bt30 rfl (by ((try apply evl_some rfl); (repeat (first | exact (rfl : _ = []) | apply evl_cons rfl (by (first | exact evv (.int _ _) | exact evv (.bool _) | exact evv (.pointer _) | exact evv (.slice _ _ _) | exact evv (.agg _) | exact evv (.map _) | exact evv (.func _ _ _) | exact evv (.iface _ _) | exact evv (.nilIface) | exact evv (.nilFunc) | exact evv (.string _) | exact evv (.tuple _) | exact rfl)) | exact rfl)))) ?_)
      refine xr_op rfl rfl (xv_eqA (b := true) fq30 rfl eg30 rfl rfl rfl rfl (by ((repeat' first | assumption | exact numNil | refine numCons ?_ | refine numApp ?_ ?_); done)) (by ((repeat' first | assumption | exact numNil | refine numCons ?_ | refine numApp ?_ ?_); done)) rfl ?_)
      refine xr_op rfl rfl (xv_move rfl ?_)
      refine xr_gd rfl rfl rfl (xv_move rfl ?_)
      refine xr_gd rfl rfl rfl (xv_cmpK rfl rfl (cmpT (show (0 : Int) ≤ _ by omega)) ?_)
      refine xr_op rfl rfl (xv_pick rfl rfl ?_)
      refine xr_op rfl rfl (xv_move rfl ?_)
      refine xr_gd rfl rfl rfl (xv_calls rfl hb10 (awake_c (up_ret ?_)))
      refine xr_op rfl rfl (xv_pick rfl rfl ?_)
      refine xr_op rfl rfl (xv_assign rfl ?_)
      refine xr_end rfl ?_
      refine th_n ?_
      refine xc_ret ?_
      refine th_r ?_
      refine body_ret (h' := h) rfl (ro_tmp rfl ro_nil) (by (first | ((repeat first | exact List.Sublist.refl _ | exact List.nil_sublist _ | exact List.Sublist.cons_cons _ (List.Sublist.refl _) | exact List.sublist_append_left _ _ | refine List.Sublist.append (List.Sublist.refl _) ?_ | refine List.Sublist.cons_cons _ ?_ | refine List.Sublist.cons _ ?_ | refine List.Sublist.trans ?_ (List.sublist_append_right _ _)); done) | ((repeat first | exact List.Sublist.refl _ | exact List.nil_sublist _ | exact List.Sublist.cons_cons _ (List.Sublist.refl _) | exact List.sublist_append_left _ _ | refine List.Sublist.append (List.Sublist.refl _) ?_ | refine List.Sublist.cons_cons _ ?_ | refine List.Sublist.cons _ ?_ | refine List.Sublist.trans ?_ (List.sublist_append_left _ _)); done))) ?_
      exact H
    · refine xr_op rfl rfl (xv_move rfl ?_)
      refine xr_op rfl rfl (xv_extract rfl rfl ?_)
      refine xr_op rfl rfl (xv_extract rfl rfl ?_)
      refine xr_op rfl rfl (xv_extract rfl rfl ?_)
      refine xr_op rfl rfl (xv_alloc ty30 (fun b5 hb5 => ?_))
      refine xr_op rfl rfl (xv_s ty30 rfl rfl (by (first | (apply Upd.append; (repeat first | exact Upd.here | assumption | apply Upd.there | apply Upd.left); done) | ((repeat first | exact Upd.here | assumption | apply Upd.there | apply Upd.left); done) | (apply Upd.append; apply Upd.append; (repeat first | exact Upd.here | assumption | apply Upd.there | apply Upd.left); done) | ((repeat first | exact Upd.here | assumption | apply Upd.append | apply Upd.there); done))) (by ((try apply evl_some rfl); (repeat (first | exact (rfl : _ = []) | apply evl_cons rfl (by (first | exact evv (.int _ _) | exact evv (.bool _) | exact evv (.pointer _) | exact evv (.slice _ _ _) | exact evv (.agg _) | exact evv (.map _) | exact evv (.func _ _ _) | exact evv (.iface _ _) | exact evv (.nilIface) | exact evv (.nilFunc) | exact evv (.string _) | exact evv (.tuple _) | exact rfl)) | exact rfl)))) (by rfl) (by rfl) (by rfl) (by ((try apply evl_some rfl); (repeat (first | exact (rfl : _ = []) | apply evl_cons rfl (by (first | exact evv (.int _ _) | exact evv (.bool _) | exact evv (.pointer _) | exact evv (.slice _ _ _) | exact evv (.agg _) | exact evv (.map _) | exact evv (.func _ _ _) | exact evv (.iface _ _) | exact evv (.nilIface) | exact evv (.nilFunc) | exact evv (.string _) | exact evv (.tuple _) | exact rfl)) | exact rfl)))) ?_)
      refine xr_op rfl rfl (xv_assign rfl ?_)
      refine xr_op rfl rfl (xv_assign rfl ?_)
      refine xr_end rfl ?_
      refine th_n ?_
      refine xc_seq ?_
      refine xc_seq (xc_region ?_)
      refine xr_op rfl rfl (xv_move rfl ?_)
      refine xr_op rfl rfl (xv_neqF rfl rfl rfl ?_)
      refine xr_end rfl ?_
      refine th_n ?_
      refine xc_false rfl ?_
      refine xc_skip ?_
      refine th_n ?_
      refine xc_seq ?_
      refine xc_seq (xc_region ?_)
      refine xr_op rfl rfl (xv_assign rfl ?_)
      refine xr_end rfl ?_
      refine th_n ?_
      refine xc_block ?_
      have hA := play_after hpo
      have hpk := play_ok hpo
      refine xc_loop (σ := Nat) (fun i => i ≤ 8) (fun i => ((((emp.put (some 1) (.slice al l.length cl)).put (some 2) (.pointer (some ⟨b2, 0, none⟩))).put (some 5) (.pointer (some ⟨b5, 0, none⟩))).put (some 8) (I i))) (fun i => ((b5, .cells ⟨eOvens S.ov⟩ 30) :: (b2, .cells ⟨eHouse a c w⟩ 24) :: h)) (fun i => 8 - i) 0 (Nat.zero_le _) (le_put (le_put (le_put (le_put (le_emp _) rfl) rfl) rfl) rfl) (by (first | ((repeat first | exact List.Sublist.refl _ | exact List.nil_sublist _ | exact List.Sublist.cons_cons _ (List.Sublist.refl _) | exact List.sublist_append_left _ _ | refine List.Sublist.append (List.Sublist.refl _) ?_ | refine List.Sublist.cons_cons _ ?_ | refine List.Sublist.cons _ ?_ | refine List.Sublist.trans ?_ (List.sublist_append_right _ _)); done) | ((repeat first | exact List.Sublist.refl _ | exact List.nil_sublist _ | exact List.Sublist.cons_cons _ (List.Sublist.refl _) | exact List.sublist_append_left _ _ | refine List.Sublist.append (List.Sublist.refl _) ?_ | refine List.Sublist.cons_cons _ ?_ | refine List.Sublist.cons _ ?_ | refine List.Sublist.trans ?_ (List.sublist_append_left _ _)); done))) ?_
      rintro i hi
      refine xc_seq ?_
      refine xc_seq (xc_region ?_)
      refine xr_op rfl rfl (xv_move rfl ?_)
      refine xr_op rfl rfl (xv_lss2 rfl rfl (fun q1 => ?_) (fun q1 => ?_))
      · refine xr_end rfl ?_
        refine th_n ?_
        refine xc_true rfl ?_
        refine xc_skip ?_
        refine th_n ?_
        refine xc_seq ?_
        refine xc_block ?_
        refine xc_seq (xc_region ?_)
        have hi8 : i < 8 := by (first | omega | (dsimp only at *; omega) | (simp at *; omega))
        have hO := hA.ov i hi8
        refine xr_op rfl rfl (xv_move rfl ?_)
        refine xr_op rfl rfl (xv_iaA (sz := 5) Try.underlying30 ty29 rfl rfl rfl (by (first | assumption | with_reducible exact Int.toNat_natCast _ | with_reducible rfl | rfl)) (by (first | omega | (dsimp only at *; omega) | (simp at *; omega))) (by (first | omega | (dsimp only at *; omega) | (simp at *; omega))) ?_)
        refine xr_op rfl rfl (xv_loadA ty29 rfl rfl (by (first | ((repeat first | exact zm0 | assumption | refine zm1 ?_ | refine zmr ?_); done) | ((repeat refine zm1 ?_); refine zml ?_; (repeat first | exact zm0 | assumption | refine zm1 ?_ | refine zmr ?_); done) | ((repeat refine zm1 ?_); refine zmr ?_; (repeat refine zm1 ?_); refine zml ?_; (repeat first | exact zm0 | assumption | refine zm1 ?_ | refine zmr ?_); done) | ((repeat first | exact zm0 | assumption | refine zm1 ?_ | refine zml ?_); done))) (ov_at hi8) rfl ?_)
        refine xr_op rfl rfl (xv_alloc ty29 (fun b9 hb9 => ?_))
        refine xr_op rfl rfl (xv_s ty29 rfl rfl (by (first | (apply Upd.append; (repeat first | exact Upd.here | assumption | apply Upd.there | apply Upd.left); done) | ((repeat first | exact Upd.here | assumption | apply Upd.there | apply Upd.left); done) | (apply Upd.append; apply Upd.append; (repeat first | exact Upd.here | assumption | apply Upd.there | apply Upd.left); done) | ((repeat first | exact Upd.here | assumption | apply Upd.append | apply Upd.there); done))) (by ((try apply evl_some rfl); (repeat (first | exact (rfl : _ = []) | apply evl_cons rfl (by (first | exact evv (.int _ _) | exact evv (.bool _) | exact evv (.pointer _) | exact evv (.slice _ _ _) | exact evv (.agg _) | exact evv (.map _) | exact evv (.func _ _ _) | exact evv (.iface _ _) | exact evv (.nilIface) | exact evv (.nilFunc) | exact evv (.string _) | exact evv (.tuple _) | exact rfl)) | exact rfl)))) (by rfl) (by rfl) (by rfl) (by ((try apply evl_some rfl); (repeat (first | exact (rfl : _ = []) | apply evl_cons rfl (by (first | exact evv (.int _ _) | exact evv (.bool _) | exact evv (.pointer _) | exact evv (.slice _ _ _) | exact evv (.agg _) | exact evv (.map _) | exact evv (.func _ _ _) | exact evv (.iface _ _) | exact evv (.nilIface) | exact evv (.nilFunc) | exact evv (.string _) | exact evv (.tuple _) | exact rfl)) | exact rfl)))) ?_)
        refine xr_end rfl ?_
        refine th_n ?_
        refine xc_seq (xc_region ?_)
        refine xr_op rfl rfl (xv_assign rfl ?_)
        refine xr_op rfl rfl (xv_assign rfl ?_)
        refine xr_op rfl rfl (xv_assign rfl ?_)
        refine xr_op rfl rfl (xv_assign rfl ?_)
        refine xr_end rfl ?_
        refine th_n ?_
        refine xc_seq ?_
        refine xc_seq (xc_region ?_)
        refine xr_op rfl rfl (xv_assign rfl ?_)
        refine xr_end rfl ?_
        refine th_n ?_
        refine xc_block ?_
        refine xc_loop (σ := Nat) (fun k => k ≤ l.length) (fun k => ((((((((((emp.put (some 1) (.slice al l.length cl)).put (some 2) (.pointer (some ⟨b2, 0, none⟩))).put (some 5) (.pointer (some ⟨b5, 0, none⟩))).put (some 8) (I i)).put (some 9) (.pointer (some ⟨b9, 0, none⟩))).put (some 10) (I (tals i (l.take k)).runs)).put (some 11) (I (tals i (l.take k)).lit)).put (some 12) (I (tals i (l.take k)).tons)).put (some 13) (.bool (tals i (l.take k)).out)).put (some 14) (I k))) (fun k => ((b9, .cells ⟨eOven (S.ov i)⟩ 29) :: (b5, .cells ⟨eOvens S.ov⟩ 30) :: (b2, .cells ⟨eHouse a c w⟩ 24) :: h)) (fun k => l.length - k) 0 (Nat.zero_le _) (le_put (le_put (le_put (le_put (le_put (le_put (le_put (le_put (le_put (le_put (le_emp _) rfl) rfl) rfl) rfl) rfl) rfl) rfl) rfl) rfl) rfl) (by (first | ((repeat first | exact List.Sublist.refl _ | exact List.nil_sublist _ | exact List.Sublist.cons_cons _ (List.Sublist.refl _) | exact List.sublist_append_left _ _ | refine List.Sublist.append (List.Sublist.refl _) ?_ | refine List.Sublist.cons_cons _ ?_ | refine List.Sublist.cons _ ?_ | refine List.Sublist.trans ?_ (List.sublist_append_right _ _)); done) | ((repeat first | exact List.Sublist.refl _ | exact List.nil_sublist _ | exact List.Sublist.cons_cons _ (List.Sublist.refl _) | exact List.sublist_append_left _ _ | refine List.Sublist.append (List.Sublist.refl _) ?_ | refine List.Sublist.cons_cons _ ?_ | refine List.Sublist.cons _ ?_ | refine List.Sublist.trans ?_ (List.sublist_append_left _ _)); done))) ?_
        rintro k hk
        have hB := tals_bound i (l.take k)
        rw [List.length_take] at hB
        refine xc_seq ?_
        refine xc_seq (xc_region ?_)
        refine xr_op rfl rfl (xv_move rfl ?_)
        refine xr_op rfl rfl (xv_move rfl ?_)
        refine xr_op rfl rfl (xv_len sl25 rfl ?_)
        refine xr_op rfl rfl (xv_lss2 rfl rfl (fun q2 => ?_) (fun q2 => ?_))
        · refine xr_end rfl ?_
          refine th_n ?_
          refine xc_true rfl ?_
          refine xc_skip ?_
          refine th_n ?_
          refine xc_seq ?_
          refine xc_block ?_
          refine xc_seq ?_
          refine xc_seq (xc_region ?_)
          have hlt : k < l.length := by (first | omega | (dsimp only at *; omega) | (simp at *; omega))
          obtain ⟨b, o, li, t, fz, rfl, hm, hx⟩ := hl.at hlt
          obtain ⟨x, hkx⟩ : ∃ x, l[k]? = some x := ⟨_, List.getElem?_eq_getElem hlt⟩
          have hgx := hA.good x (List.mem_of_getElem? hkx)
          obtain ⟨⟨hh0, hh1⟩, ⟨ht0, ht1⟩, ⟨hk0, hk1⟩, ht, htn⟩ := hgx
          refine xr_op rfl rfl (xv_move rfl ?_)
          refine xr_op rfl rfl (xv_move rfl ?_)
          refine xr_op rfl rfl (xv_ia (sz := 4) sl25 ty48 rfl rfl rfl (by (first | assumption | with_reducible exact Int.toNat_natCast _ | with_reducible rfl | rfl)) (by (first | omega | (dsimp only at *; omega) | (simp at *; omega))) (by (first | omega | (dsimp only at *; omega) | (simp at *; omega))) ?_)
          refine xr_op rfl rfl (xv_faddr fl48_1 rfl ?_)
          refine xr_op rfl rfl (xv_load1 ty3 rfl rfl (by (first | ((repeat first | exact zm0 | assumption | refine zm1 ?_ | refine zmr ?_); done) | ((repeat refine zm1 ?_); refine zml ?_; (repeat first | exact zm0 | assumption | refine zm1 ?_ | refine zmr ?_); done) | ((repeat refine zm1 ?_); refine zmr ?_; (repeat refine zm1 ?_); refine zml ?_; (repeat first | exact zm0 | assumption | refine zm1 ?_ | refine zmr ?_); done) | ((repeat first | exact zm0 | assumption | refine zm1 ?_ | refine zml ?_); done))) (at_drop (hx k x hkx) (j := 1) rfl) ?_)
          refine xr_op rfl rfl (xv_move rfl ?_)
          refine xr_op rfl rfl (xv_neq2 rfl rfl (fun q3 => ?_) (fun q3 => ?_))
          · refine xr_end rfl ?_
            refine th_n ?_
            refine xc_true rfl ?_
            refine xc_exit ?_
            refine th_x ?_
            refine bk_same ?_
            refine th_n ?_
            refine xc_region ?_
            refine xr_op rfl rfl (xv_move rfl ?_)
            refine xr_op rfl rfl (xv_add rfl rfl (wrap_i64 (by (first | omega | (dsimp only at *; omega) | (simp at *; omega))) (by (first | omega | (dsimp only at *; omega) | (simp at *; omega)))) ?_)
            refine xr_op rfl rfl (xv_assign rfl ?_)
            refine xr_end rfl ?_
            exact rnd (k + 1) (by (first | omega | (dsimp only at *; omega) | (simp at *; omega))) (by (first | omega | (dsimp only at *; omega) | (simp at *; omega))) (le_put (le_put (le_put (le_put (le_put (le_put (le_put (le_put (le_put (le_put (le_emp _) rfl) rfl) rfl) rfl) rfl) (by rw [tals_take hkx]; unfold tal; repeat' split; all_goals first | rfl | (exfalso; omega))) (by rw [tals_take hkx]; unfold tal; repeat' split; all_goals first | rfl | (exfalso; omega))) (by rw [tals_take hkx]; unfold tal; repeat' split; all_goals first | rfl | (exfalso; omega))) (by rw [tals_take hkx]; unfold tal; repeat' split; all_goals first | rfl | (exfalso; omega))) rfl) (by (first | ((repeat first | exact List.Sublist.refl _ | exact List.nil_sublist _ | exact List.Sublist.cons_cons _ (List.Sublist.refl _) | exact List.sublist_append_left _ _ | refine List.Sublist.append (List.Sublist.refl _) ?_ | refine List.Sublist.cons_cons _ ?_ | refine List.Sublist.cons _ ?_ | refine List.Sublist.trans ?_ (List.sublist_append_right _ _)); done) | ((repeat first | exact List.Sublist.refl _ | exact List.nil_sublist _ | exact List.Sublist.cons_cons _ (List.Sublist.refl _) | exact List.sublist_append_left _ _ | refine List.Sublist.append (List.Sublist.refl _) ?_ | refine List.Sublist.cons_cons _ ?_ | refine List.Sublist.cons _ ?_ | refine List.Sublist.trans ?_ (List.sublist_append_left _ _)); done)))
          · refine xr_end rfl ?_
            refine th_n ?_
            refine xc_false rfl ?_
            refine xc_skip ?_
            refine th_n ?_
            refine xc_seq (xc_region ?_)
            refine xr_op rfl rfl (xv_move rfl ?_)
            refine xr_op rfl rfl (xv_move rfl ?_)
            refine xr_op rfl rfl (xv_ia (sz := 4) sl25 ty48 rfl rfl rfl (by (first | assumption | with_reducible exact Int.toNat_natCast _ | with_reducible rfl | rfl)) (by (first | omega | (dsimp only at *; omega) | (simp at *; omega))) (by (first | omega | (dsimp only at *; omega) | (simp at *; omega))) ?_)
            refine xr_op rfl rfl (xv_faddr fl48_2 rfl ?_)
            refine xr_op rfl rfl (xv_load1 ty3 rfl rfl (by (first | ((repeat first | exact zm0 | assumption | refine zm1 ?_ | refine zmr ?_); done) | ((repeat refine zm1 ?_); refine zml ?_; (repeat first | exact zm0 | assumption | refine zm1 ?_ | refine zmr ?_); done) | ((repeat refine zm1 ?_); refine zmr ?_; (repeat refine zm1 ?_); refine zml ?_; (repeat first | exact zm0 | assumption | refine zm1 ?_ | refine zmr ?_); done) | ((repeat first | exact zm0 | assumption | refine zm1 ?_ | refine zml ?_); done))) (at_drop (hx k x hkx) (j := 2) rfl) ?_)
            refine xr_end rfl ?_
            refine th_n ?_
            refine xc_block ?_
            refine xc_seq (xc_region ?_)
            refine xr_op rfl rfl (xv_eql2 rfl rfl (fun q4 => ?_) (fun q4 => ?_))
            · refine xr_op rfl rfl (xv_assign rfl ?_)
              refine xr_end rfl ?_
              refine th_n ?_
              refine xc_true rfl ?_
              refine xc_seq (xc_region ?_)
              refine xr_op rfl rfl (xv_move rfl ?_)
              refine xr_op rfl rfl (xv_add rfl rfl (wrap_i64 (by (first | omega | (dsimp only at *; omega) | (simp at *; omega))) (by (first | omega | (dsimp only at *; omega) | (simp at *; omega)))) ?_)
              refine xr_op rfl rfl (xv_assign rfl ?_)
              refine xr_end rfl ?_
              refine th_n ?_
              refine xc_region ?_
              refine xr_op rfl rfl (xv_move rfl ?_)
              refine xr_op rfl rfl (xv_move rfl ?_)
              refine xr_op rfl rfl (xv_ia (sz := 4) sl25 ty48 rfl rfl rfl (by (first | assumption | with_reducible exact Int.toNat_natCast _ | with_reducible rfl | rfl)) (by (first | omega | (dsimp only at *; omega) | (simp at *; omega))) (by (first | omega | (dsimp only at *; omega) | (simp at *; omega))) ?_)
              refine xr_op rfl rfl (xv_faddr fl48_3 rfl ?_)
              refine xr_op rfl rfl (xv_load1 ty3 rfl rfl (by (first | ((repeat first | exact zm0 | assumption | refine zm1 ?_ | refine zmr ?_); done) | ((repeat refine zm1 ?_); refine zml ?_; (repeat first | exact zm0 | assumption | refine zm1 ?_ | refine zmr ?_); done) | ((repeat refine zm1 ?_); refine zmr ?_; (repeat refine zm1 ?_); refine zml ?_; (repeat first | exact zm0 | assumption | refine zm1 ?_ | refine zmr ?_); done) | ((repeat first | exact zm0 | assumption | refine zm1 ?_ | refine zml ?_); done))) (at_drop (hx k x hkx) (j := 3) rfl) ?_)
              refine xr_op rfl rfl (xv_assign rfl ?_)
              refine xr_end rfl ?_
              refine bk_n ?_
              refine bk_n ?_
              refine th_n ?_
              refine xc_region ?_
              refine xr_op rfl rfl (xv_move rfl ?_)
              refine xr_op rfl rfl (xv_add rfl rfl (wrap_i64 (by (first | omega | (dsimp only at *; omega) | (simp at *; omega))) (by (first | omega | (dsimp only at *; omega) | (simp at *; omega)))) ?_)
              refine xr_op rfl rfl (xv_assign rfl ?_)
              refine xr_end rfl ?_
              exact rnd (k + 1) (by (first | omega | (dsimp only at *; omega) | (simp at *; omega))) (by (first | omega | (dsimp only at *; omega) | (simp at *; omega))) (le_put (le_put (le_put (le_put (le_put (le_put (le_put (le_put (le_put (le_put (le_emp _) rfl) rfl) rfl) rfl) rfl) (by rw [tals_take hkx]; unfold tal; repeat' split; all_goals first | rfl | (exfalso; omega))) (by rw [tals_take hkx]; unfold tal; repeat' split; all_goals first | rfl | (exfalso; omega))) (by rw [tals_take hkx]; unfold tal; repeat' split; all_goals first | rfl | (exfalso; omega))) (by rw [tals_take hkx]; unfold tal; repeat' split; all_goals first | rfl | (exfalso; omega))) rfl) (by (first | ((repeat first | exact List.Sublist.refl _ | exact List.nil_sublist _ | exact List.Sublist.cons_cons _ (List.Sublist.refl _) | exact List.sublist_append_left _ _ | refine List.Sublist.append (List.Sublist.refl _) ?_ | refine List.Sublist.cons_cons _ ?_ | refine List.Sublist.cons _ ?_ | refine List.Sublist.trans ?_ (List.sublist_append_right _ _)); done) | ((repeat first | exact List.Sublist.refl _ | exact List.nil_sublist _ | exact List.Sublist.cons_cons _ (List.Sublist.refl _) | exact List.sublist_append_left _ _ | refine List.Sublist.append (List.Sublist.refl _) ?_ | refine List.Sublist.cons_cons _ ?_ | refine List.Sublist.cons _ ?_ | refine List.Sublist.trans ?_ (List.sublist_append_left _ _)); done)))
            · refine xr_op rfl rfl (xv_assign rfl ?_)
              refine xr_end rfl ?_
              refine th_n ?_
              refine xc_false rfl ?_
              refine xc_seq (xc_region ?_)
              refine xr_op rfl rfl (xv_eql2 rfl rfl (fun q5 => ?_) (fun q5 => ?_))
              · refine xr_op rfl rfl (xv_assign rfl ?_)
                refine xr_end rfl ?_
                refine th_n ?_
                refine xc_true rfl ?_
                refine xc_region ?_
                refine xr_op rfl rfl (xv_assign rfl ?_)
                refine xr_end rfl ?_
                refine bk_n ?_
                refine bk_n ?_
                refine th_n ?_
                refine xc_region ?_
                refine xr_op rfl rfl (xv_move rfl ?_)
                refine xr_op rfl rfl (xv_add rfl rfl (wrap_i64 (by (first | omega | (dsimp only at *; omega) | (simp at *; omega))) (by (first | omega | (dsimp only at *; omega) | (simp at *; omega)))) ?_)
                refine xr_op rfl rfl (xv_assign rfl ?_)
                refine xr_end rfl ?_
                exact rnd (k + 1) (by (first | omega | (dsimp only at *; omega) | (simp at *; omega))) (by (first | omega | (dsimp only at *; omega) | (simp at *; omega))) (le_put (le_put (le_put (le_put (le_put (le_put (le_put (le_put (le_put (le_put (le_emp _) rfl) rfl) rfl) rfl) rfl) (by rw [tals_take hkx]; unfold tal; repeat' split; all_goals first | rfl | (exfalso; omega))) (by rw [tals_take hkx]; unfold tal; repeat' split; all_goals first | rfl | (exfalso; omega))) (by rw [tals_take hkx]; unfold tal; repeat' split; all_goals first | rfl | (exfalso; omega))) (by rw [tals_take hkx]; unfold tal; repeat' split; all_goals first | rfl | (exfalso; omega))) rfl) (by (first | ((repeat first | exact List.Sublist.refl _ | exact List.nil_sublist _ | exact List.Sublist.cons_cons _ (List.Sublist.refl _) | exact List.sublist_append_left _ _ | refine List.Sublist.append (List.Sublist.refl _) ?_ | refine List.Sublist.cons_cons _ ?_ | refine List.Sublist.cons _ ?_ | refine List.Sublist.trans ?_ (List.sublist_append_right _ _)); done) | ((repeat first | exact List.Sublist.refl _ | exact List.nil_sublist _ | exact List.Sublist.cons_cons _ (List.Sublist.refl _) | exact List.sublist_append_left _ _ | refine List.Sublist.append (List.Sublist.refl _) ?_ | refine List.Sublist.cons_cons _ ?_ | refine List.Sublist.cons _ ?_ | refine List.Sublist.trans ?_ (List.sublist_append_left _ _)); done)))
              · refine xr_op rfl rfl (xv_assign rfl ?_)
                refine xr_end rfl ?_
                refine th_n ?_
                refine xc_false rfl ?_
                refine xc_seq (xc_region ?_)
                refine xr_op rfl rfl (xv_eql2 rfl rfl (fun q6 => ?_) (fun q6 => ?_))
                · refine xr_op rfl rfl (xv_assign rfl ?_)
                  refine xr_end rfl ?_
                  refine th_n ?_
                  refine xc_true rfl ?_
                  refine xc_region ?_
                  refine xr_op rfl rfl (xv_assign rfl ?_)
                  refine xr_end rfl ?_
                  refine bk_n ?_
                  refine bk_n ?_
                  refine th_n ?_
                  refine xc_region ?_
                  refine xr_op rfl rfl (xv_move rfl ?_)
                  refine xr_op rfl rfl (xv_add rfl rfl (wrap_i64 (by (first | omega | (dsimp only at *; omega) | (simp at *; omega))) (by (first | omega | (dsimp only at *; omega) | (simp at *; omega)))) ?_)
                  refine xr_op rfl rfl (xv_assign rfl ?_)
                  refine xr_end rfl ?_
                  exact rnd (k + 1) (by (first | omega | (dsimp only at *; omega) | (simp at *; omega))) (by (first | omega | (dsimp only at *; omega) | (simp at *; omega))) (le_put (le_put (le_put (le_put (le_put (le_put (le_put (le_put (le_put (le_put (le_emp _) rfl) rfl) rfl) rfl) rfl) (by rw [tals_take hkx]; unfold tal; repeat' split; all_goals first | rfl | (exfalso; omega))) (by rw [tals_take hkx]; unfold tal; repeat' split; all_goals first | rfl | (exfalso; omega))) (by rw [tals_take hkx]; unfold tal; repeat' split; all_goals first | rfl | (exfalso; omega))) (by rw [tals_take hkx]; unfold tal; repeat' split; all_goals first | rfl | (exfalso; omega))) rfl) (by (first | ((repeat first | exact List.Sublist.refl _ | exact List.nil_sublist _ | exact List.Sublist.cons_cons _ (List.Sublist.refl _) | exact List.sublist_append_left _ _ | refine List.Sublist.append (List.Sublist.refl _) ?_ | refine List.Sublist.cons_cons _ ?_ | refine List.Sublist.cons _ ?_ | refine List.Sublist.trans ?_ (List.sublist_append_right _ _)); done) | ((repeat first | exact List.Sublist.refl _ | exact List.nil_sublist _ | exact List.Sublist.cons_cons _ (List.Sublist.refl _) | exact List.sublist_append_left _ _ | refine List.Sublist.append (List.Sublist.refl _) ?_ | refine List.Sublist.cons_cons _ ?_ | refine List.Sublist.cons _ ?_ | refine List.Sublist.trans ?_ (List.sublist_append_left _ _)); done)))
                · refine xr_op rfl rfl (xv_assign rfl ?_)
                  refine xr_end rfl ?_
                  refine th_n ?_
                  refine xc_false rfl ?_
                  refine xc_seq (xc_region ?_)
                  refine xr_op rfl rfl (xv_eql2 rfl rfl (fun q7 => ?_) (fun q7 => ?_))
                  · refine xr_op rfl rfl (xv_assign rfl ?_)
                    refine xr_end rfl ?_
                    refine th_n ?_
                    refine xc_true rfl ?_
                    refine xc_region ?_
                    refine xr_op rfl rfl (xv_assign rfl ?_)
                    refine xr_end rfl ?_
                    refine bk_n ?_
                    refine bk_n ?_
                    refine th_n ?_
                    refine xc_region ?_
                    refine xr_op rfl rfl (xv_move rfl ?_)
                    refine xr_op rfl rfl (xv_add rfl rfl (wrap_i64 (by (first | omega | (dsimp only at *; omega) | (simp at *; omega))) (by (first | omega | (dsimp only at *; omega) | (simp at *; omega)))) ?_)
                    refine xr_op rfl rfl (xv_assign rfl ?_)
                    refine xr_end rfl ?_
                    exact rnd (k + 1) (by (first | omega | (dsimp only at *; omega) | (simp at *; omega))) (by (first | omega | (dsimp only at *; omega) | (simp at *; omega))) (le_put (le_put (le_put (le_put (le_put (le_put (le_put (le_put (le_put (le_put (le_emp _) rfl) rfl) rfl) rfl) rfl) (by rw [tals_take hkx]; unfold tal; repeat' split; all_goals first | rfl | (exfalso; omega))) (by rw [tals_take hkx]; unfold tal; repeat' split; all_goals first | rfl | (exfalso; omega))) (by rw [tals_take hkx]; unfold tal; repeat' split; all_goals first | rfl | (exfalso; omega))) (by rw [tals_take hkx]; unfold tal; repeat' split; all_goals first | rfl | (exfalso; omega))) rfl) (by (first | ((repeat first | exact List.Sublist.refl _ | exact List.nil_sublist _ | exact List.Sublist.cons_cons _ (List.Sublist.refl _) | exact List.sublist_append_left _ _ | refine List.Sublist.append (List.Sublist.refl _) ?_ | refine List.Sublist.cons_cons _ ?_ | refine List.Sublist.cons _ ?_ | refine List.Sublist.trans ?_ (List.sublist_append_right _ _)); done) | ((repeat first | exact List.Sublist.refl _ | exact List.nil_sublist _ | exact List.Sublist.cons_cons _ (List.Sublist.refl _) | exact List.sublist_append_left _ _ | refine List.Sublist.append (List.Sublist.refl _) ?_ | refine List.Sublist.cons_cons _ ?_ | refine List.Sublist.cons _ ?_ | refine List.Sublist.trans ?_ (List.sublist_append_left _ _)); done)))
                  · refine xr_op rfl rfl (xv_assign rfl ?_)
                    refine xr_end rfl ?_
                    refine th_n ?_
                    refine xc_false rfl ?_
                    refine xc_seq (xc_region ?_)
                    refine xr_op rfl rfl (xv_eql2 rfl rfl (fun q8 => ?_) (fun q8 => ?_))
                    · refine xr_op rfl rfl (xv_assign rfl ?_)
                      refine xr_end rfl ?_
                      refine th_n ?_
                      refine xc_true rfl ?_
                      refine xc_seq (xc_region ?_)
                      refine xr_op rfl rfl (xv_move rfl ?_)
                      refine xr_op rfl rfl (xv_add rfl rfl (wrap_i64 (by (first | omega | (dsimp only at *; omega) | (simp at *; omega))) (by (first | omega | (dsimp only at *; omega) | (simp at *; omega)))) ?_)
                      refine xr_op rfl rfl (xv_assign rfl ?_)
                      refine xr_end rfl ?_
                      refine th_n ?_
                      refine xc_region ?_
                      refine xr_op rfl rfl (xv_assign rfl ?_)
                      refine xr_end rfl ?_
                      refine bk_n ?_
                      refine bk_n ?_
                      refine th_n ?_
                      refine xc_region ?_
                      refine xr_op rfl rfl (xv_move rfl ?_)
                      refine xr_op rfl rfl (xv_add rfl rfl (wrap_i64 (by (first | omega | (dsimp only at *; omega) | (simp at *; omega))) (by (first | omega | (dsimp only at *; omega) | (simp at *; omega)))) ?_)
                      refine xr_op rfl rfl (xv_assign rfl ?_)
                      refine xr_end rfl ?_
                      exact rnd (k + 1) (by (first | omega | (dsimp only at *; omega) | (simp at *; omega))) (by (first | omega | (dsimp only at *; omega) | (simp at *; omega))) (le_put (le_put (le_put (le_put (le_put (le_put (le_put (le_put (le_put (le_put (le_emp _) rfl) rfl) rfl) rfl) rfl) (by rw [tals_take hkx]; unfold tal; repeat' split; all_goals first | rfl | (exfalso; omega))) (by rw [tals_take hkx]; unfold tal; repeat' split; all_goals first | rfl | (exfalso; omega))) (by rw [tals_take hkx]; unfold tal; repeat' split; all_goals first | rfl | (exfalso; omega))) (by rw [tals_take hkx]; unfold tal; repeat' split; all_goals first | rfl | (exfalso; omega))) rfl) (by (first | ((repeat first | exact List.Sublist.refl _ | exact List.nil_sublist _ | exact List.Sublist.cons_cons _ (List.Sublist.refl _) | exact List.sublist_append_left _ _ | refine List.Sublist.append (List.Sublist.refl _) ?_ | refine List.Sublist.cons_cons _ ?_ | refine List.Sublist.cons _ ?_ | refine List.Sublist.trans ?_ (List.sublist_append_right _ _)); done) | ((repeat first | exact List.Sublist.refl _ | exact List.nil_sublist _ | exact List.Sublist.cons_cons _ (List.Sublist.refl _) | exact List.sublist_append_left _ _ | refine List.Sublist.append (List.Sublist.refl _) ?_ | refine List.Sublist.cons_cons _ ?_ | refine List.Sublist.cons _ ?_ | refine List.Sublist.trans ?_ (List.sublist_append_left _ _)); done)))
                    · refine xr_op rfl rfl (xv_assign rfl ?_)
                      refine xr_end rfl ?_
                      refine th_n ?_
                      refine xc_false rfl ?_
                      refine xc_skip ?_
                      refine bk_n ?_
                      refine bk_n ?_
                      refine th_n ?_
                      refine xc_region ?_
                      refine xr_op rfl rfl (xv_move rfl ?_)
                      refine xr_op rfl rfl (xv_add rfl rfl (wrap_i64 (by (first | omega | (dsimp only at *; omega) | (simp at *; omega))) (by (first | omega | (dsimp only at *; omega) | (simp at *; omega)))) ?_)
                      refine xr_op rfl rfl (xv_assign rfl ?_)
                      refine xr_end rfl ?_
                      exact rnd (k + 1) (by (first | omega | (dsimp only at *; omega) | (simp at *; omega))) (by (first | omega | (dsimp only at *; omega) | (simp at *; omega))) (le_put (le_put (le_put (le_put (le_put (le_put (le_put (le_put (le_put (le_put (le_emp _) rfl) rfl) rfl) rfl) rfl) (by rw [tals_take hkx]; unfold tal; repeat' split; all_goals first | rfl | (exfalso; omega))) (by rw [tals_take hkx]; unfold tal; repeat' split; all_goals first | rfl | (exfalso; omega))) (by rw [tals_take hkx]; unfold tal; repeat' split; all_goals first | rfl | (exfalso; omega))) (by rw [tals_take hkx]; unfold tal; repeat' split; all_goals first | rfl | (exfalso; omega))) rfl) (by (first | ((repeat first | exact List.Sublist.refl _ | exact List.nil_sublist _ | exact List.Sublist.cons_cons _ (List.Sublist.refl _) | exact List.sublist_append_left _ _ | refine List.Sublist.append (List.Sublist.refl _) ?_ | refine List.Sublist.cons_cons _ ?_ | refine List.Sublist.cons _ ?_ | refine List.Sublist.trans ?_ (List.sublist_append_right _ _)); done) | ((repeat first | exact List.Sublist.refl _ | exact List.nil_sublist _ | exact List.Sublist.cons_cons _ (List.Sublist.refl _) | exact List.sublist_append_left _ _ | refine List.Sublist.append (List.Sublist.refl _) ?_ | refine List.Sublist.cons_cons _ ?_ | refine List.Sublist.cons _ ?_ | refine List.Sublist.trans ?_ (List.sublist_append_left _ _)); done)))
        · refine xr_end rfl ?_
          refine th_n ?_
          refine xc_false rfl ?_
          refine xc_exit ?_
          refine th_x ?_
          refine th_x ?_
          refine bk_same ?_
          refine th_n ?_
          refine xc_seq (xc_region ?_)
          have hkl : k = l.length := by (first | omega | (dsimp only at *; omega) | (simp at *; omega))
          rw [hkl, List.take_length]
          obtain ⟨⟨hr1, hr2, hr3⟩, ⟨ht1, ht2, ht3⟩, ⟨hc1, hc2, hc3⟩, hb1, hb2, hb3, hb4⟩ := hO
          obtain ⟨hw1, hw2, hw3, ⟨hle0, hle1⟩, ⟨hru0, hru1⟩, ⟨hsc0, hsc1⟩, ⟨hga0, hga1⟩, ⟨hco0, hco1⟩⟩ := hpk.1
          refine xr_op rfl rfl (xv_faddr fl29_3 rfl ?_)
          refine xr_op rfl rfl (xv_load1 ty3 rfl rfl (by (first | ((repeat first | exact zm0 | assumption | refine zm1 ?_ | refine zmr ?_); done) | ((repeat refine zm1 ?_); refine zml ?_; (repeat first | exact zm0 | assumption | refine zm1 ?_ | refine zmr ?_); done) | ((repeat refine zm1 ?_); refine zmr ?_; (repeat refine zm1 ?_); refine zml ?_; (repeat first | exact zm0 | assumption | refine zm1 ?_ | refine zmr ?_); done) | ((repeat first | exact zm0 | assumption | refine zm1 ?_ | refine zml ?_); done))) (by rfl) ?_)
          refine xr_op rfl rfl (xv_move rfl ?_)
          refine xr_op rfl rfl (xv_neqF rfl rfl (by omega) ?_)
          refine xr_op rfl rfl (xv_move rfl ?_)
          refine xr_gd rfl rfl rfl (xv_move rfl ?_)
          refine xr_gd rfl rfl rfl (xv_faddr fl24_2 rfl ?_)
          refine xr_gd rfl rfl rfl (xv_load1 ty3 rfl rfl (by (first | ((repeat first | exact zm0 | assumption | refine zm1 ?_ | refine zmr ?_); done) | ((repeat refine zm1 ?_); refine zml ?_; (repeat first | exact zm0 | assumption | refine zm1 ?_ | refine zmr ?_); done) | ((repeat refine zm1 ?_); refine zmr ?_; (repeat refine zm1 ?_); refine zml ?_; (repeat first | exact zm0 | assumption | refine zm1 ?_ | refine zmr ?_); done) | ((repeat first | exact zm0 | assumption | refine zm1 ?_ | refine zml ?_); done))) (by rfl) ?_)
          refine xr_gd rfl rfl rfl (xv_cmpK rfl rfl (cmpF rfl (by simp only [cmpP]; omega)) ?_)
          refine xr_op rfl rfl (xv_pick rfl rfl ?_)
          refine xr_op rfl rfl (xv_move rfl ?_)
          refine xr_gd rfl rfl rfl (xv_faddr fl29_2 rfl ?_)
          refine xr_gd rfl rfl rfl (xv_load1 ty3 rfl rfl (by (first | ((repeat first | exact zm0 | assumption | refine zm1 ?_ | refine zmr ?_); done) | ((repeat refine zm1 ?_); refine zml ?_; (repeat first | exact zm0 | assumption | refine zm1 ?_ | refine zmr ?_); done) | ((repeat refine zm1 ?_); refine zmr ?_; (repeat refine zm1 ?_); refine zml ?_; (repeat first | exact zm0 | assumption | refine zm1 ?_ | refine zmr ?_); done) | ((repeat first | exact zm0 | assumption | refine zm1 ?_ | refine zml ?_); done))) (by rfl) ?_)
          refine xr_gd rfl rfl rfl (xv_move rfl ?_)
          refine xr_gd rfl rfl rfl (xv_neqF rfl rfl (by omega) ?_)
          refine xr_op rfl rfl (xv_pick rfl rfl ?_)
          refine xr_op rfl rfl (xv_move rfl ?_)
          refine xr_gd rfl rfl rfl (xv_faddr fl29_4 rfl ?_)
          refine xr_gd rfl rfl rfl (xv_load1 ty3 rfl rfl (by (first | ((repeat first | exact zm0 | assumption | refine zm1 ?_ | refine zmr ?_); done) | ((repeat refine zm1 ?_); refine zml ?_; (repeat first | exact zm0 | assumption | refine zm1 ?_ | refine zmr ?_); done) | ((repeat refine zm1 ?_); refine zmr ?_; (repeat refine zm1 ?_); refine zml ?_; (repeat first | exact zm0 | assumption | refine zm1 ?_ | refine zmr ?_); done) | ((repeat first | exact zm0 | assumption | refine zm1 ?_ | refine zml ?_); done))) (by rfl) ?_)
          refine xr_gd rfl rfl rfl (xv_move rfl ?_)
          refine xr_gd rfl rfl rfl (xv_neqF rfl rfl (by omega) ?_)
          refine xr_op rfl rfl (xv_pick rfl rfl ?_)
          refine xr_op rfl rfl (xv_move rfl ?_)
          refine xr_gd rfl rfl rfl (xv_move rfl ?_)
          refine xr_gd rfl rfl rfl (xv_faddr fl24_4 rfl ?_)
          refine xr_gd rfl rfl rfl (xv_load1 ty3 rfl rfl (by (first | ((repeat first | exact zm0 | assumption | refine zm1 ?_ | refine zmr ?_); done) | ((repeat refine zm1 ?_); refine zml ?_; (repeat first | exact zm0 | assumption | refine zm1 ?_ | refine zmr ?_); done) | ((repeat refine zm1 ?_); refine zmr ?_; (repeat refine zm1 ?_); refine zml ?_; (repeat first | exact zm0 | assumption | refine zm1 ?_ | refine zmr ?_); done) | ((repeat first | exact zm0 | assumption | refine zm1 ?_ | refine zml ?_); done))) (by rfl) ?_)
          refine xr_gd rfl rfl rfl (xv_add rfl rfl (wrap_i64 (by (first | omega | (dsimp only at *; omega) | (simp at *; omega))) (by (first | omega | (dsimp only at *; omega) | (simp at *; omega)))) ?_)
          refine xr_gd rfl rfl rfl (xv_cmpK rfl rfl (cmpF rfl (by simp only [cmpP]; omega)) ?_)
          refine xr_op rfl rfl (xv_pick rfl rfl ?_)
          refine xr_op rfl rfl (xv_move rfl ?_)
          refine xr_gd rfl rfl rfl (xv_faddr fl29_0 rfl ?_)
          refine xr_gd rfl rfl rfl (xv_load1 ty3 rfl rfl (by (first | ((repeat first | exact zm0 | assumption | refine zm1 ?_ | refine zmr ?_); done) | ((repeat refine zm1 ?_); refine zml ?_; (repeat first | exact zm0 | assumption | refine zm1 ?_ | refine zmr ?_); done) | ((repeat refine zm1 ?_); refine zmr ?_; (repeat refine zm1 ?_); refine zml ?_; (repeat first | exact zm0 | assumption | refine zm1 ?_ | refine zmr ?_); done) | ((repeat first | exact zm0 | assumption | refine zm1 ?_ | refine zml ?_); done))) (by rfl) ?_)
          refine xr_gd rfl rfl rfl (xv_cmp rfl rfl rfl ?_)
          refine xr_gd rfl rfl rfl (xv_move rfl ?_)
          refine xr_gd rfl rfl rfl (xv_cmp rfl rfl rfl ?_)
          refine xr_gd rfl rfl rfl (xv_neB Try.underlying4 rfl rfl (bnq (by simpa using hb1)) ?_)
          refine xr_op rfl rfl (xv_pick rfl rfl ?_)
          refine xr_op rfl rfl (xv_move rfl ?_)
          refine xr_gd rfl rfl rfl (xv_faddr fl29_0 rfl ?_)
          refine xr_gd rfl rfl rfl (xv_load1 ty3 rfl rfl (by (first | ((repeat first | exact zm0 | assumption | refine zm1 ?_ | refine zmr ?_); done) | ((repeat refine zm1 ?_); refine zml ?_; (repeat first | exact zm0 | assumption | refine zm1 ?_ | refine zmr ?_); done) | ((repeat refine zm1 ?_); refine zmr ?_; (repeat refine zm1 ?_); refine zml ?_; (repeat first | exact zm0 | assumption | refine zm1 ?_ | refine zmr ?_); done) | ((repeat first | exact zm0 | assumption | refine zm1 ?_ | refine zml ?_); done))) (by rfl) ?_)
          refine xr_gd rfl rfl rfl (xv_cmp rfl rfl rfl ?_)
          refine xr_gd rfl rfl rfl (xv_move rfl ?_)
          refine xr_gd rfl rfl rfl (xv_neB Try.underlying4 rfl rfl (bnq (by simpa using hb2)) ?_)
          refine xr_op rfl rfl (xv_pick rfl rfl ?_)
          refine xr_op rfl rfl (xv_move rfl ?_)
          refine xr_gd rfl rfl rfl (xv_faddr fl29_0 rfl ?_)
          refine xr_gd rfl rfl rfl (xv_load1 ty3 rfl rfl (by (first | ((repeat first | exact zm0 | assumption | refine zm1 ?_ | refine zmr ?_); done) | ((repeat refine zm1 ?_); refine zml ?_; (repeat first | exact zm0 | assumption | refine zm1 ?_ | refine zmr ?_); done) | ((repeat refine zm1 ?_); refine zmr ?_; (repeat refine zm1 ?_); refine zml ?_; (repeat first | exact zm0 | assumption | refine zm1 ?_ | refine zmr ?_); done) | ((repeat first | exact zm0 | assumption | refine zm1 ?_ | refine zml ?_); done))) (by rfl) ?_)
          refine xr_gd rfl rfl rfl (xv_cmp rfl rfl rfl ?_)
          refine xr_gd rfl rfl rfl (xv_move rfl ?_)
          refine xr_gd rfl rfl rfl (xv_faddr fl24_4 rfl ?_)
          refine xr_gd rfl rfl rfl (xv_load1 ty3 rfl rfl (by (first | ((repeat first | exact zm0 | assumption | refine zm1 ?_ | refine zmr ?_); done) | ((repeat refine zm1 ?_); refine zml ?_; (repeat first | exact zm0 | assumption | refine zm1 ?_ | refine zmr ?_); done) | ((repeat refine zm1 ?_); refine zmr ?_; (repeat refine zm1 ?_); refine zml ?_; (repeat first | exact zm0 | assumption | refine zm1 ?_ | refine zmr ?_); done) | ((repeat first | exact zm0 | assumption | refine zm1 ?_ | refine zml ?_); done))) (by rfl) ?_)
          refine xr_gd rfl rfl rfl (xv_add rfl rfl (wrap_i64 (by (first | omega | (dsimp only at *; omega) | (simp at *; omega))) (by (first | omega | (dsimp only at *; omega) | (simp at *; omega)))) ?_)
          refine xr_gd rfl rfl rfl (xv_cmp rfl rfl rfl ?_)
          refine xr_gd rfl rfl rfl (xv_neB Try.underlying4 rfl rfl (bnq (by simpa using hb3)) ?_)
          refine xr_op rfl rfl (xv_pick rfl rfl ?_)
          refine xr_end rfl ?_
          refine th_n ?_
          refine xc_false rfl ?_
          refine xc_skip ?_
          refine bk_n ?_
          refine th_n ?_
          refine xc_region ?_
          refine xr_op rfl rfl (xv_move rfl ?_)
          refine xr_op rfl rfl (xv_add rfl rfl (wrap_i64 (by (first | omega | (dsimp only at *; omega) | (simp at *; omega))) (by (first | omega | (dsimp only at *; omega) | (simp at *; omega)))) ?_)
          refine xr_op rfl rfl (xv_assign rfl ?_)
          refine xr_end rfl ?_
          exact rnd (i + 1) (by (first | omega | (dsimp only at *; omega) | (simp at *; omega))) (by (first | omega | (dsimp only at *; omega) | (simp at *; omega))) (le_put (le_put (le_put (le_put (le_emp _) rfl) rfl) rfl) rfl) (by (first | ((repeat first | exact List.Sublist.refl _ | exact List.nil_sublist _ | exact List.Sublist.cons_cons _ (List.Sublist.refl _) | exact List.sublist_append_left _ _ | refine List.Sublist.append (List.Sublist.refl _) ?_ | refine List.Sublist.cons_cons _ ?_ | refine List.Sublist.cons _ ?_ | refine List.Sublist.trans ?_ (List.sublist_append_right _ _)); done) | ((repeat first | exact List.Sublist.refl _ | exact List.nil_sublist _ | exact List.Sublist.cons_cons _ (List.Sublist.refl _) | exact List.sublist_append_left _ _ | refine List.Sublist.append (List.Sublist.refl _) ?_ | refine List.Sublist.cons_cons _ ?_ | refine List.Sublist.cons _ ?_ | refine List.Sublist.trans ?_ (List.sublist_append_left _ _)); done)))
      · refine xr_end rfl ?_
        refine th_n ?_
        refine xc_false rfl ?_
        refine xc_exit ?_
        refine th_x ?_
        refine th_x ?_
        refine bk_same ?_
        refine th_n ?_
        refine xc_seq ?_
        refine xc_seq (xc_region ?_)
        refine xr_op rfl rfl (xv_assign rfl ?_)
        refine xr_end rfl ?_
        refine th_n ?_
        refine xc_block ?_
        refine xc_loop (σ := Nat) (fun i => i ≤ l.length) (fun i => (((emp.put (some 1) (.slice al l.length cl)).put (some 2) (.pointer (some ⟨b2, 0, none⟩))).put (some 15) (I i))) (fun i => ((b5, .cells ⟨eOvens S.ov⟩ 30) :: (b2, .cells ⟨eHouse a c w⟩ 24) :: h)) (fun i => l.length - i) 0 (Nat.zero_le _) (le_put (le_put (le_put (le_emp _) rfl) rfl) rfl) (by (first | ((repeat first | exact List.Sublist.refl _ | exact List.nil_sublist _ | exact List.Sublist.cons_cons _ (List.Sublist.refl _) | exact List.sublist_append_left _ _ | refine List.Sublist.append (List.Sublist.refl _) ?_ | refine List.Sublist.cons_cons _ ?_ | refine List.Sublist.cons _ ?_ | refine List.Sublist.trans ?_ (List.sublist_append_right _ _)); done) | ((repeat first | exact List.Sublist.refl _ | exact List.nil_sublist _ | exact List.Sublist.cons_cons _ (List.Sublist.refl _) | exact List.sublist_append_left _ _ | refine List.Sublist.append (List.Sublist.refl _) ?_ | refine List.Sublist.cons_cons _ ?_ | refine List.Sublist.cons _ ?_ | refine List.Sublist.trans ?_ (List.sublist_append_left _ _)); done))) ?_
        rintro i hi
        refine xc_seq ?_
        refine xc_seq (xc_region ?_)
        refine xr_op rfl rfl (xv_move rfl ?_)
        refine xr_op rfl rfl (xv_move rfl ?_)
        refine xr_op rfl rfl (xv_len sl25 rfl ?_)
        refine xr_op rfl rfl (xv_lss2 rfl rfl (fun q9 => ?_) (fun q9 => ?_))
        · refine xr_end rfl ?_
          refine th_n ?_
          refine xc_true rfl ?_
          refine xc_skip ?_
          refine th_n ?_
          refine xc_seq ?_
          refine xc_block ?_
          refine xc_seq (xc_region ?_)
          have hlt0 : i < l.length := by (first | omega | (dsimp only at *; omega) | (simp at *; omega))
          obtain ⟨y, hky⟩ : ∃ y, l[i]? = some y := ⟨_, List.getElem?_eq_getElem hlt0⟩
          refine xr_op rfl rfl (xv_assign rfl ?_)
          refine xr_end rfl ?_
          refine th_n ?_
          refine xc_seq ?_
          refine xc_seq (xc_region ?_)
          refine xr_op rfl rfl (xv_assign rfl ?_)
          refine xr_end rfl ?_
          refine th_n ?_
          refine xc_block ?_
          refine xc_loop (σ := Nat) (fun k => k ≤ l.length) (fun k => (((((emp.put (some 1) (.slice al l.length cl)).put (some 2) (.pointer (some ⟨b2, 0, none⟩))).put (some 15) (I i)).put (some 16) (I (cntH y.hour (l.take k)))).put (some 17) (I k))) (fun k => ((b5, .cells ⟨eOvens S.ov⟩ 30) :: (b2, .cells ⟨eHouse a c w⟩ 24) :: h)) (fun k => l.length - k) 0 (Nat.zero_le _) (le_put (le_put (le_put (le_put (le_put (le_emp _) rfl) rfl) rfl) rfl) rfl) (by (first | ((repeat first | exact List.Sublist.refl _ | exact List.nil_sublist _ | exact List.Sublist.cons_cons _ (List.Sublist.refl _) | exact List.sublist_append_left _ _ | refine List.Sublist.append (List.Sublist.refl _) ?_ | refine List.Sublist.cons_cons _ ?_ | refine List.Sublist.cons _ ?_ | refine List.Sublist.trans ?_ (List.sublist_append_right _ _)); done) | ((repeat first | exact List.Sublist.refl _ | exact List.nil_sublist _ | exact List.Sublist.cons_cons _ (List.Sublist.refl _) | exact List.sublist_append_left _ _ | refine List.Sublist.append (List.Sublist.refl _) ?_ | refine List.Sublist.cons_cons _ ?_ | refine List.Sublist.cons _ ?_ | refine List.Sublist.trans ?_ (List.sublist_append_left _ _)); done))) ?_
          rintro k hk
          have hB := cntH_bound y.hour (l.take k)
          rw [List.length_take] at hB
          refine xc_seq ?_
          refine xc_seq (xc_region ?_)
          refine xr_op rfl rfl (xv_move rfl ?_)
          refine xr_op rfl rfl (xv_move rfl ?_)
          refine xr_op rfl rfl (xv_len sl25 rfl ?_)
          refine xr_op rfl rfl (xv_lss2 rfl rfl (fun q10 => ?_) (fun q10 => ?_))
          · refine xr_end rfl ?_
            refine th_n ?_
            refine xc_true rfl ?_
            refine xc_skip ?_
            refine th_n ?_
            refine xc_seq ?_
            refine xc_block ?_
            refine xc_seq ?_
            refine xc_draw0 [(0, .S), (1, .S), (2, .S), (3, .S), (4, .R), (5, .S), (6, .S), (7, .S), (8, .S), (9, .R), (10, .S)] mixed (by kernel_rfl) ?_
            have hlt : k < l.length := by (first | omega | (dsimp only at *; omega) | (simp at *; omega))
            obtain ⟨b, o, li, t, fz, rfl, hm, hx⟩ := hl.at hlt
            obtain ⟨x, hkx⟩ : ∃ x, l[k]? = some x := ⟨_, List.getElem?_eq_getElem hlt⟩
            refine js_S rfl rfl (.inl rfl) (xv_move rfl ⟨rfl, rfl⟩) ?_
            refine js_S rfl rfl (.inl rfl) (xv_move rfl ⟨rfl, rfl⟩) ?_
            refine js_S rfl rfl (.inl rfl) (xv_ia (sz := 4) sl25 ty48 rfl rfl rfl (by (first | assumption | with_reducible exact Int.toNat_natCast _ | with_reducible rfl | rfl)) (by (first | omega | (dsimp only at *; omega) | (simp at *; omega))) (by (first | omega | (dsimp only at *; omega) | (simp at *; omega))) ⟨rfl, rfl⟩) ?_
            refine js_S rfl rfl (.inl rfl) (xv_faddr fl48_0 rfl ⟨rfl, rfl⟩) ?_
            refine js_R0 rfl rfl (.inl rfl) (xv_load1 ty3 rfl rfl (by (first | ((repeat first | exact zm0 | assumption | refine zm1 ?_ | refine zmr ?_); done) | ((repeat refine zm1 ?_); refine zml ?_; (repeat first | exact zm0 | assumption | refine zm1 ?_ | refine zmr ?_); done) | ((repeat refine zm1 ?_); refine zmr ?_; (repeat refine zm1 ?_); refine zml ?_; (repeat first | exact zm0 | assumption | refine zm1 ?_ | refine zmr ?_); done) | ((repeat first | exact zm0 | assumption | refine zm1 ?_ | refine zml ?_); done))) (at_drop (hx k x hkx) (j := 0) rfl) ⟨rfl, rfl⟩) ?_
            refine js_S rfl rfl (.inl rfl) (xv_move rfl ⟨rfl, rfl⟩) ?_
            refine js_S rfl rfl (.inl rfl) (xv_move rfl ⟨rfl, rfl⟩) ?_
            refine js_S rfl rfl (.inl rfl) (xv_ia (sz := 4) sl25 ty48 rfl rfl rfl (by (first | assumption | with_reducible exact Int.toNat_natCast _ | with_reducible rfl | rfl)) (by (first | omega | (dsimp only at *; omega) | (simp at *; omega))) (by (first | omega | (dsimp only at *; omega) | (simp at *; omega))) ⟨rfl, rfl⟩) ?_
            refine js_S rfl rfl (.inl rfl) (xv_faddr fl48_0 rfl ⟨rfl, rfl⟩) ?_
            refine js_R0 rfl rfl (.inl rfl) (xv_load1 ty3 rfl rfl (by (first | ((repeat first | exact zm0 | assumption | refine zm1 ?_ | refine zmr ?_); done) | ((repeat refine zm1 ?_); refine zml ?_; (repeat first | exact zm0 | assumption | refine zm1 ?_ | refine zmr ?_); done) | ((repeat refine zm1 ?_); refine zmr ?_; (repeat refine zm1 ?_); refine zml ?_; (repeat first | exact zm0 | assumption | refine zm1 ?_ | refine zmr ?_); done) | ((repeat first | exact zm0 | assumption | refine zm1 ?_ | refine zml ?_); done))) (at_drop (hx i y hky) (j := 0) rfl) ⟨rfl, rfl⟩) ?_
            refine js_S rfl rfl (.inl rfl) (xv_cmp rfl rfl rfl ⟨rfl, rfl⟩) ?_
            refine j_end0 ?_
            refine th_n ?_
            refine xc_bool rfl (fun q11 => ?_) (fun q11 => ?_)
            · refine xc_region ?_
              refine xr_op rfl rfl (xv_move rfl ?_)
              refine xr_op rfl rfl (xv_add rfl rfl (wrap_i64 (by (first | omega | (dsimp only at *; omega) | (simp at *; omega))) (by (first | omega | (dsimp only at *; omega) | (simp at *; omega)))) ?_)
              refine xr_op rfl rfl (xv_assign rfl ?_)
              refine xr_end rfl ?_
              refine bk_n ?_
              refine th_n ?_
              refine xc_region ?_
              refine xr_op rfl rfl (xv_move rfl ?_)
              refine xr_op rfl rfl (xv_add rfl rfl (wrap_i64 (by (first | omega | (dsimp only at *; omega) | (simp at *; omega))) (by (first | omega | (dsimp only at *; omega) | (simp at *; omega)))) ?_)
              refine xr_op rfl rfl (xv_assign rfl ?_)
              refine xr_end rfl ?_
              exact rnd (k + 1) (by (first | omega | (dsimp only at *; omega) | (simp at *; omega))) (by (first | omega | (dsimp only at *; omega) | (simp at *; omega))) (le_put (le_put (le_put (le_put (le_put (le_emp _) rfl) rfl) rfl) (by rw [cntH_take hkx]; split <;> first | rfl | (rw [Int.add_zero]; rfl) | (exfalso; simp_all; done))) rfl) (by (first | ((repeat first | exact List.Sublist.refl _ | exact List.nil_sublist _ | exact List.Sublist.cons_cons _ (List.Sublist.refl _) | exact List.sublist_append_left _ _ | refine List.Sublist.append (List.Sublist.refl _) ?_ | refine List.Sublist.cons_cons _ ?_ | refine List.Sublist.cons _ ?_ | refine List.Sublist.trans ?_ (List.sublist_append_right _ _)); done) | ((repeat first | exact List.Sublist.refl _ | exact List.nil_sublist _ | exact List.Sublist.cons_cons _ (List.Sublist.refl _) | exact List.sublist_append_left _ _ | refine List.Sublist.append (List.Sublist.refl _) ?_ | refine List.Sublist.cons_cons _ ?_ | refine List.Sublist.cons _ ?_ | refine List.Sublist.trans ?_ (List.sublist_append_left _ _)); done)))
            · refine xc_skip ?_
              refine bk_n ?_
              refine th_n ?_
              refine xc_region ?_
              refine xr_op rfl rfl (xv_move rfl ?_)
              refine xr_op rfl rfl (xv_add rfl rfl (wrap_i64 (by (first | omega | (dsimp only at *; omega) | (simp at *; omega))) (by (first | omega | (dsimp only at *; omega) | (simp at *; omega)))) ?_)
              refine xr_op rfl rfl (xv_assign rfl ?_)
              refine xr_end rfl ?_
              exact rnd (k + 1) (by (first | omega | (dsimp only at *; omega) | (simp at *; omega))) (by (first | omega | (dsimp only at *; omega) | (simp at *; omega))) (le_put (le_put (le_put (le_put (le_put (le_emp _) rfl) rfl) rfl) (by rw [cntH_take hkx]; split <;> first | rfl | (rw [Int.add_zero]; rfl) | (exfalso; simp_all; done))) rfl) (by (first | ((repeat first | exact List.Sublist.refl _ | exact List.nil_sublist _ | exact List.Sublist.cons_cons _ (List.Sublist.refl _) | exact List.sublist_append_left _ _ | refine List.Sublist.append (List.Sublist.refl _) ?_ | refine List.Sublist.cons_cons _ ?_ | refine List.Sublist.cons _ ?_ | refine List.Sublist.trans ?_ (List.sublist_append_right _ _)); done) | ((repeat first | exact List.Sublist.refl _ | exact List.nil_sublist _ | exact List.Sublist.cons_cons _ (List.Sublist.refl _) | exact List.sublist_append_left _ _ | refine List.Sublist.append (List.Sublist.refl _) ?_ | refine List.Sublist.cons_cons _ ?_ | refine List.Sublist.cons _ ?_ | refine List.Sublist.trans ?_ (List.sublist_append_left _ _)); done)))
          · refine xr_end rfl ?_
            refine th_n ?_
            refine xc_false rfl ?_
            refine xc_exit ?_
            refine th_x ?_
            refine th_x ?_
            refine bk_same ?_
            refine th_n ?_
            refine xc_seq (xc_region ?_)
            have hkl : k = l.length := by (first | omega | (dsimp only at *; omega) | (simp at *; omega))
            rw [hkl, List.take_length]
            have hd := hA.done y.hour
            refine xr_op rfl rfl (xv_move rfl ?_)
            refine xr_op rfl rfl (xv_faddr fl24_5 rfl ?_)
            refine xr_op rfl rfl (xv_load1 ty3 rfl rfl (by (first | ((repeat first | exact zm0 | assumption | refine zm1 ?_ | refine zmr ?_); done) | ((repeat refine zm1 ?_); refine zml ?_; (repeat first | exact zm0 | assumption | refine zm1 ?_ | refine zmr ?_); done) | ((repeat refine zm1 ?_); refine zmr ?_; (repeat refine zm1 ?_); refine zml ?_; (repeat first | exact zm0 | assumption | refine zm1 ?_ | refine zmr ?_); done) | ((repeat first | exact zm0 | assumption | refine zm1 ?_ | refine zml ?_); done))) (by rfl) ?_)
            refine xr_op rfl rfl (xv_cmpK rfl rfl (cmpF rfl (by simp only [cmpP]; omega)) ?_)
            refine xr_end rfl ?_
            refine th_n ?_
            refine xc_false rfl ?_
            refine xc_skip ?_
            refine bk_n ?_
            refine th_n ?_
            refine xc_region ?_
            refine xr_op rfl rfl (xv_move rfl ?_)
            refine xr_op rfl rfl (xv_add rfl rfl (wrap_i64 (by (first | omega | (dsimp only at *; omega) | (simp at *; omega))) (by (first | omega | (dsimp only at *; omega) | (simp at *; omega)))) ?_)
            refine xr_op rfl rfl (xv_assign rfl ?_)
            refine xr_end rfl ?_
            exact rnd (i + 1) (by (first | omega | (dsimp only at *; omega) | (simp at *; omega))) (by (first | omega | (dsimp only at *; omega) | (simp at *; omega))) (le_put (le_put (le_put (le_emp _) rfl) rfl) rfl) (by (first | ((repeat first | exact List.Sublist.refl _ | exact List.nil_sublist _ | exact List.Sublist.cons_cons _ (List.Sublist.refl _) | exact List.sublist_append_left _ _ | refine List.Sublist.append (List.Sublist.refl _) ?_ | refine List.Sublist.cons_cons _ ?_ | refine List.Sublist.cons _ ?_ | refine List.Sublist.trans ?_ (List.sublist_append_right _ _)); done) | ((repeat first | exact List.Sublist.refl _ | exact List.nil_sublist _ | exact List.Sublist.cons_cons _ (List.Sublist.refl _) | exact List.sublist_append_left _ _ | refine List.Sublist.append (List.Sublist.refl _) ?_ | refine List.Sublist.cons_cons _ ?_ | refine List.Sublist.cons _ ?_ | refine List.Sublist.trans ?_ (List.sublist_append_left _ _)); done)))
        · refine xr_end rfl ?_
          refine th_n ?_
          refine xc_false rfl ?_
          refine xc_exit ?_
          refine th_x ?_
          refine th_x ?_
          refine bk_same ?_
          refine th_n ?_
          refine xc_seq (xc_region ?_)
          refine xr_op rfl rfl (xv_calls rfl hb10 (awake_c (up_ret ?_)))
          refine xr_op rfl rfl (xv_assign rfl ?_)
          refine xr_end rfl ?_
          refine th_n ?_
          refine xc_ret ?_
          refine body_ret (h' := h) rfl (ro_tmp rfl ro_nil) (by (first | ((repeat first | exact List.Sublist.refl _ | exact List.nil_sublist _ | exact List.Sublist.cons_cons _ (List.Sublist.refl _) | exact List.sublist_append_left _ _ | refine List.Sublist.append (List.Sublist.refl _) ?_ | refine List.Sublist.cons_cons _ ?_ | refine List.Sublist.cons _ ?_ | refine List.Sublist.trans ?_ (List.sublist_append_right _ _)); done) | ((repeat first | exact List.Sublist.refl _ | exact List.nil_sublist _ | exact List.Sublist.cons_cons _ (List.Sublist.refl _) | exact List.sublist_append_left _ _ | refine List.Sublist.append (List.Sublist.refl _) ?_ | refine List.Sublist.cons_cons _ ?_ | refine List.Sublist.cons _ ?_ | refine List.Sublist.trans ?_ (List.sublist_append_left _ _)); done))) ?_
          exact H

end Go.Proofs.Ytjmailhoidenaaa
