/-
  Each Go function computes its Lean function (part 3).
-/
import Derived.Test.YtlfhlajpdmcnaabGreatDoorWalks2
namespace Go.Proofs.YtlfhlajpdmcnaabGreatDoor
open Go Go.RowKit Go.Proofs
set_option maxRecDepth 100000

theorem c_impl_ColorAt (w : World) (a_c : GCell) (a_side : Int) {r : Int} (t0 : impl_ColorAt a_c a_side = some r) : Calls Tryz.prog 107 #[.agg #[.int .i64 a_c.Split, .int .i64 a_c.A, .int .i64 a_c.B], .int .i64 a_side] w fun e w' => e = .returned (.int .i64 r) ∧ SH w [] [] w' := by
  refine calls_of_wc (args := [_, _]) Tryz.func107 rfl Tryz.ntmps107 rfl ?_
  unfold impl_ColorAt at t0
  refine wcr ?_
  refine wl_eff (eo_box rfl rfl) rfl fun b1 => ?_
  refine asg rfl rfl ?_
  refine wnt ?_
  refine wc_seq ?_
  refine wc_seq ?_
  refine bdO t0 fun y1 t1 t0 => ?_
  refine wj (J := Bool) (X := Unit) (fun z => y1 = z) (fun z _ => [(1, .int .i64 a_side), (2, ptr b1 0), (12, .bool z)]) (fun _ _ => [box b1 [.int .i64 a_c.Split, .int .i64 a_c.A, .int .i64 a_c.B]]) ?_ ?_
  · skip
    refine wc_region ?_
    refine wl_pure (v := .agg #[.int .i64 a_c.Split, .int .i64 a_c.A, .int .i64 a_c.B]) (po_load_boxs tk_75 pick0 rfl rfl rfl) rfl ?_
    refine bdO t1 fun v1 hv1 t1 => ?_
    refine wl_call (co_c0 fa_69 rfl fun w hw => c_impl_CellOk w a_c hv1) rfl fun _ => ?_
    refine wl_pure (po_not rfl) rfl ?_
    refine mv rfl rfl ?_
    refine wlO_ (t := 8) t1 rfl (fun h1 t1 => ?_) fun h1 t1 => ?_
    · skip
      refine wl_guard_off (j := 3) rfl rfl rfl rfl rfl ?_
      refine wl_guard_off (j := 3) rfl rfl rfl rfl rfl ?_
      refine wl_guard_off (j := 3) rfl rfl rfl rfl rfl ?_
      refine wl_pure (po_pick_t rfl rfl) rfl ?_
      refine wl_nil ?_
      exact wj_meet _ () (mtE t1) (sub_cons rfl (sub_cons rfl (sub_cons rfl sub_nil))) (some_cons pick0 some_nil)
    refine wl_guard_on (j := 3) rfl rfl rfl (mv rfl rfl ?_)
    refine bdO t1 fun v2 hv2 t1 => ?_
    refine wl_guard_on (j := 3) rfl rfl rfl (wl_call (co_c0 fa_51 rfl fun w hw => c_impl_within w a_side 0 3 hv2) rfl (fun _ => ?_))
    refine wl_guard_on (j := 3) rfl rfl rfl (wl_pure (po_not rfl) rfl ?_)
    refine wl_pure (po_pick_f rfl rfl) rfl ?_
    refine wl_nil ?_
    exact wj_meet _ () (mtE t1) (sub_cons rfl (sub_cons rfl (sub_cons rfl sub_nil))) (some_cons pick0 some_nil)
  intro j1 _ hp
  obtain rfl : j1 = y1 := hp.symm
  refine wq_then ?_
  refine wcO t0 rfl (fun h2 t0 => ?_) fun h2 t0 => ?_
  · skip
    refine wcr ?_
    refine asg rfl rfl ?_
    refine wnt ?_
    refine wc_ret ?_
    refine wq_then_ret ?_
    obtain rfl := Option.some.inj t0
    exact wq_ret1 rfl rfl fun w hw => ⟨rfl, hw.weak some_nil⟩
  refine wc_skip ?_
  refine wq_then ?_
  refine wc_seq ?_
  refine wc_seq ?_
  refine wc_join (X := Unit) (fun _ => True) (fun _ => [(2, ptr b1 0), (32, .bool ((a_side == 0) || (bif (a_c.Split == 1) then ((a_side == 1) || ((a_c.Split == 2) && (a_side == 3))) else ((a_c.Split == 2) && (a_side == 3)))))]) (fun _ => [box b1 [.int .i64 a_c.Split, .int .i64 a_c.A, .int .i64 a_c.B]]) ?_ ?_
  · skip
    refine wc_region ?_
    refine mv rfl rfl ?_
    refine wl_pure (po_eql rfl rfl) rfl ?_
    refine mv rfl rfl ?_
    refine wl_fork (t := 15) rfl (fun h3 => ?_) fun h3 => ?_
    · skip
      refine wl_guard_off (j := 2) rfl rfl rfl rfl rfl ?_
      refine wl_guard_off (j := 2) rfl rfl rfl rfl rfl ?_
      refine wl_guard_off (j := 2) rfl rfl rfl rfl rfl ?_
      refine wl_guard_off (j := 2) rfl rfl rfl rfl rfl ?_
      refine wl_guard_undef (j := 6) rfl rfl rfl rfl ?_
      refine wl_guard_undef (j := 6) rfl rfl rfl rfl ?_
      refine wl_guard_off (j := 2) rfl rfl rfl rfl rfl ?_
      refine wl_pure (po_pick_t rfl rfl) rfl ?_
      refine mv rfl rfl ?_
      refine wl_guard_off (j := 11) rfl rfl rfl rfl rfl ?_
      refine wl_guard_off (j := 11) rfl rfl rfl rfl rfl ?_
      refine wl_guard_off (j := 11) rfl rfl rfl rfl rfl ?_
      refine wl_guard_off (j := 11) rfl rfl rfl rfl rfl ?_
      refine wl_guard_undef (j := 15) rfl rfl rfl rfl ?_
      refine wl_guard_undef (j := 15) rfl rfl rfl rfl ?_
      refine wl_guard_off (j := 11) rfl rfl rfl rfl rfl ?_
      refine wl_pure (po_pick_t rfl rfl) rfl ?_
      refine wl_nil ?_
      exact wq_meet () trivial (sub_cons rfl (sub_b rfl (by rw [h3]; rfl) sub_nil)) (some_cons pick0 some_nil)
    refine wl_guard_on (j := 2) rfl rfl rfl (wl_pure (po_fld fo_75_0 rfl) rfl ?_)
    refine wl_guard_on (j := 2) rfl rfl rfl (wl_pure (v := .int .i64 a_c.Split) (po_load_box tk_3 pick0 rfl rfl) rfl ?_)
    refine wl_guard_on (j := 2) rfl rfl rfl (wl_pure (po_eql rfl rfl) rfl ?_)
    refine wl_guard_on (j := 2) rfl rfl rfl (mv rfl rfl ?_)
    refine wl_fork (t := 19) rfl (fun h4 => ?_) fun h4 => ?_
    · skip
      refine wl_guard_on (j := 6) rfl rfl rfl (mv rfl rfl ?_)
      refine wl_guard_on (j := 6) rfl rfl rfl (wl_pure (po_eql rfl rfl) rfl ?_)
      refine wl_guard_on (j := 2) rfl rfl rfl (wl_pure (po_pick_t rfl rfl) rfl ?_)
      refine wl_pure (po_pick_f rfl rfl) rfl ?_
      refine mv rfl rfl ?_
      refine wl_fork (t := 24) rfl (fun h5 => ?_) fun h5 => ?_
      · skip
        refine wl_guard_off (j := 11) rfl rfl rfl rfl rfl ?_
        refine wl_guard_off (j := 11) rfl rfl rfl rfl rfl ?_
        refine wl_guard_off (j := 11) rfl rfl rfl rfl rfl ?_
        refine wl_guard_off (j := 11) rfl rfl rfl rfl rfl ?_
        refine wl_guard_undef (j := 15) rfl rfl rfl rfl ?_
        refine wl_guard_undef (j := 15) rfl rfl rfl rfl ?_
        refine wl_guard_off (j := 11) rfl rfl rfl rfl rfl ?_
        refine wl_pure (po_pick_t rfl rfl) rfl ?_
        refine wl_nil ?_
        exact wq_meet () trivial (sub_cons rfl (sub_b rfl (by rw [h3, h4, h5]; rfl) sub_nil)) (some_cons pick0 some_nil)
      refine wl_guard_on (j := 11) rfl rfl rfl (wl_pure (po_fld fo_75_0 rfl) rfl ?_)
      refine wl_guard_on (j := 11) rfl rfl rfl (wl_pure (v := .int .i64 a_c.Split) (po_load_box tk_3 pick0 rfl rfl) rfl ?_)
      refine wl_guard_on (j := 11) rfl rfl rfl (wl_pure (po_eql rfl rfl) rfl ?_)
      refine wl_guard_on (j := 11) rfl rfl rfl (mv rfl rfl ?_)
      refine wl_fork (t := 28) rfl (fun h6 => ?_) fun h6 => ?_
      · skip
        refine wl_guard_on (j := 15) rfl rfl rfl (mv rfl rfl ?_)
        refine wl_guard_on (j := 15) rfl rfl rfl (wl_pure (po_eql rfl rfl) rfl ?_)
        refine wl_guard_on (j := 11) rfl rfl rfl (wl_pure (po_pick_t rfl rfl) rfl ?_)
        refine wl_pure (po_pick_f rfl rfl) rfl ?_
        refine wl_nil ?_
        exact wq_meet () trivial (sub_cons rfl (sub_b rfl (by rw [h3, h4, h5, h6]; rfl) sub_nil)) (some_cons pick0 some_nil)
      refine wl_guard_off (j := 15) rfl rfl rfl rfl rfl ?_
      refine wl_guard_off (j := 15) rfl rfl rfl rfl rfl ?_
      refine wl_guard_on (j := 11) rfl rfl rfl (wl_pure (po_pick_f rfl rfl) rfl ?_)
      refine wl_pure (po_pick_f rfl rfl) rfl ?_
      refine wl_nil ?_
      exact wq_meet () trivial (sub_cons rfl (sub_b rfl (by rw [h3, h4, h5, h6]; rfl) sub_nil)) (some_cons pick0 some_nil)
    refine wl_guard_off (j := 6) rfl rfl rfl rfl rfl ?_
    refine wl_guard_off (j := 6) rfl rfl rfl rfl rfl ?_
    refine wl_guard_on (j := 2) rfl rfl rfl (wl_pure (po_pick_f rfl rfl) rfl ?_)
    refine wl_pure (po_pick_f rfl rfl) rfl ?_
    refine mv rfl rfl ?_
    refine wl_guard_on (j := 11) rfl rfl rfl (wl_pure (po_fld fo_75_0 rfl) rfl ?_)
    refine wl_guard_on (j := 11) rfl rfl rfl (wl_pure (v := .int .i64 a_c.Split) (po_load_box tk_3 pick0 rfl rfl) rfl ?_)
    refine wl_guard_on (j := 11) rfl rfl rfl (wl_pure (po_eql rfl rfl) rfl ?_)
    refine wl_guard_on (j := 11) rfl rfl rfl (mv rfl rfl ?_)
    refine wl_fork (t := 28) rfl (fun h7 => ?_) fun h7 => ?_
    · skip
      refine wl_guard_on (j := 15) rfl rfl rfl (mv rfl rfl ?_)
      refine wl_guard_on (j := 15) rfl rfl rfl (wl_pure (po_eql rfl rfl) rfl ?_)
      refine wl_guard_on (j := 11) rfl rfl rfl (wl_pure (po_pick_t rfl rfl) rfl ?_)
      refine wl_pure (po_pick_f rfl rfl) rfl ?_
      refine wl_nil ?_
      exact wq_meet () trivial (sub_cons rfl (sub_b rfl (by rw [h3, h4, h7]; rfl) sub_nil)) (some_cons pick0 some_nil)
    refine wl_guard_off (j := 15) rfl rfl rfl rfl rfl ?_
    refine wl_guard_off (j := 15) rfl rfl rfl rfl rfl ?_
    refine wl_guard_on (j := 11) rfl rfl rfl (wl_pure (po_pick_f rfl rfl) rfl ?_)
    refine wl_pure (po_pick_f rfl rfl) rfl ?_
    refine wl_nil ?_
    exact wq_meet () trivial (sub_cons rfl (sub_b rfl (by rw [h3, h4, h7]; rfl) sub_nil)) (some_cons pick0 some_nil)
  intro _ _
  refine wq_then ?_
  refine wcO t0 rfl (fun h8 t0 => ?_) fun h8 t0 => ?_
  · skip
    refine wcr ?_
    refine wl_pure (po_fld fo_75_1 rfl) rfl ?_
    refine wl_pure (v := .int .i64 a_c.A) (po_load_box tk_3 pick0 rfl rfl) rfl ?_
    refine asg rfl rfl ?_
    refine wnt ?_
    refine wc_ret ?_
    refine wq_then_ret ?_
    obtain rfl := Option.some.inj t0
    exact wq_ret1 rfl rfl fun w hw => ⟨rfl, hw.weak some_nil⟩
  refine wc_skip ?_
  refine wq_then ?_
  refine wcr ?_
  refine wl_pure (po_fld fo_75_2 rfl) rfl ?_
  refine wl_pure (v := .int .i64 a_c.B) (po_load_box tk_3 pick0 rfl rfl) rfl ?_
  refine asg rfl rfl ?_
  refine wnt ?_
  refine wc_ret ?_
  obtain rfl := Option.some.inj t0
  exact wq_ret1 rfl rfl fun w hw => ⟨rfl, hw.weak some_nil⟩

theorem c_impl_CellLikeness (w : World) (a_c : GCell) (a_d : GCell) {r : Int} (t0 : impl_CellLikeness a_c a_d = some r) : Calls Tryz.prog 95 #[.agg #[.int .i64 a_c.Split, .int .i64 a_c.A, .int .i64 a_c.B], .agg #[.int .i64 a_d.Split, .int .i64 a_d.A, .int .i64 a_d.B]] w fun e w' => e = .returned (.int .i64 r) ∧ SH w [] [] w' := by
  refine calls_of_wc (args := [_, _]) Tryz.func95 rfl Tryz.ntmps95 rfl ?_
  unfold impl_CellLikeness at t0
  refine wcr ?_
  refine wl_eff (eo_box rfl rfl) rfl fun b1 => ?_
  refine wl_eff (eo_box rfl rfl) rfl fun b2 => ?_
  refine asg rfl rfl ?_
  refine wnt ?_
  refine wc_seq ?_
  refine wc_seq ?_
  refine bdO t0 fun y1 t1 t0 => ?_
  refine wj (J := Bool) (X := Unit) (fun z => y1 = z) (fun z _ => [(2, ptr b1 0), (3, ptr b2 0), (14, .bool z)]) (fun _ _ => [box b2 [.int .i64 a_d.Split, .int .i64 a_d.A, .int .i64 a_d.B], box b1 [.int .i64 a_c.Split, .int .i64 a_c.A, .int .i64 a_c.B]]) ?_ ?_
  · skip
    refine wc_region ?_
    refine wl_pure (v := .agg #[.int .i64 a_c.Split, .int .i64 a_c.A, .int .i64 a_c.B]) (po_load_boxs tk_75 (pickS pick0) rfl rfl rfl) rfl ?_
    refine bdO t1 fun v1 hv1 t1 => ?_
    refine wl_call (co_c0 fa_69 rfl fun w hw => c_impl_CellOk w a_c hv1) rfl fun _ => ?_
    refine wl_pure (po_not rfl) rfl ?_
    refine mv rfl rfl ?_
    refine wlO_ (t := 10) t1 rfl (fun h1 t1 => ?_) fun h1 t1 => ?_
    · skip
      refine wl_guard_off (j := 3) rfl rfl rfl rfl rfl ?_
      refine wl_guard_off (j := 3) rfl rfl rfl rfl rfl ?_
      refine wl_guard_off (j := 3) rfl rfl rfl rfl rfl ?_
      refine wl_pure (po_pick_t rfl rfl) rfl ?_
      refine wl_nil ?_
      exact wj_meet _ () (mtE t1) (sub_cons rfl (sub_cons rfl (sub_cons rfl sub_nil))) (some_cons pick0 (some_cons pick0 some_nil))
    refine wl_guard_on (j := 3) rfl rfl rfl (wl_pure (v := .agg #[.int .i64 a_d.Split, .int .i64 a_d.A, .int .i64 a_d.B]) (po_load_boxs tk_75 pick0 rfl rfl rfl) rfl ?_)
    refine bdO t1 fun v2 hv2 t1 => ?_
    refine wl_guard_on (j := 3) rfl rfl rfl (wl_call (co_c0 fa_69 rfl fun w hw => c_impl_CellOk w a_d hv2) rfl (fun _ => ?_))
    refine wl_guard_on (j := 3) rfl rfl rfl (wl_pure (po_not rfl) rfl ?_)
    refine wl_pure (po_pick_f rfl rfl) rfl ?_
    refine wl_nil ?_
    exact wj_meet _ () (mtE t1) (sub_cons rfl (sub_cons rfl (sub_cons rfl sub_nil))) (some_cons pick0 (some_cons pick0 some_nil))
  intro j1 _ hp
  obtain rfl : j1 = y1 := hp.symm
  refine wq_then ?_
  refine wcO t0 rfl (fun h2 t0 => ?_) fun h2 t0 => ?_
  · skip
    refine wcr ?_
    refine asg rfl rfl ?_
    refine wnt ?_
    refine wc_ret ?_
    refine wq_then_ret ?_
    obtain rfl := Option.some.inj t0
    exact wq_ret1 rfl rfl fun w hw => ⟨rfl, hw.weak some_nil⟩
  refine wc_skip ?_
  refine wq_then ?_
  refine wcr ?_
  refine asg rfl rfl ?_
  refine wnt ?_
  refine wc_seq ?_
  refine wcr ?_
  refine mv rfl rfl ?_
  refine wnt ?_
  refine lpO_inv t0 fun y1 l1 t0 => ?_
  refine wj (J := Int) (X := Unit) (fun z => y1 = z) (fun z _ => [(5, .int .i64 z)]) (fun _ _ => []) ?_ ?_
  · skip
    refine wc_block ?_
    refine wc_forO (X := Unit) l1 (fun k1 s1 x1l => [(2, ptr b1 0), (3, ptr b2 0), (5, .int .i64 s1), (15, .int .i64 ((k1 : Nat) : Int))]) (fun k1 s1 x1l => [box b2 [.int .i64 a_d.Split, .int .i64 a_d.A, .int .i64 a_d.B], box b1 [.int .i64 a_c.Split, .int .i64 a_c.A, .int .i64 a_c.B]]) () (sub_cons rfl (sub_cons rfl (sub_cons rfl (sub_cons rfl sub_nil)))) (some_cons pick0 (some_cons pick0 some_nil)) fun k1 s1 x1l hN1 l1 => ?_
    by_cases hk1 : k1 < 4
    · skip
      refine forO_step l1 hk1 fun _ t1 l1 => ?_
      unfold impl_CellLikeness_L1 at t1
      have c1 : (decide (((k1 : Nat) : Int) < 4)) = true := decide_eq_true (by omega)
      refine wcr ?_
      refine wl_pure (po_lss rfl rfl) rfl ?_
      refine wnt ?_
      refine wc_seq ?_
      refine wc_cond_t rfl c1 ?_
      refine wc_skip ?_
      refine wq_then ?_
      refine wc_seq ?_
      refine wc_block ?_
      refine wcr ?_
      refine mv rfl rfl ?_
      refine asg rfl rfl ?_
      refine wnt ?_
      refine wc_seq ?_
      refine wc_draw [box b2 [.int .i64 a_d.Split, .int .i64 a_d.A, .int .i64 a_d.B], box b1 [.int .i64 a_c.Split, .int .i64 a_c.A, .int .i64 a_c.B]] 7 mixed ?_
      refine wa_pure (v := .agg #[.int .i64 a_c.Split, .int .i64 a_c.A, .int .i64 a_c.B]) 0 rfl (po_load_boxs tk_75 (pickS pick0) rfl rfl rfl) (some_cons pick0 (some_cons pick0 some_nil)) rfl (by kernel_rfl) (fun _ _ _ h => h) ?_
      refine wa_pure 1 rfl (po_move rfl) (some_cons pick0 (some_cons pick0 some_nil)) rfl (by kernel_rfl) (fun _ _ _ h => h) ?_
      refine wa_pure (v := .agg #[.int .i64 a_d.Split, .int .i64 a_d.A, .int .i64 a_d.B]) 3 rfl (po_load_boxs tk_75 pick0 rfl rfl rfl) (some_cons pick0 (some_cons pick0 some_nil)) rfl (by kernel_rfl) (fun _ _ _ h => h) ?_
      refine wa_pure 4 rfl (po_move rfl) (some_cons pick0 (some_cons pick0 some_nil)) rfl (by kernel_rfl) (fun _ _ _ h => h) ?_
      refine wa_1 (i := 2) (by kernel_rfl) ?_
      refine bdO t1 fun v3 hv3 t1 => ?_
      refine ws_call rfl (co_c0 fa_107 rfl fun w hw => c_impl_ColorAt w a_c ((k1 : Nat) : Int) hv3) (fun _ => (sts_some (some_cons pick0 (some_cons pick0 some_nil)))) rfl fun _ => ?_
      refine wa_1 (i := 5) (by kernel_rfl) ?_
      refine bdO t1 fun v4 hv4 t1 => ?_
      refine ws_call rfl (co_c0 fa_107 rfl fun w hw => c_impl_ColorAt w a_d ((k1 : Nat) : Int) hv4) (fun _ => (sts_some (some_cons pick0 (some_cons pick0 some_nil)))) rfl fun _ => ?_
      refine wa_pure 6 rfl (po_eql rfl rfl) (some_cons pick0 (some_cons pick0 some_nil)) rfl (by kernel_rfl) (fun _ _ _ h => h) ?_
      refine wa_done (by kernel_rfl) ?_
      refine wq_then ?_
      refine wc_join (X := Unit) (fun _ => True) (fun _ => [(2, ptr b1 0), (3, ptr b2 0), (5, .int .i64 (bif (v3 == v4) then (wr (s1 + 1)) else s1)), (15, .int .i64 ((k1 : Nat) : Int))]) (fun _ => [box b2 [.int .i64 a_d.Split, .int .i64 a_d.A, .int .i64 a_d.B], box b1 [.int .i64 a_c.Split, .int .i64 a_c.A, .int .i64 a_c.B]]) ?_ ?_
      · skip
        refine wc_cond rfl (fun h3 => ?_) fun h3 => ?_
        · skip
          refine wc_region ?_
          refine mv rfl rfl ?_
          refine wl_pure (po_add rfl rfl) rfl ?_
          refine asg rfl rfl ?_
          refine wl_nil ?_
          exact wq_meet () trivial (sub_cons rfl (sub_cons rfl (sub_i rfl (by simp only [h3, cond_true]) (sub_cons rfl sub_nil)))) (some_cons pick0 (some_cons pick0 some_nil))
        refine wc_skip ?_
        exact wq_meet () trivial (sub_cons rfl (sub_cons rfl (sub_i rfl (by simp only [h3, cond_false]) (sub_cons rfl sub_nil)))) (some_cons pick0 (some_cons pick0 some_nil))
      intro _ _
      refine wq_block ?_
      refine wq_then ?_
      refine wc_region ?_
      refine wl_pure (po_inc rfl rfl (by omega)) rfl ?_
      refine mv rfl rfl ?_
      refine wl_nil ?_
      exact wq_rnd hk1 (stpN l1 t1) () (sub_cons rfl (sub_cons rfl (sub_cons rfl (sub_cons rfl sub_nil)))) (some_cons pick0 (some_cons pick0 some_nil))
    have c1 : (decide (((k1 : Nat) : Int) < 4)) = false := decide_eq_false (by omega)
    have en1 := forO_end l1 hk1
    refine wcr ?_
    refine wl_pure (po_lss rfl rfl) rfl ?_
    refine wnt ?_
    refine wc_seq ?_
    refine wc_cond_f rfl c1 ?_
    refine wc_exit ?_
    refine wq_then_exit ?_
    refine wq_then_exit ?_
    refine wq_block_exit ?_
    exact wj_meet _ () (Sum.inl.inj en1) (sub_cons rfl sub_nil) some_nil
  intro e1 _ hp
  obtain rfl : e1 = y1 := hp.symm
  refine wq_then ?_
  refine wcr ?_
  refine mv rfl rfl ?_
  refine asg rfl rfl ?_
  refine wnt ?_
  refine wc_ret ?_
  obtain rfl := Option.some.inj t0
  exact wq_ret1 rfl rfl fun w hw => ⟨rfl, hw.weak some_nil⟩

theorem c_impl_Likeness (w : World) (a_b : GBlock) (v0a : Hd) (r0 : rdF w (dm w []) (sl v0a) a_b.Cells) (a_d : GBlock) (v1a : Hd) (r1 : rdF w (dm w []) (sl v1a) a_d.Cells) {r : Int} (t0 : impl_Likeness a_b a_d = some r) : Calls Tryz.prog 77 #[.agg #[.int .i64 a_b.Size, (sl v0a)], .agg #[.int .i64 a_d.Size, (sl v1a)]] w fun e w' => e = .returned (.int .i64 r) ∧ SH w [] [] w' := by
  refine calls_of_wc (args := [_, _]) Tryz.func77 rfl Tryz.ntmps77 rfl ?_
  unfold impl_Likeness at t0
  refine wcr ?_
  refine wl_eff (eo_box rfl rfl) rfl fun b1 => ?_
  refine wl_eff (eo_box rfl rfl) rfl fun b2 => ?_
  refine asg rfl rfl ?_
  refine wnt ?_
  refine wc_seq ?_
  refine wcr ?_
  refine wl_pure (v := .agg #[.int .i64 a_b.Size, (sl v0a)]) (po_load_boxs tk_31 (pickS pick0) rfl rfl rfl) rfl ?_
  refine wl_pure (v := .agg #[.int .i64 a_d.Size, (sl v1a)]) (po_load_boxs tk_31 pick0 rfl rfl rfl) rfl ?_
  refine bdO t0 fun v1 hv1 t0 => ?_
  refine wl_call (co_c0 fa_55 rfl fun w hw => c_impl_arePaired w a_b v0a (Rg.on (rds_arg r0) hw) a_d v1a (Rg.on (rds_arg r1) hw) hv1) rfl fun _ => ?_
  refine wl_pure (po_not rfl) rfl ?_
  refine wnt ?_
  refine wcO t0 rfl (fun h1 t0 => ?_) fun h1 t0 => ?_
  · skip
    refine wcr ?_
    refine asg rfl rfl ?_
    refine wnt ?_
    refine wc_ret ?_
    refine wq_then_ret ?_
    obtain rfl := Option.some.inj t0
    exact wq_ret1 rfl rfl fun w hw => ⟨rfl, hw.weak some_nil⟩
  refine wc_skip ?_
  refine wq_then ?_
  refine wcr ?_
  refine asg rfl rfl ?_
  refine wnt ?_
  refine wc_seq ?_
  refine wcr ?_
  refine wl_pure (po_fld fo_31_1 rfl) rfl ?_
  refine wl_pure (v := (sl v0a)) (po_load_box tk_29 (pickS pick0) rfl rfl) rfl ?_
  refine wl_pure (po_lenr (rds_arg r0) el_29 rfl) rfl ?_
  refine mv rfl rfl ?_
  refine wnt ?_
  refine gdO t0 fun g1 t0 => ?_
  refine lpO_inv t0 fun y1 l1 t0 => ?_
  refine wj (J := Int) (X := Unit) (fun z => y1 = z) (fun z _ => [(5, .int .i64 z)]) (fun _ _ => []) ?_ ?_
  · skip
    refine wc_block ?_
    refine wc_forO (X := Unit) l1 (fun k1 s1 x1l => [(2, ptr b1 0), (3, ptr b2 0), (5, .int .i64 s1), (13, .int .i64 ((a_b.Cells.length : Nat) : Int)), (14, .int .i64 ((k1 : Nat) : Int))]) (fun k1 s1 x1l => [box b2 [.int .i64 a_d.Size, (sl v1a)], box b1 [.int .i64 a_b.Size, (sl v0a)]]) () (sub_cons rfl (sub_cons rfl (sub_cons rfl (sub_cons rfl (sub_cons rfl sub_nil))))) (some_cons pick0 (some_cons pick0 some_nil)) fun k1 s1 x1l hN1 l1 => ?_
    by_cases hk1 : k1 < a_b.Cells.length
    · skip
      refine forO_step l1 hk1 fun _ t1 l1 => ?_
      unfold impl_Likeness_L1 at t1
      have c1 : (decide (((k1 : Nat) : Int) < ((a_b.Cells.length : Nat) : Int))) = true := decide_eq_true (by omega)
      refine wcr ?_
      refine wl_pure (po_lss rfl rfl) rfl ?_
      refine wnt ?_
      refine wc_seq ?_
      refine wc_cond_t rfl c1 ?_
      refine wc_skip ?_
      refine wq_then ?_
      refine wc_seq ?_
      refine wc_block ?_
      refine wcr ?_
      refine mv rfl rfl ?_
      refine asg rfl rfl ?_
      refine wnt ?_
      refine wc_draw [box b2 [.int .i64 a_d.Size, (sl v1a)], box b1 [.int .i64 a_b.Size, (sl v0a)]] 14 mixed ?_
      refine wa_pure 0 rfl (po_move rfl) (some_cons pick0 (some_cons pick0 some_nil)) rfl (by kernel_rfl) (fun _ _ _ h => h) ?_
      refine wa_pure 1 rfl (po_fld fo_31_1 rfl) (some_cons pick0 (some_cons pick0 some_nil)) rfl (by kernel_rfl) (fun _ _ _ h => h) ?_
      refine wa_pure (v := (sl v0a)) 2 rfl (po_load_box tk_29 (pickS pick0) rfl rfl) (some_cons pick0 (some_cons pick0 some_nil)) rfl (by kernel_rfl) (fun _ _ _ h => h) ?_
      refine wa_pure 3 rfl (po_move rfl) (some_cons pick0 (some_cons pick0 some_nil)) rfl (by kernel_rfl) (fun _ _ _ h => h) ?_
      refine wa_pure 4 rfl (po_ixn (k := k1) (rds_arg r0) el_29 rfl rfl hk1) (some_cons pick0 (some_cons pick0 some_nil)) rfl (by kernel_rfl) (fun _ _ _ h => h) ?_
      refine wa_pure (v := .agg #[.int .i64 ((gx a_b.Cells k1).Split), .int .i64 ((gx a_b.Cells k1).A), .int .i64 ((gx a_b.Cells k1).B)]) 5 rfl (po_ldfs (rds_arg r0) tk_75 rfl hk1 rfl rfl rfl) (some_cons pick0 (some_cons pick0 some_nil)) rfl (by kernel_rfl) (fun _ _ _ h => h) ?_
      refine wa_pure 6 rfl (po_fld fo_31_1 rfl) (some_cons pick0 (some_cons pick0 some_nil)) rfl (by kernel_rfl) (fun _ _ _ h => h) ?_
      refine wa_pure (v := (sl v1a)) 7 rfl (po_load_box tk_29 pick0 rfl rfl) (some_cons pick0 (some_cons pick0 some_nil)) rfl (by kernel_rfl) (fun _ _ _ h => h) ?_
      refine wa_pure 8 rfl (po_move rfl) (some_cons pick0 (some_cons pick0 some_nil)) rfl (by kernel_rfl) (fun _ _ _ h => h) ?_
      refine gdO t1 fun g2 t1 => ?_
      refine wa_pure 9 rfl (po_ixn (k := k1) (rds_arg r1) el_29 rfl rfl g2) (some_cons pick0 (some_cons pick0 some_nil)) rfl (by kernel_rfl) (fun _ _ _ h => h) ?_
      refine wa_pure (v := .agg #[.int .i64 ((gx a_d.Cells k1).Split), .int .i64 ((gx a_d.Cells k1).A), .int .i64 ((gx a_d.Cells k1).B)]) 10 rfl (po_ldfs (rds_arg r1) tk_75 rfl g2 rfl rfl rfl) (some_cons pick0 (some_cons pick0 some_nil)) rfl (by kernel_rfl) (fun _ _ _ h => h) ?_
      refine wa_1 (i := 11) (by kernel_rfl) ?_
      refine bdO t1 fun v2 hv2 t1 => ?_
      refine ws_call rfl (co_c0 fa_95 rfl fun w hw => c_impl_CellLikeness w (gx a_b.Cells k1) (gx a_d.Cells k1) hv2) (fun _ => (sts_some (some_cons pick0 (some_cons pick0 some_nil)))) rfl fun _ => ?_
      refine wa_pure 12 rfl (po_add rfl rfl) (some_cons pick0 (some_cons pick0 some_nil)) rfl (by kernel_rfl) (fun _ _ _ h => h) ?_
      refine wa_pure 13 rfl (po_assign rfl) (some_cons pick0 (some_cons pick0 some_nil)) rfl (by kernel_rfl) (fun _ _ _ h => h) ?_
      refine wa_done (by kernel_rfl) ?_
      refine wq_block ?_
      refine wq_then ?_
      refine wc_region ?_
      refine wl_pure (po_inc rfl rfl (by omega)) rfl ?_
      refine mv rfl rfl ?_
      refine wl_nil ?_
      exact wq_rnd hk1 (stpN l1 t1) () (sub_cons rfl (sub_cons rfl (sub_cons rfl (sub_cons rfl (sub_cons rfl sub_nil))))) (some_cons pick0 (some_cons pick0 some_nil))
    have c1 : (decide (((k1 : Nat) : Int) < ((a_b.Cells.length : Nat) : Int))) = false := decide_eq_false (by omega)
    have en1 := forO_end l1 hk1
    refine wcr ?_
    refine wl_pure (po_lss rfl rfl) rfl ?_
    refine wnt ?_
    refine wc_seq ?_
    refine wc_cond_f rfl c1 ?_
    refine wc_exit ?_
    refine wq_then_exit ?_
    refine wq_then_exit ?_
    refine wq_block_exit ?_
    exact wj_meet _ () (Sum.inl.inj en1) (sub_cons rfl sub_nil) some_nil
  intro e1 _ hp
  obtain rfl : e1 = y1 := hp.symm
  refine wq_then ?_
  refine wcr ?_
  refine mv rfl rfl ?_
  refine asg rfl rfl ?_
  refine wnt ?_
  refine wc_ret ?_
  obtain rfl := Option.some.inj t0
  exact wq_ret1 rfl rfl fun w hw => ⟨rfl, hw.weak some_nil⟩

theorem c_impl_BestLikeness (w : World) (a_b : GBlock) (v0a : Hd) (r0 : rdF w (dm w []) (sl v0a) a_b.Cells) (a_d : GBlock) (v1a : Hd) (r1 : rdF w (dm w []) (sl v1a) a_d.Cells) {r : Int} (t0 : impl_BestLikeness a_b a_d = some r) : Calls Tryz.prog 59 #[.agg #[.int .i64 a_b.Size, (sl v0a)], .agg #[.int .i64 a_d.Size, (sl v1a)]] w fun e w' => e = .returned (.int .i64 r) ∧ SH w [] [] w' := by
  refine calls_of_wc (args := [_, _]) Tryz.func59 rfl Tryz.ntmps59 rfl ?_
  unfold impl_BestLikeness at t0
  refine wcr ?_
  refine wl_eff (eo_box rfl rfl) rfl fun b1 => ?_
  refine wl_eff (eo_box rfl rfl) rfl fun b2 => ?_
  refine asg rfl rfl ?_
  refine wnt ?_
  refine wc_seq ?_
  refine wcr ?_
  refine wl_pure (v := .agg #[.int .i64 a_b.Size, (sl v0a)]) (po_load_boxs tk_31 (pickS pick0) rfl rfl rfl) rfl ?_
  refine wl_pure (v := .agg #[.int .i64 a_d.Size, (sl v1a)]) (po_load_boxs tk_31 pick0 rfl rfl rfl) rfl ?_
  refine bdO t0 fun v1 hv1 t0 => ?_
  refine wl_call (co_c0 fa_55 rfl fun w hw => c_impl_arePaired w a_b v0a (Rg.on (rds_arg r0) hw) a_d v1a (Rg.on (rds_arg r1) hw) hv1) rfl fun _ => ?_
  refine wl_pure (po_not rfl) rfl ?_
  refine wnt ?_
  refine wcO t0 rfl (fun h1 t0 => ?_) fun h1 t0 => ?_
  · skip
    refine wcr ?_
    refine asg rfl rfl ?_
    refine wnt ?_
    refine wc_ret ?_
    refine wq_then_ret ?_
    obtain rfl := Option.some.inj t0
    exact wq_ret1 rfl rfl fun w hw => ⟨rfl, hw.weak some_nil⟩
  refine wc_skip ?_
  refine wq_then ?_
  refine wcr ?_
  refine asg rfl rfl ?_
  refine wnt ?_
  refine wc_seq ?_
  refine wcr ?_
  refine wl_pure (v := .agg #[.int .i64 a_d.Size, (sl v1a)]) (po_load_boxs tk_31 pick0 rfl rfl rfl) rfl ?_
  refine bdO t0 fun v2 hv2 t0 => ?_
  refine wl_call (co_c1 fa_70 rfl fun w hw => c_impl_views w a_d v1a (Rg.on (rds_arg r1) hw) hv2) rfl fun x1 => ?_
  refine wl_pure (po_lenr (rds_own pick0) el_81 rfl) rfl ?_
  refine mv rfl rfl ?_
  refine wnt ?_
  refine gdO t0 fun g1 t0 => ?_
  refine lpO_inv t0 fun y1 l1 t0 => ?_
  refine wj (J := Int) (X := Unit) (fun z => y1 = z) (fun z _ => [(5, .int .i64 z)]) (fun _ _ => []) ?_ ?_
  · skip
    refine wc_block ?_
    refine wc_forO (X := Unit) l1 (fun k1 s1 x1l => [(2, ptr b1 0), (5, .int .i64 s1), (13, (sl x1.1)), (14, .int .i64 ((v2.length : Nat) : Int)), (15, .int .i64 ((k1 : Nat) : Int))]) (fun k1 s1 x1l => [own (sl x1.1) x1.2 v2, box b1 [.int .i64 a_b.Size, (sl v0a)]]) () (sub_cons rfl (sub_cons rfl (sub_cons rfl (sub_cons rfl (sub_cons rfl sub_nil))))) (some_cons pick0 (some_cons (pickS pick0) some_nil)) fun k1 s1 x1l hN1 l1 => ?_
    by_cases hk1 : k1 < v2.length
    · skip
      refine forO_step l1 hk1 fun _ t1 l1 => ?_
      unfold impl_BestLikeness_L1 at t1
      have c1 : (decide (((k1 : Nat) : Int) < ((v2.length : Nat) : Int))) = true := decide_eq_true (by omega)
      refine wcr ?_
      refine wl_pure (po_lss rfl rfl) rfl ?_
      refine wnt ?_
      refine wc_seq ?_
      refine wc_cond_t rfl c1 ?_
      refine wc_skip ?_
      refine wq_then ?_
      refine wc_seq ?_
      refine wc_block ?_
      refine wcr ?_
      refine wl_pure (po_ixn (k := k1) (rds_own pick0) el_81 rfl rfl hk1) rfl ?_
      refine wl_elem (rds_own pick0) hk1 ?_
      rintro ⟨_, _, he1⟩
      obtain ⟨w1, hc1, _⟩ := rd_GBlock.1 he1
      refine wl_pure (v := .agg #[.int .i64 ((gx v2 k1).Size), (sl w1)]) (po_ldns (rds_own pick0) tk_31 rfl hc1 rfl rfl rfl) rfl ?_
      refine wl_eff (eo_alloc (cs := [.int .i64 0, (sl (⟨none, 0, 0⟩ : Hd))]) za_31) rfl fun b3 => ?_
      refine wl_skipop (so_box (cs' := [.int .i64 ((gx v2 k1).Size), (sl w1)]) tk_31 pick0 rfl rfl rfl rfl rfl rfl rfl) ?_
      refine wnt ?_
      refine wc_region ?_
      refine mv rfl rfl ?_
      refine wl_pure (v := .agg #[.int .i64 a_b.Size, (sl v0a)]) (po_load_boxs tk_31 (pickS (pickS pick0)) rfl rfl rfl) rfl ?_
      refine wl_pure (v := .agg #[.int .i64 ((gx v2 k1).Size), (sl w1)]) (po_load_boxs tk_31 pick0 rfl rfl rfl) rfl ?_
      refine bdO t1 fun v3 hv3 t1 => ?_
      refine wl_call (co_c0 fa_77 rfl fun w hw => c_impl_Likeness w a_b v0a (Rg.on (rds_arg r0) hw) (gx v2 k1) w1 (Rg.on (er_GBlock_0 hc1 (rds_own (pickS pick0)) hk1) hw) hv3) rfl fun _ => ?_
      refine wl_pure (po_max rfl rfl) rfl ?_
      refine asg rfl rfl ?_
      refine wl_nil ?_
      refine wq_block ?_
      refine wq_then ?_
      refine wc_region ?_
      refine wl_pure (po_inc rfl rfl (by omega)) rfl ?_
      refine mv rfl rfl ?_
      refine wl_nil ?_
      exact wq_rnd hk1 (stpN l1 t1) () (sub_cons rfl (sub_cons rfl (sub_cons rfl (sub_cons rfl (sub_cons rfl sub_nil))))) (some_cons (pickS pick0) (some_cons (pickS pick0) some_nil))
    have c1 : (decide (((k1 : Nat) : Int) < ((v2.length : Nat) : Int))) = false := decide_eq_false (by omega)
    have en1 := forO_end l1 hk1
    refine wcr ?_
    refine wl_pure (po_lss rfl rfl) rfl ?_
    refine wnt ?_
    refine wc_seq ?_
    refine wc_cond_f rfl c1 ?_
    refine wc_exit ?_
    refine wq_then_exit ?_
    refine wq_then_exit ?_
    refine wq_block_exit ?_
    exact wj_meet _ () (Sum.inl.inj en1) (sub_cons rfl sub_nil) some_nil
  intro e1 _ hp
  obtain rfl : e1 = y1 := hp.symm
  refine wq_then ?_
  refine wcr ?_
  refine mv rfl rfl ?_
  refine asg rfl rfl ?_
  refine wnt ?_
  refine wc_ret ?_
  obtain rfl := Option.some.inj t0
  exact wq_ret1 rfl rfl fun w hw => ⟨rfl, hw.weak some_nil⟩

theorem c_impl_PatternLikeness (w : World) (a_b : GBlock) (v0a : Hd) (r0 : rdF w (dm w []) (sl v0a) a_b.Cells) (a_d : GBlock) (v1a : Hd) (r1 : rdF w (dm w []) (sl v1a) a_d.Cells) {r : Int} (t0 : impl_PatternLikeness a_b a_d = some r) : Calls Tryz.prog 32 #[.agg #[.int .i64 a_b.Size, (sl v0a)], .agg #[.int .i64 a_d.Size, (sl v1a)]] w fun e w' => e = .returned (.int .i64 r) ∧ SH w [] [] w' := by
  refine calls_of_wc (args := [_, _]) Tryz.func32 rfl Tryz.ntmps32 rfl ?_
  unfold impl_PatternLikeness at t0
  refine wcr ?_
  refine wl_eff (eo_box rfl rfl) rfl fun b1 => ?_
  refine wl_eff (eo_box rfl rfl) rfl fun b2 => ?_
  refine asg rfl rfl ?_
  refine wnt ?_
  refine wc_seq ?_
  refine wc_seq ?_
  refine bdO t0 fun y1 t1 t0 => ?_
  refine wj (J := Bool) (X := Unit) (fun z => y1 = z) (fun z _ => [(2, ptr b1 0), (3, ptr b2 0), (18, .bool z)]) (fun _ _ => [box b2 [.int .i64 a_d.Size, (sl v1a)], box b1 [.int .i64 a_b.Size, (sl v0a)]]) ?_ ?_
  · skip
    refine wc_region ?_
    refine wl_pure (v := .agg #[.int .i64 a_b.Size, (sl v0a)]) (po_load_boxs tk_31 (pickS pick0) rfl rfl rfl) rfl ?_
    refine wl_pure (v := .agg #[.int .i64 a_d.Size, (sl v1a)]) (po_load_boxs tk_31 pick0 rfl rfl rfl) rfl ?_
    refine bdO t1 fun v1 hv1 t1 => ?_
    refine wl_call (co_c0 fa_55 rfl fun w hw => c_impl_arePaired w a_b v0a (Rg.on (rds_arg r0) hw) a_d v1a (Rg.on (rds_arg r1) hw) hv1) rfl fun _ => ?_
    refine wl_pure (po_not rfl) rfl ?_
    refine mv rfl rfl ?_
    refine wlO_ (t := 13) t1 rfl (fun h1 t1 => ?_) fun h1 t1 => ?_
    · skip
      refine wl_guard_off (j := 4) rfl rfl rfl rfl rfl ?_
      refine wl_guard_off (j := 4) rfl rfl rfl rfl rfl ?_
      refine wl_guard_off (j := 4) rfl rfl rfl rfl rfl ?_
      refine wl_guard_off (j := 4) rfl rfl rfl rfl rfl ?_
      refine wl_pure (po_pick_t rfl rfl) rfl ?_
      refine wl_nil ?_
      exact wj_meet _ () (mtE t1) (sub_cons rfl (sub_cons rfl (sub_cons rfl sub_nil))) (some_cons pick0 (some_cons pick0 some_nil))
    refine wl_guard_on (j := 4) rfl rfl rfl (wl_pure (v := .agg #[.int .i64 a_d.Size, (sl v1a)]) (po_load_boxs tk_31 pick0 rfl rfl rfl) rfl ?_)
    refine bdO t1 fun v2 hv2 t1 => ?_
    refine wl_guard_on (j := 4) rfl rfl rfl (wl_call (co_c1 fa_56 rfl fun w hw => c_impl_ColorsOf w a_d v1a (Rg.on (rds_arg r1) hw) hv2) rfl (fun x2 => ?_))
    refine wl_guard_on (j := 4) rfl rfl rfl (wl_pure (po_lenr (rds_own pick0) el_55 rfl) rfl ?_)
    refine wl_guard_on (j := 4) rfl rfl rfl (wl_pure (po_gtr rfl rfl) rfl ?_)
    refine wl_pure (po_pick_f rfl rfl) rfl ?_
    refine wl_nil ?_
    exact wj_meet _ () (mtE t1) (sub_cons rfl (sub_cons rfl (sub_cons rfl sub_nil))) (some_cons (pickS pick0) (some_cons (pickS pick0) some_nil))
  intro j1 _ hp
  obtain rfl : j1 = y1 := hp.symm
  refine wq_then ?_
  refine wcO t0 rfl (fun h2 t0 => ?_) fun h2 t0 => ?_
  · skip
    refine wcr ?_
    refine asg rfl rfl ?_
    refine wnt ?_
    refine wc_ret ?_
    refine wq_then_ret ?_
    obtain rfl := Option.some.inj t0
    exact wq_ret1 rfl rfl fun w hw => ⟨rfl, hw.weak some_nil⟩
  refine wc_skip ?_
  refine wq_then ?_
  refine wcr ?_
  refine asg rfl rfl ?_
  refine wnt ?_
  refine wc_seq ?_
  refine wcr ?_
  refine wl_pure (v := .agg #[.int .i64 a_d.Size, (sl v1a)]) (po_load_boxs tk_31 pick0 rfl rfl rfl) rfl ?_
  refine bdO t0 fun v3 hv3 t0 => ?_
  refine wl_call (co_c0 fa_57 rfl fun w hw => c_impl_ColorwayCount w a_d v1a (Rg.on (rds_arg r1) hw) hv3) rfl fun _ => ?_
  refine mv rfl rfl ?_
  refine wnt ?_
  refine gdO t0 fun g1 t0 => ?_
  refine lpO_inv t0 fun y1 l1 t0 => ?_
  refine wj (J := Int) (X := Unit) (fun z => y1 = z) (fun z _ => [(5, .int .i64 z)]) (fun _ _ => []) ?_ ?_
  · skip
    refine wc_block ?_
    refine wc_forO (X := Unit) l1 (fun k1 s1 x1l => [(2, ptr b1 0), (3, ptr b2 0), (5, .int .i64 s1), (20, .int .i64 v3), (21, .int .i64 ((k1 : Nat) : Int))]) (fun k1 s1 x1l => [box b2 [.int .i64 a_d.Size, (sl v1a)], box b1 [.int .i64 a_b.Size, (sl v0a)]]) () (sub_cons rfl (sub_cons rfl (sub_cons rfl (sub_cons rfl (sub_cons rfl sub_nil))))) (some_cons pick0 (some_cons pick0 some_nil)) fun k1 s1 x1l hN1 l1 => ?_
    by_cases hk1 : k1 < (v3).toNat
    · skip
      refine forO_step l1 hk1 fun _ t1 l1 => ?_
      unfold impl_PatternLikeness_L1 at t1
      have c1 : (decide (((k1 : Nat) : Int) < v3)) = true := decide_eq_true (by omega)
      refine wcr ?_
      refine wl_pure (po_lss rfl rfl) rfl ?_
      refine wnt ?_
      refine wc_seq ?_
      refine wc_cond_t rfl c1 ?_
      refine wc_skip ?_
      refine wq_then ?_
      refine wc_seq ?_
      refine wc_block ?_
      refine wcr ?_
      refine mv rfl rfl ?_
      refine asg rfl rfl ?_
      refine wnt ?_
      refine wcr ?_
      refine wl_pure (v := .agg #[.int .i64 a_d.Size, (sl v1a)]) (po_load_boxs tk_31 pick0 rfl rfl rfl) rfl ?_
      refine mv rfl rfl ?_
      refine bdO t1 fun v4 hv4 t1 => ?_
      refine wl_call (co_c1 fa_58 rfl fun w hw => c_impl_ColorwayAt w a_d v1a (Rg.on (rds_arg r1) hw) ((k1 : Nat) : Int) hv4) rfl fun x4 => ?_
      refine mv rfl rfl ?_
      refine wl_pure (po_extract rfl rfl) rfl ?_
      refine wl_pure (po_extract rfl rfl) rfl ?_
      refine wl_eff (eo_alloc (cs := [.int .i64 0, (sl (⟨none, 0, 0⟩ : Hd))]) za_31) rfl fun b3 => ?_
      refine wl_skipop (so_box (cs' := [.int .i64 v4.1.Size, (sl x4)]) tk_31 pick0 rfl rfl rfl rfl rfl rfl rfl) ?_
      refine asg rfl rfl ?_
      refine wnt ?_
      refine wc_region ?_
      refine mv rfl rfl ?_
      refine wl_pure (v := .agg #[.int .i64 a_b.Size, (sl v0a)]) (po_load_boxs tk_31 (pickS (pickS (pickS pick0))) rfl rfl rfl) rfl ?_
      refine wl_pure (v := .agg #[.int .i64 v4.1.Size, (sl x4)]) (po_load_boxs tk_31 pick0 rfl rfl rfl) rfl ?_
      refine bdO t1 fun v5 hv5 t1 => ?_
      refine wl_call (co_c0 fa_59 rfl fun w hw => c_impl_BestLikeness w a_b v0a (Rg.on (rds_arg r0) hw) v4.1 x4 (Rg.on (rds_own (pickS pick0)) hw) hv5) rfl fun _ => ?_
      refine wl_pure (po_max rfl rfl) rfl ?_
      refine asg rfl rfl ?_
      refine wl_nil ?_
      refine wq_block ?_
      refine wq_then ?_
      refine wc_region ?_
      refine wl_pure (po_inc rfl rfl (by omega)) rfl ?_
      refine mv rfl rfl ?_
      refine wl_nil ?_
      exact wq_rnd hk1 (stpN l1 t1) () (sub_cons rfl (sub_cons rfl (sub_cons rfl (sub_cons rfl (sub_cons rfl sub_nil))))) (some_cons (pickS (pickS pick0)) (some_cons (pickS (pickS pick0)) some_nil))
    have c1 : (decide (((k1 : Nat) : Int) < v3)) = false := decide_eq_false (by omega)
    have en1 := forO_end l1 hk1
    refine wcr ?_
    refine wl_pure (po_lss rfl rfl) rfl ?_
    refine wnt ?_
    refine wc_seq ?_
    refine wc_cond_f rfl c1 ?_
    refine wc_exit ?_
    refine wq_then_exit ?_
    refine wq_then_exit ?_
    refine wq_block_exit ?_
    exact wj_meet _ () (Sum.inl.inj en1) (sub_cons rfl sub_nil) some_nil
  intro e1 _ hp
  obtain rfl : e1 = y1 := hp.symm
  refine wq_then ?_
  refine wcr ?_
  refine mv rfl rfl ?_
  refine asg rfl rfl ?_
  refine wnt ?_
  refine wc_ret ?_
  obtain rfl := Option.some.inj t0
  exact wq_ret1 rfl rfl fun w hw => ⟨rfl, hw.weak some_nil⟩

theorem c_impl_VerdictOn (w : World) (a_e : GEntry) (v0a : Hd) (r0 : rdF w (dm w []) (sl v0a) a_e.Block.Cells) (a_f : GEntry) (v1a : Hd) (r1 : rdF w (dm w []) (sl v1a) a_f.Block.Cells) {r : Int} (t0 : impl_VerdictOn a_e a_f = some r) : Calls Tryz.prog 10 #[.agg #[.int .i64 a_e.Owner, .int .i64 a_e.Day, .int .i64 a_e.Block.Size, (sl v0a)], .agg #[.int .i64 a_f.Owner, .int .i64 a_f.Day, .int .i64 a_f.Block.Size, (sl v1a)]] w fun e w' => e = .returned (.int .i64 r) ∧ SH w [] [] w' := by
  refine calls_of_wc (args := [_, _]) Tryz.func10 rfl Tryz.ntmps10 rfl ?_
  unfold impl_VerdictOn at t0
  refine wcr ?_
  refine wl_eff (eo_box rfl rfl) rfl fun b1 => ?_
  refine wl_eff (eo_box rfl rfl) rfl fun b2 => ?_
  refine asg rfl rfl ?_
  refine wnt ?_
  refine wc_seq ?_
  refine wc_block ?_
  refine wc_seq ?_
  refine bdO t0 fun y1 t1 t0 => ?_
  refine wj (J := Bool) (X := Unit) (fun z => y1 = z) (fun z _ => [(2, ptr b1 0), (3, ptr b2 0), (5, .bool z)]) (fun _ _ => [box b2 [.int .i64 a_f.Owner, .int .i64 a_f.Day, .int .i64 a_f.Block.Size, (sl v1a)], box b1 [.int .i64 a_e.Owner, .int .i64 a_e.Day, .int .i64 a_e.Block.Size, (sl v0a)]]) ?_ ?_
  · skip
    refine wc_region ?_
    refine wl_pure (v := .agg #[.int .i64 a_e.Owner, .int .i64 a_e.Day, .int .i64 a_e.Block.Size, (sl v0a)]) (po_load_boxs tk_33 (pickS pick0) rfl rfl rfl) rfl ?_
    refine bdO t1 fun v1 hv1 t1 => ?_
    refine wl_call (co_c0 fa_30 rfl fun w hw => c_impl_EntryOk w a_e v0a (Rg.on (rds_arg r0) hw) hv1) rfl fun _ => ?_
    refine wl_pure (po_not rfl) rfl ?_
    refine mv rfl rfl ?_
    refine wlO_ (t := 9) t1 rfl (fun h1 t1 => ?_) fun h1 t1 => ?_
    · skip
      refine wl_guard_off (j := 3) rfl rfl rfl rfl rfl ?_
      refine wl_guard_off (j := 3) rfl rfl rfl rfl rfl ?_
      refine wl_guard_off (j := 3) rfl rfl rfl rfl rfl ?_
      refine wl_pure (po_pick_t rfl rfl) rfl ?_
      refine mv rfl rfl ?_
      refine wl_guard_off (j := 8) rfl rfl rfl rfl rfl ?_
      refine wl_guard_off (j := 8) rfl rfl rfl rfl rfl ?_
      refine wl_guard_off (j := 8) rfl rfl rfl rfl rfl ?_
      refine wl_guard_off (j := 8) rfl rfl rfl rfl rfl ?_
      refine wl_guard_off (j := 8) rfl rfl rfl rfl rfl ?_
      refine wl_guard_off (j := 8) rfl rfl rfl rfl rfl ?_
      refine wl_guard_off (j := 8) rfl rfl rfl rfl rfl ?_
      refine wl_pure (po_pick_t rfl rfl) rfl ?_
      refine asg rfl rfl ?_
      refine wl_nil ?_
      exact wj_meet _ () (mtE t1) (sub_cons rfl (sub_cons rfl (sub_cons rfl sub_nil))) (some_cons pick0 (some_cons pick0 some_nil))
    refine wl_guard_on (j := 3) rfl rfl rfl (wl_pure (v := .agg #[.int .i64 a_f.Owner, .int .i64 a_f.Day, .int .i64 a_f.Block.Size, (sl v1a)]) (po_load_boxs tk_33 pick0 rfl rfl rfl) rfl ?_)
    refine bdO t1 fun v2 hv2 t1 => ?_
    refine wl_guard_on (j := 3) rfl rfl rfl (wl_call (co_c0 fa_30 rfl fun w hw => c_impl_EntryOk w a_f v1a (Rg.on (rds_arg r1) hw) hv2) rfl (fun _ => ?_))
    refine wl_guard_on (j := 3) rfl rfl rfl (wl_pure (po_not rfl) rfl ?_)
    refine wl_pure (po_pick_f rfl rfl) rfl ?_
    refine mv rfl rfl ?_
    refine wlO_ (t := 14) t1 rfl (fun h2 t1 => ?_) fun h2 t1 => ?_
    · skip
      refine wl_guard_off (j := 8) rfl rfl rfl rfl rfl ?_
      refine wl_guard_off (j := 8) rfl rfl rfl rfl rfl ?_
      refine wl_guard_off (j := 8) rfl rfl rfl rfl rfl ?_
      refine wl_guard_off (j := 8) rfl rfl rfl rfl rfl ?_
      refine wl_guard_off (j := 8) rfl rfl rfl rfl rfl ?_
      refine wl_guard_off (j := 8) rfl rfl rfl rfl rfl ?_
      refine wl_guard_off (j := 8) rfl rfl rfl rfl rfl ?_
      refine wl_pure (po_pick_t rfl rfl) rfl ?_
      refine asg rfl rfl ?_
      refine wl_nil ?_
      exact wj_meet _ () (mtE t1) (sub_cons rfl (sub_cons rfl (sub_cons rfl sub_nil))) (some_cons pick0 (some_cons pick0 some_nil))
    refine wl_guard_on (j := 8) rfl rfl rfl (wl_pure (po_fld fo_33_2 rfl) rfl ?_)
    refine wl_guard_on (j := 8) rfl rfl rfl (wl_pure (po_fld fo_31_0 rfl) rfl ?_)
    refine wl_guard_on (j := 8) rfl rfl rfl (wl_pure (v := .int .i64 a_e.Block.Size) (po_load_box tk_3 (pickS pick0) rfl rfl) rfl ?_)
    refine wl_guard_on (j := 8) rfl rfl rfl (wl_pure (po_fld fo_33_2 rfl) rfl ?_)
    refine wl_guard_on (j := 8) rfl rfl rfl (wl_pure (po_fld fo_31_0 rfl) rfl ?_)
    refine wl_guard_on (j := 8) rfl rfl rfl (wl_pure (v := .int .i64 a_f.Block.Size) (po_load_box tk_3 pick0 rfl rfl) rfl ?_)
    refine wl_guard_on (j := 8) rfl rfl rfl (wl_pure (po_neq rfl rfl) rfl ?_)
    refine wl_pure (po_pick_f rfl rfl) rfl ?_
    refine asg rfl rfl ?_
    refine wl_nil ?_
    exact wj_meet _ () (mtE t1) (sub_cons rfl (sub_cons rfl (sub_cons rfl sub_nil))) (some_cons pick0 (some_cons pick0 some_nil))
  intro j1 _ hp
  obtain rfl : j1 = y1 := hp.symm
  refine wq_then ?_
  refine wcO t0 rfl (fun h3 t0 => ?_) fun h3 t0 => ?_
  · skip
    refine wcr ?_
    refine asg rfl rfl ?_
    refine wnt ?_
    refine wc_ret ?_
    refine wq_block_ret ?_
    refine wq_then_ret ?_
    obtain rfl := Option.some.inj t0
    exact wq_ret1 rfl rfl fun w hw => ⟨rfl, hw.weak some_nil⟩
  refine wcr ?_
  refine wl_pure (po_fld fo_33_2 rfl) rfl ?_
  refine wl_pure (v := .agg #[.int .i64 a_e.Block.Size, (sl v0a)]) (po_load_boxs tk_31 (pickS pick0) rfl rfl rfl) rfl ?_
  refine wl_pure (po_fld fo_33_2 rfl) rfl ?_
  refine wl_pure (v := .agg #[.int .i64 a_f.Block.Size, (sl v1a)]) (po_load_boxs tk_31 pick0 rfl rfl rfl) rfl ?_
  refine bdO t0 fun v3 hv3 t0 => ?_
  refine wl_call (co_c0 fa_31 rfl fun w hw => c_impl_ArePatternsSame w a_e.Block v0a (Rg.on (rds_arg r0) hw) a_f.Block v1a (Rg.on (rds_arg r1) hw) hv3) rfl fun _ => ?_
  refine asg rfl rfl ?_
  refine wnt ?_
  refine wcO t0 rfl (fun h4 t0 => ?_) fun h4 t0 => ?_
  · skip
    refine wcr ?_
    refine asg rfl rfl ?_
    refine wnt ?_
    refine wc_ret ?_
    refine wq_block_ret ?_
    refine wq_then_ret ?_
    obtain rfl := Option.some.inj t0
    exact wq_ret1 rfl rfl fun w hw => ⟨rfl, hw.weak some_nil⟩
  refine wc_seq ?_
  refine wc_draw [box b2 [.int .i64 a_f.Owner, .int .i64 a_f.Day, .int .i64 a_f.Block.Size, (sl v1a)], box b1 [.int .i64 a_e.Owner, .int .i64 a_e.Day, .int .i64 a_e.Block.Size, (sl v0a)]] 13 mixed ?_
  refine wa_pure 0 rfl (po_fld fo_33_2 rfl) (some_cons pick0 (some_cons pick0 some_nil)) rfl (by kernel_rfl) (fun _ _ _ h => h) ?_
  refine wa_pure (v := .agg #[.int .i64 a_e.Block.Size, (sl v0a)]) 1 rfl (po_load_boxs tk_31 (pickS pick0) rfl rfl rfl) (some_cons pick0 (some_cons pick0 some_nil)) rfl (by kernel_rfl) (fun _ _ _ h => h) ?_
  refine wa_pure 2 rfl (po_fld fo_33_2 rfl) (some_cons pick0 (some_cons pick0 some_nil)) rfl (by kernel_rfl) (fun _ _ _ h => h) ?_
  refine wa_pure (v := .agg #[.int .i64 a_f.Block.Size, (sl v1a)]) 3 rfl (po_load_boxs tk_31 pick0 rfl rfl rfl) (some_cons pick0 (some_cons pick0 some_nil)) rfl (by kernel_rfl) (fun _ _ _ h => h) ?_
  refine wa_pure 6 rfl (po_fld fo_33_2 rfl) (some_cons pick0 (some_cons pick0 some_nil)) rfl (by kernel_rfl) (fun _ _ _ h => h) ?_
  refine wa_pure 7 rfl (po_fld fo_31_1 rfl) (some_cons pick0 (some_cons pick0 some_nil)) rfl (by kernel_rfl) (fun _ _ _ h => h) ?_
  refine wa_pure (v := (sl v0a)) 8 rfl (po_load_box tk_29 (pickS pick0) rfl rfl) (some_cons pick0 (some_cons pick0 some_nil)) rfl (by kernel_rfl) (fun _ _ _ h => h) ?_
  refine wa_pure 9 rfl (po_lenr (rds_arg r0) el_29 rfl) (some_cons pick0 (some_cons pick0 some_nil)) rfl (by kernel_rfl) (fun _ _ _ h => h) ?_
  refine wa_pure 10 rfl (po_mul rfl rfl) (some_cons pick0 (some_cons pick0 some_nil)) rfl (by kernel_rfl) (fun _ _ _ h => h) ?_
  refine wa_1 (i := 4) (by kernel_rfl) ?_
  refine bdO t0 fun v4 hv4 t0 => ?_
  refine ws_call rfl (co_c0 fa_32 rfl fun w hw => c_impl_PatternLikeness w a_e.Block v0a (Rg.on (rds_arg r0) hw) a_f.Block v1a (Rg.on (rds_arg r1) hw) hv4) (fun _ => (sts_some (some_cons pick0 (some_cons pick0 some_nil)))) rfl fun _ => ?_
  refine wa_pure 5 rfl (po_mul rfl rfl) (some_cons pick0 (some_cons pick0 some_nil)) rfl (by kernel_rfl) (fun _ _ _ h => h) ?_
  refine wa_pure 11 rfl (po_geq rfl rfl) (some_cons pick0 (some_cons pick0 some_nil)) rfl (by kernel_rfl) (fun _ _ _ h => h) ?_
  refine wa_pure 12 rfl (po_assign rfl) (some_cons pick0 (some_cons pick0 some_nil)) rfl (by kernel_rfl) (fun _ _ _ h => h) ?_
  refine wa_done (by kernel_rfl) ?_
  refine wq_then ?_
  refine wcO t0 rfl (fun h5 t0 => ?_) fun h5 t0 => ?_
  · skip
    refine wcr ?_
    refine asg rfl rfl ?_
    refine wnt ?_
    refine wc_ret ?_
    refine wq_block_ret ?_
    refine wq_then_ret ?_
    obtain rfl := Option.some.inj t0
    exact wq_ret1 rfl rfl fun w hw => ⟨rfl, hw.weak some_nil⟩
  refine wc_skip ?_
  refine wq_block ?_
  refine wq_then ?_
  refine wcr ?_
  refine asg rfl rfl ?_
  refine wnt ?_
  refine wc_ret ?_
  obtain rfl := Option.some.inj t0
  exact wq_ret1 rfl rfl fun w hw => ⟨rfl, hw.weak some_nil⟩

theorem c_impl_FirstOf (w : World) (a_list : List GEntry) (v0a : Hd) (u0a : List Value) (r0 : RdL w (dm w []) (sl v0a) u0a a_list) (a_e : GEntry) (v1a : Hd) (r1 : rdF w (dm w []) (sl v1a) a_e.Block.Cells) {r : Int} (t0 : impl_FirstOf a_list a_e = some r) : Calls Tryz.prog 17 #[(sl v0a), .agg #[.int .i64 a_e.Owner, .int .i64 a_e.Day, .int .i64 a_e.Block.Size, (sl v1a)]] w fun e w' => e = .returned (.int .i64 r) ∧ SH w [] [] w' := by
  refine calls_of_wc (args := [_, _]) Tryz.func17 rfl Tryz.ntmps17 rfl ?_
  unfold impl_FirstOf at t0
  refine wcr ?_
  refine wl_eff (eo_box rfl rfl) rfl fun b1 => ?_
  refine asg rfl rfl ?_
  refine wnt ?_
  refine wcr ?_
  refine asg rfl rfl ?_
  refine wnt ?_
  refine wc_seq ?_
  refine wcr ?_
  refine mv rfl rfl ?_
  refine wl_pure (po_lenr (rds_arg r0) el_40 rfl) rfl ?_
  refine wl_pure (po_gtr rfl rfl) rfl ?_
  refine wnt ?_
  refine wcO t0 rfl (fun h1 t0 => ?_) fun h1 t0 => ?_
  · skip
    refine wcr ?_
    refine asg rfl rfl ?_
    refine wnt ?_
    refine wc_ret ?_
    refine wq_then_ret ?_
    obtain rfl := Option.some.inj t0
    exact wq_ret1 rfl rfl fun w hw => ⟨rfl, hw.weak some_nil⟩
  refine wc_skip ?_
  refine wq_then ?_
  refine wc_seq ?_
  refine wcr ?_
  refine mv rfl rfl ?_
  refine wl_pure (po_lenr (rds_arg r0) el_40 rfl) rfl ?_
  refine mv rfl rfl ?_
  refine wnt ?_
  refine gdO t0 fun g1 t0 => ?_
  refine lpO_inv t0 fun y1 l1 t0 => ?_
  refine wj (J := Int) (X := Unit) (fun z => y1 = z) (fun z _ => [(5, .int .i64 z)]) (fun _ _ => []) ?_ ?_
  · skip
    refine wc_block ?_
    refine wc_forO (X := Unit) l1 (fun k1 s1 x1l => [(0, (sl v0a)), (3, ptr b1 0), (5, .int .i64 s1), (11, (sl v0a)), (12, .int .i64 ((a_list.length : Nat) : Int)), (13, .int .i64 ((k1 : Nat) : Int))]) (fun k1 s1 x1l => [box b1 [.int .i64 a_e.Owner, .int .i64 a_e.Day, .int .i64 a_e.Block.Size, (sl v1a)]]) () (sub_cons rfl (sub_cons rfl (sub_cons rfl (sub_cons rfl (sub_cons rfl (sub_cons rfl sub_nil)))))) (some_cons pick0 some_nil) fun k1 s1 x1l hN1 l1 => ?_
    by_cases hk1 : k1 < a_list.length
    · skip
      refine forO_step l1 hk1 fun _ t1 l1 => ?_
      unfold impl_FirstOf_L1 at t1
      have c1 : (decide (((k1 : Nat) : Int) < ((a_list.length : Nat) : Int))) = true := decide_eq_true (by omega)
      refine wcr ?_
      refine wl_pure (po_lss rfl rfl) rfl ?_
      refine wnt ?_
      refine wc_seq ?_
      refine wc_cond_t rfl c1 ?_
      refine wc_skip ?_
      refine wq_then ?_
      refine wc_seq ?_
      refine wc_block ?_
      refine wcr ?_
      refine mv rfl rfl ?_
      refine wl_pure (po_ixn (k := k1) (rds_arg r0) el_40 rfl rfl hk1) rfl ?_
      refine wl_elem (rds_arg r0) hk1 ?_
      rintro ⟨_, _, he1⟩
      obtain ⟨w1, hc1, _⟩ := rd_GEntry.1 he1
      refine wl_pure (v := .agg #[.int .i64 ((gx a_list k1).Owner), .int .i64 ((gx a_list k1).Day), .int .i64 (((gx a_list k1).Block).Size), (sl w1)]) (po_ldns (rds_arg r0) tk_33 rfl hc1 rfl rfl rfl) rfl ?_
      refine wl_eff (eo_alloc (cs := [.int .i64 0, .int .i64 0, .int .i64 0, (sl (⟨none, 0, 0⟩ : Hd))]) za_33) rfl fun b2 => ?_
      refine asg rfl rfl ?_
      refine wl_skipop (so_box (cs' := [.int .i64 ((gx a_list k1).Owner), .int .i64 ((gx a_list k1).Day), .int .i64 (((gx a_list k1).Block).Size), (sl w1)]) tk_33 pick0 rfl rfl rfl rfl rfl rfl rfl) ?_
      refine wnt ?_
      refine wc_seq ?_
      refine bdO t1 fun y2 t2 t1 => ?_
      refine wj (J := Bool) (X := Unit) (fun z => y2 = z) (fun z _ => [(0, (sl v0a)), (3, ptr b1 0), (5, .int .i64 s1), (6, .int .i64 ((k1 : Nat) : Int)), (11, (sl v0a)), (12, .int .i64 ((a_list.length : Nat) : Int)), (13, .int .i64 ((k1 : Nat) : Int)), (35, .bool z)]) (fun _ _ => [box b1 [.int .i64 a_e.Owner, .int .i64 a_e.Day, .int .i64 a_e.Block.Size, (sl v1a)]]) ?_ ?_
      · skip
        refine wc_draw [box b2 [.int .i64 ((gx a_list k1).Owner), .int .i64 ((gx a_list k1).Day), .int .i64 (((gx a_list k1).Block).Size), (sl w1)], box b1 [.int .i64 a_e.Owner, .int .i64 a_e.Day, .int .i64 a_e.Block.Size, (sl v1a)]] 18 mixed ?_
        refine wa_pure (v := .agg #[.int .i64 ((gx a_list k1).Owner), .int .i64 ((gx a_list k1).Day), .int .i64 (((gx a_list k1).Block).Size), (sl w1)]) 0 rfl (po_load_boxs tk_33 pick0 rfl rfl rfl) (some_cons pick0 (some_cons pick0 some_nil)) rfl (by kernel_rfl) (fun _ _ _ h => h) ?_
        refine wa_pure (v := .agg #[.int .i64 a_e.Owner, .int .i64 a_e.Day, .int .i64 a_e.Block.Size, (sl v1a)]) 1 rfl (po_load_boxs tk_33 (pickS pick0) rfl rfl rfl) (some_cons pick0 (some_cons pick0 some_nil)) rfl (by kernel_rfl) (fun _ _ _ h => h) ?_
        refine wa_1 (i := 2) (by kernel_rfl) ?_
        refine bdO t2 fun v1 hv1 t2 => ?_
        refine ws_call rfl (co_c0 fa_10 rfl fun w hw => c_impl_VerdictOn w (GEntry.mk ((gx a_list k1).Owner) ((gx a_list k1).Day) ((gx a_list k1).Block)) w1 (Rg.on (er_GEntry_0 hc1 (rds_arg r0) hk1) hw) a_e v1a (Rg.on (rds_arg r1) hw) hv1) (fun _ => (sts_some (some_cons pick0 (some_cons pick0 some_nil)))) rfl fun _ => ?_
        refine wa_pure 3 rfl (po_eql rfl rfl) (some_cons pick0 (some_cons pick0 some_nil)) rfl (by kernel_rfl) (fun _ _ _ h => h) ?_
        refine wa_pure 4 rfl (po_move rfl) (some_cons pick0 (some_cons pick0 some_nil)) rfl (by kernel_rfl) (fun _ _ _ h => h) ?_
        refine waO_ (t := 22) t2 rfl (fun h2 t2 => ?_) fun h2 t2 => ?_
        · skip
          refine wa_pure_on 5 (j := 4) rfl rfl rfl rfl (po_move rfl) (some_cons pick0 (some_cons pick0 some_nil)) rfl (by kernel_rfl) (fun _ _ _ h => h) ?_
          refine wa_pure_on 6 (j := 4) rfl rfl rfl rfl (po_lss rfl rfl) (some_cons pick0 (some_cons pick0 some_nil)) rfl (by kernel_rfl) (fun _ _ _ h => h) ?_
          refine wa_pure_on 7 (j := 4) rfl rfl rfl rfl (po_move rfl) (some_cons pick0 (some_cons pick0 some_nil)) rfl (by kernel_rfl) (fun _ _ _ h => h) ?_
          refine waO_ (t := 25) t2 rfl (fun h3 t2 => ?_) fun h3 t2 => ?_
          · skip
            refine wa_off 8 (j := 7) rfl rfl rfl rfl rfl (some_cons pick0 (some_cons pick0 some_nil)) rfl (by kernel_rfl) (fun _ _ _ h => h) ?_
            refine wa_off 9 (j := 7) rfl rfl rfl rfl rfl (some_cons pick0 (some_cons pick0 some_nil)) rfl (by kernel_rfl) (fun _ _ _ h => h) ?_
            refine wa_off 10 (j := 7) rfl rfl rfl rfl rfl (some_cons pick0 (some_cons pick0 some_nil)) rfl (by kernel_rfl) (fun _ _ _ h => h) ?_
            refine wa_off 11 (j := 7) rfl rfl rfl rfl rfl (some_cons pick0 (some_cons pick0 some_nil)) rfl (by kernel_rfl) (fun _ _ _ h => h) ?_
            refine wa_off 12 (j := 7) rfl rfl rfl rfl rfl (some_cons pick0 (some_cons pick0 some_nil)) rfl (by kernel_rfl) (fun _ _ _ h => h) ?_
            refine wa_off 13 (j := 7) rfl rfl rfl rfl rfl (some_cons pick0 (some_cons pick0 some_nil)) rfl (by kernel_rfl) (fun _ _ _ h => h) ?_
            refine wa_off 14 (j := 7) rfl rfl rfl rfl rfl (some_cons pick0 (some_cons pick0 some_nil)) rfl (by kernel_rfl) (fun _ _ _ h => h) ?_
            refine wa_off 15 (j := 7) rfl rfl rfl rfl rfl (some_cons pick0 (some_cons pick0 some_nil)) rfl (by kernel_rfl) (fun _ _ _ h => h) ?_
            refine wa_pure_on 16 (j := 4) rfl rfl rfl rfl (po_pick_t rfl rfl) (some_cons pick0 (some_cons pick0 some_nil)) rfl (by kernel_rfl) (fun _ _ _ h => h) ?_
            refine wa_pure 17 rfl (po_pick_t rfl rfl) (some_cons pick0 (some_cons pick0 some_nil)) rfl (by kernel_rfl) (fun _ _ _ h => h) ?_
            refine wa_done (by kernel_rfl) ?_
            exact wj_meet _ () (mtE t2) (sub_cons rfl (sub_cons rfl (sub_cons rfl (sub_cons rfl (sub_cons rfl (sub_cons rfl (sub_cons rfl (sub_cons rfl sub_nil)))))))) (some_cons (pickS pick0) some_nil)
          refine wa_pure_on 8 (j := 7) rfl rfl rfl rfl (po_fld fo_33_1 rfl) (some_cons pick0 (some_cons pick0 some_nil)) rfl (by kernel_rfl) (fun _ _ _ h => h) ?_
          refine wa_pure_on (v := .int .i64 ((gx a_list k1).Day)) 9 (j := 7) rfl rfl rfl rfl (po_load_box tk_3 pick0 rfl rfl) (some_cons pick0 (some_cons pick0 some_nil)) rfl (by kernel_rfl) (fun _ _ _ h => h) ?_
          refine wa_pure_on 10 (j := 7) rfl rfl rfl rfl (po_move rfl) (some_cons pick0 (some_cons pick0 some_nil)) rfl (by kernel_rfl) (fun _ _ _ h => h) ?_
          refine wa_pure_on 11 (j := 7) rfl rfl rfl rfl (po_move rfl) (some_cons pick0 (some_cons pick0 some_nil)) rfl (by kernel_rfl) (fun _ _ _ h => h) ?_
          refine gdO t2 fun g2 t2 => ?_
          refine wa_pure_on 12 (j := 7) rfl rfl rfl rfl (po_ixr (rds_arg r0) el_40 rfl rfl g2.1 g2.2) (some_cons pick0 (some_cons pick0 some_nil)) rfl (by kernel_rfl) (fun _ _ _ h => h) ?_
          refine wa_pure_on 13 (j := 7) rfl rfl rfl rfl (po_sfldr (rds_arg r0) (ix_lt g2) fo_33_1 rfl) (some_cons pick0 (some_cons pick0 some_nil)) rfl (by kernel_rfl) (fun _ _ _ h => h) ?_
          refine wa_elem (rds_arg r0) (ix_lt g2) ?_
          rintro ⟨_, _, he2⟩
          obtain ⟨w2, hc2, _⟩ := rd_GEntry.1 he2
          refine wa_pure_on (v := .int .i64 ((gx a_list ((s1).toNat)).Day)) 14 (j := 7) rfl rfl rfl rfl (po_ldn (rds_arg r0) tk_3 rfl hc2 rfl) (some_cons pick0 (some_cons pick0 some_nil)) rfl (by kernel_rfl) (fun _ _ _ h => h) ?_
          refine wa_pure_on 15 (j := 7) rfl rfl rfl rfl (po_lss rfl rfl) (some_cons pick0 (some_cons pick0 some_nil)) rfl (by kernel_rfl) (fun _ _ _ h => h) ?_
          refine wa_pure_on 16 (j := 4) rfl rfl rfl rfl (po_pick_f rfl rfl) (some_cons pick0 (some_cons pick0 some_nil)) rfl (by kernel_rfl) (fun _ _ _ h => h) ?_
          refine wa_pure 17 rfl (po_pick_t rfl rfl) (some_cons pick0 (some_cons pick0 some_nil)) rfl (by kernel_rfl) (fun _ _ _ h => h) ?_
          refine wa_done (by kernel_rfl) ?_
          exact wj_meet _ () (mtE t2) (sub_cons rfl (sub_cons rfl (sub_cons rfl (sub_cons rfl (sub_cons rfl (sub_cons rfl (sub_cons rfl (sub_cons rfl sub_nil)))))))) (some_cons (pickS pick0) some_nil)
        refine wa_off 5 (j := 4) rfl rfl rfl rfl rfl (some_cons pick0 (some_cons pick0 some_nil)) rfl (by kernel_rfl) (fun _ _ _ h => h) ?_
        refine wa_off 6 (j := 4) rfl rfl rfl rfl rfl (some_cons pick0 (some_cons pick0 some_nil)) rfl (by kernel_rfl) (fun _ _ _ h => h) ?_
        refine wa_off 7 (j := 4) rfl rfl rfl rfl rfl (some_cons pick0 (some_cons pick0 some_nil)) rfl (by kernel_rfl) (fun _ _ _ h => h) ?_
        refine wa_undef 8 (j := 7) rfl rfl rfl rfl (some_cons pick0 (some_cons pick0 some_nil)) rfl (by kernel_rfl) (fun _ _ _ h => h) ?_
        refine wa_undef 9 (j := 7) rfl rfl rfl rfl (some_cons pick0 (some_cons pick0 some_nil)) rfl (by kernel_rfl) (fun _ _ _ h => h) ?_
        refine wa_undef 10 (j := 7) rfl rfl rfl rfl (some_cons pick0 (some_cons pick0 some_nil)) rfl (by kernel_rfl) (fun _ _ _ h => h) ?_
        refine wa_undef 11 (j := 7) rfl rfl rfl rfl (some_cons pick0 (some_cons pick0 some_nil)) rfl (by kernel_rfl) (fun _ _ _ h => h) ?_
        refine wa_undef 12 (j := 7) rfl rfl rfl rfl (some_cons pick0 (some_cons pick0 some_nil)) rfl (by kernel_rfl) (fun _ _ _ h => h) ?_
        refine wa_undef 13 (j := 7) rfl rfl rfl rfl (some_cons pick0 (some_cons pick0 some_nil)) rfl (by kernel_rfl) (fun _ _ _ h => h) ?_
        refine wa_undef 14 (j := 7) rfl rfl rfl rfl (some_cons pick0 (some_cons pick0 some_nil)) rfl (by kernel_rfl) (fun _ _ _ h => h) ?_
        refine wa_undef 15 (j := 7) rfl rfl rfl rfl (some_cons pick0 (some_cons pick0 some_nil)) rfl (by kernel_rfl) (fun _ _ _ h => h) ?_
        refine wa_off 16 (j := 4) rfl rfl rfl rfl rfl (some_cons pick0 (some_cons pick0 some_nil)) rfl (by kernel_rfl) (fun _ _ _ h => h) ?_
        refine wa_pure 17 rfl (po_pick_f rfl rfl) (some_cons pick0 (some_cons pick0 some_nil)) rfl (by kernel_rfl) (fun _ _ _ h => h) ?_
        refine wa_done (by kernel_rfl) ?_
        exact wj_meet _ () (mtE t2) (sub_cons rfl (sub_cons rfl (sub_cons rfl (sub_cons rfl (sub_cons rfl (sub_cons rfl (sub_cons rfl (sub_cons rfl sub_nil)))))))) (some_cons (pickS pick0) some_nil)
      intro j1 _ hp
      obtain rfl : j1 = y2 := hp.symm
      refine wq_then ?_
      refine wc_join (X := Unit) (fun _ => True) (fun _ => [(0, (sl v0a)), (3, ptr b1 0), (5, .int .i64 (bif j1 then ((k1 : Nat) : Int) else s1)), (11, (sl v0a)), (12, .int .i64 ((a_list.length : Nat) : Int)), (13, .int .i64 ((k1 : Nat) : Int))]) (fun _ => [box b1 [.int .i64 a_e.Owner, .int .i64 a_e.Day, .int .i64 a_e.Block.Size, (sl v1a)]]) ?_ ?_
      · skip
        refine wc_cond rfl (fun h4 => ?_) fun h4 => ?_
        · skip
          refine wc_region ?_
          refine mv rfl rfl ?_
          refine asg rfl rfl ?_
          refine wl_nil ?_
          exact wq_meet () trivial (sub_cons rfl (sub_cons rfl (sub_i rfl (by simp only [h4, cond_true]) (sub_cons rfl (sub_cons rfl (sub_cons rfl sub_nil)))))) (some_cons pick0 some_nil)
        refine wc_skip ?_
        exact wq_meet () trivial (sub_cons rfl (sub_cons rfl (sub_i rfl (by simp only [h4, cond_false]) (sub_cons rfl (sub_cons rfl (sub_cons rfl sub_nil)))))) (some_cons pick0 some_nil)
      intro _ _
      refine wq_block ?_
      refine wq_then ?_
      refine wc_region ?_
      refine wl_pure (po_inc rfl rfl (by omega)) rfl ?_
      refine mv rfl rfl ?_
      refine wl_nil ?_
      exact wq_rnd hk1 (stpN l1 t1) () (sub_cons rfl (sub_cons rfl (sub_cons rfl (sub_cons rfl (sub_cons rfl (sub_cons rfl sub_nil)))))) (some_cons pick0 some_nil)
    have c1 : (decide (((k1 : Nat) : Int) < ((a_list.length : Nat) : Int))) = false := decide_eq_false (by omega)
    have en1 := forO_end l1 hk1
    refine wcr ?_
    refine wl_pure (po_lss rfl rfl) rfl ?_
    refine wnt ?_
    refine wc_seq ?_
    refine wc_cond_f rfl c1 ?_
    refine wc_exit ?_
    refine wq_then_exit ?_
    refine wq_then_exit ?_
    refine wq_block_exit ?_
    exact wj_meet _ () (Sum.inl.inj en1) (sub_cons rfl sub_nil) some_nil
  intro e1 _ hp
  obtain rfl : e1 = y1 := hp.symm
  refine wq_then ?_
  refine wcr ?_
  refine mv rfl rfl ?_
  refine asg rfl rfl ?_
  refine wnt ?_
  refine wc_ret ?_
  obtain rfl := Option.some.inj t0
  exact wq_ret1 rfl rfl fun w hw => ⟨rfl, hw.weak some_nil⟩

theorem c_laws_eqCell (w : World) (a_a : GCell) (a_b : GCell) {r : Bool} (t0 : laws_eqCell a_a a_b = some r) : Calls Tryz.prog 78 #[.agg #[.int .i64 a_a.Split, .int .i64 a_a.A, .int .i64 a_a.B], .agg #[.int .i64 a_b.Split, .int .i64 a_b.A, .int .i64 a_b.B]] w fun e w' => e = .returned (.bool r) ∧ SH w [] [] w' := by
  refine calls_of_wc (args := [_, _]) Tryz.func78 rfl Tryz.ntmps78 rfl ?_
  unfold laws_eqCell at t0
  refine wcr ?_
  refine wl_eff (eo_box rfl rfl) rfl fun b1 => ?_
  refine wl_eff (eo_box rfl rfl) rfl fun b2 => ?_
  refine asg rfl rfl ?_
  refine wnt ?_
  refine wc_seq ?_
  refine wcr ?_
  refine wl_pure (po_fld fo_75_0 rfl) rfl ?_
  refine wl_pure (v := .int .i64 a_a.Split) (po_load_box tk_3 (pickS pick0) rfl rfl) rfl ?_
  refine wl_pure (po_fld fo_75_0 rfl) rfl ?_
  refine wl_pure (v := .int .i64 a_b.Split) (po_load_box tk_3 pick0 rfl rfl) rfl ?_
  refine wl_pure (po_neq rfl rfl) rfl ?_
  refine wnt ?_
  refine wcO t0 rfl (fun h1 t0 => ?_) fun h1 t0 => ?_
  · skip
    refine wcr ?_
    refine asg rfl rfl ?_
    refine wnt ?_
    refine wc_ret ?_
    refine wq_then_ret ?_
    obtain rfl := Option.some.inj t0
    exact wq_ret1 rfl rfl fun w hw => ⟨rfl, hw.weak some_nil⟩
  refine wc_skip ?_
  refine wq_then ?_
  refine wc_seq ?_
  refine wcr ?_
  refine wl_pure (po_fld fo_75_1 rfl) rfl ?_
  refine wl_pure (v := .int .i64 a_a.A) (po_load_box tk_3 (pickS pick0) rfl rfl) rfl ?_
  refine wl_pure (po_fld fo_75_1 rfl) rfl ?_
  refine wl_pure (v := .int .i64 a_b.A) (po_load_box tk_3 pick0 rfl rfl) rfl ?_
  refine wl_pure (po_neq rfl rfl) rfl ?_
  refine wnt ?_
  refine wcO t0 rfl (fun h2 t0 => ?_) fun h2 t0 => ?_
  · skip
    refine wcr ?_
    refine asg rfl rfl ?_
    refine wnt ?_
    refine wc_ret ?_
    refine wq_then_ret ?_
    obtain rfl := Option.some.inj t0
    exact wq_ret1 rfl rfl fun w hw => ⟨rfl, hw.weak some_nil⟩
  refine wc_skip ?_
  refine wq_then ?_
  refine wc_seq ?_
  refine wcr ?_
  refine wl_pure (po_fld fo_75_2 rfl) rfl ?_
  refine wl_pure (v := .int .i64 a_a.B) (po_load_box tk_3 (pickS pick0) rfl rfl) rfl ?_
  refine wl_pure (po_fld fo_75_2 rfl) rfl ?_
  refine wl_pure (v := .int .i64 a_b.B) (po_load_box tk_3 pick0 rfl rfl) rfl ?_
  refine wl_pure (po_neq rfl rfl) rfl ?_
  refine wnt ?_
  refine wcO t0 rfl (fun h3 t0 => ?_) fun h3 t0 => ?_
  · skip
    refine wcr ?_
    refine asg rfl rfl ?_
    refine wnt ?_
    refine wc_ret ?_
    refine wq_then_ret ?_
    obtain rfl := Option.some.inj t0
    exact wq_ret1 rfl rfl fun w hw => ⟨rfl, hw.weak some_nil⟩
  refine wc_skip ?_
  refine wq_then ?_
  refine wcr ?_
  refine asg rfl rfl ?_
  refine wnt ?_
  refine wc_ret ?_
  obtain rfl := Option.some.inj t0
  exact wq_ret1 rfl rfl fun w hw => ⟨rfl, hw.weak some_nil⟩

theorem c_laws_eqCellS (w : World) (a_a : List GCell) (v0a : Hd) (r0 : rdF w (dm w []) (sl v0a) a_a) (a_b : List GCell) (v1a : Hd) (r1 : rdF w (dm w []) (sl v1a) a_b) {r : Bool} (t0 : laws_eqCellS a_a a_b = some r) : Calls Tryz.prog 60 #[(sl v0a), (sl v1a)] w fun e w' => e = .returned (.bool r) ∧ SH w [] [] w' := by
  refine calls_of_wc (args := [_, _]) Tryz.func60 rfl Tryz.ntmps60 rfl ?_
  unfold laws_eqCellS at t0
  refine wcr ?_
  refine asg rfl rfl ?_
  refine wnt ?_
  refine wc_seq ?_
  refine wcr ?_
  refine mv rfl rfl ?_
  refine wl_pure (po_lenr (rds_arg r0) el_29 rfl) rfl ?_
  refine mv rfl rfl ?_
  refine wl_pure (po_lenr (rds_arg r1) el_29 rfl) rfl ?_
  refine wl_pure (po_neq rfl rfl) rfl ?_
  refine wnt ?_
  refine wcO t0 rfl (fun h1 t0 => ?_) fun h1 t0 => ?_
  · skip
    refine wcr ?_
    refine asg rfl rfl ?_
    refine wnt ?_
    refine wc_ret ?_
    refine wq_then_ret ?_
    obtain rfl := Option.some.inj t0
    exact wq_ret1 rfl rfl fun w hw => ⟨rfl, hw.weak some_nil⟩
  refine wc_skip ?_
  refine wq_then ?_
  refine wc_seq ?_
  refine wcr ?_
  refine asg rfl rfl ?_
  refine wnt ?_
  refine gdO t0 fun g1 t0 => ?_
  refine sqO t0 fun y1 l1 t0 => ?_
  refine wj (J := Unit) (X := Unit) (fun z => y1 = .inl z) (fun _ _ => []) (fun _ _ => []) ?_ ?_
  · skip
    refine wc_block ?_
    refine wc_forO (X := Unit) l1 (fun k1 s1 x1l => [(0, (sl v0a)), (1, (sl v1a)), (5, .int .i64 ((k1 : Nat) : Int))]) (fun k1 s1 x1l => []) () (sub_cons rfl (sub_cons rfl (sub_cons rfl sub_nil))) some_nil fun k1 s1 x1l hN1 l1 => ?_
    by_cases hk1 : k1 < a_a.length
    · skip
      refine forO_step l1 hk1 fun _ t1 l1 => ?_
      unfold laws_eqCellS_L1 at t1
      have c1 : (decide (((k1 : Nat) : Int) < ((a_a.length : Nat) : Int))) = true := decide_eq_true (by omega)
      refine wc_seq ?_
      refine wcr ?_
      refine mv rfl rfl ?_
      refine mv rfl rfl ?_
      refine wl_pure (po_lenr (rds_arg r0) el_29 rfl) rfl ?_
      refine wl_pure (po_lss rfl rfl) rfl ?_
      refine wnt ?_
      refine wc_cond_t rfl c1 ?_
      refine wc_skip ?_
      refine wq_then ?_
      refine wc_seq ?_
      refine wc_block ?_
      refine wc_seq ?_
      refine wc_draw [] 10 mixed ?_
      refine wa_pure 0 rfl (po_move rfl) some_nil rfl (by kernel_rfl) (fun _ _ _ h => h) ?_
      refine wa_pure 1 rfl (po_move rfl) some_nil rfl (by kernel_rfl) (fun _ _ _ h => h) ?_
      refine wa_pure 2 rfl (po_ixn (k := k1) (rds_arg r0) el_29 rfl rfl hk1) some_nil rfl (by kernel_rfl) (fun _ _ _ h => h) ?_
      refine wa_pure (v := .agg #[.int .i64 ((gx a_a k1).Split), .int .i64 ((gx a_a k1).A), .int .i64 ((gx a_a k1).B)]) 3 rfl (po_ldfs (rds_arg r0) tk_75 rfl hk1 rfl rfl rfl) some_nil rfl (by kernel_rfl) (fun _ _ _ h => h) ?_
      refine wa_pure 4 rfl (po_move rfl) some_nil rfl (by kernel_rfl) (fun _ _ _ h => h) ?_
      refine wa_pure 5 rfl (po_move rfl) some_nil rfl (by kernel_rfl) (fun _ _ _ h => h) ?_
      refine gdO t1 fun g2 t1 => ?_
      refine wa_pure 6 rfl (po_ixn (k := k1) (rds_arg r1) el_29 rfl rfl g2) some_nil rfl (by kernel_rfl) (fun _ _ _ h => h) ?_
      refine wa_pure (v := .agg #[.int .i64 ((gx a_b k1).Split), .int .i64 ((gx a_b k1).A), .int .i64 ((gx a_b k1).B)]) 7 rfl (po_ldfs (rds_arg r1) tk_75 rfl g2 rfl rfl rfl) some_nil rfl (by kernel_rfl) (fun _ _ _ h => h) ?_
      refine wa_1 (i := 8) (by kernel_rfl) ?_
      refine bdO t1 fun v1 hv1 t1 => ?_
      refine ws_call rfl (co_c0 fa_78 rfl fun w hw => c_laws_eqCell w (gx a_a k1) (gx a_b k1) hv1) (fun _ => (sts_some some_nil)) rfl fun _ => ?_
      refine wa_pure 9 rfl (po_not rfl) some_nil rfl (by kernel_rfl) (fun _ _ _ h => h) ?_
      refine wa_done (by kernel_rfl) ?_
      refine wq_then ?_
      refine wcO t1 rfl (fun h2 t1 => ?_) fun h2 t1 => ?_
      · skip
        refine wcr ?_
        refine asg rfl rfl ?_
        refine wnt ?_
        refine wc_ret ?_
        refine wq_block_ret ?_
        refine wq_then_ret ?_
        refine wq_then_ret ?_
        refine wq_block_ret ?_
        refine wq_then_ret ?_
        refine wq_then_ret ?_
        replace t0 := lpR t0 l1 t1
        obtain rfl := Option.some.inj t0
        exact wq_ret1 rfl rfl fun w hw => ⟨rfl, hw.weak some_nil⟩
      refine wc_skip ?_
      refine wq_block ?_
      refine wq_then ?_
      refine wc_region ?_
      refine mv rfl rfl ?_
      refine wl_pure (po_inc rfl rfl (by omega)) rfl ?_
      refine asg rfl rfl ?_
      refine wl_nil ?_
      exact wq_rnd hk1 (stpN l1 t1) () (sub_cons rfl (sub_cons rfl (sub_cons rfl sub_nil))) some_nil
    have c1 : (decide (((k1 : Nat) : Int) < ((a_a.length : Nat) : Int))) = false := decide_eq_false (by omega)
    have en1 := forO_end l1 hk1
    refine wc_seq ?_
    refine wcr ?_
    refine mv rfl rfl ?_
    refine mv rfl rfl ?_
    refine wl_pure (po_lenr (rds_arg r0) el_29 rfl) rfl ?_
    refine wl_pure (po_lss rfl rfl) rfl ?_
    refine wnt ?_
    refine wc_cond_f rfl c1 ?_
    refine wc_exit ?_
    refine wq_then_exit ?_
    refine wq_then_exit ?_
    refine wq_block_exit ?_
    exact wj_meet _ () en1 sub_nil some_nil
  intro e1 _ hp
  replace t0 := sqE (j := e1) t0 hp
  refine wq_then ?_
  refine wcr ?_
  refine asg rfl rfl ?_
  refine wnt ?_
  refine wc_ret ?_
  obtain rfl := Option.some.inj t0
  exact wq_ret1 rfl rfl fun w hw => ⟨rfl, hw.weak some_nil⟩

theorem c_laws_eqBlock (w : World) (a_a : GBlock) (v0a : Hd) (r0 : rdF w (dm w []) (sl v0a) a_a.Cells) (a_b : GBlock) (v1a : Hd) (r1 : rdF w (dm w []) (sl v1a) a_b.Cells) {r : Bool} (t0 : laws_eqBlock a_a a_b = some r) : Calls Tryz.prog 33 #[.agg #[.int .i64 a_a.Size, (sl v0a)], .agg #[.int .i64 a_b.Size, (sl v1a)]] w fun e w' => e = .returned (.bool r) ∧ SH w [] [] w' := by
  refine calls_of_wc (args := [_, _]) Tryz.func33 rfl Tryz.ntmps33 rfl ?_
  unfold laws_eqBlock at t0
  refine wcr ?_
  refine wl_eff (eo_box rfl rfl) rfl fun b1 => ?_
  refine wl_eff (eo_box rfl rfl) rfl fun b2 => ?_
  refine asg rfl rfl ?_
  refine wnt ?_
  refine wc_seq ?_
  refine wcr ?_
  refine wl_pure (po_fld fo_31_0 rfl) rfl ?_
  refine wl_pure (v := .int .i64 a_a.Size) (po_load_box tk_3 (pickS pick0) rfl rfl) rfl ?_
  refine wl_pure (po_fld fo_31_0 rfl) rfl ?_
  refine wl_pure (v := .int .i64 a_b.Size) (po_load_box tk_3 pick0 rfl rfl) rfl ?_
  refine wl_pure (po_neq rfl rfl) rfl ?_
  refine wnt ?_
  refine wcO t0 rfl (fun h1 t0 => ?_) fun h1 t0 => ?_
  · skip
    refine wcr ?_
    refine asg rfl rfl ?_
    refine wnt ?_
    refine wc_ret ?_
    refine wq_then_ret ?_
    obtain rfl := Option.some.inj t0
    exact wq_ret1 rfl rfl fun w hw => ⟨rfl, hw.weak some_nil⟩
  refine wc_skip ?_
  refine wq_then ?_
  refine wc_seq ?_
  refine wcr ?_
  refine wl_pure (po_fld fo_31_1 rfl) rfl ?_
  refine wl_pure (v := (sl v0a)) (po_load_box tk_29 (pickS pick0) rfl rfl) rfl ?_
  refine wl_pure (po_fld fo_31_1 rfl) rfl ?_
  refine wl_pure (v := (sl v1a)) (po_load_box tk_29 pick0 rfl rfl) rfl ?_
  refine bdO t0 fun v1 hv1 t0 => ?_
  refine wl_call (co_c0 fa_60 rfl fun w hw => c_laws_eqCellS w a_a.Cells v0a (Rg.on (rds_arg r0) hw) a_b.Cells v1a (Rg.on (rds_arg r1) hw) hv1) rfl fun _ => ?_
  refine wl_pure (po_not rfl) rfl ?_
  refine wnt ?_
  refine wcO t0 rfl (fun h2 t0 => ?_) fun h2 t0 => ?_
  · skip
    refine wcr ?_
    refine asg rfl rfl ?_
    refine wnt ?_
    refine wc_ret ?_
    refine wq_then_ret ?_
    obtain rfl := Option.some.inj t0
    exact wq_ret1 rfl rfl fun w hw => ⟨rfl, hw.weak some_nil⟩
  refine wc_skip ?_
  refine wq_then ?_
  refine wcr ?_
  refine asg rfl rfl ?_
  refine wnt ?_
  refine wc_ret ?_
  obtain rfl := Option.some.inj t0
  exact wq_ret1 rfl rfl fun w hw => ⟨rfl, hw.weak some_nil⟩

theorem c_laws_eqEntry (w : World) (a_a : GEntry) (v0a : Hd) (r0 : rdF w (dm w []) (sl v0a) a_a.Block.Cells) (a_b : GEntry) (v1a : Hd) (r1 : rdF w (dm w []) (sl v1a) a_b.Block.Cells) {r : Bool} (t0 : laws_eqEntry a_a a_b = some r) : Calls Tryz.prog 11 #[.agg #[.int .i64 a_a.Owner, .int .i64 a_a.Day, .int .i64 a_a.Block.Size, (sl v0a)], .agg #[.int .i64 a_b.Owner, .int .i64 a_b.Day, .int .i64 a_b.Block.Size, (sl v1a)]] w fun e w' => e = .returned (.bool r) ∧ SH w [] [] w' := by
  refine calls_of_wc (args := [_, _]) Tryz.func11 rfl Tryz.ntmps11 rfl ?_
  unfold laws_eqEntry at t0
  refine wcr ?_
  refine wl_eff (eo_box rfl rfl) rfl fun b1 => ?_
  refine wl_eff (eo_box rfl rfl) rfl fun b2 => ?_
  refine asg rfl rfl ?_
  refine wnt ?_
  refine wc_seq ?_
  refine wcr ?_
  refine wl_pure (po_fld fo_33_0 rfl) rfl ?_
  refine wl_pure (v := .int .i64 a_a.Owner) (po_load_box tk_3 (pickS pick0) rfl rfl) rfl ?_
  refine wl_pure (po_fld fo_33_0 rfl) rfl ?_
  refine wl_pure (v := .int .i64 a_b.Owner) (po_load_box tk_3 pick0 rfl rfl) rfl ?_
  refine wl_pure (po_neq rfl rfl) rfl ?_
  refine wnt ?_
  refine wcO t0 rfl (fun h1 t0 => ?_) fun h1 t0 => ?_
  · skip
    refine wcr ?_
    refine asg rfl rfl ?_
    refine wnt ?_
    refine wc_ret ?_
    refine wq_then_ret ?_
    obtain rfl := Option.some.inj t0
    exact wq_ret1 rfl rfl fun w hw => ⟨rfl, hw.weak some_nil⟩
  refine wc_skip ?_
  refine wq_then ?_
  refine wc_seq ?_
  refine wcr ?_
  refine wl_pure (po_fld fo_33_1 rfl) rfl ?_
  refine wl_pure (v := .int .i64 a_a.Day) (po_load_box tk_3 (pickS pick0) rfl rfl) rfl ?_
  refine wl_pure (po_fld fo_33_1 rfl) rfl ?_
  refine wl_pure (v := .int .i64 a_b.Day) (po_load_box tk_3 pick0 rfl rfl) rfl ?_
  refine wl_pure (po_neq rfl rfl) rfl ?_
  refine wnt ?_
  refine wcO t0 rfl (fun h2 t0 => ?_) fun h2 t0 => ?_
  · skip
    refine wcr ?_
    refine asg rfl rfl ?_
    refine wnt ?_
    refine wc_ret ?_
    refine wq_then_ret ?_
    obtain rfl := Option.some.inj t0
    exact wq_ret1 rfl rfl fun w hw => ⟨rfl, hw.weak some_nil⟩
  refine wc_skip ?_
  refine wq_then ?_
  refine wc_seq ?_
  refine wcr ?_
  refine wl_pure (po_fld fo_33_2 rfl) rfl ?_
  refine wl_pure (v := .agg #[.int .i64 a_a.Block.Size, (sl v0a)]) (po_load_boxs tk_31 (pickS pick0) rfl rfl rfl) rfl ?_
  refine wl_pure (po_fld fo_33_2 rfl) rfl ?_
  refine wl_pure (v := .agg #[.int .i64 a_b.Block.Size, (sl v1a)]) (po_load_boxs tk_31 pick0 rfl rfl rfl) rfl ?_
  refine bdO t0 fun v1 hv1 t0 => ?_
  refine wl_call (co_c0 fa_33 rfl fun w hw => c_laws_eqBlock w a_a.Block v0a (Rg.on (rds_arg r0) hw) a_b.Block v1a (Rg.on (rds_arg r1) hw) hv1) rfl fun _ => ?_
  refine wl_pure (po_not rfl) rfl ?_
  refine wnt ?_
  refine wcO t0 rfl (fun h3 t0 => ?_) fun h3 t0 => ?_
  · skip
    refine wcr ?_
    refine asg rfl rfl ?_
    refine wnt ?_
    refine wc_ret ?_
    refine wq_then_ret ?_
    obtain rfl := Option.some.inj t0
    exact wq_ret1 rfl rfl fun w hw => ⟨rfl, hw.weak some_nil⟩
  refine wc_skip ?_
  refine wq_then ?_
  refine wcr ?_
  refine asg rfl rfl ?_
  refine wnt ?_
  refine wc_ret ?_
  obtain rfl := Option.some.inj t0
  exact wq_ret1 rfl rfl fun w hw => ⟨rfl, hw.weak some_nil⟩

theorem c_laws_eqEntryS (w : World) (a_a : List GEntry) (v0a : Hd) (u0a : List Value) (r0 : RdL w (dm w []) (sl v0a) u0a a_a) (a_b : List GEntry) (v1a : Hd) (u1a : List Value) (r1 : RdL w (dm w []) (sl v1a) u1a a_b) {r : Bool} (t0 : laws_eqEntryS a_a a_b = some r) : Calls Tryz.prog 18 #[(sl v0a), (sl v1a)] w fun e w' => e = .returned (.bool r) ∧ SH w [] [] w' := by
  refine calls_of_wc (args := [_, _]) Tryz.func18 rfl Tryz.ntmps18 rfl ?_
  unfold laws_eqEntryS at t0
  refine wcr ?_
  refine asg rfl rfl ?_
  refine wnt ?_
  refine wc_seq ?_
  refine wcr ?_
  refine mv rfl rfl ?_
  refine wl_pure (po_lenr (rds_arg r0) el_40 rfl) rfl ?_
  refine mv rfl rfl ?_
  refine wl_pure (po_lenr (rds_arg r1) el_40 rfl) rfl ?_
  refine wl_pure (po_neq rfl rfl) rfl ?_
  refine wnt ?_
  refine wcO t0 rfl (fun h1 t0 => ?_) fun h1 t0 => ?_
  · skip
    refine wcr ?_
    refine asg rfl rfl ?_
    refine wnt ?_
    refine wc_ret ?_
    refine wq_then_ret ?_
    obtain rfl := Option.some.inj t0
    exact wq_ret1 rfl rfl fun w hw => ⟨rfl, hw.weak some_nil⟩
  refine wc_skip ?_
  refine wq_then ?_
  refine wc_seq ?_
  refine wcr ?_
  refine asg rfl rfl ?_
  refine wnt ?_
  refine gdO t0 fun g1 t0 => ?_
  refine sqO t0 fun y1 l1 t0 => ?_
  refine wj (J := Unit) (X := Unit) (fun z => y1 = .inl z) (fun _ _ => []) (fun _ _ => []) ?_ ?_
  · skip
    refine wc_block ?_
    refine wc_forO (X := Unit) l1 (fun k1 s1 x1l => [(0, (sl v0a)), (1, (sl v1a)), (5, .int .i64 ((k1 : Nat) : Int))]) (fun k1 s1 x1l => []) () (sub_cons rfl (sub_cons rfl (sub_cons rfl sub_nil))) some_nil fun k1 s1 x1l hN1 l1 => ?_
    by_cases hk1 : k1 < a_a.length
    · skip
      refine forO_step l1 hk1 fun _ t1 l1 => ?_
      unfold laws_eqEntryS_L1 at t1
      have c1 : (decide (((k1 : Nat) : Int) < ((a_a.length : Nat) : Int))) = true := decide_eq_true (by omega)
      refine wc_seq ?_
      refine wcr ?_
      refine mv rfl rfl ?_
      refine mv rfl rfl ?_
      refine wl_pure (po_lenr (rds_arg r0) el_40 rfl) rfl ?_
      refine wl_pure (po_lss rfl rfl) rfl ?_
      refine wnt ?_
      refine wc_cond_t rfl c1 ?_
      refine wc_skip ?_
      refine wq_then ?_
      refine wc_seq ?_
      refine wc_block ?_
      refine wc_seq ?_
      refine wc_draw [] 10 mixed ?_
      refine wa_pure 0 rfl (po_move rfl) some_nil rfl (by kernel_rfl) (fun _ _ _ h => h) ?_
      refine wa_pure 1 rfl (po_move rfl) some_nil rfl (by kernel_rfl) (fun _ _ _ h => h) ?_
      refine wa_pure 2 rfl (po_ixn (k := k1) (rds_arg r0) el_40 rfl rfl hk1) some_nil rfl (by kernel_rfl) (fun _ _ _ h => h) ?_
      refine wa_elem (rds_arg r0) hk1 ?_
      rintro ⟨_, _, he1⟩
      obtain ⟨w1, hc1, _⟩ := rd_GEntry.1 he1
      refine wa_pure (v := .agg #[.int .i64 ((gx a_a k1).Owner), .int .i64 ((gx a_a k1).Day), .int .i64 (((gx a_a k1).Block).Size), (sl w1)]) 3 rfl (po_ldns (rds_arg r0) tk_33 rfl hc1 rfl rfl rfl) some_nil rfl (by kernel_rfl) (fun _ _ _ h => h) ?_
      refine wa_pure 4 rfl (po_move rfl) some_nil rfl (by kernel_rfl) (fun _ _ _ h => h) ?_
      refine wa_pure 5 rfl (po_move rfl) some_nil rfl (by kernel_rfl) (fun _ _ _ h => h) ?_
      refine gdO t1 fun g2 t1 => ?_
      refine wa_pure 6 rfl (po_ixn (k := k1) (rds_arg r1) el_40 rfl rfl g2) some_nil rfl (by kernel_rfl) (fun _ _ _ h => h) ?_
      refine wa_elem (rds_arg r1) g2 ?_
      rintro ⟨_, _, he2⟩
      obtain ⟨w2, hc2, _⟩ := rd_GEntry.1 he2
      refine wa_pure (v := .agg #[.int .i64 ((gx a_b k1).Owner), .int .i64 ((gx a_b k1).Day), .int .i64 (((gx a_b k1).Block).Size), (sl w2)]) 7 rfl (po_ldns (rds_arg r1) tk_33 rfl hc2 rfl rfl rfl) some_nil rfl (by kernel_rfl) (fun _ _ _ h => h) ?_
      refine wa_1 (i := 8) (by kernel_rfl) ?_
      refine bdO t1 fun v1 hv1 t1 => ?_
      refine ws_call rfl (co_c0 fa_11 rfl fun w hw => c_laws_eqEntry w (gx a_a k1) w1 (Rg.on (er_GEntry_0 hc1 (rds_arg r0) hk1) hw) (gx a_b k1) w2 (Rg.on (er_GEntry_0 hc2 (rds_arg r1) g2) hw) hv1) (fun _ => (sts_some some_nil)) rfl fun _ => ?_
      refine wa_pure 9 rfl (po_not rfl) some_nil rfl (by kernel_rfl) (fun _ _ _ h => h) ?_
      refine wa_done (by kernel_rfl) ?_
      refine wq_then ?_
      refine wcO t1 rfl (fun h2 t1 => ?_) fun h2 t1 => ?_
      · skip
        refine wcr ?_
        refine asg rfl rfl ?_
        refine wnt ?_
        refine wc_ret ?_
        refine wq_block_ret ?_
        refine wq_then_ret ?_
        refine wq_then_ret ?_
        refine wq_block_ret ?_
        refine wq_then_ret ?_
        refine wq_then_ret ?_
        replace t0 := lpR t0 l1 t1
        obtain rfl := Option.some.inj t0
        exact wq_ret1 rfl rfl fun w hw => ⟨rfl, hw.weak some_nil⟩
      refine wc_skip ?_
      refine wq_block ?_
      refine wq_then ?_
      refine wc_region ?_
      refine mv rfl rfl ?_
      refine wl_pure (po_inc rfl rfl (by omega)) rfl ?_
      refine asg rfl rfl ?_
      refine wl_nil ?_
      exact wq_rnd hk1 (stpN l1 t1) () (sub_cons rfl (sub_cons rfl (sub_cons rfl sub_nil))) some_nil
    have c1 : (decide (((k1 : Nat) : Int) < ((a_a.length : Nat) : Int))) = false := decide_eq_false (by omega)
    have en1 := forO_end l1 hk1
    refine wc_seq ?_
    refine wcr ?_
    refine mv rfl rfl ?_
    refine mv rfl rfl ?_
    refine wl_pure (po_lenr (rds_arg r0) el_40 rfl) rfl ?_
    refine wl_pure (po_lss rfl rfl) rfl ?_
    refine wnt ?_
    refine wc_cond_f rfl c1 ?_
    refine wc_exit ?_
    refine wq_then_exit ?_
    refine wq_then_exit ?_
    refine wq_block_exit ?_
    exact wj_meet _ () en1 sub_nil some_nil
  intro e1 _ hp
  replace t0 := sqE (j := e1) t0 hp
  refine wq_then ?_
  refine wcr ?_
  refine asg rfl rfl ?_
  refine wnt ?_
  refine wc_ret ?_
  obtain rfl := Option.some.inj t0
  exact wq_ret1 rfl rfl fun w hw => ⟨rfl, hw.weak some_nil⟩

theorem c_laws_FnExactFirstOf (w : World) (a_aList : List GEntry) (v0a : Hd) (u0a : List Value) (r0 : RdL w (dm w []) (sl v0a) u0a a_aList) (a_aE : GEntry) (v1a : Hd) (r1 : rdF w (dm w []) (sl v1a) a_aE.Block.Cells) {r : Bool} (t0 : laws_FnExactFirstOf a_aList a_aE = some r) : Calls Tryz.prog 5 #[(sl v0a), .agg #[.int .i64 a_aE.Owner, .int .i64 a_aE.Day, .int .i64 a_aE.Block.Size, (sl v1a)]] w fun e w' => e = .returned (.bool r) ∧ SH w [] [] w' := by
  refine calls_of_wc (args := [_, _]) Tryz.func5 rfl Tryz.ntmps5 rfl ?_
  unfold laws_FnExactFirstOf at t0
  refine wcr ?_
  refine wl_eff (eo_box rfl rfl) rfl fun b1 => ?_
  refine asg rfl rfl ?_
  refine wnt ?_
  refine wcr ?_
  refine asg rfl rfl ?_
  refine wnt ?_
  refine wcr ?_
  refine mv rfl rfl ?_
  refine mv rfl rfl ?_
  refine bdO t0 fun v1 hv1 t0 => ?_
  refine wl_call (co_c0 fa_14 rfl fun w hw => c_laws_szEntryS w a_aList v0a u0a (Rg.on (rds_arg r0) hw) 1048576 hv1) rfl fun _ => ?_
  refine asg rfl rfl ?_
  refine wnt ?_
  refine wc_seq ?_
  refine wcr ?_
  refine mv rfl rfl ?_
  refine wl_pure (po_lss rfl rfl) rfl ?_
  refine wnt ?_
  refine wcO t0 rfl (fun h1 t0 => ?_) fun h1 t0 => ?_
  · skip
    refine wcr ?_
    refine asg rfl rfl ?_
    refine wnt ?_
    refine wc_ret ?_
    refine wq_then_ret ?_
    obtain rfl := Option.some.inj t0
    exact wq_ret1 rfl rfl fun w hw => ⟨rfl, hw.weak some_nil⟩
  refine wc_skip ?_
  refine wq_then ?_
  refine wcr ?_
  refine wl_pure (v := .agg #[.int .i64 a_aE.Owner, .int .i64 a_aE.Day, .int .i64 a_aE.Block.Size, (sl v1a)]) (po_load_boxs tk_26 pick0 rfl rfl rfl) rfl ?_
  refine mv rfl rfl ?_
  refine bdO t0 fun v2 hv2 t0 => ?_
  refine wl_call (co_c0 fa_7 rfl fun w hw => c_laws_szEntry w a_aE v1a (Rg.on (rds_arg r1) hw) v1 hv2) rfl fun _ => ?_
  refine asg rfl rfl ?_
  refine wnt ?_
  refine wc_seq ?_
  refine wcr ?_
  refine mv rfl rfl ?_
  refine wl_pure (po_lss rfl rfl) rfl ?_
  refine wnt ?_
  refine wcO t0 rfl (fun h2 t0 => ?_) fun h2 t0 => ?_
  · skip
    refine wcr ?_
    refine asg rfl rfl ?_
    refine wnt ?_
    refine wc_ret ?_
    refine wq_then_ret ?_
    obtain rfl := Option.some.inj t0
    exact wq_ret1 rfl rfl fun w hw => ⟨rfl, hw.weak some_nil⟩
  refine wc_skip ?_
  refine wq_then ?_
  refine wc_seq ?_
  refine wc_draw [box b1 [.int .i64 a_aE.Owner, .int .i64 a_aE.Day, .int .i64 a_aE.Block.Size, (sl v1a)]] 6 mixed ?_
  refine wa_pure 0 rfl (po_move rfl) (some_cons pick0 some_nil) rfl (by kernel_rfl) (fun _ _ _ h => h) ?_
  refine wa_pure (v := .agg #[.int .i64 a_aE.Owner, .int .i64 a_aE.Day, .int .i64 a_aE.Block.Size, (sl v1a)]) 2 rfl (po_load_boxs tk_26 pick0 rfl rfl rfl) (some_cons pick0 some_nil) rfl (by kernel_rfl) (fun _ _ _ h => h) ?_
  refine wa_1 (i := 1) (by kernel_rfl) ?_
  refine bdO t0 fun v3 hv3 t0 => ?_
  refine ws_call rfl (co_c1 fa_16 rfl fun w hw => c_laws_toEntryS w a_aList v0a u0a (Rg.on (rds_arg r0) hw) hv3) (fun _ => (sts_some (some_cons (pickS pick0) some_nil))) rfl fun x1 => ?_
  refine wa_1 (i := 3) (by kernel_rfl) ?_
  refine bdO t0 fun v4 hv4 t0 => ?_
  refine ws_call rfl (co_c1 fa_9 rfl fun w hw => c_laws_toEntry w a_aE v1a (Rg.on (rds_arg r1) hw) hv4) (fun _ => (sts_some (some_cons (pickS (pickS pick0)) some_nil))) rfl fun x2 => ?_
  refine wa_1 (i := 4) (by kernel_rfl) ?_
  refine bdO t0 fun v5 hv5 t0 => ?_
  refine ws_call rfl (co_c0 fa_15 rfl fun w hw => c_spec_FirstOf w v3 x1.1 x1.2 (Rg.on (rds_own (pickS pick0)) hw) v4 x2 (Rg.on (rds_own pick0) hw) hv5) (fun _ => (sts_some (some_cons (pickS (pickS pick0)) some_nil))) rfl fun _ => ?_
  refine wa_pure 5 rfl (po_assign rfl) (some_cons (pickS (pickS pick0)) some_nil) rfl (by kernel_rfl) (fun _ _ _ h => h) ?_
  refine wa_done (by kernel_rfl) ?_
  refine wq_then ?_
  refine wcr ?_
  refine mv rfl rfl ?_
  refine bdO t0 fun v6 hv6 t0 => ?_
  refine wl_call (co_c1 fa_16 rfl fun w hw => c_laws_toEntryS w a_aList v0a u0a (Rg.on (rds_arg r0) hw) hv6) rfl fun x3 => ?_
  refine asg rfl rfl ?_
  refine wnt ?_
  refine wcr ?_
  refine wl_pure (v := .agg #[.int .i64 a_aE.Owner, .int .i64 a_aE.Day, .int .i64 a_aE.Block.Size, (sl v1a)]) (po_load_boxs tk_26 (pickS (pickS (pickS pick0))) rfl rfl rfl) rfl ?_
  refine bdO t0 fun v7 hv7 t0 => ?_
  refine wl_call (co_c1 fa_9 rfl fun w hw => c_laws_toEntry w a_aE v1a (Rg.on (rds_arg r1) hw) hv7) rfl fun x4 => ?_
  refine wl_eff (eo_alloc (cs := [.int .i64 0, .int .i64 0, .int .i64 0, (sl (⟨none, 0, 0⟩ : Hd))]) za_33) rfl fun b2 => ?_
  refine wl_skipop (so_box (cs' := [.int .i64 v7.Owner, .int .i64 v7.Day, .int .i64 v7.Block.Size, (sl x4)]) tk_33 pick0 rfl rfl rfl rfl rfl rfl rfl) ?_
  refine wnt ?_
  refine wcr ?_
  refine mv rfl rfl ?_
  refine wl_pure (v := .agg #[.int .i64 v7.Owner, .int .i64 v7.Day, .int .i64 v7.Block.Size, (sl x4)]) (po_load_boxs tk_33 pick0 rfl rfl rfl) rfl ?_
  refine bdO t0 fun v8 hv8 t0 => ?_
  refine wl_call (co_c0 fa_17 rfl fun w hw => c_impl_FirstOf w v6 x3.1 x3.2 (Rg.on (rds_own (pickS (pickS pick0))) hw) v7 x4 (Rg.on (rds_own (pickS pick0)) hw) hv8) rfl fun _ => ?_
  refine asg rfl rfl ?_
  refine wnt ?_
  refine wc_seq ?_
  refine wcr ?_
  refine mv rfl rfl ?_
  refine mv rfl rfl ?_
  refine wl_pure (po_neq rfl rfl) rfl ?_
  refine wnt ?_
  refine wcO t0 rfl (fun h3 t0 => ?_) fun h3 t0 => ?_
  · skip
    refine wcr ?_
    refine asg rfl rfl ?_
    refine wnt ?_
    refine wc_ret ?_
    refine wq_then_ret ?_
    obtain rfl := Option.some.inj t0
    exact wq_ret1 rfl rfl fun w hw => ⟨rfl, hw.weak some_nil⟩
  refine wc_skip ?_
  refine wq_then ?_
  refine wc_seq ?_
  refine wcr ?_
  refine mv rfl rfl ?_
  refine mv rfl rfl ?_
  refine bdO t0 fun v9 hv9 t0 => ?_
  refine wl_call (co_c1 fa_16 rfl fun w hw => c_laws_toEntryS w a_aList v0a u0a (Rg.on (rds_arg r0) hw) hv9) rfl fun x5 => ?_
  refine bdO t0 fun v10 hv10 t0 => ?_
  refine wl_call (co_c0 fa_18 rfl fun w hw => c_laws_eqEntryS w v6 x3.1 x3.2 (Rg.on (rds_own (pickS (pickS (pickS pick0)))) hw) v9 x5.1 x5.2 (Rg.on (rds_own pick0) hw) hv10) rfl fun _ => ?_
  refine wl_pure (po_not rfl) rfl ?_
  refine wnt ?_
  refine wcO t0 rfl (fun h4 t0 => ?_) fun h4 t0 => ?_
  · skip
    refine wcr ?_
    refine asg rfl rfl ?_
    refine wnt ?_
    refine wc_ret ?_
    refine wq_then_ret ?_
    obtain rfl := Option.some.inj t0
    exact wq_ret1 rfl rfl fun w hw => ⟨rfl, hw.weak some_nil⟩
  refine wc_skip ?_
  refine wq_then ?_
  refine wc_seq ?_
  refine wc_seq ?_
  refine wc_draw [own (sl x5.1) x5.2 v9, box b2 [.int .i64 v7.Owner, .int .i64 v7.Day, .int .i64 v7.Block.Size, (sl x4)], ownF (sl x4) v7.Block.Cells, own (sl x3.1) x3.2 v6, ownF (sl x2) v4.Block.Cells, own (sl x1.1) x1.2 v3, box b1 [.int .i64 a_aE.Owner, .int .i64 a_aE.Day, .int .i64 a_aE.Block.Size, (sl v1a)]] 5 mixed ?_
  refine wa_pure (v := .agg #[.int .i64 v7.Owner, .int .i64 v7.Day, .int .i64 v7.Block.Size, (sl x4)]) 0 rfl (po_load_boxs tk_33 (pickS pick0) rfl rfl rfl) (some_cons pick0 (some_cons pick0 (some_cons pick0 (some_cons pick0 (some_cons pick0 (some_cons pick0 (some_cons pick0 some_nil))))))) rfl (by kernel_rfl) (fun _ _ _ h => h) ?_
  refine wa_pure (v := .agg #[.int .i64 a_aE.Owner, .int .i64 a_aE.Day, .int .i64 a_aE.Block.Size, (sl v1a)]) 1 rfl (po_load_boxs tk_26 (pickS (pickS (pickS (pickS (pickS (pickS pick0)))))) rfl rfl rfl) (some_cons pick0 (some_cons pick0 (some_cons pick0 (some_cons pick0 (some_cons pick0 (some_cons pick0 (some_cons pick0 some_nil))))))) rfl (by kernel_rfl) (fun _ _ _ h => h) ?_
  refine wa_1 (i := 2) (by kernel_rfl) ?_
  refine bdO t0 fun v11 hv11 t0 => ?_
  refine ws_call rfl (co_c1 fa_9 rfl fun w hw => c_laws_toEntry w a_aE v1a (Rg.on (rds_arg r1) hw) hv11) (fun _ => (sts_some (some_cons (pickS pick0) (some_cons (pickS pick0) (some_cons (pickS pick0) (some_cons (pickS pick0) (some_cons (pickS pick0) (some_cons (pickS pick0) (some_cons (pickS pick0) some_nil))))))))) rfl fun x6 => ?_
  refine wa_1 (i := 3) (by kernel_rfl) ?_
  refine bdO t0 fun v12 hv12 t0 => ?_
  refine ws_call rfl (co_c0 fa_11 rfl fun w hw => c_laws_eqEntry w v7 x4 (Rg.on (rds_own (pickS (pickS (pickS pick0)))) hw) v11 x6 (Rg.on (rds_own pick0) hw) hv12) (fun _ => (sts_some (some_cons (pickS pick0) (some_cons (pickS pick0) (some_cons (pickS pick0) (some_cons (pickS pick0) (some_cons (pickS pick0) (some_cons (pickS pick0) (some_cons (pickS pick0) some_nil))))))))) rfl fun _ => ?_
  refine wa_pure 4 rfl (po_not rfl) (some_cons (pickS pick0) (some_cons (pickS pick0) (some_cons (pickS pick0) (some_cons (pickS pick0) (some_cons (pickS pick0) (some_cons (pickS pick0) (some_cons (pickS pick0) some_nil))))))) rfl (by kernel_rfl) (fun _ _ _ h => h) ?_
  refine wa_done (by kernel_rfl) ?_
  refine wq_then ?_
  refine wcO t0 rfl (fun h5 t0 => ?_) fun h5 t0 => ?_
  · skip
    refine wcr ?_
    refine asg rfl rfl ?_
    refine wnt ?_
    refine wc_ret ?_
    refine wq_then_ret ?_
    obtain rfl := Option.some.inj t0
    exact wq_ret1 rfl rfl fun w hw => ⟨rfl, hw.weak some_nil⟩
  refine wc_skip ?_
  refine wq_then ?_
  refine wcr ?_
  refine asg rfl rfl ?_
  refine wnt ?_
  refine wc_ret ?_
  obtain rfl := Option.some.inj t0
  exact wq_ret1 rfl rfl fun w hw => ⟨rfl, hw.weak some_nil⟩

end Go.Proofs.YtlfhlajpdmcnaabGreatDoor
