/-
  Each Go function computes its Lean function (part 3).
-/
import Derived.Test.YtfnfngicgikhgabWalks2
namespace Go.Proofs.Ytfnfngicgikhgab
open Go Go.RowKit Go.Proofs
set_option maxRecDepth 100000

theorem c_laws_FnLikeness (w : World) (a_code : List UInt8) (v0a : Hd) (r0 : rdF w (dm w []) (sl v0a) a_code) {r : Bool} (t0 : laws_FnLikeness a_code = some r) : Calls Try.prog 3 #[(sl v0a)] w fun e w' => e = .returned (.bool r) ∧ SH w [] [] w' := by
  refine calls_of_wc (args := [_]) Try.func3 rfl Try.ntmps3 rfl ?_
  unfold laws_FnLikeness at t0
  refine wcr ?_
  refine asg rfl rfl ?_
  refine wnt ?_
  refine wc_seq ?_
  refine wcr ?_
  refine mv rfl rfl ?_
  refine bdO t0 fun v1 hv1 t0 => ?_
  refine wl_call (co_c0 fa_4 rfl fun w hw => c_laws_big w a_code v0a (Rg.on (rds_arg r0) hw) hv1) rfl fun _ => ?_
  refine wnt ?_
  refine wcO t0 rfl (fun h1 t0 => ?_) fun h1 t0 => ?_
  · skip
    refine wcr ?_
    refine asg rfl rfl ?_
    refine wnt ?_
    refine wc_ret ?_
    refine wq_then_ret ?_
    obtain rfl := Option.some.inj t0
    exact wq_ret1 rfl rfl fun w hw => ⟨rfl, hw.weak some_nil⟩
  refine wc_skip ?_
  refine wq_then ?_
  refine wcr ?_
  refine mv rfl rfl ?_
  refine bdO t0 fun v2 hv2 t0 => ?_
  refine wl_call (co_c2 fa_5 rfl fun w hw => c_spec_DrawLikeness w a_code v0a (Rg.on (rds_arg r0) hw) hv2) rfl fun x1 => ?_
  refine mv rfl rfl ?_
  refine wl_pure (po_extract rfl rfl) rfl ?_
  refine wl_pure (po_extract rfl rfl) rfl ?_
  refine wl_eff (eo_alloc (cs := [.int .i64 0, (sl (⟨none, 0, 0⟩ : Hd))]) za_26) rfl fun b1 => ?_
  refine wl_eff (eo_alloc (cs := [.int .i64 0, (sl (⟨none, 0, 0⟩ : Hd))]) za_26) rfl fun b2 => ?_
  refine wl_skipop (so_box (cs' := [.int .i64 v2.1.Size, (sl x1.1)]) tk_26 (pickS pick0) rfl rfl rfl rfl rfl rfl rfl) ?_
  refine wl_skipop (so_box (cs' := [.int .i64 v2.2.Size, (sl x1.2)]) tk_26 (pickS pick0) rfl rfl rfl rfl rfl rfl rfl) ?_
  refine wnt ?_
  refine wcr ?_
  refine wl_pure (v := .agg #[.int .i64 v2.1.Size, (sl x1.1)]) (po_load_boxs tk_26 (pickS pick0) rfl rfl rfl) rfl ?_
  refine wl_pure (v := .agg #[.int .i64 v2.2.Size, (sl x1.2)]) (po_load_boxs tk_26 pick0 rfl rfl rfl) rfl ?_
  refine bdO t0 fun v3 hv3 t0 => ?_
  refine wl_call (co_c0 fa_6 rfl fun w hw => c_impl_Likeness w v2.1 x1.1 (Rg.on (rds_own (pickS (pickS pick0))) hw) v2.2 x1.2 (Rg.on (rds_own (pickS (pickS (pickS pick0)))) hw) hv3) rfl fun _ => ?_
  refine asg rfl rfl ?_
  refine wnt ?_
  refine wcr ?_
  refine wl_pure (v := .agg #[.int .i64 v2.1.Size, (sl x1.1)]) (po_load_boxs tk_26 (pickS pick0) rfl rfl rfl) rfl ?_
  refine wl_pure (v := .agg #[.int .i64 v2.2.Size, (sl x1.2)]) (po_load_boxs tk_26 pick0 rfl rfl rfl) rfl ?_
  refine bdO t0 fun v4 hv4 t0 => ?_
  refine wl_call (co_c0 fa_7 rfl fun w hw => c_impl_BestLikeness w v2.1 x1.1 (Rg.on (rds_own (pickS (pickS pick0))) hw) v2.2 x1.2 (Rg.on (rds_own (pickS (pickS (pickS pick0)))) hw) hv4) rfl fun _ => ?_
  refine asg rfl rfl ?_
  refine wnt ?_
  refine wcr ?_
  refine wl_pure (v := .agg #[.int .i64 v2.1.Size, (sl x1.1)]) (po_load_boxs tk_26 (pickS pick0) rfl rfl rfl) rfl ?_
  refine wl_pure (v := .agg #[.int .i64 v2.2.Size, (sl x1.2)]) (po_load_boxs tk_26 pick0 rfl rfl rfl) rfl ?_
  refine bdO t0 fun v5 hv5 t0 => ?_
  refine wl_call (co_c0 fa_8 rfl fun w hw => c_impl_BestView w v2.1 x1.1 (Rg.on (rds_own (pickS (pickS pick0))) hw) v2.2 x1.2 (Rg.on (rds_own (pickS (pickS (pickS pick0)))) hw) hv5) rfl fun _ => ?_
  refine asg rfl rfl ?_
  refine wnt ?_
  refine wcr ?_
  refine wl_pure (v := .agg #[.int .i64 v2.1.Size, (sl x1.1)]) (po_load_boxs tk_26 (pickS pick0) rfl rfl rfl) rfl ?_
  refine wl_pure (v := .agg #[.int .i64 v2.2.Size, (sl x1.2)]) (po_load_boxs tk_26 pick0 rfl rfl rfl) rfl ?_
  refine bdO t0 fun v6 hv6 t0 => ?_
  refine wl_call (co_c0 fa_9 rfl fun w hw => c_impl_PatternLikeness w v2.1 x1.1 (Rg.on (rds_own (pickS (pickS pick0))) hw) v2.2 x1.2 (Rg.on (rds_own (pickS (pickS (pickS pick0)))) hw) hv6) rfl fun _ => ?_
  refine asg rfl rfl ?_
  refine wnt ?_
  refine wc_seq ?_
  refine wc_seq ?_
  refine bdO t0 fun y1 t1 t0 => ?_
  refine wj (J := Bool) (X := Unit) (fun z => y1 = z) (fun z _ => [(3, ptr b1 0), (4, ptr b2 0), (5, .int .i64 v3), (6, .int .i64 v4), (7, .int .i64 v5), (8, .int .i64 v6), (46, .bool z)]) (fun _ _ => [box b2 [.int .i64 v2.2.Size, (sl x1.2)], box b1 [.int .i64 v2.1.Size, (sl x1.1)], ownF (sl x1.2) v2.2.Cells, ownF (sl x1.1) v2.1.Cells]) ?_ ?_
  · skip
    refine wc_region ?_
    refine mv rfl rfl ?_
    refine wl_pure (v := .agg #[.int .i64 v2.2.Size, (sl x1.2)]) (po_load_boxs tk_26 pick0 rfl rfl rfl) rfl ?_
    refine wl_pure (v := .agg #[.int .i64 v2.1.Size, (sl x1.1)]) (po_load_boxs tk_26 (pickS pick0) rfl rfl rfl) rfl ?_
    refine bdO t1 fun v7 hv7 t1 => ?_
    refine wl_call (co_c0 fa_6 rfl fun w hw => c_impl_Likeness w v2.2 x1.2 (Rg.on (rds_own (pickS (pickS (pickS pick0)))) hw) v2.1 x1.1 (Rg.on (rds_own (pickS (pickS pick0))) hw) hv7) rfl fun _ => ?_
    refine wl_pure (po_neq rfl rfl) rfl ?_
    refine mv rfl rfl ?_
    refine wlO_ (t := 35) t1 rfl (fun h2 t1 => ?_) fun h2 t1 => ?_
    · skip
      refine wl_guard_off (j := 5) rfl rfl rfl rfl rfl ?_
      refine wl_guard_off (j := 5) rfl rfl rfl rfl rfl ?_
      refine wl_guard_off (j := 5) rfl rfl rfl rfl rfl ?_
      refine wl_guard_off (j := 5) rfl rfl rfl rfl rfl ?_
      refine wl_guard_off (j := 5) rfl rfl rfl rfl rfl ?_
      refine wl_pure (po_pick_t rfl rfl) rfl ?_
      refine mv rfl rfl ?_
      refine wl_guard_off (j := 12) rfl rfl rfl rfl rfl ?_
      refine wl_guard_off (j := 12) rfl rfl rfl rfl rfl ?_
      refine wl_guard_off (j := 12) rfl rfl rfl rfl rfl ?_
      refine wl_pure (po_pick_t rfl rfl) rfl ?_
      refine wl_nil ?_
      exact wj_meet _ () (mtE t1) (sub_cons rfl (sub_cons rfl (sub_cons rfl (sub_cons rfl (sub_cons rfl (sub_cons rfl (sub_cons rfl sub_nil))))))) (some_cons pick0 (some_cons pick0 (some_cons (pickS pick0) (some_cons pick0 some_nil))))
    refine wl_guard_on (j := 5) rfl rfl rfl (mv rfl rfl ?_)
    refine wl_guard_on (j := 5) rfl rfl rfl (wl_pure (v := .agg #[.int .i64 v2.2.Size, (sl x1.2)]) (po_load_boxs tk_26 pick0 rfl rfl rfl) rfl ?_)
    refine wl_guard_on (j := 5) rfl rfl rfl (wl_pure (v := .agg #[.int .i64 v2.1.Size, (sl x1.1)]) (po_load_boxs tk_26 (pickS pick0) rfl rfl rfl) rfl ?_)
    refine bdO t1 fun v8 hv8 t1 => ?_
    refine wl_guard_on (j := 5) rfl rfl rfl (wl_call (co_c0 fa_7 rfl fun w hw => c_impl_BestLikeness w v2.2 x1.2 (Rg.on (rds_own (pickS (pickS (pickS pick0)))) hw) v2.1 x1.1 (Rg.on (rds_own (pickS (pickS pick0))) hw) hv8) rfl (fun _ => ?_))
    refine wl_guard_on (j := 5) rfl rfl rfl (wl_pure (po_neq rfl rfl) rfl ?_)
    refine wl_pure (po_pick_f rfl rfl) rfl ?_
    refine mv rfl rfl ?_
    refine wlO_ (t := 42) t1 rfl (fun h3 t1 => ?_) fun h3 t1 => ?_
    · skip
      refine wl_guard_off (j := 12) rfl rfl rfl rfl rfl ?_
      refine wl_guard_off (j := 12) rfl rfl rfl rfl rfl ?_
      refine wl_guard_off (j := 12) rfl rfl rfl rfl rfl ?_
      refine wl_pure (po_pick_t rfl rfl) rfl ?_
      refine wl_nil ?_
      exact wj_meet _ () (mtE t1) (sub_cons rfl (sub_cons rfl (sub_cons rfl (sub_cons rfl (sub_cons rfl (sub_cons rfl (sub_cons rfl sub_nil))))))) (some_cons pick0 (some_cons pick0 (some_cons (pickS pick0) (some_cons pick0 some_nil))))
    refine wl_guard_on (j := 12) rfl rfl rfl (mv rfl rfl ?_)
    refine wl_guard_on (j := 12) rfl rfl rfl (mv rfl rfl ?_)
    refine wl_guard_on (j := 12) rfl rfl rfl (wl_pure (po_gtr rfl rfl) rfl ?_)
    refine wl_pure (po_pick_f rfl rfl) rfl ?_
    refine wl_nil ?_
    exact wj_meet _ () (mtE t1) (sub_cons rfl (sub_cons rfl (sub_cons rfl (sub_cons rfl (sub_cons rfl (sub_cons rfl (sub_cons rfl sub_nil))))))) (some_cons pick0 (some_cons pick0 (some_cons (pickS pick0) (some_cons pick0 some_nil))))
  intro j1 _ hp
  obtain rfl : j1 = y1 := hp.symm
  refine wq_then ?_
  refine wcO t0 rfl (fun h4 t0 => ?_) fun h4 t0 => ?_
  · skip
    refine wcr ?_
    refine asg rfl rfl ?_
    refine wnt ?_
    refine wc_ret ?_
    refine wq_then_ret ?_
    obtain rfl := Option.some.inj t0
    exact wq_ret1 rfl rfl fun w hw => ⟨rfl, hw.weak some_nil⟩
  refine wc_skip ?_
  refine wq_then ?_
  refine wc_seq ?_
  refine wc_seq ?_
  refine bdO t0 fun y1 t1 t0 => ?_
  refine wj (J := Bool) (X := Unit) (fun z => y1 = z) (fun z _ => [(3, ptr b1 0), (4, ptr b2 0), (5, .int .i64 v3), (6, .int .i64 v4), (7, .int .i64 v5), (8, .int .i64 v6), (61, .bool z)]) (fun _ _ => [box b2 [.int .i64 v2.2.Size, (sl x1.2)], box b1 [.int .i64 v2.1.Size, (sl x1.1)], ownF (sl x1.2) v2.2.Cells, ownF (sl x1.1) v2.1.Cells]) ?_ ?_
  · skip
    refine wc_region ?_
    refine wl_pure (v := .agg #[.int .i64 v2.1.Size, (sl x1.1)]) (po_load_boxs tk_26 (pickS pick0) rfl rfl rfl) rfl ?_
    refine bdO t1 fun v9 hv9 t1 => ?_
    refine wl_call (co_c0 fa_10 rfl fun w hw => c_spec_BlockOk w v2.1 x1.1 (Rg.on (rds_own (pickS (pickS (pickS pick0)))) hw) hv9) rfl fun _ => ?_
    refine wl_pure (po_not rfl) rfl ?_
    refine mv rfl rfl ?_
    refine wlO_ (t := 50) t1 rfl (fun h5 t1 => ?_) fun h5 t1 => ?_
    · skip
      refine wl_guard_off (j := 3) rfl rfl rfl rfl rfl ?_
      refine wl_guard_off (j := 3) rfl rfl rfl rfl rfl ?_
      refine wl_guard_off (j := 3) rfl rfl rfl rfl rfl ?_
      refine wl_pure (po_pick_t rfl rfl) rfl ?_
      refine mv rfl rfl ?_
      refine wl_guard_off (j := 8) rfl rfl rfl rfl rfl ?_
      refine wl_guard_off (j := 8) rfl rfl rfl rfl rfl ?_
      refine wl_guard_off (j := 8) rfl rfl rfl rfl rfl ?_
      refine wl_guard_off (j := 8) rfl rfl rfl rfl rfl ?_
      refine wl_guard_off (j := 8) rfl rfl rfl rfl rfl ?_
      refine wl_pure (po_pick_t rfl rfl) rfl ?_
      refine wl_nil ?_
      exact wj_meet _ () (mtE t1) (sub_cons rfl (sub_cons rfl (sub_cons rfl (sub_cons rfl (sub_cons rfl (sub_cons rfl (sub_cons rfl sub_nil))))))) (some_cons pick0 (some_cons pick0 (some_cons pick0 (some_cons pick0 some_nil))))
    refine wl_guard_on (j := 3) rfl rfl rfl (wl_pure (v := .agg #[.int .i64 v2.2.Size, (sl x1.2)]) (po_load_boxs tk_26 pick0 rfl rfl rfl) rfl ?_)
    refine bdO t1 fun v10 hv10 t1 => ?_
    refine wl_guard_on (j := 3) rfl rfl rfl (wl_call (co_c0 fa_10 rfl fun w hw => c_spec_BlockOk w v2.2 x1.2 (Rg.on (rds_own (pickS (pickS pick0))) hw) hv10) rfl (fun _ => ?_))
    refine wl_guard_on (j := 3) rfl rfl rfl (wl_pure (po_not rfl) rfl ?_)
    refine wl_pure (po_pick_f rfl rfl) rfl ?_
    refine mv rfl rfl ?_
    refine wlO_ (t := 55) t1 rfl (fun h6 t1 => ?_) fun h6 t1 => ?_
    · skip
      refine wl_guard_off (j := 8) rfl rfl rfl rfl rfl ?_
      refine wl_guard_off (j := 8) rfl rfl rfl rfl rfl ?_
      refine wl_guard_off (j := 8) rfl rfl rfl rfl rfl ?_
      refine wl_guard_off (j := 8) rfl rfl rfl rfl rfl ?_
      refine wl_guard_off (j := 8) rfl rfl rfl rfl rfl ?_
      refine wl_pure (po_pick_t rfl rfl) rfl ?_
      refine wl_nil ?_
      exact wj_meet _ () (mtE t1) (sub_cons rfl (sub_cons rfl (sub_cons rfl (sub_cons rfl (sub_cons rfl (sub_cons rfl (sub_cons rfl sub_nil))))))) (some_cons pick0 (some_cons pick0 (some_cons pick0 (some_cons pick0 some_nil))))
    refine wl_guard_on (j := 8) rfl rfl rfl (wl_pure (po_fld fo_26_0 rfl) rfl ?_)
    refine wl_guard_on (j := 8) rfl rfl rfl (wl_pure (v := .int .i64 v2.1.Size) (po_load_box tk_3 (pickS pick0) rfl rfl) rfl ?_)
    refine wl_guard_on (j := 8) rfl rfl rfl (wl_pure (po_fld fo_26_0 rfl) rfl ?_)
    refine wl_guard_on (j := 8) rfl rfl rfl (wl_pure (v := .int .i64 v2.2.Size) (po_load_box tk_3 pick0 rfl rfl) rfl ?_)
    refine wl_guard_on (j := 8) rfl rfl rfl (wl_pure (po_neq rfl rfl) rfl ?_)
    refine wl_pure (po_pick_f rfl rfl) rfl ?_
    refine wl_nil ?_
    exact wj_meet _ () (mtE t1) (sub_cons rfl (sub_cons rfl (sub_cons rfl (sub_cons rfl (sub_cons rfl (sub_cons rfl (sub_cons rfl sub_nil))))))) (some_cons pick0 (some_cons pick0 (some_cons pick0 (some_cons pick0 some_nil))))
  intro j2 _ hp
  obtain rfl : j2 = y1 := hp.symm
  refine wq_then ?_
  refine wcO t0 rfl (fun h7 t0 => ?_) fun h7 t0 => ?_
  · skip
    refine wc_seq ?_
    refine bdO t0 fun y1 t1 t0 => ?_
    refine wj (J := Bool) (X := Unit) (fun z => y1 = z) (fun z _ => [(2, .bool z)]) (fun _ _ => []) ?_ ?_
    · skip
      refine wc_region ?_
      refine mv rfl rfl ?_
      refine wl_pure (po_eql rfl rfl) rfl ?_
      refine mv rfl rfl ?_
      refine wlO_ (t := 64) t1 rfl (fun h8 t1 => ?_) fun h8 t1 => ?_
      · skip
        refine wl_guard_on (j := 2) rfl rfl rfl (mv rfl rfl ?_)
        refine wl_guard_on (j := 2) rfl rfl rfl (wl_pure (po_eql rfl rfl) rfl ?_)
        refine wl_pure (po_pick_t rfl rfl) rfl ?_
        refine mv rfl rfl ?_
        refine wlO_ (t := 68) t1 rfl (fun h9 t1 => ?_) fun h9 t1 => ?_
        · skip
          refine wl_guard_on (j := 6) rfl rfl rfl (mv rfl rfl ?_)
          refine wl_guard_on (j := 6) rfl rfl rfl (wl_pure (po_eql rfl rfl) rfl ?_)
          refine wl_pure (po_pick_t rfl rfl) rfl ?_
          refine mv rfl rfl ?_
          refine wlO_ (t := 72) t1 rfl (fun h10 t1 => ?_) fun h10 t1 => ?_
          · skip
            refine wl_guard_on (j := 10) rfl rfl rfl (mv rfl rfl ?_)
            refine wl_guard_on (j := 10) rfl rfl rfl (wl_pure (po_eql rfl rfl) rfl ?_)
            refine wl_pure (po_pick_t rfl rfl) rfl ?_
            refine mv rfl rfl ?_
            refine wlO_ (t := 76) t1 rfl (fun h11 t1 => ?_) fun h11 t1 => ?_
            · skip
              refine wl_guard_on (j := 14) rfl rfl rfl (wl_pure (po_build rfl bd_33) rfl ?_)
              refine wl_guard_on (j := 14) rfl rfl rfl (wl_pure (po_build rfl bd_33) rfl ?_)
              refine bdO t1 fun v11 hv11 t1 => ?_
              refine wl_guard_on (j := 14) rfl rfl rfl (wl_call (co_c0 fa_11 rfl fun w hw => c_impl_CellLikeness w (GCell.mk 0 0 0) (GCell.mk 0 0 0) hv11) rfl (fun _ => ?_))
              refine wl_guard_on (j := 14) rfl rfl rfl (wl_pure (po_eql rfl rfl) rfl ?_)
              refine wl_pure (po_pick_t rfl rfl) rfl ?_
              refine asg rfl rfl ?_
              refine wl_nil ?_
              exact wj_meet _ () (mtE t1) (sub_cons rfl sub_nil) some_nil
            refine wl_guard_off (j := 14) rfl rfl rfl rfl rfl ?_
            refine wl_guard_off (j := 14) rfl rfl rfl rfl rfl ?_
            refine wl_guard_off (j := 14) rfl rfl rfl rfl rfl ?_
            refine wl_guard_off (j := 14) rfl rfl rfl rfl rfl ?_
            refine wl_pure (po_pick_f rfl rfl) rfl ?_
            refine asg rfl rfl ?_
            refine wl_nil ?_
            exact wj_meet _ () (mtE t1) (sub_cons rfl sub_nil) some_nil
          refine wl_guard_off (j := 10) rfl rfl rfl rfl rfl ?_
          refine wl_guard_off (j := 10) rfl rfl rfl rfl rfl ?_
          refine wl_pure (po_pick_f rfl rfl) rfl ?_
          refine mv rfl rfl ?_
          refine wl_guard_off (j := 14) rfl rfl rfl rfl rfl ?_
          refine wl_guard_off (j := 14) rfl rfl rfl rfl rfl ?_
          refine wl_guard_off (j := 14) rfl rfl rfl rfl rfl ?_
          refine wl_guard_off (j := 14) rfl rfl rfl rfl rfl ?_
          refine wl_pure (po_pick_f rfl rfl) rfl ?_
          refine asg rfl rfl ?_
          refine wl_nil ?_
          exact wj_meet _ () (mtE t1) (sub_cons rfl sub_nil) some_nil
        refine wl_guard_off (j := 6) rfl rfl rfl rfl rfl ?_
        refine wl_guard_off (j := 6) rfl rfl rfl rfl rfl ?_
        refine wl_pure (po_pick_f rfl rfl) rfl ?_
        refine mv rfl rfl ?_
        refine wl_guard_off (j := 10) rfl rfl rfl rfl rfl ?_
        refine wl_guard_off (j := 10) rfl rfl rfl rfl rfl ?_
        refine wl_pure (po_pick_f rfl rfl) rfl ?_
        refine mv rfl rfl ?_
        refine wl_guard_off (j := 14) rfl rfl rfl rfl rfl ?_
        refine wl_guard_off (j := 14) rfl rfl rfl rfl rfl ?_
        refine wl_guard_off (j := 14) rfl rfl rfl rfl rfl ?_
        refine wl_guard_off (j := 14) rfl rfl rfl rfl rfl ?_
        refine wl_pure (po_pick_f rfl rfl) rfl ?_
        refine asg rfl rfl ?_
        refine wl_nil ?_
        exact wj_meet _ () (mtE t1) (sub_cons rfl sub_nil) some_nil
      refine wl_guard_off (j := 2) rfl rfl rfl rfl rfl ?_
      refine wl_guard_off (j := 2) rfl rfl rfl rfl rfl ?_
      refine wl_pure (po_pick_f rfl rfl) rfl ?_
      refine mv rfl rfl ?_
      refine wl_guard_off (j := 6) rfl rfl rfl rfl rfl ?_
      refine wl_guard_off (j := 6) rfl rfl rfl rfl rfl ?_
      refine wl_pure (po_pick_f rfl rfl) rfl ?_
      refine mv rfl rfl ?_
      refine wl_guard_off (j := 10) rfl rfl rfl rfl rfl ?_
      refine wl_guard_off (j := 10) rfl rfl rfl rfl rfl ?_
      refine wl_pure (po_pick_f rfl rfl) rfl ?_
      refine mv rfl rfl ?_
      refine wl_guard_off (j := 14) rfl rfl rfl rfl rfl ?_
      refine wl_guard_off (j := 14) rfl rfl rfl rfl rfl ?_
      refine wl_guard_off (j := 14) rfl rfl rfl rfl rfl ?_
      refine wl_guard_off (j := 14) rfl rfl rfl rfl rfl ?_
      refine wl_pure (po_pick_f rfl rfl) rfl ?_
      refine asg rfl rfl ?_
      refine wl_nil ?_
      exact wj_meet _ () (mtE t1) (sub_cons rfl sub_nil) some_nil
    intro j3 _ hp
    obtain rfl : j3 = y1 := hp.symm
    refine wq_then ?_
    refine wc_ret ?_
    refine wq_then_ret ?_
    obtain rfl := Option.some.inj t0
    exact wq_ret1 rfl rfl fun w hw => ⟨rfl, hw.weak some_nil⟩
  refine wc_skip ?_
  refine wq_then ?_
  refine wcr ?_
  refine wl_pure (po_fld fo_26_1 rfl) rfl ?_
  refine wl_pure (v := (sl x1.1)) (po_load_box tk_24 (pickS pick0) rfl rfl) rfl ?_
  refine wl_pure (po_lenr (rds_own (pickS (pickS (pickS pick0)))) el_24 rfl) rfl ?_
  refine wl_pure (po_mul rfl rfl) rfl ?_
  refine asg rfl rfl ?_
  refine wnt ?_
  refine wcr ?_
  refine wl_pure (v := .agg #[.int .i64 v2.2.Size, (sl x1.2)]) (po_load_boxs tk_26 pick0 rfl rfl rfl) rfl ?_
  refine bdO t0 fun v12 hv12 t0 => ?_
  refine wl_call (co_c1 fa_12 rfl fun w hw => c_spec_ColorsOf w v2.2 x1.2 (Rg.on (rds_own (pickS (pickS pick0))) hw) hv12) rfl fun x5 => ?_
  refine wl_pure (po_lenr (rds_own pick0) el_34 rfl) rfl ?_
  refine wl_pure (po_leq rfl rfl) rfl ?_
  refine asg rfl rfl ?_
  refine wnt ?_
  refine wc_seq ?_
  refine wc_seq ?_
  refine bdO t0 fun y1 t1 t0 => ?_
  refine wj (J := Bool) (X := Unit) (fun z => y1 = z) (fun z _ => [(8, .int .i64 v6), (10, .bool (decide (((v12.length : Nat) : Int) ≤ 3))), (150, .bool z)]) (fun _ _ => []) ?_ ?_
  · skip
    refine wc_draw [ownF (sl x5) v12, box b2 [.int .i64 v2.2.Size, (sl x1.2)], box b1 [.int .i64 v2.1.Size, (sl x1.1)], ownF (sl x1.2) v2.2.Cells, ownF (sl x1.1) v2.1.Cells] 61 mixed ?_
    refine wa_pure 0 rfl (po_move rfl) (some_cons pick0 (some_cons pick0 (some_cons pick0 (some_cons pick0 (some_cons pick0 some_nil))))) rfl (by kernel_rfl) (fun _ _ _ h => h) ?_
    refine wa_pure 1 rfl (po_move rfl) (some_cons pick0 (some_cons pick0 (some_cons pick0 (some_cons pick0 (some_cons pick0 some_nil))))) rfl (by kernel_rfl) (fun _ _ _ h => h) ?_
    refine wa_pure 2 rfl (po_gtr rfl rfl) (some_cons pick0 (some_cons pick0 (some_cons pick0 (some_cons pick0 (some_cons pick0 some_nil))))) rfl (by kernel_rfl) (fun _ _ _ h => h) ?_
    refine wa_pure 3 rfl (po_move rfl) (some_cons pick0 (some_cons pick0 (some_cons pick0 (some_cons pick0 (some_cons pick0 some_nil))))) rfl (by kernel_rfl) (fun _ _ _ h => h) ?_
    refine waO_ (t := 93) t1 rfl (fun h12 t1 => ?_) fun h12 t1 => ?_
    · skip
      refine wa_off 4 (j := 3) rfl rfl rfl rfl rfl (some_cons pick0 (some_cons pick0 (some_cons pick0 (some_cons pick0 (some_cons pick0 some_nil))))) rfl (by kernel_rfl) (fun _ _ _ h => h) ?_
      refine wa_off 5 (j := 3) rfl rfl rfl rfl rfl (some_cons pick0 (some_cons pick0 (some_cons pick0 (some_cons pick0 (some_cons pick0 some_nil))))) rfl (by kernel_rfl) (fun _ _ _ h => h) ?_
      refine wa_off 6 (j := 3) rfl rfl rfl rfl rfl (some_cons pick0 (some_cons pick0 (some_cons pick0 (some_cons pick0 (some_cons pick0 some_nil))))) rfl (by kernel_rfl) (fun _ _ _ h => h) ?_
      refine wa_off 7 (j := 3) rfl rfl rfl rfl rfl (some_cons pick0 (some_cons pick0 (some_cons pick0 (some_cons pick0 (some_cons pick0 some_nil))))) rfl (by kernel_rfl) (fun _ _ _ h => h) ?_
      refine wa_off 8 (j := 3) rfl rfl rfl rfl rfl (some_cons pick0 (some_cons pick0 (some_cons pick0 (some_cons pick0 (some_cons pick0 some_nil))))) rfl (by kernel_rfl) (fun _ _ _ h => h) ?_
      refine wa_pure 9 rfl (po_pick_t rfl rfl) (some_cons pick0 (some_cons pick0 (some_cons pick0 (some_cons pick0 (some_cons pick0 some_nil))))) rfl (by kernel_rfl) (fun _ _ _ h => h) ?_
      refine wa_pure 10 rfl (po_move rfl) (some_cons pick0 (some_cons pick0 (some_cons pick0 (some_cons pick0 (some_cons pick0 some_nil))))) rfl (by kernel_rfl) (fun _ _ _ h => h) ?_
      refine wa_off 11 (j := 10) rfl rfl rfl rfl rfl (some_cons pick0 (some_cons pick0 (some_cons pick0 (some_cons pick0 (some_cons pick0 some_nil))))) rfl (by kernel_rfl) (fun _ _ _ h => h) ?_
      refine wa_off 12 (j := 10) rfl rfl rfl rfl rfl (some_cons pick0 (some_cons pick0 (some_cons pick0 (some_cons pick0 (some_cons pick0 some_nil))))) rfl (by kernel_rfl) (fun _ _ _ h => h) ?_
      refine wa_pure 13 rfl (po_pick_t rfl rfl) (some_cons pick0 (some_cons pick0 (some_cons pick0 (some_cons pick0 (some_cons pick0 some_nil))))) rfl (by kernel_rfl) (fun _ _ _ h => h) ?_
      refine wa_pure 14 rfl (po_move rfl) (some_cons pick0 (some_cons pick0 (some_cons pick0 (some_cons pick0 (some_cons pick0 some_nil))))) rfl (by kernel_rfl) (fun _ _ _ h => h) ?_
      refine wa_off 15 (j := 14) rfl rfl rfl rfl rfl (some_cons pick0 (some_cons pick0 (some_cons pick0 (some_cons pick0 (some_cons pick0 some_nil))))) rfl (by kernel_rfl) (fun _ _ _ h => h) ?_
      refine wa_off 16 (j := 14) rfl rfl rfl rfl rfl (some_cons pick0 (some_cons pick0 (some_cons pick0 (some_cons pick0 (some_cons pick0 some_nil))))) rfl (by kernel_rfl) (fun _ _ _ h => h) ?_
      refine wa_pure 17 rfl (po_pick_t rfl rfl) (some_cons pick0 (some_cons pick0 (some_cons pick0 (some_cons pick0 (some_cons pick0 some_nil))))) rfl (by kernel_rfl) (fun _ _ _ h => h) ?_
      refine wa_pure 18 rfl (po_move rfl) (some_cons pick0 (some_cons pick0 (some_cons pick0 (some_cons pick0 (some_cons pick0 some_nil))))) rfl (by kernel_rfl) (fun _ _ _ h => h) ?_
      refine wa_off 19 (j := 18) rfl rfl rfl rfl rfl (some_cons pick0 (some_cons pick0 (some_cons pick0 (some_cons pick0 (some_cons pick0 some_nil))))) rfl (by kernel_rfl) (fun _ _ _ h => h) ?_
      refine wa_off 20 (j := 18) rfl rfl rfl rfl rfl (some_cons pick0 (some_cons pick0 (some_cons pick0 (some_cons pick0 (some_cons pick0 some_nil))))) rfl (by kernel_rfl) (fun _ _ _ h => h) ?_
      refine wa_off 21 (j := 18) rfl rfl rfl rfl rfl (some_cons pick0 (some_cons pick0 (some_cons pick0 (some_cons pick0 (some_cons pick0 some_nil))))) rfl (by kernel_rfl) (fun _ _ _ h => h) ?_
      refine wa_off 22 (j := 18) rfl rfl rfl rfl rfl (some_cons pick0 (some_cons pick0 (some_cons pick0 (some_cons pick0 (some_cons pick0 some_nil))))) rfl (by kernel_rfl) (fun _ _ _ h => h) ?_
      refine wa_off 23 (j := 18) rfl rfl rfl rfl rfl (some_cons pick0 (some_cons pick0 (some_cons pick0 (some_cons pick0 (some_cons pick0 some_nil))))) rfl (by kernel_rfl) (fun _ _ _ h => h) ?_
      refine wa_off 24 (j := 18) rfl rfl rfl rfl rfl (some_cons pick0 (some_cons pick0 (some_cons pick0 (some_cons pick0 (some_cons pick0 some_nil))))) rfl (by kernel_rfl) (fun _ _ _ h => h) ?_
      refine wa_off 25 (j := 18) rfl rfl rfl rfl rfl (some_cons pick0 (some_cons pick0 (some_cons pick0 (some_cons pick0 (some_cons pick0 some_nil))))) rfl (by kernel_rfl) (fun _ _ _ h => h) ?_
      refine wa_pure 26 rfl (po_pick_t rfl rfl) (some_cons pick0 (some_cons pick0 (some_cons pick0 (some_cons pick0 (some_cons pick0 some_nil))))) rfl (by kernel_rfl) (fun _ _ _ h => h) ?_
      refine wa_pure 27 rfl (po_move rfl) (some_cons pick0 (some_cons pick0 (some_cons pick0 (some_cons pick0 (some_cons pick0 some_nil))))) rfl (by kernel_rfl) (fun _ _ _ h => h) ?_
      refine wa_off 28 (j := 27) rfl rfl rfl rfl rfl (some_cons pick0 (some_cons pick0 (some_cons pick0 (some_cons pick0 (some_cons pick0 some_nil))))) rfl (by kernel_rfl) (fun _ _ _ h => h) ?_
      refine wa_off 29 (j := 27) rfl rfl rfl rfl rfl (some_cons pick0 (some_cons pick0 (some_cons pick0 (some_cons pick0 (some_cons pick0 some_nil))))) rfl (by kernel_rfl) (fun _ _ _ h => h) ?_
      refine wa_undef 30 (j := 29) rfl rfl rfl rfl (some_cons pick0 (some_cons pick0 (some_cons pick0 (some_cons pick0 (some_cons pick0 some_nil))))) rfl (by kernel_rfl) (fun _ _ _ h => h) ?_
      refine wa_undef 31 (j := 29) rfl rfl rfl rfl (some_cons pick0 (some_cons pick0 (some_cons pick0 (some_cons pick0 (some_cons pick0 some_nil))))) rfl (by kernel_rfl) (fun _ _ _ h => h) ?_
      refine wa_undef 32 (j := 29) rfl rfl rfl rfl (some_cons pick0 (some_cons pick0 (some_cons pick0 (some_cons pick0 (some_cons pick0 some_nil))))) rfl (by kernel_rfl) (fun _ _ _ h => h) ?_
      refine wa_off 33 (j := 27) rfl rfl rfl rfl rfl (some_cons pick0 (some_cons pick0 (some_cons pick0 (some_cons pick0 (some_cons pick0 some_nil))))) rfl (by kernel_rfl) (fun _ _ _ h => h) ?_
      refine wa_pure 34 rfl (po_pick_t rfl rfl) (some_cons pick0 (some_cons pick0 (some_cons pick0 (some_cons pick0 (some_cons pick0 some_nil))))) rfl (by kernel_rfl) (fun _ _ _ h => h) ?_
      refine wa_pure 35 rfl (po_move rfl) (some_cons pick0 (some_cons pick0 (some_cons pick0 (some_cons pick0 (some_cons pick0 some_nil))))) rfl (by kernel_rfl) (fun _ _ _ h => h) ?_
      refine wa_off 36 (j := 35) rfl rfl rfl rfl rfl (some_cons pick0 (some_cons pick0 (some_cons pick0 (some_cons pick0 (some_cons pick0 some_nil))))) rfl (by kernel_rfl) (fun _ _ _ h => h) ?_
      refine wa_off 37 (j := 35) rfl rfl rfl rfl rfl (some_cons pick0 (some_cons pick0 (some_cons pick0 (some_cons pick0 (some_cons pick0 some_nil))))) rfl (by kernel_rfl) (fun _ _ _ h => h) ?_
      refine wa_off 38 (j := 35) rfl rfl rfl rfl rfl (some_cons pick0 (some_cons pick0 (some_cons pick0 (some_cons pick0 (some_cons pick0 some_nil))))) rfl (by kernel_rfl) (fun _ _ _ h => h) ?_
      refine wa_pure 39 rfl (po_pick_t rfl rfl) (some_cons pick0 (some_cons pick0 (some_cons pick0 (some_cons pick0 (some_cons pick0 some_nil))))) rfl (by kernel_rfl) (fun _ _ _ h => h) ?_
      refine wa_pure 40 rfl (po_move rfl) (some_cons pick0 (some_cons pick0 (some_cons pick0 (some_cons pick0 (some_cons pick0 some_nil))))) rfl (by kernel_rfl) (fun _ _ _ h => h) ?_
      refine wa_off 41 (j := 40) rfl rfl rfl rfl rfl (some_cons pick0 (some_cons pick0 (some_cons pick0 (some_cons pick0 (some_cons pick0 some_nil))))) rfl (by kernel_rfl) (fun _ _ _ h => h) ?_
      refine wa_off 42 (j := 40) rfl rfl rfl rfl rfl (some_cons pick0 (some_cons pick0 (some_cons pick0 (some_cons pick0 (some_cons pick0 some_nil))))) rfl (by kernel_rfl) (fun _ _ _ h => h) ?_
      refine wa_off 43 (j := 40) rfl rfl rfl rfl rfl (some_cons pick0 (some_cons pick0 (some_cons pick0 (some_cons pick0 (some_cons pick0 some_nil))))) rfl (by kernel_rfl) (fun _ _ _ h => h) ?_
      refine wa_off 44 (j := 40) rfl rfl rfl rfl rfl (some_cons pick0 (some_cons pick0 (some_cons pick0 (some_cons pick0 (some_cons pick0 some_nil))))) rfl (by kernel_rfl) (fun _ _ _ h => h) ?_
      refine wa_off 45 (j := 40) rfl rfl rfl rfl rfl (some_cons pick0 (some_cons pick0 (some_cons pick0 (some_cons pick0 (some_cons pick0 some_nil))))) rfl (by kernel_rfl) (fun _ _ _ h => h) ?_
      refine wa_off 46 (j := 40) rfl rfl rfl rfl rfl (some_cons pick0 (some_cons pick0 (some_cons pick0 (some_cons pick0 (some_cons pick0 some_nil))))) rfl (by kernel_rfl) (fun _ _ _ h => h) ?_
      refine wa_off 47 (j := 40) rfl rfl rfl rfl rfl (some_cons pick0 (some_cons pick0 (some_cons pick0 (some_cons pick0 (some_cons pick0 some_nil))))) rfl (by kernel_rfl) (fun _ _ _ h => h) ?_
      refine wa_pure 48 rfl (po_pick_t rfl rfl) (some_cons pick0 (some_cons pick0 (some_cons pick0 (some_cons pick0 (some_cons pick0 some_nil))))) rfl (by kernel_rfl) (fun _ _ _ h => h) ?_
      refine wa_pure 49 rfl (po_move rfl) (some_cons pick0 (some_cons pick0 (some_cons pick0 (some_cons pick0 (some_cons pick0 some_nil))))) rfl (by kernel_rfl) (fun _ _ _ h => h) ?_
      refine wa_off 50 (j := 49) rfl rfl rfl rfl rfl (some_cons pick0 (some_cons pick0 (some_cons pick0 (some_cons pick0 (some_cons pick0 some_nil))))) rfl (by kernel_rfl) (fun _ _ _ h => h) ?_
      refine wa_off 51 (j := 49) rfl rfl rfl rfl rfl (some_cons pick0 (some_cons pick0 (some_cons pick0 (some_cons pick0 (some_cons pick0 some_nil))))) rfl (by kernel_rfl) (fun _ _ _ h => h) ?_
      refine wa_undef 52 (j := 51) rfl rfl rfl rfl (some_cons pick0 (some_cons pick0 (some_cons pick0 (some_cons pick0 (some_cons pick0 some_nil))))) rfl (by kernel_rfl) (fun _ _ _ h => h) ?_
      refine wa_undef 53 (j := 51) rfl rfl rfl rfl (some_cons pick0 (some_cons pick0 (some_cons pick0 (some_cons pick0 (some_cons pick0 some_nil))))) rfl (by kernel_rfl) (fun _ _ _ h => h) ?_
      refine wa_undef 54 (j := 51) rfl rfl rfl rfl (some_cons pick0 (some_cons pick0 (some_cons pick0 (some_cons pick0 (some_cons pick0 some_nil))))) rfl (by kernel_rfl) (fun _ _ _ h => h) ?_
      refine wa_undef 55 (j := 51) rfl rfl rfl rfl (some_cons pick0 (some_cons pick0 (some_cons pick0 (some_cons pick0 (some_cons pick0 some_nil))))) rfl (by kernel_rfl) (fun _ _ _ h => h) ?_
      refine wa_undef 56 (j := 51) rfl rfl rfl rfl (some_cons pick0 (some_cons pick0 (some_cons pick0 (some_cons pick0 (some_cons pick0 some_nil))))) rfl (by kernel_rfl) (fun _ _ _ h => h) ?_
      refine wa_undef 57 (j := 51) rfl rfl rfl rfl (some_cons pick0 (some_cons pick0 (some_cons pick0 (some_cons pick0 (some_cons pick0 some_nil))))) rfl (by kernel_rfl) (fun _ _ _ h => h) ?_
      refine wa_undef 58 (j := 51) rfl rfl rfl rfl (some_cons pick0 (some_cons pick0 (some_cons pick0 (some_cons pick0 (some_cons pick0 some_nil))))) rfl (by kernel_rfl) (fun _ _ _ h => h) ?_
      refine wa_off 59 (j := 49) rfl rfl rfl rfl rfl (some_cons pick0 (some_cons pick0 (some_cons pick0 (some_cons pick0 (some_cons pick0 some_nil))))) rfl (by kernel_rfl) (fun _ _ _ h => h) ?_
      refine wa_pure 60 rfl (po_pick_t rfl rfl) (some_cons pick0 (some_cons pick0 (some_cons pick0 (some_cons pick0 (some_cons pick0 some_nil))))) rfl (by kernel_rfl) (fun _ _ _ h => h) ?_
      refine wa_done (by kernel_rfl) ?_
      exact wj_meet _ () (mtE t1) (sub_cons rfl (sub_cons rfl (sub_cons rfl sub_nil))) some_nil
    refine wa_pure_on (v := .agg #[.int .i64 v2.1.Size, (sl x1.1)]) 4 (j := 3) rfl rfl rfl rfl (po_load_boxs tk_26 (pickS (pickS pick0)) rfl rfl rfl) (some_cons pick0 (some_cons pick0 (some_cons pick0 (some_cons pick0 (some_cons pick0 some_nil))))) rfl (by kernel_rfl) (fun _ _ _ h => h) ?_
    refine wa_pure_on (v := .agg #[.int .i64 v2.1.Size, (sl x1.1)]) 5 (j := 3) rfl rfl rfl rfl (po_load_boxs tk_26 (pickS (pickS pick0)) rfl rfl rfl) (some_cons pick0 (some_cons pick0 (some_cons pick0 (some_cons pick0 (some_cons pick0 some_nil))))) rfl (by kernel_rfl) (fun _ _ _ h => h) ?_
    refine wa_pure_on 7 (j := 3) rfl rfl rfl rfl (po_move rfl) (some_cons pick0 (some_cons pick0 (some_cons pick0 (some_cons pick0 (some_cons pick0 some_nil))))) rfl (by kernel_rfl) (fun _ _ _ h => h) ?_
    refine wa_1 (i := 6) (by kernel_rfl) ?_
    refine bdO t1 fun v13 hv13 t1 => ?_
    refine ws_call_on (j := 3) rfl rfl rfl rfl (co_c0 fa_6 rfl fun w hw => c_impl_Likeness w v2.1 x1.1 (Rg.on (rds_own (pickS (pickS (pickS (pickS pick0))))) hw) v2.1 x1.1 (Rg.on (rds_own (pickS (pickS (pickS (pickS pick0))))) hw) hv13) (fun _ => (sts_some (some_cons pick0 (some_cons pick0 (some_cons pick0 (some_cons pick0 (some_cons pick0 some_nil))))))) rfl fun _ => ?_
    refine wa_pure_on 8 (j := 3) rfl rfl rfl rfl (po_neq rfl rfl) (some_cons pick0 (some_cons pick0 (some_cons pick0 (some_cons pick0 (some_cons pick0 some_nil))))) rfl (by kernel_rfl) (fun _ _ _ h => h) ?_
    refine wa_pure 9 rfl (po_pick_f rfl rfl) (some_cons pick0 (some_cons pick0 (some_cons pick0 (some_cons pick0 (some_cons pick0 some_nil))))) rfl (by kernel_rfl) (fun _ _ _ h => h) ?_
    refine wa_pure 10 rfl (po_move rfl) (some_cons pick0 (some_cons pick0 (some_cons pick0 (some_cons pick0 (some_cons pick0 some_nil))))) rfl (by kernel_rfl) (fun _ _ _ h => h) ?_
    refine waO_ (t := 100) t1 rfl (fun h13 t1 => ?_) fun h13 t1 => ?_
    · skip
      refine wa_off 11 (j := 10) rfl rfl rfl rfl rfl (some_cons pick0 (some_cons pick0 (some_cons pick0 (some_cons pick0 (some_cons pick0 some_nil))))) rfl (by kernel_rfl) (fun _ _ _ h => h) ?_
      refine wa_off 12 (j := 10) rfl rfl rfl rfl rfl (some_cons pick0 (some_cons pick0 (some_cons pick0 (some_cons pick0 (some_cons pick0 some_nil))))) rfl (by kernel_rfl) (fun _ _ _ h => h) ?_
      refine wa_pure 13 rfl (po_pick_t rfl rfl) (some_cons pick0 (some_cons pick0 (some_cons pick0 (some_cons pick0 (some_cons pick0 some_nil))))) rfl (by kernel_rfl) (fun _ _ _ h => h) ?_
      refine wa_pure 14 rfl (po_move rfl) (some_cons pick0 (some_cons pick0 (some_cons pick0 (some_cons pick0 (some_cons pick0 some_nil))))) rfl (by kernel_rfl) (fun _ _ _ h => h) ?_
      refine wa_off 15 (j := 14) rfl rfl rfl rfl rfl (some_cons pick0 (some_cons pick0 (some_cons pick0 (some_cons pick0 (some_cons pick0 some_nil))))) rfl (by kernel_rfl) (fun _ _ _ h => h) ?_
      refine wa_off 16 (j := 14) rfl rfl rfl rfl rfl (some_cons pick0 (some_cons pick0 (some_cons pick0 (some_cons pick0 (some_cons pick0 some_nil))))) rfl (by kernel_rfl) (fun _ _ _ h => h) ?_
      refine wa_pure 17 rfl (po_pick_t rfl rfl) (some_cons pick0 (some_cons pick0 (some_cons pick0 (some_cons pick0 (some_cons pick0 some_nil))))) rfl (by kernel_rfl) (fun _ _ _ h => h) ?_
      refine wa_pure 18 rfl (po_move rfl) (some_cons pick0 (some_cons pick0 (some_cons pick0 (some_cons pick0 (some_cons pick0 some_nil))))) rfl (by kernel_rfl) (fun _ _ _ h => h) ?_
      refine wa_off 19 (j := 18) rfl rfl rfl rfl rfl (some_cons pick0 (some_cons pick0 (some_cons pick0 (some_cons pick0 (some_cons pick0 some_nil))))) rfl (by kernel_rfl) (fun _ _ _ h => h) ?_
      refine wa_off 20 (j := 18) rfl rfl rfl rfl rfl (some_cons pick0 (some_cons pick0 (some_cons pick0 (some_cons pick0 (some_cons pick0 some_nil))))) rfl (by kernel_rfl) (fun _ _ _ h => h) ?_
      refine wa_off 21 (j := 18) rfl rfl rfl rfl rfl (some_cons pick0 (some_cons pick0 (some_cons pick0 (some_cons pick0 (some_cons pick0 some_nil))))) rfl (by kernel_rfl) (fun _ _ _ h => h) ?_
      refine wa_off 22 (j := 18) rfl rfl rfl rfl rfl (some_cons pick0 (some_cons pick0 (some_cons pick0 (some_cons pick0 (some_cons pick0 some_nil))))) rfl (by kernel_rfl) (fun _ _ _ h => h) ?_
      refine wa_off 23 (j := 18) rfl rfl rfl rfl rfl (some_cons pick0 (some_cons pick0 (some_cons pick0 (some_cons pick0 (some_cons pick0 some_nil))))) rfl (by kernel_rfl) (fun _ _ _ h => h) ?_
      refine wa_off 24 (j := 18) rfl rfl rfl rfl rfl (some_cons pick0 (some_cons pick0 (some_cons pick0 (some_cons pick0 (some_cons pick0 some_nil))))) rfl (by kernel_rfl) (fun _ _ _ h => h) ?_
      refine wa_off 25 (j := 18) rfl rfl rfl rfl rfl (some_cons pick0 (some_cons pick0 (some_cons pick0 (some_cons pick0 (some_cons pick0 some_nil))))) rfl (by kernel_rfl) (fun _ _ _ h => h) ?_
      refine wa_pure 26 rfl (po_pick_t rfl rfl) (some_cons pick0 (some_cons pick0 (some_cons pick0 (some_cons pick0 (some_cons pick0 some_nil))))) rfl (by kernel_rfl) (fun _ _ _ h => h) ?_
      refine wa_pure 27 rfl (po_move rfl) (some_cons pick0 (some_cons pick0 (some_cons pick0 (some_cons pick0 (some_cons pick0 some_nil))))) rfl (by kernel_rfl) (fun _ _ _ h => h) ?_
      refine wa_off 28 (j := 27) rfl rfl rfl rfl rfl (some_cons pick0 (some_cons pick0 (some_cons pick0 (some_cons pick0 (some_cons pick0 some_nil))))) rfl (by kernel_rfl) (fun _ _ _ h => h) ?_
      refine wa_off 29 (j := 27) rfl rfl rfl rfl rfl (some_cons pick0 (some_cons pick0 (some_cons pick0 (some_cons pick0 (some_cons pick0 some_nil))))) rfl (by kernel_rfl) (fun _ _ _ h => h) ?_
      refine wa_undef 30 (j := 29) rfl rfl rfl rfl (some_cons pick0 (some_cons pick0 (some_cons pick0 (some_cons pick0 (some_cons pick0 some_nil))))) rfl (by kernel_rfl) (fun _ _ _ h => h) ?_
      refine wa_undef 31 (j := 29) rfl rfl rfl rfl (some_cons pick0 (some_cons pick0 (some_cons pick0 (some_cons pick0 (some_cons pick0 some_nil))))) rfl (by kernel_rfl) (fun _ _ _ h => h) ?_
      refine wa_undef 32 (j := 29) rfl rfl rfl rfl (some_cons pick0 (some_cons pick0 (some_cons pick0 (some_cons pick0 (some_cons pick0 some_nil))))) rfl (by kernel_rfl) (fun _ _ _ h => h) ?_
      refine wa_off 33 (j := 27) rfl rfl rfl rfl rfl (some_cons pick0 (some_cons pick0 (some_cons pick0 (some_cons pick0 (some_cons pick0 some_nil))))) rfl (by kernel_rfl) (fun _ _ _ h => h) ?_
      refine wa_pure 34 rfl (po_pick_t rfl rfl) (some_cons pick0 (some_cons pick0 (some_cons pick0 (some_cons pick0 (some_cons pick0 some_nil))))) rfl (by kernel_rfl) (fun _ _ _ h => h) ?_
      refine wa_pure 35 rfl (po_move rfl) (some_cons pick0 (some_cons pick0 (some_cons pick0 (some_cons pick0 (some_cons pick0 some_nil))))) rfl (by kernel_rfl) (fun _ _ _ h => h) ?_
      refine wa_off 36 (j := 35) rfl rfl rfl rfl rfl (some_cons pick0 (some_cons pick0 (some_cons pick0 (some_cons pick0 (some_cons pick0 some_nil))))) rfl (by kernel_rfl) (fun _ _ _ h => h) ?_
      refine wa_off 37 (j := 35) rfl rfl rfl rfl rfl (some_cons pick0 (some_cons pick0 (some_cons pick0 (some_cons pick0 (some_cons pick0 some_nil))))) rfl (by kernel_rfl) (fun _ _ _ h => h) ?_
      refine wa_off 38 (j := 35) rfl rfl rfl rfl rfl (some_cons pick0 (some_cons pick0 (some_cons pick0 (some_cons pick0 (some_cons pick0 some_nil))))) rfl (by kernel_rfl) (fun _ _ _ h => h) ?_
      refine wa_pure 39 rfl (po_pick_t rfl rfl) (some_cons pick0 (some_cons pick0 (some_cons pick0 (some_cons pick0 (some_cons pick0 some_nil))))) rfl (by kernel_rfl) (fun _ _ _ h => h) ?_
      refine wa_pure 40 rfl (po_move rfl) (some_cons pick0 (some_cons pick0 (some_cons pick0 (some_cons pick0 (some_cons pick0 some_nil))))) rfl (by kernel_rfl) (fun _ _ _ h => h) ?_
      refine wa_off 41 (j := 40) rfl rfl rfl rfl rfl (some_cons pick0 (some_cons pick0 (some_cons pick0 (some_cons pick0 (some_cons pick0 some_nil))))) rfl (by kernel_rfl) (fun _ _ _ h => h) ?_
      refine wa_off 42 (j := 40) rfl rfl rfl rfl rfl (some_cons pick0 (some_cons pick0 (some_cons pick0 (some_cons pick0 (some_cons pick0 some_nil))))) rfl (by kernel_rfl) (fun _ _ _ h => h) ?_
      refine wa_off 43 (j := 40) rfl rfl rfl rfl rfl (some_cons pick0 (some_cons pick0 (some_cons pick0 (some_cons pick0 (some_cons pick0 some_nil))))) rfl (by kernel_rfl) (fun _ _ _ h => h) ?_
      refine wa_off 44 (j := 40) rfl rfl rfl rfl rfl (some_cons pick0 (some_cons pick0 (some_cons pick0 (some_cons pick0 (some_cons pick0 some_nil))))) rfl (by kernel_rfl) (fun _ _ _ h => h) ?_
      refine wa_off 45 (j := 40) rfl rfl rfl rfl rfl (some_cons pick0 (some_cons pick0 (some_cons pick0 (some_cons pick0 (some_cons pick0 some_nil))))) rfl (by kernel_rfl) (fun _ _ _ h => h) ?_
      refine wa_off 46 (j := 40) rfl rfl rfl rfl rfl (some_cons pick0 (some_cons pick0 (some_cons pick0 (some_cons pick0 (some_cons pick0 some_nil))))) rfl (by kernel_rfl) (fun _ _ _ h => h) ?_
      refine wa_off 47 (j := 40) rfl rfl rfl rfl rfl (some_cons pick0 (some_cons pick0 (some_cons pick0 (some_cons pick0 (some_cons pick0 some_nil))))) rfl (by kernel_rfl) (fun _ _ _ h => h) ?_
      refine wa_pure 48 rfl (po_pick_t rfl rfl) (some_cons pick0 (some_cons pick0 (some_cons pick0 (some_cons pick0 (some_cons pick0 some_nil))))) rfl (by kernel_rfl) (fun _ _ _ h => h) ?_
      refine wa_pure 49 rfl (po_move rfl) (some_cons pick0 (some_cons pick0 (some_cons pick0 (some_cons pick0 (some_cons pick0 some_nil))))) rfl (by kernel_rfl) (fun _ _ _ h => h) ?_
      refine wa_off 50 (j := 49) rfl rfl rfl rfl rfl (some_cons pick0 (some_cons pick0 (some_cons pick0 (some_cons pick0 (some_cons pick0 some_nil))))) rfl (by kernel_rfl) (fun _ _ _ h => h) ?_
      refine wa_off 51 (j := 49) rfl rfl rfl rfl rfl (some_cons pick0 (some_cons pick0 (some_cons pick0 (some_cons pick0 (some_cons pick0 some_nil))))) rfl (by kernel_rfl) (fun _ _ _ h => h) ?_
      refine wa_undef 52 (j := 51) rfl rfl rfl rfl (some_cons pick0 (some_cons pick0 (some_cons pick0 (some_cons pick0 (some_cons pick0 some_nil))))) rfl (by kernel_rfl) (fun _ _ _ h => h) ?_
      refine wa_undef 53 (j := 51) rfl rfl rfl rfl (some_cons pick0 (some_cons pick0 (some_cons pick0 (some_cons pick0 (some_cons pick0 some_nil))))) rfl (by kernel_rfl) (fun _ _ _ h => h) ?_
      refine wa_undef 54 (j := 51) rfl rfl rfl rfl (some_cons pick0 (some_cons pick0 (some_cons pick0 (some_cons pick0 (some_cons pick0 some_nil))))) rfl (by kernel_rfl) (fun _ _ _ h => h) ?_
      refine wa_undef 55 (j := 51) rfl rfl rfl rfl (some_cons pick0 (some_cons pick0 (some_cons pick0 (some_cons pick0 (some_cons pick0 some_nil))))) rfl (by kernel_rfl) (fun _ _ _ h => h) ?_
      refine wa_undef 56 (j := 51) rfl rfl rfl rfl (some_cons pick0 (some_cons pick0 (some_cons pick0 (some_cons pick0 (some_cons pick0 some_nil))))) rfl (by kernel_rfl) (fun _ _ _ h => h) ?_
      refine wa_undef 57 (j := 51) rfl rfl rfl rfl (some_cons pick0 (some_cons pick0 (some_cons pick0 (some_cons pick0 (some_cons pick0 some_nil))))) rfl (by kernel_rfl) (fun _ _ _ h => h) ?_
      refine wa_undef 58 (j := 51) rfl rfl rfl rfl (some_cons pick0 (some_cons pick0 (some_cons pick0 (some_cons pick0 (some_cons pick0 some_nil))))) rfl (by kernel_rfl) (fun _ _ _ h => h) ?_
      refine wa_off 59 (j := 49) rfl rfl rfl rfl rfl (some_cons pick0 (some_cons pick0 (some_cons pick0 (some_cons pick0 (some_cons pick0 some_nil))))) rfl (by kernel_rfl) (fun _ _ _ h => h) ?_
      refine wa_pure 60 rfl (po_pick_t rfl rfl) (some_cons pick0 (some_cons pick0 (some_cons pick0 (some_cons pick0 (some_cons pick0 some_nil))))) rfl (by kernel_rfl) (fun _ _ _ h => h) ?_
      refine wa_done (by kernel_rfl) ?_
      exact wj_meet _ () (mtE t1) (sub_cons rfl (sub_cons rfl (sub_cons rfl sub_nil))) some_nil
    refine wa_pure_on 11 (j := 10) rfl rfl rfl rfl (po_move rfl) (some_cons pick0 (some_cons pick0 (some_cons pick0 (some_cons pick0 (some_cons pick0 some_nil))))) rfl (by kernel_rfl) (fun _ _ _ h => h) ?_
    refine wa_pure_on 12 (j := 10) rfl rfl rfl rfl (po_lss rfl rfl) (some_cons pick0 (some_cons pick0 (some_cons pick0 (some_cons pick0 (some_cons pick0 some_nil))))) rfl (by kernel_rfl) (fun _ _ _ h => h) ?_
    refine wa_pure 13 rfl (po_pick_f rfl rfl) (some_cons pick0 (some_cons pick0 (some_cons pick0 (some_cons pick0 (some_cons pick0 some_nil))))) rfl (by kernel_rfl) (fun _ _ _ h => h) ?_
    refine wa_pure 14 rfl (po_move rfl) (some_cons pick0 (some_cons pick0 (some_cons pick0 (some_cons pick0 (some_cons pick0 some_nil))))) rfl (by kernel_rfl) (fun _ _ _ h => h) ?_
    refine waO_ (t := 104) t1 rfl (fun h14 t1 => ?_) fun h14 t1 => ?_
    · skip
      refine wa_off 15 (j := 14) rfl rfl rfl rfl rfl (some_cons pick0 (some_cons pick0 (some_cons pick0 (some_cons pick0 (some_cons pick0 some_nil))))) rfl (by kernel_rfl) (fun _ _ _ h => h) ?_
      refine wa_off 16 (j := 14) rfl rfl rfl rfl rfl (some_cons pick0 (some_cons pick0 (some_cons pick0 (some_cons pick0 (some_cons pick0 some_nil))))) rfl (by kernel_rfl) (fun _ _ _ h => h) ?_
      refine wa_pure 17 rfl (po_pick_t rfl rfl) (some_cons pick0 (some_cons pick0 (some_cons pick0 (some_cons pick0 (some_cons pick0 some_nil))))) rfl (by kernel_rfl) (fun _ _ _ h => h) ?_
      refine wa_pure 18 rfl (po_move rfl) (some_cons pick0 (some_cons pick0 (some_cons pick0 (some_cons pick0 (some_cons pick0 some_nil))))) rfl (by kernel_rfl) (fun _ _ _ h => h) ?_
      refine wa_off 19 (j := 18) rfl rfl rfl rfl rfl (some_cons pick0 (some_cons pick0 (some_cons pick0 (some_cons pick0 (some_cons pick0 some_nil))))) rfl (by kernel_rfl) (fun _ _ _ h => h) ?_
      refine wa_off 20 (j := 18) rfl rfl rfl rfl rfl (some_cons pick0 (some_cons pick0 (some_cons pick0 (some_cons pick0 (some_cons pick0 some_nil))))) rfl (by kernel_rfl) (fun _ _ _ h => h) ?_
      refine wa_off 21 (j := 18) rfl rfl rfl rfl rfl (some_cons pick0 (some_cons pick0 (some_cons pick0 (some_cons pick0 (some_cons pick0 some_nil))))) rfl (by kernel_rfl) (fun _ _ _ h => h) ?_
      refine wa_off 22 (j := 18) rfl rfl rfl rfl rfl (some_cons pick0 (some_cons pick0 (some_cons pick0 (some_cons pick0 (some_cons pick0 some_nil))))) rfl (by kernel_rfl) (fun _ _ _ h => h) ?_
      refine wa_off 23 (j := 18) rfl rfl rfl rfl rfl (some_cons pick0 (some_cons pick0 (some_cons pick0 (some_cons pick0 (some_cons pick0 some_nil))))) rfl (by kernel_rfl) (fun _ _ _ h => h) ?_
      refine wa_off 24 (j := 18) rfl rfl rfl rfl rfl (some_cons pick0 (some_cons pick0 (some_cons pick0 (some_cons pick0 (some_cons pick0 some_nil))))) rfl (by kernel_rfl) (fun _ _ _ h => h) ?_
      refine wa_off 25 (j := 18) rfl rfl rfl rfl rfl (some_cons pick0 (some_cons pick0 (some_cons pick0 (some_cons pick0 (some_cons pick0 some_nil))))) rfl (by kernel_rfl) (fun _ _ _ h => h) ?_
      refine wa_pure 26 rfl (po_pick_t rfl rfl) (some_cons pick0 (some_cons pick0 (some_cons pick0 (some_cons pick0 (some_cons pick0 some_nil))))) rfl (by kernel_rfl) (fun _ _ _ h => h) ?_
      refine wa_pure 27 rfl (po_move rfl) (some_cons pick0 (some_cons pick0 (some_cons pick0 (some_cons pick0 (some_cons pick0 some_nil))))) rfl (by kernel_rfl) (fun _ _ _ h => h) ?_
      refine wa_off 28 (j := 27) rfl rfl rfl rfl rfl (some_cons pick0 (some_cons pick0 (some_cons pick0 (some_cons pick0 (some_cons pick0 some_nil))))) rfl (by kernel_rfl) (fun _ _ _ h => h) ?_
      refine wa_off 29 (j := 27) rfl rfl rfl rfl rfl (some_cons pick0 (some_cons pick0 (some_cons pick0 (some_cons pick0 (some_cons pick0 some_nil))))) rfl (by kernel_rfl) (fun _ _ _ h => h) ?_
      refine wa_undef 30 (j := 29) rfl rfl rfl rfl (some_cons pick0 (some_cons pick0 (some_cons pick0 (some_cons pick0 (some_cons pick0 some_nil))))) rfl (by kernel_rfl) (fun _ _ _ h => h) ?_
      refine wa_undef 31 (j := 29) rfl rfl rfl rfl (some_cons pick0 (some_cons pick0 (some_cons pick0 (some_cons pick0 (some_cons pick0 some_nil))))) rfl (by kernel_rfl) (fun _ _ _ h => h) ?_
      refine wa_undef 32 (j := 29) rfl rfl rfl rfl (some_cons pick0 (some_cons pick0 (some_cons pick0 (some_cons pick0 (some_cons pick0 some_nil))))) rfl (by kernel_rfl) (fun _ _ _ h => h) ?_
      refine wa_off 33 (j := 27) rfl rfl rfl rfl rfl (some_cons pick0 (some_cons pick0 (some_cons pick0 (some_cons pick0 (some_cons pick0 some_nil))))) rfl (by kernel_rfl) (fun _ _ _ h => h) ?_
      refine wa_pure 34 rfl (po_pick_t rfl rfl) (some_cons pick0 (some_cons pick0 (some_cons pick0 (some_cons pick0 (some_cons pick0 some_nil))))) rfl (by kernel_rfl) (fun _ _ _ h => h) ?_
      refine wa_pure 35 rfl (po_move rfl) (some_cons pick0 (some_cons pick0 (some_cons pick0 (some_cons pick0 (some_cons pick0 some_nil))))) rfl (by kernel_rfl) (fun _ _ _ h => h) ?_
      refine wa_off 36 (j := 35) rfl rfl rfl rfl rfl (some_cons pick0 (some_cons pick0 (some_cons pick0 (some_cons pick0 (some_cons pick0 some_nil))))) rfl (by kernel_rfl) (fun _ _ _ h => h) ?_
      refine wa_off 37 (j := 35) rfl rfl rfl rfl rfl (some_cons pick0 (some_cons pick0 (some_cons pick0 (some_cons pick0 (some_cons pick0 some_nil))))) rfl (by kernel_rfl) (fun _ _ _ h => h) ?_
      refine wa_off 38 (j := 35) rfl rfl rfl rfl rfl (some_cons pick0 (some_cons pick0 (some_cons pick0 (some_cons pick0 (some_cons pick0 some_nil))))) rfl (by kernel_rfl) (fun _ _ _ h => h) ?_
      refine wa_pure 39 rfl (po_pick_t rfl rfl) (some_cons pick0 (some_cons pick0 (some_cons pick0 (some_cons pick0 (some_cons pick0 some_nil))))) rfl (by kernel_rfl) (fun _ _ _ h => h) ?_
      refine wa_pure 40 rfl (po_move rfl) (some_cons pick0 (some_cons pick0 (some_cons pick0 (some_cons pick0 (some_cons pick0 some_nil))))) rfl (by kernel_rfl) (fun _ _ _ h => h) ?_
      refine wa_off 41 (j := 40) rfl rfl rfl rfl rfl (some_cons pick0 (some_cons pick0 (some_cons pick0 (some_cons pick0 (some_cons pick0 some_nil))))) rfl (by kernel_rfl) (fun _ _ _ h => h) ?_
      refine wa_off 42 (j := 40) rfl rfl rfl rfl rfl (some_cons pick0 (some_cons pick0 (some_cons pick0 (some_cons pick0 (some_cons pick0 some_nil))))) rfl (by kernel_rfl) (fun _ _ _ h => h) ?_
      refine wa_off 43 (j := 40) rfl rfl rfl rfl rfl (some_cons pick0 (some_cons pick0 (some_cons pick0 (some_cons pick0 (some_cons pick0 some_nil))))) rfl (by kernel_rfl) (fun _ _ _ h => h) ?_
      refine wa_off 44 (j := 40) rfl rfl rfl rfl rfl (some_cons pick0 (some_cons pick0 (some_cons pick0 (some_cons pick0 (some_cons pick0 some_nil))))) rfl (by kernel_rfl) (fun _ _ _ h => h) ?_
      refine wa_off 45 (j := 40) rfl rfl rfl rfl rfl (some_cons pick0 (some_cons pick0 (some_cons pick0 (some_cons pick0 (some_cons pick0 some_nil))))) rfl (by kernel_rfl) (fun _ _ _ h => h) ?_
      refine wa_off 46 (j := 40) rfl rfl rfl rfl rfl (some_cons pick0 (some_cons pick0 (some_cons pick0 (some_cons pick0 (some_cons pick0 some_nil))))) rfl (by kernel_rfl) (fun _ _ _ h => h) ?_
      refine wa_off 47 (j := 40) rfl rfl rfl rfl rfl (some_cons pick0 (some_cons pick0 (some_cons pick0 (some_cons pick0 (some_cons pick0 some_nil))))) rfl (by kernel_rfl) (fun _ _ _ h => h) ?_
      refine wa_pure 48 rfl (po_pick_t rfl rfl) (some_cons pick0 (some_cons pick0 (some_cons pick0 (some_cons pick0 (some_cons pick0 some_nil))))) rfl (by kernel_rfl) (fun _ _ _ h => h) ?_
      refine wa_pure 49 rfl (po_move rfl) (some_cons pick0 (some_cons pick0 (some_cons pick0 (some_cons pick0 (some_cons pick0 some_nil))))) rfl (by kernel_rfl) (fun _ _ _ h => h) ?_
      refine wa_off 50 (j := 49) rfl rfl rfl rfl rfl (some_cons pick0 (some_cons pick0 (some_cons pick0 (some_cons pick0 (some_cons pick0 some_nil))))) rfl (by kernel_rfl) (fun _ _ _ h => h) ?_
      refine wa_off 51 (j := 49) rfl rfl rfl rfl rfl (some_cons pick0 (some_cons pick0 (some_cons pick0 (some_cons pick0 (some_cons pick0 some_nil))))) rfl (by kernel_rfl) (fun _ _ _ h => h) ?_
      refine wa_undef 52 (j := 51) rfl rfl rfl rfl (some_cons pick0 (some_cons pick0 (some_cons pick0 (some_cons pick0 (some_cons pick0 some_nil))))) rfl (by kernel_rfl) (fun _ _ _ h => h) ?_
      refine wa_undef 53 (j := 51) rfl rfl rfl rfl (some_cons pick0 (some_cons pick0 (some_cons pick0 (some_cons pick0 (some_cons pick0 some_nil))))) rfl (by kernel_rfl) (fun _ _ _ h => h) ?_
      refine wa_undef 54 (j := 51) rfl rfl rfl rfl (some_cons pick0 (some_cons pick0 (some_cons pick0 (some_cons pick0 (some_cons pick0 some_nil))))) rfl (by kernel_rfl) (fun _ _ _ h => h) ?_
      refine wa_undef 55 (j := 51) rfl rfl rfl rfl (some_cons pick0 (some_cons pick0 (some_cons pick0 (some_cons pick0 (some_cons pick0 some_nil))))) rfl (by kernel_rfl) (fun _ _ _ h => h) ?_
      refine wa_undef 56 (j := 51) rfl rfl rfl rfl (some_cons pick0 (some_cons pick0 (some_cons pick0 (some_cons pick0 (some_cons pick0 some_nil))))) rfl (by kernel_rfl) (fun _ _ _ h => h) ?_
      refine wa_undef 57 (j := 51) rfl rfl rfl rfl (some_cons pick0 (some_cons pick0 (some_cons pick0 (some_cons pick0 (some_cons pick0 some_nil))))) rfl (by kernel_rfl) (fun _ _ _ h => h) ?_
      refine wa_undef 58 (j := 51) rfl rfl rfl rfl (some_cons pick0 (some_cons pick0 (some_cons pick0 (some_cons pick0 (some_cons pick0 some_nil))))) rfl (by kernel_rfl) (fun _ _ _ h => h) ?_
      refine wa_off 59 (j := 49) rfl rfl rfl rfl rfl (some_cons pick0 (some_cons pick0 (some_cons pick0 (some_cons pick0 (some_cons pick0 some_nil))))) rfl (by kernel_rfl) (fun _ _ _ h => h) ?_
      refine wa_pure 60 rfl (po_pick_t rfl rfl) (some_cons pick0 (some_cons pick0 (some_cons pick0 (some_cons pick0 (some_cons pick0 some_nil))))) rfl (by kernel_rfl) (fun _ _ _ h => h) ?_
      refine wa_done (by kernel_rfl) ?_
      exact wj_meet _ () (mtE t1) (sub_cons rfl (sub_cons rfl (sub_cons rfl sub_nil))) some_nil
    refine wa_pure_on 15 (j := 14) rfl rfl rfl rfl (po_move rfl) (some_cons pick0 (some_cons pick0 (some_cons pick0 (some_cons pick0 (some_cons pick0 some_nil))))) rfl (by kernel_rfl) (fun _ _ _ h => h) ?_
    refine wa_pure_on 16 (j := 14) rfl rfl rfl rfl (po_gtr rfl rfl) (some_cons pick0 (some_cons pick0 (some_cons pick0 (some_cons pick0 (some_cons pick0 some_nil))))) rfl (by kernel_rfl) (fun _ _ _ h => h) ?_
    refine wa_pure 17 rfl (po_pick_f rfl rfl) (some_cons pick0 (some_cons pick0 (some_cons pick0 (some_cons pick0 (some_cons pick0 some_nil))))) rfl (by kernel_rfl) (fun _ _ _ h => h) ?_
    refine wa_pure 18 rfl (po_move rfl) (some_cons pick0 (some_cons pick0 (some_cons pick0 (some_cons pick0 (some_cons pick0 some_nil))))) rfl (by kernel_rfl) (fun _ _ _ h => h) ?_
    refine waO_ (t := 108) t1 rfl (fun h15 t1 => ?_) fun h15 t1 => ?_
    · skip
      refine wa_off 19 (j := 18) rfl rfl rfl rfl rfl (some_cons pick0 (some_cons pick0 (some_cons pick0 (some_cons pick0 (some_cons pick0 some_nil))))) rfl (by kernel_rfl) (fun _ _ _ h => h) ?_
      refine wa_off 20 (j := 18) rfl rfl rfl rfl rfl (some_cons pick0 (some_cons pick0 (some_cons pick0 (some_cons pick0 (some_cons pick0 some_nil))))) rfl (by kernel_rfl) (fun _ _ _ h => h) ?_
      refine wa_off 21 (j := 18) rfl rfl rfl rfl rfl (some_cons pick0 (some_cons pick0 (some_cons pick0 (some_cons pick0 (some_cons pick0 some_nil))))) rfl (by kernel_rfl) (fun _ _ _ h => h) ?_
      refine wa_off 22 (j := 18) rfl rfl rfl rfl rfl (some_cons pick0 (some_cons pick0 (some_cons pick0 (some_cons pick0 (some_cons pick0 some_nil))))) rfl (by kernel_rfl) (fun _ _ _ h => h) ?_
      refine wa_off 23 (j := 18) rfl rfl rfl rfl rfl (some_cons pick0 (some_cons pick0 (some_cons pick0 (some_cons pick0 (some_cons pick0 some_nil))))) rfl (by kernel_rfl) (fun _ _ _ h => h) ?_
      refine wa_off 24 (j := 18) rfl rfl rfl rfl rfl (some_cons pick0 (some_cons pick0 (some_cons pick0 (some_cons pick0 (some_cons pick0 some_nil))))) rfl (by kernel_rfl) (fun _ _ _ h => h) ?_
      refine wa_off 25 (j := 18) rfl rfl rfl rfl rfl (some_cons pick0 (some_cons pick0 (some_cons pick0 (some_cons pick0 (some_cons pick0 some_nil))))) rfl (by kernel_rfl) (fun _ _ _ h => h) ?_
      refine wa_pure 26 rfl (po_pick_t rfl rfl) (some_cons pick0 (some_cons pick0 (some_cons pick0 (some_cons pick0 (some_cons pick0 some_nil))))) rfl (by kernel_rfl) (fun _ _ _ h => h) ?_
      refine wa_pure 27 rfl (po_move rfl) (some_cons pick0 (some_cons pick0 (some_cons pick0 (some_cons pick0 (some_cons pick0 some_nil))))) rfl (by kernel_rfl) (fun _ _ _ h => h) ?_
      refine wa_off 28 (j := 27) rfl rfl rfl rfl rfl (some_cons pick0 (some_cons pick0 (some_cons pick0 (some_cons pick0 (some_cons pick0 some_nil))))) rfl (by kernel_rfl) (fun _ _ _ h => h) ?_
      refine wa_off 29 (j := 27) rfl rfl rfl rfl rfl (some_cons pick0 (some_cons pick0 (some_cons pick0 (some_cons pick0 (some_cons pick0 some_nil))))) rfl (by kernel_rfl) (fun _ _ _ h => h) ?_
      refine wa_undef 30 (j := 29) rfl rfl rfl rfl (some_cons pick0 (some_cons pick0 (some_cons pick0 (some_cons pick0 (some_cons pick0 some_nil))))) rfl (by kernel_rfl) (fun _ _ _ h => h) ?_
      refine wa_undef 31 (j := 29) rfl rfl rfl rfl (some_cons pick0 (some_cons pick0 (some_cons pick0 (some_cons pick0 (some_cons pick0 some_nil))))) rfl (by kernel_rfl) (fun _ _ _ h => h) ?_
      refine wa_undef 32 (j := 29) rfl rfl rfl rfl (some_cons pick0 (some_cons pick0 (some_cons pick0 (some_cons pick0 (some_cons pick0 some_nil))))) rfl (by kernel_rfl) (fun _ _ _ h => h) ?_
      refine wa_off 33 (j := 27) rfl rfl rfl rfl rfl (some_cons pick0 (some_cons pick0 (some_cons pick0 (some_cons pick0 (some_cons pick0 some_nil))))) rfl (by kernel_rfl) (fun _ _ _ h => h) ?_
      refine wa_pure 34 rfl (po_pick_t rfl rfl) (some_cons pick0 (some_cons pick0 (some_cons pick0 (some_cons pick0 (some_cons pick0 some_nil))))) rfl (by kernel_rfl) (fun _ _ _ h => h) ?_
      refine wa_pure 35 rfl (po_move rfl) (some_cons pick0 (some_cons pick0 (some_cons pick0 (some_cons pick0 (some_cons pick0 some_nil))))) rfl (by kernel_rfl) (fun _ _ _ h => h) ?_
      refine wa_off 36 (j := 35) rfl rfl rfl rfl rfl (some_cons pick0 (some_cons pick0 (some_cons pick0 (some_cons pick0 (some_cons pick0 some_nil))))) rfl (by kernel_rfl) (fun _ _ _ h => h) ?_
      refine wa_off 37 (j := 35) rfl rfl rfl rfl rfl (some_cons pick0 (some_cons pick0 (some_cons pick0 (some_cons pick0 (some_cons pick0 some_nil))))) rfl (by kernel_rfl) (fun _ _ _ h => h) ?_
      refine wa_off 38 (j := 35) rfl rfl rfl rfl rfl (some_cons pick0 (some_cons pick0 (some_cons pick0 (some_cons pick0 (some_cons pick0 some_nil))))) rfl (by kernel_rfl) (fun _ _ _ h => h) ?_
      refine wa_pure 39 rfl (po_pick_t rfl rfl) (some_cons pick0 (some_cons pick0 (some_cons pick0 (some_cons pick0 (some_cons pick0 some_nil))))) rfl (by kernel_rfl) (fun _ _ _ h => h) ?_
      refine wa_pure 40 rfl (po_move rfl) (some_cons pick0 (some_cons pick0 (some_cons pick0 (some_cons pick0 (some_cons pick0 some_nil))))) rfl (by kernel_rfl) (fun _ _ _ h => h) ?_
      refine wa_off 41 (j := 40) rfl rfl rfl rfl rfl (some_cons pick0 (some_cons pick0 (some_cons pick0 (some_cons pick0 (some_cons pick0 some_nil))))) rfl (by kernel_rfl) (fun _ _ _ h => h) ?_
      refine wa_off 42 (j := 40) rfl rfl rfl rfl rfl (some_cons pick0 (some_cons pick0 (some_cons pick0 (some_cons pick0 (some_cons pick0 some_nil))))) rfl (by kernel_rfl) (fun _ _ _ h => h) ?_
      refine wa_off 43 (j := 40) rfl rfl rfl rfl rfl (some_cons pick0 (some_cons pick0 (some_cons pick0 (some_cons pick0 (some_cons pick0 some_nil))))) rfl (by kernel_rfl) (fun _ _ _ h => h) ?_
      refine wa_off 44 (j := 40) rfl rfl rfl rfl rfl (some_cons pick0 (some_cons pick0 (some_cons pick0 (some_cons pick0 (some_cons pick0 some_nil))))) rfl (by kernel_rfl) (fun _ _ _ h => h) ?_
      refine wa_off 45 (j := 40) rfl rfl rfl rfl rfl (some_cons pick0 (some_cons pick0 (some_cons pick0 (some_cons pick0 (some_cons pick0 some_nil))))) rfl (by kernel_rfl) (fun _ _ _ h => h) ?_
      refine wa_off 46 (j := 40) rfl rfl rfl rfl rfl (some_cons pick0 (some_cons pick0 (some_cons pick0 (some_cons pick0 (some_cons pick0 some_nil))))) rfl (by kernel_rfl) (fun _ _ _ h => h) ?_
      refine wa_off 47 (j := 40) rfl rfl rfl rfl rfl (some_cons pick0 (some_cons pick0 (some_cons pick0 (some_cons pick0 (some_cons pick0 some_nil))))) rfl (by kernel_rfl) (fun _ _ _ h => h) ?_
      refine wa_pure 48 rfl (po_pick_t rfl rfl) (some_cons pick0 (some_cons pick0 (some_cons pick0 (some_cons pick0 (some_cons pick0 some_nil))))) rfl (by kernel_rfl) (fun _ _ _ h => h) ?_
      refine wa_pure 49 rfl (po_move rfl) (some_cons pick0 (some_cons pick0 (some_cons pick0 (some_cons pick0 (some_cons pick0 some_nil))))) rfl (by kernel_rfl) (fun _ _ _ h => h) ?_
      refine wa_off 50 (j := 49) rfl rfl rfl rfl rfl (some_cons pick0 (some_cons pick0 (some_cons pick0 (some_cons pick0 (some_cons pick0 some_nil))))) rfl (by kernel_rfl) (fun _ _ _ h => h) ?_
      refine wa_off 51 (j := 49) rfl rfl rfl rfl rfl (some_cons pick0 (some_cons pick0 (some_cons pick0 (some_cons pick0 (some_cons pick0 some_nil))))) rfl (by kernel_rfl) (fun _ _ _ h => h) ?_
      refine wa_undef 52 (j := 51) rfl rfl rfl rfl (some_cons pick0 (some_cons pick0 (some_cons pick0 (some_cons pick0 (some_cons pick0 some_nil))))) rfl (by kernel_rfl) (fun _ _ _ h => h) ?_
      refine wa_undef 53 (j := 51) rfl rfl rfl rfl (some_cons pick0 (some_cons pick0 (some_cons pick0 (some_cons pick0 (some_cons pick0 some_nil))))) rfl (by kernel_rfl) (fun _ _ _ h => h) ?_
      refine wa_undef 54 (j := 51) rfl rfl rfl rfl (some_cons pick0 (some_cons pick0 (some_cons pick0 (some_cons pick0 (some_cons pick0 some_nil))))) rfl (by kernel_rfl) (fun _ _ _ h => h) ?_
      refine wa_undef 55 (j := 51) rfl rfl rfl rfl (some_cons pick0 (some_cons pick0 (some_cons pick0 (some_cons pick0 (some_cons pick0 some_nil))))) rfl (by kernel_rfl) (fun _ _ _ h => h) ?_
      refine wa_undef 56 (j := 51) rfl rfl rfl rfl (some_cons pick0 (some_cons pick0 (some_cons pick0 (some_cons pick0 (some_cons pick0 some_nil))))) rfl (by kernel_rfl) (fun _ _ _ h => h) ?_
      refine wa_undef 57 (j := 51) rfl rfl rfl rfl (some_cons pick0 (some_cons pick0 (some_cons pick0 (some_cons pick0 (some_cons pick0 some_nil))))) rfl (by kernel_rfl) (fun _ _ _ h => h) ?_
      refine wa_undef 58 (j := 51) rfl rfl rfl rfl (some_cons pick0 (some_cons pick0 (some_cons pick0 (some_cons pick0 (some_cons pick0 some_nil))))) rfl (by kernel_rfl) (fun _ _ _ h => h) ?_
      refine wa_off 59 (j := 49) rfl rfl rfl rfl rfl (some_cons pick0 (some_cons pick0 (some_cons pick0 (some_cons pick0 (some_cons pick0 some_nil))))) rfl (by kernel_rfl) (fun _ _ _ h => h) ?_
      refine wa_pure 60 rfl (po_pick_t rfl rfl) (some_cons pick0 (some_cons pick0 (some_cons pick0 (some_cons pick0 (some_cons pick0 some_nil))))) rfl (by kernel_rfl) (fun _ _ _ h => h) ?_
      refine wa_done (by kernel_rfl) ?_
      exact wj_meet _ () (mtE t1) (sub_cons rfl (sub_cons rfl (sub_cons rfl sub_nil))) some_nil
    refine wa_pure_on (v := .agg #[.int .i64 v2.1.Size, (sl x1.1)]) 19 (j := 18) rfl rfl rfl rfl (po_load_boxs tk_26 (pickS (pickS pick0)) rfl rfl rfl) (some_cons pick0 (some_cons pick0 (some_cons pick0 (some_cons pick0 (some_cons pick0 some_nil))))) rfl (by kernel_rfl) (fun _ _ _ h => h) ?_
    refine wa_pure_on (v := .agg #[.int .i64 v2.2.Size, (sl x1.2)]) 20 (j := 18) rfl rfl rfl rfl (po_load_boxs tk_26 (pickS pick0) rfl rfl rfl) (some_cons pick0 (some_cons pick0 (some_cons pick0 (some_cons pick0 (some_cons pick0 some_nil))))) rfl (by kernel_rfl) (fun _ _ _ h => h) ?_
    refine wa_pure_on 21 (j := 18) rfl rfl rfl rfl (po_move rfl) (some_cons pick0 (some_cons pick0 (some_cons pick0 (some_cons pick0 (some_cons pick0 some_nil))))) rfl (by kernel_rfl) (fun _ _ _ h => h) ?_
    refine wa_pure_on 24 (j := 18) rfl rfl rfl rfl (po_move rfl) (some_cons pick0 (some_cons pick0 (some_cons pick0 (some_cons pick0 (some_cons pick0 some_nil))))) rfl (by kernel_rfl) (fun _ _ _ h => h) ?_
    refine wa_1 (i := 22) (by kernel_rfl) ?_
    refine bdO t1 fun v14 hv14 t1 => ?_
    refine ws_call_on (j := 18) rfl rfl rfl rfl (co_c1 fa_13 rfl fun w hw => c_spec_SeenFrom w v2.2 x1.2 (Rg.on (rds_own (pickS (pickS (pickS pick0)))) hw) v5 hv14) (fun _ => (sts_some (some_cons (pickS pick0) (some_cons (pickS pick0) (some_cons (pickS pick0) (some_cons (pickS pick0) (some_cons (pickS pick0) some_nil))))))) rfl fun x7 => ?_
    refine wa_1 (i := 23) (by kernel_rfl) ?_
    refine bdO t1 fun v15 hv15 t1 => ?_
    refine ws_call_on (j := 18) rfl rfl rfl rfl (co_c0 fa_6 rfl fun w hw => c_impl_Likeness w v2.1 x1.1 (Rg.on (rds_own (pickS (pickS (pickS (pickS (pickS pick0)))))) hw) v14 x7 (Rg.on (rds_own pick0) hw) hv15) (fun _ => (sts_some (some_cons (pickS pick0) (some_cons (pickS pick0) (some_cons (pickS pick0) (some_cons (pickS pick0) (some_cons (pickS pick0) some_nil))))))) rfl fun _ => ?_
    refine wa_pure_on 25 (j := 18) rfl rfl rfl rfl (po_neq rfl rfl) (some_cons (pickS pick0) (some_cons (pickS pick0) (some_cons (pickS pick0) (some_cons (pickS pick0) (some_cons (pickS pick0) some_nil))))) rfl (by kernel_rfl) (fun _ _ _ h => h) ?_
    refine wa_pure 26 rfl (po_pick_f rfl rfl) (some_cons (pickS pick0) (some_cons (pickS pick0) (some_cons (pickS pick0) (some_cons (pickS pick0) (some_cons (pickS pick0) some_nil))))) rfl (by kernel_rfl) (fun _ _ _ h => h) ?_
    refine wa_pure 27 rfl (po_move rfl) (some_cons (pickS pick0) (some_cons (pickS pick0) (some_cons (pickS pick0) (some_cons (pickS pick0) (some_cons (pickS pick0) some_nil))))) rfl (by kernel_rfl) (fun _ _ _ h => h) ?_
    refine waO_ (t := 117) t1 rfl (fun h16 t1 => ?_) fun h16 t1 => ?_
    · skip
      refine wa_off 28 (j := 27) rfl rfl rfl rfl rfl (some_cons (pickS pick0) (some_cons (pickS pick0) (some_cons (pickS pick0) (some_cons (pickS pick0) (some_cons (pickS pick0) some_nil))))) rfl (by kernel_rfl) (fun _ _ _ h => h) ?_
      refine wa_off 29 (j := 27) rfl rfl rfl rfl rfl (some_cons (pickS pick0) (some_cons (pickS pick0) (some_cons (pickS pick0) (some_cons (pickS pick0) (some_cons (pickS pick0) some_nil))))) rfl (by kernel_rfl) (fun _ _ _ h => h) ?_
      refine wa_undef 30 (j := 29) rfl rfl rfl rfl (some_cons (pickS pick0) (some_cons (pickS pick0) (some_cons (pickS pick0) (some_cons (pickS pick0) (some_cons (pickS pick0) some_nil))))) rfl (by kernel_rfl) (fun _ _ _ h => h) ?_
      refine wa_undef 31 (j := 29) rfl rfl rfl rfl (some_cons (pickS pick0) (some_cons (pickS pick0) (some_cons (pickS pick0) (some_cons (pickS pick0) (some_cons (pickS pick0) some_nil))))) rfl (by kernel_rfl) (fun _ _ _ h => h) ?_
      refine wa_undef 32 (j := 29) rfl rfl rfl rfl (some_cons (pickS pick0) (some_cons (pickS pick0) (some_cons (pickS pick0) (some_cons (pickS pick0) (some_cons (pickS pick0) some_nil))))) rfl (by kernel_rfl) (fun _ _ _ h => h) ?_
      refine wa_off 33 (j := 27) rfl rfl rfl rfl rfl (some_cons (pickS pick0) (some_cons (pickS pick0) (some_cons (pickS pick0) (some_cons (pickS pick0) (some_cons (pickS pick0) some_nil))))) rfl (by kernel_rfl) (fun _ _ _ h => h) ?_
      refine wa_pure 34 rfl (po_pick_t rfl rfl) (some_cons (pickS pick0) (some_cons (pickS pick0) (some_cons (pickS pick0) (some_cons (pickS pick0) (some_cons (pickS pick0) some_nil))))) rfl (by kernel_rfl) (fun _ _ _ h => h) ?_
      refine wa_pure 35 rfl (po_move rfl) (some_cons (pickS pick0) (some_cons (pickS pick0) (some_cons (pickS pick0) (some_cons (pickS pick0) (some_cons (pickS pick0) some_nil))))) rfl (by kernel_rfl) (fun _ _ _ h => h) ?_
      refine wa_off 36 (j := 35) rfl rfl rfl rfl rfl (some_cons (pickS pick0) (some_cons (pickS pick0) (some_cons (pickS pick0) (some_cons (pickS pick0) (some_cons (pickS pick0) some_nil))))) rfl (by kernel_rfl) (fun _ _ _ h => h) ?_
      refine wa_off 37 (j := 35) rfl rfl rfl rfl rfl (some_cons (pickS pick0) (some_cons (pickS pick0) (some_cons (pickS pick0) (some_cons (pickS pick0) (some_cons (pickS pick0) some_nil))))) rfl (by kernel_rfl) (fun _ _ _ h => h) ?_
      refine wa_off 38 (j := 35) rfl rfl rfl rfl rfl (some_cons (pickS pick0) (some_cons (pickS pick0) (some_cons (pickS pick0) (some_cons (pickS pick0) (some_cons (pickS pick0) some_nil))))) rfl (by kernel_rfl) (fun _ _ _ h => h) ?_
      refine wa_pure 39 rfl (po_pick_t rfl rfl) (some_cons (pickS pick0) (some_cons (pickS pick0) (some_cons (pickS pick0) (some_cons (pickS pick0) (some_cons (pickS pick0) some_nil))))) rfl (by kernel_rfl) (fun _ _ _ h => h) ?_
      refine wa_pure 40 rfl (po_move rfl) (some_cons (pickS pick0) (some_cons (pickS pick0) (some_cons (pickS pick0) (some_cons (pickS pick0) (some_cons (pickS pick0) some_nil))))) rfl (by kernel_rfl) (fun _ _ _ h => h) ?_
      refine wa_off 41 (j := 40) rfl rfl rfl rfl rfl (some_cons (pickS pick0) (some_cons (pickS pick0) (some_cons (pickS pick0) (some_cons (pickS pick0) (some_cons (pickS pick0) some_nil))))) rfl (by kernel_rfl) (fun _ _ _ h => h) ?_
      refine wa_off 42 (j := 40) rfl rfl rfl rfl rfl (some_cons (pickS pick0) (some_cons (pickS pick0) (some_cons (pickS pick0) (some_cons (pickS pick0) (some_cons (pickS pick0) some_nil))))) rfl (by kernel_rfl) (fun _ _ _ h => h) ?_
      refine wa_off 43 (j := 40) rfl rfl rfl rfl rfl (some_cons (pickS pick0) (some_cons (pickS pick0) (some_cons (pickS pick0) (some_cons (pickS pick0) (some_cons (pickS pick0) some_nil))))) rfl (by kernel_rfl) (fun _ _ _ h => h) ?_
      refine wa_off 44 (j := 40) rfl rfl rfl rfl rfl (some_cons (pickS pick0) (some_cons (pickS pick0) (some_cons (pickS pick0) (some_cons (pickS pick0) (some_cons (pickS pick0) some_nil))))) rfl (by kernel_rfl) (fun _ _ _ h => h) ?_
      refine wa_off 45 (j := 40) rfl rfl rfl rfl rfl (some_cons (pickS pick0) (some_cons (pickS pick0) (some_cons (pickS pick0) (some_cons (pickS pick0) (some_cons (pickS pick0) some_nil))))) rfl (by kernel_rfl) (fun _ _ _ h => h) ?_
      refine wa_off 46 (j := 40) rfl rfl rfl rfl rfl (some_cons (pickS pick0) (some_cons (pickS pick0) (some_cons (pickS pick0) (some_cons (pickS pick0) (some_cons (pickS pick0) some_nil))))) rfl (by kernel_rfl) (fun _ _ _ h => h) ?_
      refine wa_off 47 (j := 40) rfl rfl rfl rfl rfl (some_cons (pickS pick0) (some_cons (pickS pick0) (some_cons (pickS pick0) (some_cons (pickS pick0) (some_cons (pickS pick0) some_nil))))) rfl (by kernel_rfl) (fun _ _ _ h => h) ?_
      refine wa_pure 48 rfl (po_pick_t rfl rfl) (some_cons (pickS pick0) (some_cons (pickS pick0) (some_cons (pickS pick0) (some_cons (pickS pick0) (some_cons (pickS pick0) some_nil))))) rfl (by kernel_rfl) (fun _ _ _ h => h) ?_
      refine wa_pure 49 rfl (po_move rfl) (some_cons (pickS pick0) (some_cons (pickS pick0) (some_cons (pickS pick0) (some_cons (pickS pick0) (some_cons (pickS pick0) some_nil))))) rfl (by kernel_rfl) (fun _ _ _ h => h) ?_
      refine wa_off 50 (j := 49) rfl rfl rfl rfl rfl (some_cons (pickS pick0) (some_cons (pickS pick0) (some_cons (pickS pick0) (some_cons (pickS pick0) (some_cons (pickS pick0) some_nil))))) rfl (by kernel_rfl) (fun _ _ _ h => h) ?_
      refine wa_off 51 (j := 49) rfl rfl rfl rfl rfl (some_cons (pickS pick0) (some_cons (pickS pick0) (some_cons (pickS pick0) (some_cons (pickS pick0) (some_cons (pickS pick0) some_nil))))) rfl (by kernel_rfl) (fun _ _ _ h => h) ?_
      refine wa_undef 52 (j := 51) rfl rfl rfl rfl (some_cons (pickS pick0) (some_cons (pickS pick0) (some_cons (pickS pick0) (some_cons (pickS pick0) (some_cons (pickS pick0) some_nil))))) rfl (by kernel_rfl) (fun _ _ _ h => h) ?_
      refine wa_undef 53 (j := 51) rfl rfl rfl rfl (some_cons (pickS pick0) (some_cons (pickS pick0) (some_cons (pickS pick0) (some_cons (pickS pick0) (some_cons (pickS pick0) some_nil))))) rfl (by kernel_rfl) (fun _ _ _ h => h) ?_
      refine wa_undef 54 (j := 51) rfl rfl rfl rfl (some_cons (pickS pick0) (some_cons (pickS pick0) (some_cons (pickS pick0) (some_cons (pickS pick0) (some_cons (pickS pick0) some_nil))))) rfl (by kernel_rfl) (fun _ _ _ h => h) ?_
      refine wa_undef 55 (j := 51) rfl rfl rfl rfl (some_cons (pickS pick0) (some_cons (pickS pick0) (some_cons (pickS pick0) (some_cons (pickS pick0) (some_cons (pickS pick0) some_nil))))) rfl (by kernel_rfl) (fun _ _ _ h => h) ?_
      refine wa_undef 56 (j := 51) rfl rfl rfl rfl (some_cons (pickS pick0) (some_cons (pickS pick0) (some_cons (pickS pick0) (some_cons (pickS pick0) (some_cons (pickS pick0) some_nil))))) rfl (by kernel_rfl) (fun _ _ _ h => h) ?_
      refine wa_undef 57 (j := 51) rfl rfl rfl rfl (some_cons (pickS pick0) (some_cons (pickS pick0) (some_cons (pickS pick0) (some_cons (pickS pick0) (some_cons (pickS pick0) some_nil))))) rfl (by kernel_rfl) (fun _ _ _ h => h) ?_
      refine wa_undef 58 (j := 51) rfl rfl rfl rfl (some_cons (pickS pick0) (some_cons (pickS pick0) (some_cons (pickS pick0) (some_cons (pickS pick0) (some_cons (pickS pick0) some_nil))))) rfl (by kernel_rfl) (fun _ _ _ h => h) ?_
      refine wa_off 59 (j := 49) rfl rfl rfl rfl rfl (some_cons (pickS pick0) (some_cons (pickS pick0) (some_cons (pickS pick0) (some_cons (pickS pick0) (some_cons (pickS pick0) some_nil))))) rfl (by kernel_rfl) (fun _ _ _ h => h) ?_
      refine wa_pure 60 rfl (po_pick_t rfl rfl) (some_cons (pickS pick0) (some_cons (pickS pick0) (some_cons (pickS pick0) (some_cons (pickS pick0) (some_cons (pickS pick0) some_nil))))) rfl (by kernel_rfl) (fun _ _ _ h => h) ?_
      refine wa_done (by kernel_rfl) ?_
      exact wj_meet _ () (mtE t1) (sub_cons rfl (sub_cons rfl (sub_cons rfl sub_nil))) some_nil
    refine wa_pure_on 28 (j := 27) rfl rfl rfl rfl (po_move rfl) (some_cons (pickS pick0) (some_cons (pickS pick0) (some_cons (pickS pick0) (some_cons (pickS pick0) (some_cons (pickS pick0) some_nil))))) rfl (by kernel_rfl) (fun _ _ _ h => h) ?_
    refine wa_pure_on 29 (j := 27) rfl rfl rfl rfl (po_move rfl) (some_cons (pickS pick0) (some_cons (pickS pick0) (some_cons (pickS pick0) (some_cons (pickS pick0) (some_cons (pickS pick0) some_nil))))) rfl (by kernel_rfl) (fun _ _ _ h => h) ?_
    refine waO_ (t := 119) t1 rfl (fun h17 t1 => ?_) fun h17 t1 => ?_
    · skip
      refine wa_pure_on 30 (j := 29) rfl rfl rfl rfl (po_move rfl) (some_cons (pickS pick0) (some_cons (pickS pick0) (some_cons (pickS pick0) (some_cons (pickS pick0) (some_cons (pickS pick0) some_nil))))) rfl (by kernel_rfl) (fun _ _ _ h => h) ?_
      refine wa_pure_on 31 (j := 29) rfl rfl rfl rfl (po_move rfl) (some_cons (pickS pick0) (some_cons (pickS pick0) (some_cons (pickS pick0) (some_cons (pickS pick0) (some_cons (pickS pick0) some_nil))))) rfl (by kernel_rfl) (fun _ _ _ h => h) ?_
      refine wa_pure_on 32 (j := 29) rfl rfl rfl rfl (po_lss rfl rfl) (some_cons (pickS pick0) (some_cons (pickS pick0) (some_cons (pickS pick0) (some_cons (pickS pick0) (some_cons (pickS pick0) some_nil))))) rfl (by kernel_rfl) (fun _ _ _ h => h) ?_
      refine wa_pure_on 33 (j := 27) rfl rfl rfl rfl (po_pick_t rfl rfl) (some_cons (pickS pick0) (some_cons (pickS pick0) (some_cons (pickS pick0) (some_cons (pickS pick0) (some_cons (pickS pick0) some_nil))))) rfl (by kernel_rfl) (fun _ _ _ h => h) ?_
      refine wa_pure 34 rfl (po_pick_f rfl rfl) (some_cons (pickS pick0) (some_cons (pickS pick0) (some_cons (pickS pick0) (some_cons (pickS pick0) (some_cons (pickS pick0) some_nil))))) rfl (by kernel_rfl) (fun _ _ _ h => h) ?_
      refine wa_pure 35 rfl (po_move rfl) (some_cons (pickS pick0) (some_cons (pickS pick0) (some_cons (pickS pick0) (some_cons (pickS pick0) (some_cons (pickS pick0) some_nil))))) rfl (by kernel_rfl) (fun _ _ _ h => h) ?_
      refine waO_ (t := 125) t1 rfl (fun h18 t1 => ?_) fun h18 t1 => ?_
      · skip
        refine wa_off 36 (j := 35) rfl rfl rfl rfl rfl (some_cons (pickS pick0) (some_cons (pickS pick0) (some_cons (pickS pick0) (some_cons (pickS pick0) (some_cons (pickS pick0) some_nil))))) rfl (by kernel_rfl) (fun _ _ _ h => h) ?_
        refine wa_off 37 (j := 35) rfl rfl rfl rfl rfl (some_cons (pickS pick0) (some_cons (pickS pick0) (some_cons (pickS pick0) (some_cons (pickS pick0) (some_cons (pickS pick0) some_nil))))) rfl (by kernel_rfl) (fun _ _ _ h => h) ?_
        refine wa_off 38 (j := 35) rfl rfl rfl rfl rfl (some_cons (pickS pick0) (some_cons (pickS pick0) (some_cons (pickS pick0) (some_cons (pickS pick0) (some_cons (pickS pick0) some_nil))))) rfl (by kernel_rfl) (fun _ _ _ h => h) ?_
        refine wa_pure 39 rfl (po_pick_t rfl rfl) (some_cons (pickS pick0) (some_cons (pickS pick0) (some_cons (pickS pick0) (some_cons (pickS pick0) (some_cons (pickS pick0) some_nil))))) rfl (by kernel_rfl) (fun _ _ _ h => h) ?_
        refine wa_pure 40 rfl (po_move rfl) (some_cons (pickS pick0) (some_cons (pickS pick0) (some_cons (pickS pick0) (some_cons (pickS pick0) (some_cons (pickS pick0) some_nil))))) rfl (by kernel_rfl) (fun _ _ _ h => h) ?_
        refine wa_off 41 (j := 40) rfl rfl rfl rfl rfl (some_cons (pickS pick0) (some_cons (pickS pick0) (some_cons (pickS pick0) (some_cons (pickS pick0) (some_cons (pickS pick0) some_nil))))) rfl (by kernel_rfl) (fun _ _ _ h => h) ?_
        refine wa_off 42 (j := 40) rfl rfl rfl rfl rfl (some_cons (pickS pick0) (some_cons (pickS pick0) (some_cons (pickS pick0) (some_cons (pickS pick0) (some_cons (pickS pick0) some_nil))))) rfl (by kernel_rfl) (fun _ _ _ h => h) ?_
        refine wa_off 43 (j := 40) rfl rfl rfl rfl rfl (some_cons (pickS pick0) (some_cons (pickS pick0) (some_cons (pickS pick0) (some_cons (pickS pick0) (some_cons (pickS pick0) some_nil))))) rfl (by kernel_rfl) (fun _ _ _ h => h) ?_
        refine wa_off 44 (j := 40) rfl rfl rfl rfl rfl (some_cons (pickS pick0) (some_cons (pickS pick0) (some_cons (pickS pick0) (some_cons (pickS pick0) (some_cons (pickS pick0) some_nil))))) rfl (by kernel_rfl) (fun _ _ _ h => h) ?_
        refine wa_off 45 (j := 40) rfl rfl rfl rfl rfl (some_cons (pickS pick0) (some_cons (pickS pick0) (some_cons (pickS pick0) (some_cons (pickS pick0) (some_cons (pickS pick0) some_nil))))) rfl (by kernel_rfl) (fun _ _ _ h => h) ?_
        refine wa_off 46 (j := 40) rfl rfl rfl rfl rfl (some_cons (pickS pick0) (some_cons (pickS pick0) (some_cons (pickS pick0) (some_cons (pickS pick0) (some_cons (pickS pick0) some_nil))))) rfl (by kernel_rfl) (fun _ _ _ h => h) ?_
        refine wa_off 47 (j := 40) rfl rfl rfl rfl rfl (some_cons (pickS pick0) (some_cons (pickS pick0) (some_cons (pickS pick0) (some_cons (pickS pick0) (some_cons (pickS pick0) some_nil))))) rfl (by kernel_rfl) (fun _ _ _ h => h) ?_
        refine wa_pure 48 rfl (po_pick_t rfl rfl) (some_cons (pickS pick0) (some_cons (pickS pick0) (some_cons (pickS pick0) (some_cons (pickS pick0) (some_cons (pickS pick0) some_nil))))) rfl (by kernel_rfl) (fun _ _ _ h => h) ?_
        refine wa_pure 49 rfl (po_move rfl) (some_cons (pickS pick0) (some_cons (pickS pick0) (some_cons (pickS pick0) (some_cons (pickS pick0) (some_cons (pickS pick0) some_nil))))) rfl (by kernel_rfl) (fun _ _ _ h => h) ?_
        refine wa_off 50 (j := 49) rfl rfl rfl rfl rfl (some_cons (pickS pick0) (some_cons (pickS pick0) (some_cons (pickS pick0) (some_cons (pickS pick0) (some_cons (pickS pick0) some_nil))))) rfl (by kernel_rfl) (fun _ _ _ h => h) ?_
        refine wa_off 51 (j := 49) rfl rfl rfl rfl rfl (some_cons (pickS pick0) (some_cons (pickS pick0) (some_cons (pickS pick0) (some_cons (pickS pick0) (some_cons (pickS pick0) some_nil))))) rfl (by kernel_rfl) (fun _ _ _ h => h) ?_
        refine wa_undef 52 (j := 51) rfl rfl rfl rfl (some_cons (pickS pick0) (some_cons (pickS pick0) (some_cons (pickS pick0) (some_cons (pickS pick0) (some_cons (pickS pick0) some_nil))))) rfl (by kernel_rfl) (fun _ _ _ h => h) ?_
        refine wa_undef 53 (j := 51) rfl rfl rfl rfl (some_cons (pickS pick0) (some_cons (pickS pick0) (some_cons (pickS pick0) (some_cons (pickS pick0) (some_cons (pickS pick0) some_nil))))) rfl (by kernel_rfl) (fun _ _ _ h => h) ?_
        refine wa_undef 54 (j := 51) rfl rfl rfl rfl (some_cons (pickS pick0) (some_cons (pickS pick0) (some_cons (pickS pick0) (some_cons (pickS pick0) (some_cons (pickS pick0) some_nil))))) rfl (by kernel_rfl) (fun _ _ _ h => h) ?_
        refine wa_undef 55 (j := 51) rfl rfl rfl rfl (some_cons (pickS pick0) (some_cons (pickS pick0) (some_cons (pickS pick0) (some_cons (pickS pick0) (some_cons (pickS pick0) some_nil))))) rfl (by kernel_rfl) (fun _ _ _ h => h) ?_
        refine wa_undef 56 (j := 51) rfl rfl rfl rfl (some_cons (pickS pick0) (some_cons (pickS pick0) (some_cons (pickS pick0) (some_cons (pickS pick0) (some_cons (pickS pick0) some_nil))))) rfl (by kernel_rfl) (fun _ _ _ h => h) ?_
        refine wa_undef 57 (j := 51) rfl rfl rfl rfl (some_cons (pickS pick0) (some_cons (pickS pick0) (some_cons (pickS pick0) (some_cons (pickS pick0) (some_cons (pickS pick0) some_nil))))) rfl (by kernel_rfl) (fun _ _ _ h => h) ?_
        refine wa_undef 58 (j := 51) rfl rfl rfl rfl (some_cons (pickS pick0) (some_cons (pickS pick0) (some_cons (pickS pick0) (some_cons (pickS pick0) (some_cons (pickS pick0) some_nil))))) rfl (by kernel_rfl) (fun _ _ _ h => h) ?_
        refine wa_off 59 (j := 49) rfl rfl rfl rfl rfl (some_cons (pickS pick0) (some_cons (pickS pick0) (some_cons (pickS pick0) (some_cons (pickS pick0) (some_cons (pickS pick0) some_nil))))) rfl (by kernel_rfl) (fun _ _ _ h => h) ?_
        refine wa_pure 60 rfl (po_pick_t rfl rfl) (some_cons (pickS pick0) (some_cons (pickS pick0) (some_cons (pickS pick0) (some_cons (pickS pick0) (some_cons (pickS pick0) some_nil))))) rfl (by kernel_rfl) (fun _ _ _ h => h) ?_
        refine wa_done (by kernel_rfl) ?_
        exact wj_meet _ () (mtE t1) (sub_cons rfl (sub_cons rfl (sub_cons rfl sub_nil))) some_nil
      refine wa_pure_on 36 (j := 35) rfl rfl rfl rfl (po_move rfl) (some_cons (pickS pick0) (some_cons (pickS pick0) (some_cons (pickS pick0) (some_cons (pickS pick0) (some_cons (pickS pick0) some_nil))))) rfl (by kernel_rfl) (fun _ _ _ h => h) ?_
      refine wa_pure_on 37 (j := 35) rfl rfl rfl rfl (po_move rfl) (some_cons (pickS pick0) (some_cons (pickS pick0) (some_cons (pickS pick0) (some_cons (pickS pick0) (some_cons (pickS pick0) some_nil))))) rfl (by kernel_rfl) (fun _ _ _ h => h) ?_
      refine wa_pure_on 38 (j := 35) rfl rfl rfl rfl (po_gtr rfl rfl) (some_cons (pickS pick0) (some_cons (pickS pick0) (some_cons (pickS pick0) (some_cons (pickS pick0) (some_cons (pickS pick0) some_nil))))) rfl (by kernel_rfl) (fun _ _ _ h => h) ?_
      refine wa_pure 39 rfl (po_pick_f rfl rfl) (some_cons (pickS pick0) (some_cons (pickS pick0) (some_cons (pickS pick0) (some_cons (pickS pick0) (some_cons (pickS pick0) some_nil))))) rfl (by kernel_rfl) (fun _ _ _ h => h) ?_
      refine wa_pure 40 rfl (po_move rfl) (some_cons (pickS pick0) (some_cons (pickS pick0) (some_cons (pickS pick0) (some_cons (pickS pick0) (some_cons (pickS pick0) some_nil))))) rfl (by kernel_rfl) (fun _ _ _ h => h) ?_
      refine waO_ (t := 130) t1 rfl (fun h19 t1 => ?_) fun h19 t1 => ?_
      · skip
        refine wa_off 41 (j := 40) rfl rfl rfl rfl rfl (some_cons (pickS pick0) (some_cons (pickS pick0) (some_cons (pickS pick0) (some_cons (pickS pick0) (some_cons (pickS pick0) some_nil))))) rfl (by kernel_rfl) (fun _ _ _ h => h) ?_
        refine wa_off 42 (j := 40) rfl rfl rfl rfl rfl (some_cons (pickS pick0) (some_cons (pickS pick0) (some_cons (pickS pick0) (some_cons (pickS pick0) (some_cons (pickS pick0) some_nil))))) rfl (by kernel_rfl) (fun _ _ _ h => h) ?_
        refine wa_off 43 (j := 40) rfl rfl rfl rfl rfl (some_cons (pickS pick0) (some_cons (pickS pick0) (some_cons (pickS pick0) (some_cons (pickS pick0) (some_cons (pickS pick0) some_nil))))) rfl (by kernel_rfl) (fun _ _ _ h => h) ?_
        refine wa_off 44 (j := 40) rfl rfl rfl rfl rfl (some_cons (pickS pick0) (some_cons (pickS pick0) (some_cons (pickS pick0) (some_cons (pickS pick0) (some_cons (pickS pick0) some_nil))))) rfl (by kernel_rfl) (fun _ _ _ h => h) ?_
        refine wa_off 45 (j := 40) rfl rfl rfl rfl rfl (some_cons (pickS pick0) (some_cons (pickS pick0) (some_cons (pickS pick0) (some_cons (pickS pick0) (some_cons (pickS pick0) some_nil))))) rfl (by kernel_rfl) (fun _ _ _ h => h) ?_
        refine wa_off 46 (j := 40) rfl rfl rfl rfl rfl (some_cons (pickS pick0) (some_cons (pickS pick0) (some_cons (pickS pick0) (some_cons (pickS pick0) (some_cons (pickS pick0) some_nil))))) rfl (by kernel_rfl) (fun _ _ _ h => h) ?_
        refine wa_off 47 (j := 40) rfl rfl rfl rfl rfl (some_cons (pickS pick0) (some_cons (pickS pick0) (some_cons (pickS pick0) (some_cons (pickS pick0) (some_cons (pickS pick0) some_nil))))) rfl (by kernel_rfl) (fun _ _ _ h => h) ?_
        refine wa_pure 48 rfl (po_pick_t rfl rfl) (some_cons (pickS pick0) (some_cons (pickS pick0) (some_cons (pickS pick0) (some_cons (pickS pick0) (some_cons (pickS pick0) some_nil))))) rfl (by kernel_rfl) (fun _ _ _ h => h) ?_
        refine wa_pure 49 rfl (po_move rfl) (some_cons (pickS pick0) (some_cons (pickS pick0) (some_cons (pickS pick0) (some_cons (pickS pick0) (some_cons (pickS pick0) some_nil))))) rfl (by kernel_rfl) (fun _ _ _ h => h) ?_
        refine wa_off 50 (j := 49) rfl rfl rfl rfl rfl (some_cons (pickS pick0) (some_cons (pickS pick0) (some_cons (pickS pick0) (some_cons (pickS pick0) (some_cons (pickS pick0) some_nil))))) rfl (by kernel_rfl) (fun _ _ _ h => h) ?_
        refine wa_off 51 (j := 49) rfl rfl rfl rfl rfl (some_cons (pickS pick0) (some_cons (pickS pick0) (some_cons (pickS pick0) (some_cons (pickS pick0) (some_cons (pickS pick0) some_nil))))) rfl (by kernel_rfl) (fun _ _ _ h => h) ?_
        refine wa_undef 52 (j := 51) rfl rfl rfl rfl (some_cons (pickS pick0) (some_cons (pickS pick0) (some_cons (pickS pick0) (some_cons (pickS pick0) (some_cons (pickS pick0) some_nil))))) rfl (by kernel_rfl) (fun _ _ _ h => h) ?_
        refine wa_undef 53 (j := 51) rfl rfl rfl rfl (some_cons (pickS pick0) (some_cons (pickS pick0) (some_cons (pickS pick0) (some_cons (pickS pick0) (some_cons (pickS pick0) some_nil))))) rfl (by kernel_rfl) (fun _ _ _ h => h) ?_
        refine wa_undef 54 (j := 51) rfl rfl rfl rfl (some_cons (pickS pick0) (some_cons (pickS pick0) (some_cons (pickS pick0) (some_cons (pickS pick0) (some_cons (pickS pick0) some_nil))))) rfl (by kernel_rfl) (fun _ _ _ h => h) ?_
        refine wa_undef 55 (j := 51) rfl rfl rfl rfl (some_cons (pickS pick0) (some_cons (pickS pick0) (some_cons (pickS pick0) (some_cons (pickS pick0) (some_cons (pickS pick0) some_nil))))) rfl (by kernel_rfl) (fun _ _ _ h => h) ?_
        refine wa_undef 56 (j := 51) rfl rfl rfl rfl (some_cons (pickS pick0) (some_cons (pickS pick0) (some_cons (pickS pick0) (some_cons (pickS pick0) (some_cons (pickS pick0) some_nil))))) rfl (by kernel_rfl) (fun _ _ _ h => h) ?_
        refine wa_undef 57 (j := 51) rfl rfl rfl rfl (some_cons (pickS pick0) (some_cons (pickS pick0) (some_cons (pickS pick0) (some_cons (pickS pick0) (some_cons (pickS pick0) some_nil))))) rfl (by kernel_rfl) (fun _ _ _ h => h) ?_
        refine wa_undef 58 (j := 51) rfl rfl rfl rfl (some_cons (pickS pick0) (some_cons (pickS pick0) (some_cons (pickS pick0) (some_cons (pickS pick0) (some_cons (pickS pick0) some_nil))))) rfl (by kernel_rfl) (fun _ _ _ h => h) ?_
        refine wa_off 59 (j := 49) rfl rfl rfl rfl rfl (some_cons (pickS pick0) (some_cons (pickS pick0) (some_cons (pickS pick0) (some_cons (pickS pick0) (some_cons (pickS pick0) some_nil))))) rfl (by kernel_rfl) (fun _ _ _ h => h) ?_
        refine wa_pure 60 rfl (po_pick_t rfl rfl) (some_cons (pickS pick0) (some_cons (pickS pick0) (some_cons (pickS pick0) (some_cons (pickS pick0) (some_cons (pickS pick0) some_nil))))) rfl (by kernel_rfl) (fun _ _ _ h => h) ?_
        refine wa_done (by kernel_rfl) ?_
        exact wj_meet _ () (mtE t1) (sub_cons rfl (sub_cons rfl (sub_cons rfl sub_nil))) some_nil
      refine wa_pure_on 41 (j := 40) rfl rfl rfl rfl (po_move rfl) (some_cons (pickS pick0) (some_cons (pickS pick0) (some_cons (pickS pick0) (some_cons (pickS pick0) (some_cons (pickS pick0) some_nil))))) rfl (by kernel_rfl) (fun _ _ _ h => h) ?_
      refine wa_pure_on 42 (j := 40) rfl rfl rfl rfl (po_move rfl) (some_cons (pickS pick0) (some_cons (pickS pick0) (some_cons (pickS pick0) (some_cons (pickS pick0) (some_cons (pickS pick0) some_nil))))) rfl (by kernel_rfl) (fun _ _ _ h => h) ?_
      refine wa_pure_on 43 (j := 40) rfl rfl rfl rfl (po_eql rfl rfl) (some_cons (pickS pick0) (some_cons (pickS pick0) (some_cons (pickS pick0) (some_cons (pickS pick0) (some_cons (pickS pick0) some_nil))))) rfl (by kernel_rfl) (fun _ _ _ h => h) ?_
      refine wa_pure_on (v := .agg #[.int .i64 v2.1.Size, (sl x1.1)]) 44 (j := 40) rfl rfl rfl rfl (po_load_boxs tk_26 (pickS (pickS pick0)) rfl rfl rfl) (some_cons (pickS pick0) (some_cons (pickS pick0) (some_cons (pickS pick0) (some_cons (pickS pick0) (some_cons (pickS pick0) some_nil))))) rfl (by kernel_rfl) (fun _ _ _ h => h) ?_
      refine wa_pure_on (v := .agg #[.int .i64 v2.2.Size, (sl x1.2)]) 45 (j := 40) rfl rfl rfl rfl (po_load_boxs tk_26 (pickS pick0) rfl rfl rfl) (some_cons (pickS pick0) (some_cons (pickS pick0) (some_cons (pickS pick0) (some_cons (pickS pick0) (some_cons (pickS pick0) some_nil))))) rfl (by kernel_rfl) (fun _ _ _ h => h) ?_
      refine wa_1 (i := 46) (by kernel_rfl) ?_
      refine bdO t1 fun v16 hv16 t1 => ?_
      refine ws_call_on (j := 40) rfl rfl rfl rfl (co_c0 fa_14 rfl fun w hw => c_spec_AreSame w v2.1 x1.1 (Rg.on (rds_own (pickS (pickS (pickS (pickS (pickS pick0)))))) hw) v2.2 x1.2 (Rg.on (rds_own (pickS (pickS (pickS (pickS pick0))))) hw) hv16) (fun _ => (sts_some (some_cons (pickS pick0) (some_cons (pickS pick0) (some_cons (pickS pick0) (some_cons (pickS pick0) (some_cons (pickS pick0) some_nil))))))) rfl fun _ => ?_
      refine wa_pure_on 47 (j := 40) rfl rfl rfl rfl (po_neq_bool ub_4 rfl rfl) (some_cons (pickS pick0) (some_cons (pickS pick0) (some_cons (pickS pick0) (some_cons (pickS pick0) (some_cons (pickS pick0) some_nil))))) rfl (by kernel_rfl) (fun _ _ _ h => h) ?_
      refine wa_pure 48 rfl (po_pick_f rfl rfl) (some_cons (pickS pick0) (some_cons (pickS pick0) (some_cons (pickS pick0) (some_cons (pickS pick0) (some_cons (pickS pick0) some_nil))))) rfl (by kernel_rfl) (fun _ _ _ h => h) ?_
      refine wa_pure 49 rfl (po_move rfl) (some_cons (pickS pick0) (some_cons (pickS pick0) (some_cons (pickS pick0) (some_cons (pickS pick0) (some_cons (pickS pick0) some_nil))))) rfl (by kernel_rfl) (fun _ _ _ h => h) ?_
      refine waO_ (t := 139) t1 rfl (fun h20 t1 => ?_) fun h20 t1 => ?_
      · skip
        refine wa_off 50 (j := 49) rfl rfl rfl rfl rfl (some_cons (pickS pick0) (some_cons (pickS pick0) (some_cons (pickS pick0) (some_cons (pickS pick0) (some_cons (pickS pick0) some_nil))))) rfl (by kernel_rfl) (fun _ _ _ h => h) ?_
        refine wa_off 51 (j := 49) rfl rfl rfl rfl rfl (some_cons (pickS pick0) (some_cons (pickS pick0) (some_cons (pickS pick0) (some_cons (pickS pick0) (some_cons (pickS pick0) some_nil))))) rfl (by kernel_rfl) (fun _ _ _ h => h) ?_
        refine wa_undef 52 (j := 51) rfl rfl rfl rfl (some_cons (pickS pick0) (some_cons (pickS pick0) (some_cons (pickS pick0) (some_cons (pickS pick0) (some_cons (pickS pick0) some_nil))))) rfl (by kernel_rfl) (fun _ _ _ h => h) ?_
        refine wa_undef 53 (j := 51) rfl rfl rfl rfl (some_cons (pickS pick0) (some_cons (pickS pick0) (some_cons (pickS pick0) (some_cons (pickS pick0) (some_cons (pickS pick0) some_nil))))) rfl (by kernel_rfl) (fun _ _ _ h => h) ?_
        refine wa_undef 54 (j := 51) rfl rfl rfl rfl (some_cons (pickS pick0) (some_cons (pickS pick0) (some_cons (pickS pick0) (some_cons (pickS pick0) (some_cons (pickS pick0) some_nil))))) rfl (by kernel_rfl) (fun _ _ _ h => h) ?_
        refine wa_undef 55 (j := 51) rfl rfl rfl rfl (some_cons (pickS pick0) (some_cons (pickS pick0) (some_cons (pickS pick0) (some_cons (pickS pick0) (some_cons (pickS pick0) some_nil))))) rfl (by kernel_rfl) (fun _ _ _ h => h) ?_
        refine wa_undef 56 (j := 51) rfl rfl rfl rfl (some_cons (pickS pick0) (some_cons (pickS pick0) (some_cons (pickS pick0) (some_cons (pickS pick0) (some_cons (pickS pick0) some_nil))))) rfl (by kernel_rfl) (fun _ _ _ h => h) ?_
        refine wa_undef 57 (j := 51) rfl rfl rfl rfl (some_cons (pickS pick0) (some_cons (pickS pick0) (some_cons (pickS pick0) (some_cons (pickS pick0) (some_cons (pickS pick0) some_nil))))) rfl (by kernel_rfl) (fun _ _ _ h => h) ?_
        refine wa_undef 58 (j := 51) rfl rfl rfl rfl (some_cons (pickS pick0) (some_cons (pickS pick0) (some_cons (pickS pick0) (some_cons (pickS pick0) (some_cons (pickS pick0) some_nil))))) rfl (by kernel_rfl) (fun _ _ _ h => h) ?_
        refine wa_off 59 (j := 49) rfl rfl rfl rfl rfl (some_cons (pickS pick0) (some_cons (pickS pick0) (some_cons (pickS pick0) (some_cons (pickS pick0) (some_cons (pickS pick0) some_nil))))) rfl (by kernel_rfl) (fun _ _ _ h => h) ?_
        refine wa_pure 60 rfl (po_pick_t rfl rfl) (some_cons (pickS pick0) (some_cons (pickS pick0) (some_cons (pickS pick0) (some_cons (pickS pick0) (some_cons (pickS pick0) some_nil))))) rfl (by kernel_rfl) (fun _ _ _ h => h) ?_
        refine wa_done (by kernel_rfl) ?_
        exact wj_meet _ () (mtE t1) (sub_cons rfl (sub_cons rfl (sub_cons rfl sub_nil))) some_nil
      refine wa_pure_on 50 (j := 49) rfl rfl rfl rfl (po_move rfl) (some_cons (pickS pick0) (some_cons (pickS pick0) (some_cons (pickS pick0) (some_cons (pickS pick0) (some_cons (pickS pick0) some_nil))))) rfl (by kernel_rfl) (fun _ _ _ h => h) ?_
      refine wa_pure_on 51 (j := 49) rfl rfl rfl rfl (po_move rfl) (some_cons (pickS pick0) (some_cons (pickS pick0) (some_cons (pickS pick0) (some_cons (pickS pick0) (some_cons (pickS pick0) some_nil))))) rfl (by kernel_rfl) (fun _ _ _ h => h) ?_
      refine wa_know (t := 141) rfl h17 ?_
      refine wa_pure_on 52 (j := 51) rfl rfl rfl rfl (po_move rfl) (some_cons (pickS pick0) (some_cons (pickS pick0) (some_cons (pickS pick0) (some_cons (pickS pick0) (some_cons (pickS pick0) some_nil))))) rfl (by kernel_rfl) (fun _ _ _ h => h) ?_
      refine wa_pure_on 53 (j := 51) rfl rfl rfl rfl (po_move rfl) (some_cons (pickS pick0) (some_cons (pickS pick0) (some_cons (pickS pick0) (some_cons (pickS pick0) (some_cons (pickS pick0) some_nil))))) rfl (by kernel_rfl) (fun _ _ _ h => h) ?_
      refine wa_pure_on 54 (j := 51) rfl rfl rfl rfl (po_eql rfl rfl) (some_cons (pickS pick0) (some_cons (pickS pick0) (some_cons (pickS pick0) (some_cons (pickS pick0) (some_cons (pickS pick0) some_nil))))) rfl (by kernel_rfl) (fun _ _ _ h => h) ?_
      refine wa_pure_on (v := .agg #[.int .i64 v2.1.Size, (sl x1.1)]) 55 (j := 51) rfl rfl rfl rfl (po_load_boxs tk_26 (pickS (pickS pick0)) rfl rfl rfl) (some_cons (pickS pick0) (some_cons (pickS pick0) (some_cons (pickS pick0) (some_cons (pickS pick0) (some_cons (pickS pick0) some_nil))))) rfl (by kernel_rfl) (fun _ _ _ h => h) ?_
      refine wa_pure_on (v := .agg #[.int .i64 v2.2.Size, (sl x1.2)]) 56 (j := 51) rfl rfl rfl rfl (po_load_boxs tk_26 (pickS pick0) rfl rfl rfl) (some_cons (pickS pick0) (some_cons (pickS pick0) (some_cons (pickS pick0) (some_cons (pickS pick0) (some_cons (pickS pick0) some_nil))))) rfl (by kernel_rfl) (fun _ _ _ h => h) ?_
      refine wa_1 (i := 57) (by kernel_rfl) ?_
      refine bdO t1 fun v17 hv17 t1 => ?_
      refine ws_call_on (j := 51) rfl rfl rfl rfl (co_c0 fa_15 rfl fun w hw => c_spec_ArePatternsSame w v2.1 x1.1 (Rg.on (rds_own (pickS (pickS (pickS (pickS (pickS pick0)))))) hw) v2.2 x1.2 (Rg.on (rds_own (pickS (pickS (pickS (pickS pick0))))) hw) hv17) (fun _ => (sts_some (some_cons (pickS pick0) (some_cons (pickS pick0) (some_cons (pickS pick0) (some_cons (pickS pick0) (some_cons (pickS pick0) some_nil))))))) rfl fun _ => ?_
      refine wa_pure_on 58 (j := 51) rfl rfl rfl rfl (po_neq_bool ub_4 rfl rfl) (some_cons (pickS pick0) (some_cons (pickS pick0) (some_cons (pickS pick0) (some_cons (pickS pick0) (some_cons (pickS pick0) some_nil))))) rfl (by kernel_rfl) (fun _ _ _ h => h) ?_
      refine wa_pure_on 59 (j := 49) rfl rfl rfl rfl (po_pick_t rfl rfl) (some_cons (pickS pick0) (some_cons (pickS pick0) (some_cons (pickS pick0) (some_cons (pickS pick0) (some_cons (pickS pick0) some_nil))))) rfl (by kernel_rfl) (fun _ _ _ h => h) ?_
      refine wa_pure 60 rfl (po_pick_f rfl rfl) (some_cons (pickS pick0) (some_cons (pickS pick0) (some_cons (pickS pick0) (some_cons (pickS pick0) (some_cons (pickS pick0) some_nil))))) rfl (by kernel_rfl) (fun _ _ _ h => h) ?_
      refine wa_done (by kernel_rfl) ?_
      exact wj_meet _ () (mtE t1) (sub_cons rfl (sub_cons rfl (sub_cons rfl sub_nil))) some_nil
    refine wa_off 30 (j := 29) rfl rfl rfl rfl rfl (some_cons (pickS pick0) (some_cons (pickS pick0) (some_cons (pickS pick0) (some_cons (pickS pick0) (some_cons (pickS pick0) some_nil))))) rfl (by kernel_rfl) (fun _ _ _ h => h) ?_
    refine wa_off 31 (j := 29) rfl rfl rfl rfl rfl (some_cons (pickS pick0) (some_cons (pickS pick0) (some_cons (pickS pick0) (some_cons (pickS pick0) (some_cons (pickS pick0) some_nil))))) rfl (by kernel_rfl) (fun _ _ _ h => h) ?_
    refine wa_off 32 (j := 29) rfl rfl rfl rfl rfl (some_cons (pickS pick0) (some_cons (pickS pick0) (some_cons (pickS pick0) (some_cons (pickS pick0) (some_cons (pickS pick0) some_nil))))) rfl (by kernel_rfl) (fun _ _ _ h => h) ?_
    refine wa_pure_on 33 (j := 27) rfl rfl rfl rfl (po_pick_f rfl rfl) (some_cons (pickS pick0) (some_cons (pickS pick0) (some_cons (pickS pick0) (some_cons (pickS pick0) (some_cons (pickS pick0) some_nil))))) rfl (by kernel_rfl) (fun _ _ _ h => h) ?_
    refine wa_pure 34 rfl (po_pick_f rfl rfl) (some_cons (pickS pick0) (some_cons (pickS pick0) (some_cons (pickS pick0) (some_cons (pickS pick0) (some_cons (pickS pick0) some_nil))))) rfl (by kernel_rfl) (fun _ _ _ h => h) ?_
    refine wa_pure 35 rfl (po_move rfl) (some_cons (pickS pick0) (some_cons (pickS pick0) (some_cons (pickS pick0) (some_cons (pickS pick0) (some_cons (pickS pick0) some_nil))))) rfl (by kernel_rfl) (fun _ _ _ h => h) ?_
    refine wa_pure_on 36 (j := 35) rfl rfl rfl rfl (po_move rfl) (some_cons (pickS pick0) (some_cons (pickS pick0) (some_cons (pickS pick0) (some_cons (pickS pick0) (some_cons (pickS pick0) some_nil))))) rfl (by kernel_rfl) (fun _ _ _ h => h) ?_
    refine wa_pure_on 37 (j := 35) rfl rfl rfl rfl (po_move rfl) (some_cons (pickS pick0) (some_cons (pickS pick0) (some_cons (pickS pick0) (some_cons (pickS pick0) (some_cons (pickS pick0) some_nil))))) rfl (by kernel_rfl) (fun _ _ _ h => h) ?_
    refine wa_pure_on 38 (j := 35) rfl rfl rfl rfl (po_gtr rfl rfl) (some_cons (pickS pick0) (some_cons (pickS pick0) (some_cons (pickS pick0) (some_cons (pickS pick0) (some_cons (pickS pick0) some_nil))))) rfl (by kernel_rfl) (fun _ _ _ h => h) ?_
    refine wa_pure 39 rfl (po_pick_f rfl rfl) (some_cons (pickS pick0) (some_cons (pickS pick0) (some_cons (pickS pick0) (some_cons (pickS pick0) (some_cons (pickS pick0) some_nil))))) rfl (by kernel_rfl) (fun _ _ _ h => h) ?_
    refine wa_pure 40 rfl (po_move rfl) (some_cons (pickS pick0) (some_cons (pickS pick0) (some_cons (pickS pick0) (some_cons (pickS pick0) (some_cons (pickS pick0) some_nil))))) rfl (by kernel_rfl) (fun _ _ _ h => h) ?_
    refine waO_ (t := 130) t1 rfl (fun h21 t1 => ?_) fun h21 t1 => ?_
    · skip
      refine wa_off 41 (j := 40) rfl rfl rfl rfl rfl (some_cons (pickS pick0) (some_cons (pickS pick0) (some_cons (pickS pick0) (some_cons (pickS pick0) (some_cons (pickS pick0) some_nil))))) rfl (by kernel_rfl) (fun _ _ _ h => h) ?_
      refine wa_off 42 (j := 40) rfl rfl rfl rfl rfl (some_cons (pickS pick0) (some_cons (pickS pick0) (some_cons (pickS pick0) (some_cons (pickS pick0) (some_cons (pickS pick0) some_nil))))) rfl (by kernel_rfl) (fun _ _ _ h => h) ?_
      refine wa_off 43 (j := 40) rfl rfl rfl rfl rfl (some_cons (pickS pick0) (some_cons (pickS pick0) (some_cons (pickS pick0) (some_cons (pickS pick0) (some_cons (pickS pick0) some_nil))))) rfl (by kernel_rfl) (fun _ _ _ h => h) ?_
      refine wa_off 44 (j := 40) rfl rfl rfl rfl rfl (some_cons (pickS pick0) (some_cons (pickS pick0) (some_cons (pickS pick0) (some_cons (pickS pick0) (some_cons (pickS pick0) some_nil))))) rfl (by kernel_rfl) (fun _ _ _ h => h) ?_
      refine wa_off 45 (j := 40) rfl rfl rfl rfl rfl (some_cons (pickS pick0) (some_cons (pickS pick0) (some_cons (pickS pick0) (some_cons (pickS pick0) (some_cons (pickS pick0) some_nil))))) rfl (by kernel_rfl) (fun _ _ _ h => h) ?_
      refine wa_off 46 (j := 40) rfl rfl rfl rfl rfl (some_cons (pickS pick0) (some_cons (pickS pick0) (some_cons (pickS pick0) (some_cons (pickS pick0) (some_cons (pickS pick0) some_nil))))) rfl (by kernel_rfl) (fun _ _ _ h => h) ?_
      refine wa_off 47 (j := 40) rfl rfl rfl rfl rfl (some_cons (pickS pick0) (some_cons (pickS pick0) (some_cons (pickS pick0) (some_cons (pickS pick0) (some_cons (pickS pick0) some_nil))))) rfl (by kernel_rfl) (fun _ _ _ h => h) ?_
      refine wa_pure 48 rfl (po_pick_t rfl rfl) (some_cons (pickS pick0) (some_cons (pickS pick0) (some_cons (pickS pick0) (some_cons (pickS pick0) (some_cons (pickS pick0) some_nil))))) rfl (by kernel_rfl) (fun _ _ _ h => h) ?_
      refine wa_pure 49 rfl (po_move rfl) (some_cons (pickS pick0) (some_cons (pickS pick0) (some_cons (pickS pick0) (some_cons (pickS pick0) (some_cons (pickS pick0) some_nil))))) rfl (by kernel_rfl) (fun _ _ _ h => h) ?_
      refine wa_off 50 (j := 49) rfl rfl rfl rfl rfl (some_cons (pickS pick0) (some_cons (pickS pick0) (some_cons (pickS pick0) (some_cons (pickS pick0) (some_cons (pickS pick0) some_nil))))) rfl (by kernel_rfl) (fun _ _ _ h => h) ?_
      refine wa_off 51 (j := 49) rfl rfl rfl rfl rfl (some_cons (pickS pick0) (some_cons (pickS pick0) (some_cons (pickS pick0) (some_cons (pickS pick0) (some_cons (pickS pick0) some_nil))))) rfl (by kernel_rfl) (fun _ _ _ h => h) ?_
      refine wa_undef 52 (j := 51) rfl rfl rfl rfl (some_cons (pickS pick0) (some_cons (pickS pick0) (some_cons (pickS pick0) (some_cons (pickS pick0) (some_cons (pickS pick0) some_nil))))) rfl (by kernel_rfl) (fun _ _ _ h => h) ?_
      refine wa_undef 53 (j := 51) rfl rfl rfl rfl (some_cons (pickS pick0) (some_cons (pickS pick0) (some_cons (pickS pick0) (some_cons (pickS pick0) (some_cons (pickS pick0) some_nil))))) rfl (by kernel_rfl) (fun _ _ _ h => h) ?_
      refine wa_undef 54 (j := 51) rfl rfl rfl rfl (some_cons (pickS pick0) (some_cons (pickS pick0) (some_cons (pickS pick0) (some_cons (pickS pick0) (some_cons (pickS pick0) some_nil))))) rfl (by kernel_rfl) (fun _ _ _ h => h) ?_
      refine wa_undef 55 (j := 51) rfl rfl rfl rfl (some_cons (pickS pick0) (some_cons (pickS pick0) (some_cons (pickS pick0) (some_cons (pickS pick0) (some_cons (pickS pick0) some_nil))))) rfl (by kernel_rfl) (fun _ _ _ h => h) ?_
      refine wa_undef 56 (j := 51) rfl rfl rfl rfl (some_cons (pickS pick0) (some_cons (pickS pick0) (some_cons (pickS pick0) (some_cons (pickS pick0) (some_cons (pickS pick0) some_nil))))) rfl (by kernel_rfl) (fun _ _ _ h => h) ?_
      refine wa_undef 57 (j := 51) rfl rfl rfl rfl (some_cons (pickS pick0) (some_cons (pickS pick0) (some_cons (pickS pick0) (some_cons (pickS pick0) (some_cons (pickS pick0) some_nil))))) rfl (by kernel_rfl) (fun _ _ _ h => h) ?_
      refine wa_undef 58 (j := 51) rfl rfl rfl rfl (some_cons (pickS pick0) (some_cons (pickS pick0) (some_cons (pickS pick0) (some_cons (pickS pick0) (some_cons (pickS pick0) some_nil))))) rfl (by kernel_rfl) (fun _ _ _ h => h) ?_
      refine wa_off 59 (j := 49) rfl rfl rfl rfl rfl (some_cons (pickS pick0) (some_cons (pickS pick0) (some_cons (pickS pick0) (some_cons (pickS pick0) (some_cons (pickS pick0) some_nil))))) rfl (by kernel_rfl) (fun _ _ _ h => h) ?_
      refine wa_pure 60 rfl (po_pick_t rfl rfl) (some_cons (pickS pick0) (some_cons (pickS pick0) (some_cons (pickS pick0) (some_cons (pickS pick0) (some_cons (pickS pick0) some_nil))))) rfl (by kernel_rfl) (fun _ _ _ h => h) ?_
      refine wa_done (by kernel_rfl) ?_
      exact wj_meet _ () (mtE t1) (sub_cons rfl (sub_cons rfl (sub_cons rfl sub_nil))) some_nil
    refine wa_pure_on 41 (j := 40) rfl rfl rfl rfl (po_move rfl) (some_cons (pickS pick0) (some_cons (pickS pick0) (some_cons (pickS pick0) (some_cons (pickS pick0) (some_cons (pickS pick0) some_nil))))) rfl (by kernel_rfl) (fun _ _ _ h => h) ?_
    refine wa_pure_on 42 (j := 40) rfl rfl rfl rfl (po_move rfl) (some_cons (pickS pick0) (some_cons (pickS pick0) (some_cons (pickS pick0) (some_cons (pickS pick0) (some_cons (pickS pick0) some_nil))))) rfl (by kernel_rfl) (fun _ _ _ h => h) ?_
    refine wa_pure_on 43 (j := 40) rfl rfl rfl rfl (po_eql rfl rfl) (some_cons (pickS pick0) (some_cons (pickS pick0) (some_cons (pickS pick0) (some_cons (pickS pick0) (some_cons (pickS pick0) some_nil))))) rfl (by kernel_rfl) (fun _ _ _ h => h) ?_
    refine wa_pure_on (v := .agg #[.int .i64 v2.1.Size, (sl x1.1)]) 44 (j := 40) rfl rfl rfl rfl (po_load_boxs tk_26 (pickS (pickS pick0)) rfl rfl rfl) (some_cons (pickS pick0) (some_cons (pickS pick0) (some_cons (pickS pick0) (some_cons (pickS pick0) (some_cons (pickS pick0) some_nil))))) rfl (by kernel_rfl) (fun _ _ _ h => h) ?_
    refine wa_pure_on (v := .agg #[.int .i64 v2.2.Size, (sl x1.2)]) 45 (j := 40) rfl rfl rfl rfl (po_load_boxs tk_26 (pickS pick0) rfl rfl rfl) (some_cons (pickS pick0) (some_cons (pickS pick0) (some_cons (pickS pick0) (some_cons (pickS pick0) (some_cons (pickS pick0) some_nil))))) rfl (by kernel_rfl) (fun _ _ _ h => h) ?_
    refine wa_1 (i := 46) (by kernel_rfl) ?_
    refine bdO t1 fun v18 hv18 t1 => ?_
    refine ws_call_on (j := 40) rfl rfl rfl rfl (co_c0 fa_14 rfl fun w hw => c_spec_AreSame w v2.1 x1.1 (Rg.on (rds_own (pickS (pickS (pickS (pickS (pickS pick0)))))) hw) v2.2 x1.2 (Rg.on (rds_own (pickS (pickS (pickS (pickS pick0))))) hw) hv18) (fun _ => (sts_some (some_cons (pickS pick0) (some_cons (pickS pick0) (some_cons (pickS pick0) (some_cons (pickS pick0) (some_cons (pickS pick0) some_nil))))))) rfl fun _ => ?_
    refine wa_pure_on 47 (j := 40) rfl rfl rfl rfl (po_neq_bool ub_4 rfl rfl) (some_cons (pickS pick0) (some_cons (pickS pick0) (some_cons (pickS pick0) (some_cons (pickS pick0) (some_cons (pickS pick0) some_nil))))) rfl (by kernel_rfl) (fun _ _ _ h => h) ?_
    refine wa_pure 48 rfl (po_pick_f rfl rfl) (some_cons (pickS pick0) (some_cons (pickS pick0) (some_cons (pickS pick0) (some_cons (pickS pick0) (some_cons (pickS pick0) some_nil))))) rfl (by kernel_rfl) (fun _ _ _ h => h) ?_
    refine wa_pure 49 rfl (po_move rfl) (some_cons (pickS pick0) (some_cons (pickS pick0) (some_cons (pickS pick0) (some_cons (pickS pick0) (some_cons (pickS pick0) some_nil))))) rfl (by kernel_rfl) (fun _ _ _ h => h) ?_
    refine waO_ (t := 139) t1 rfl (fun h22 t1 => ?_) fun h22 t1 => ?_
    · skip
      refine wa_off 50 (j := 49) rfl rfl rfl rfl rfl (some_cons (pickS pick0) (some_cons (pickS pick0) (some_cons (pickS pick0) (some_cons (pickS pick0) (some_cons (pickS pick0) some_nil))))) rfl (by kernel_rfl) (fun _ _ _ h => h) ?_
      refine wa_off 51 (j := 49) rfl rfl rfl rfl rfl (some_cons (pickS pick0) (some_cons (pickS pick0) (some_cons (pickS pick0) (some_cons (pickS pick0) (some_cons (pickS pick0) some_nil))))) rfl (by kernel_rfl) (fun _ _ _ h => h) ?_
      refine wa_undef 52 (j := 51) rfl rfl rfl rfl (some_cons (pickS pick0) (some_cons (pickS pick0) (some_cons (pickS pick0) (some_cons (pickS pick0) (some_cons (pickS pick0) some_nil))))) rfl (by kernel_rfl) (fun _ _ _ h => h) ?_
      refine wa_undef 53 (j := 51) rfl rfl rfl rfl (some_cons (pickS pick0) (some_cons (pickS pick0) (some_cons (pickS pick0) (some_cons (pickS pick0) (some_cons (pickS pick0) some_nil))))) rfl (by kernel_rfl) (fun _ _ _ h => h) ?_
      refine wa_undef 54 (j := 51) rfl rfl rfl rfl (some_cons (pickS pick0) (some_cons (pickS pick0) (some_cons (pickS pick0) (some_cons (pickS pick0) (some_cons (pickS pick0) some_nil))))) rfl (by kernel_rfl) (fun _ _ _ h => h) ?_
      refine wa_undef 55 (j := 51) rfl rfl rfl rfl (some_cons (pickS pick0) (some_cons (pickS pick0) (some_cons (pickS pick0) (some_cons (pickS pick0) (some_cons (pickS pick0) some_nil))))) rfl (by kernel_rfl) (fun _ _ _ h => h) ?_
      refine wa_undef 56 (j := 51) rfl rfl rfl rfl (some_cons (pickS pick0) (some_cons (pickS pick0) (some_cons (pickS pick0) (some_cons (pickS pick0) (some_cons (pickS pick0) some_nil))))) rfl (by kernel_rfl) (fun _ _ _ h => h) ?_
      refine wa_undef 57 (j := 51) rfl rfl rfl rfl (some_cons (pickS pick0) (some_cons (pickS pick0) (some_cons (pickS pick0) (some_cons (pickS pick0) (some_cons (pickS pick0) some_nil))))) rfl (by kernel_rfl) (fun _ _ _ h => h) ?_
      refine wa_undef 58 (j := 51) rfl rfl rfl rfl (some_cons (pickS pick0) (some_cons (pickS pick0) (some_cons (pickS pick0) (some_cons (pickS pick0) (some_cons (pickS pick0) some_nil))))) rfl (by kernel_rfl) (fun _ _ _ h => h) ?_
      refine wa_off 59 (j := 49) rfl rfl rfl rfl rfl (some_cons (pickS pick0) (some_cons (pickS pick0) (some_cons (pickS pick0) (some_cons (pickS pick0) (some_cons (pickS pick0) some_nil))))) rfl (by kernel_rfl) (fun _ _ _ h => h) ?_
      refine wa_pure 60 rfl (po_pick_t rfl rfl) (some_cons (pickS pick0) (some_cons (pickS pick0) (some_cons (pickS pick0) (some_cons (pickS pick0) (some_cons (pickS pick0) some_nil))))) rfl (by kernel_rfl) (fun _ _ _ h => h) ?_
      refine wa_done (by kernel_rfl) ?_
      exact wj_meet _ () (mtE t1) (sub_cons rfl (sub_cons rfl (sub_cons rfl sub_nil))) some_nil
    refine wa_pure_on 50 (j := 49) rfl rfl rfl rfl (po_move rfl) (some_cons (pickS pick0) (some_cons (pickS pick0) (some_cons (pickS pick0) (some_cons (pickS pick0) (some_cons (pickS pick0) some_nil))))) rfl (by kernel_rfl) (fun _ _ _ h => h) ?_
    refine wa_pure_on 51 (j := 49) rfl rfl rfl rfl (po_move rfl) (some_cons (pickS pick0) (some_cons (pickS pick0) (some_cons (pickS pick0) (some_cons (pickS pick0) (some_cons (pickS pick0) some_nil))))) rfl (by kernel_rfl) (fun _ _ _ h => h) ?_
    refine wa_know (t := 141) rfl h17 ?_
    refine wa_off 52 (j := 51) rfl rfl rfl rfl rfl (some_cons (pickS pick0) (some_cons (pickS pick0) (some_cons (pickS pick0) (some_cons (pickS pick0) (some_cons (pickS pick0) some_nil))))) rfl (by kernel_rfl) (fun _ _ _ h => h) ?_
    refine wa_off 53 (j := 51) rfl rfl rfl rfl rfl (some_cons (pickS pick0) (some_cons (pickS pick0) (some_cons (pickS pick0) (some_cons (pickS pick0) (some_cons (pickS pick0) some_nil))))) rfl (by kernel_rfl) (fun _ _ _ h => h) ?_
    refine wa_off 54 (j := 51) rfl rfl rfl rfl rfl (some_cons (pickS pick0) (some_cons (pickS pick0) (some_cons (pickS pick0) (some_cons (pickS pick0) (some_cons (pickS pick0) some_nil))))) rfl (by kernel_rfl) (fun _ _ _ h => h) ?_
    refine wa_off 55 (j := 51) rfl rfl rfl rfl rfl (some_cons (pickS pick0) (some_cons (pickS pick0) (some_cons (pickS pick0) (some_cons (pickS pick0) (some_cons (pickS pick0) some_nil))))) rfl (by kernel_rfl) (fun _ _ _ h => h) ?_
    refine wa_off 56 (j := 51) rfl rfl rfl rfl rfl (some_cons (pickS pick0) (some_cons (pickS pick0) (some_cons (pickS pick0) (some_cons (pickS pick0) (some_cons (pickS pick0) some_nil))))) rfl (by kernel_rfl) (fun _ _ _ h => h) ?_
    refine wa_off 57 (j := 51) rfl rfl rfl rfl rfl (some_cons (pickS pick0) (some_cons (pickS pick0) (some_cons (pickS pick0) (some_cons (pickS pick0) (some_cons (pickS pick0) some_nil))))) rfl (by kernel_rfl) (fun _ _ _ h => h) ?_
    refine wa_off 58 (j := 51) rfl rfl rfl rfl rfl (some_cons (pickS pick0) (some_cons (pickS pick0) (some_cons (pickS pick0) (some_cons (pickS pick0) (some_cons (pickS pick0) some_nil))))) rfl (by kernel_rfl) (fun _ _ _ h => h) ?_
    refine wa_pure_on 59 (j := 49) rfl rfl rfl rfl (po_pick_f rfl rfl) (some_cons (pickS pick0) (some_cons (pickS pick0) (some_cons (pickS pick0) (some_cons (pickS pick0) (some_cons (pickS pick0) some_nil))))) rfl (by kernel_rfl) (fun _ _ _ h => h) ?_
    refine wa_pure 60 rfl (po_pick_f rfl rfl) (some_cons (pickS pick0) (some_cons (pickS pick0) (some_cons (pickS pick0) (some_cons (pickS pick0) (some_cons (pickS pick0) some_nil))))) rfl (by kernel_rfl) (fun _ _ _ h => h) ?_
    refine wa_done (by kernel_rfl) ?_
    exact wj_meet _ () (mtE t1) (sub_cons rfl (sub_cons rfl (sub_cons rfl sub_nil))) some_nil
  intro j4 _ hp
  obtain rfl : j4 = y1 := hp.symm
  refine wq_then ?_
  refine wcO t0 rfl (fun h23 t0 => ?_) fun h23 t0 => ?_
  · skip
    refine wcr ?_
    refine asg rfl rfl ?_
    refine wnt ?_
    refine wc_ret ?_
    refine wq_then_ret ?_
    obtain rfl := Option.some.inj t0
    exact wq_ret1 rfl rfl fun w hw => ⟨rfl, hw.weak some_nil⟩
  refine wc_skip ?_
  refine wq_then ?_
  refine wc_seq ?_
  refine wc_join (X := Unit) (fun _ => True) (fun _ => [(2, .bool ((decide (((v12.length : Nat) : Int) ≤ 3)) || (v6 == 0)))]) (fun _ => []) ?_ ?_
  · skip
    refine wc_region ?_
    refine mv rfl rfl ?_
    refine mv rfl rfl ?_
    refine wl_fork (t := 152) rfl (fun h24 => ?_) fun h24 => ?_
    · skip
      refine wl_guard_off (j := 1) rfl rfl rfl rfl rfl ?_
      refine wl_guard_off (j := 1) rfl rfl rfl rfl rfl ?_
      refine wl_pure (po_pick_t rfl rfl) rfl ?_
      refine asg rfl rfl ?_
      refine wl_nil ?_
      exact wq_meet () trivial (sub_b rfl (by rw [h24]; rfl) sub_nil) some_nil
    refine wl_guard_on (j := 1) rfl rfl rfl (mv rfl rfl ?_)
    refine wl_guard_on (j := 1) rfl rfl rfl (wl_pure (po_eql rfl rfl) rfl ?_)
    refine wl_pure (po_pick_f rfl rfl) rfl ?_
    refine asg rfl rfl ?_
    refine wl_nil ?_
    exact wq_meet () trivial (sub_b rfl (by rw [h24]; rfl) sub_nil) some_nil
  intro _ _
  refine wq_then ?_
  refine wc_ret ?_
  obtain rfl := Option.some.inj t0
  exact wq_ret1 rfl rfl fun w hw => ⟨rfl, hw.weak some_nil⟩

end Go.Proofs.Ytfnfngicgikhgab
