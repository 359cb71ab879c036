/-
  Each Go function computes its Lean function (part 2).
-/
import Derived.Test.YtfnfngicgikhgabWalks1
namespace Go.Proofs.Ytfnfngicgikhgab
open Go Go.RowKit Go.Proofs
set_option maxRecDepth 100000

theorem c_impl_Likeness (w : World) (a_b : GBlock) (v0a : Hd) (r0 : rdF w (dm w []) (sl v0a) a_b.Cells) (a_d : GBlock) (v1a : Hd) (r1 : rdF w (dm w []) (sl v1a) a_d.Cells) {r : Int} (t0 : impl_Likeness a_b a_d = some r) : Calls Try.prog 6 #[.agg #[.int .i64 a_b.Size, (sl v0a)], .agg #[.int .i64 a_d.Size, (sl v1a)]] w fun e w' => e = .returned (.int .i64 r) ∧ SH w [] [] w' := by
  refine calls_of_wc (args := [_, _]) Try.func6 rfl Try.ntmps6 rfl ?_
  unfold impl_Likeness at t0
  refine wcr ?_
  refine wl_eff (eo_box rfl rfl) rfl fun b1 => ?_
  refine wl_eff (eo_box rfl rfl) rfl fun b2 => ?_
  refine asg rfl rfl ?_
  refine wnt ?_
  refine wc_seq ?_
  refine wcr ?_
  refine wl_pure (v := .agg #[.int .i64 a_b.Size, (sl v0a)]) (po_load_boxs tk_26 (pickS pick0) rfl rfl rfl) rfl ?_
  refine wl_pure (v := .agg #[.int .i64 a_d.Size, (sl v1a)]) (po_load_boxs tk_26 pick0 rfl rfl rfl) rfl ?_
  refine bdO t0 fun v1 hv1 t0 => ?_
  refine wl_call (co_c0 fa_18 rfl fun w hw => c_impl_arePaired w a_b v0a (Rg.on (rds_arg r0) hw) a_d v1a (Rg.on (rds_arg r1) hw) hv1) rfl fun _ => ?_
  refine wl_pure (po_not rfl) rfl ?_
  refine wnt ?_
  refine wcO t0 rfl (fun h1 t0 => ?_) fun h1 t0 => ?_
  · skip
    refine wcr ?_
    refine asg rfl rfl ?_
    refine wnt ?_
    refine wc_ret ?_
    refine wq_then_ret ?_
    obtain rfl := Option.some.inj t0
    exact wq_ret1 rfl rfl fun w hw => ⟨rfl, hw.weak some_nil⟩
  refine wc_skip ?_
  refine wq_then ?_
  refine wcr ?_
  refine asg rfl rfl ?_
  refine wnt ?_
  refine wc_seq ?_
  refine wcr ?_
  refine wl_pure (po_fld fo_26_1 rfl) rfl ?_
  refine wl_pure (v := (sl v0a)) (po_load_box tk_24 (pickS pick0) rfl rfl) rfl ?_
  refine wl_pure (po_lenr (rds_arg r0) el_24 rfl) rfl ?_
  refine mv rfl rfl ?_
  refine wnt ?_
  refine gdO t0 fun g1 t0 => ?_
  refine lpO_inv t0 fun y1 l1 t0 => ?_
  refine wj (J := Int) (X := Unit) (fun z => y1 = z) (fun z _ => [(5, .int .i64 z)]) (fun _ _ => []) ?_ ?_
  · skip
    refine wc_block ?_
    refine wc_forO (X := Unit) l1 (fun k1 s1 x1l => [(2, ptr b1 0), (3, ptr b2 0), (5, .int .i64 s1), (13, .int .i64 ((a_b.Cells.length : Nat) : Int)), (14, .int .i64 ((k1 : Nat) : Int))]) (fun k1 s1 x1l => [box b2 [.int .i64 a_d.Size, (sl v1a)], box b1 [.int .i64 a_b.Size, (sl v0a)]]) () (sub_cons rfl (sub_cons rfl (sub_cons rfl (sub_cons rfl (sub_cons rfl sub_nil))))) (some_cons pick0 (some_cons pick0 some_nil)) fun k1 s1 x1l hN1 l1 => ?_
    by_cases hk1 : k1 < a_b.Cells.length
    · skip
      refine forO_step l1 hk1 fun _ t1 l1 => ?_
      unfold impl_Likeness_L1 at t1
      have c1 : (decide (((k1 : Nat) : Int) < ((a_b.Cells.length : Nat) : Int))) = true := decide_eq_true (by omega)
      refine wcr ?_
      refine wl_pure (po_lss rfl rfl) rfl ?_
      refine wnt ?_
      refine wc_seq ?_
      refine wc_cond_t rfl c1 ?_
      refine wc_skip ?_
      refine wq_then ?_
      refine wc_seq ?_
      refine wc_block ?_
      refine wcr ?_
      refine mv rfl rfl ?_
      refine asg rfl rfl ?_
      refine wnt ?_
      refine wc_draw [box b2 [.int .i64 a_d.Size, (sl v1a)], box b1 [.int .i64 a_b.Size, (sl v0a)]] 14 mixed ?_
      refine wa_pure 0 rfl (po_move rfl) (some_cons pick0 (some_cons pick0 some_nil)) rfl (by kernel_rfl) (fun _ _ _ h => h) ?_
      refine wa_pure 1 rfl (po_fld fo_26_1 rfl) (some_cons pick0 (some_cons pick0 some_nil)) rfl (by kernel_rfl) (fun _ _ _ h => h) ?_
      refine wa_pure (v := (sl v0a)) 2 rfl (po_load_box tk_24 (pickS pick0) rfl rfl) (some_cons pick0 (some_cons pick0 some_nil)) rfl (by kernel_rfl) (fun _ _ _ h => h) ?_
      refine wa_pure 3 rfl (po_move rfl) (some_cons pick0 (some_cons pick0 some_nil)) rfl (by kernel_rfl) (fun _ _ _ h => h) ?_
      refine wa_pure 4 rfl (po_ixn (k := k1) (rds_arg r0) el_24 rfl rfl hk1) (some_cons pick0 (some_cons pick0 some_nil)) rfl (by kernel_rfl) (fun _ _ _ h => h) ?_
      refine wa_pure (v := .agg #[.int .i64 ((gx a_b.Cells k1).Split), .int .i64 ((gx a_b.Cells k1).A), .int .i64 ((gx a_b.Cells k1).B)]) 5 rfl (po_ldfs (rds_arg r0) tk_33 rfl hk1 rfl rfl rfl) (some_cons pick0 (some_cons pick0 some_nil)) rfl (by kernel_rfl) (fun _ _ _ h => h) ?_
      refine wa_pure 6 rfl (po_fld fo_26_1 rfl) (some_cons pick0 (some_cons pick0 some_nil)) rfl (by kernel_rfl) (fun _ _ _ h => h) ?_
      refine wa_pure (v := (sl v1a)) 7 rfl (po_load_box tk_24 pick0 rfl rfl) (some_cons pick0 (some_cons pick0 some_nil)) rfl (by kernel_rfl) (fun _ _ _ h => h) ?_
      refine wa_pure 8 rfl (po_move rfl) (some_cons pick0 (some_cons pick0 some_nil)) rfl (by kernel_rfl) (fun _ _ _ h => h) ?_
      refine gdO t1 fun g2 t1 => ?_
      refine wa_pure 9 rfl (po_ixn (k := k1) (rds_arg r1) el_24 rfl rfl g2) (some_cons pick0 (some_cons pick0 some_nil)) rfl (by kernel_rfl) (fun _ _ _ h => h) ?_
      refine wa_pure (v := .agg #[.int .i64 ((gx a_d.Cells k1).Split), .int .i64 ((gx a_d.Cells k1).A), .int .i64 ((gx a_d.Cells k1).B)]) 10 rfl (po_ldfs (rds_arg r1) tk_33 rfl g2 rfl rfl rfl) (some_cons pick0 (some_cons pick0 some_nil)) rfl (by kernel_rfl) (fun _ _ _ h => h) ?_
      refine wa_1 (i := 11) (by kernel_rfl) ?_
      refine bdO t1 fun v2 hv2 t1 => ?_
      refine ws_call rfl (co_c0 fa_11 rfl fun w hw => c_impl_CellLikeness w (gx a_b.Cells k1) (gx a_d.Cells k1) hv2) (fun _ => (sts_some (some_cons pick0 (some_cons pick0 some_nil)))) rfl fun _ => ?_
      refine wa_pure 12 rfl (po_add rfl rfl) (some_cons pick0 (some_cons pick0 some_nil)) rfl (by kernel_rfl) (fun _ _ _ h => h) ?_
      refine wa_pure 13 rfl (po_assign rfl) (some_cons pick0 (some_cons pick0 some_nil)) rfl (by kernel_rfl) (fun _ _ _ h => h) ?_
      refine wa_done (by kernel_rfl) ?_
      refine wq_block ?_
      refine wq_then ?_
      refine wc_region ?_
      refine wl_pure (po_inc rfl rfl (by omega)) rfl ?_
      refine mv rfl rfl ?_
      refine wl_nil ?_
      exact wq_rnd hk1 (stpN l1 t1) () (sub_cons rfl (sub_cons rfl (sub_cons rfl (sub_cons rfl (sub_cons rfl sub_nil))))) (some_cons pick0 (some_cons pick0 some_nil))
    have c1 : (decide (((k1 : Nat) : Int) < ((a_b.Cells.length : Nat) : Int))) = false := decide_eq_false (by omega)
    have en1 := forO_end l1 hk1
    refine wcr ?_
    refine wl_pure (po_lss rfl rfl) rfl ?_
    refine wnt ?_
    refine wc_seq ?_
    refine wc_cond_f rfl c1 ?_
    refine wc_exit ?_
    refine wq_then_exit ?_
    refine wq_then_exit ?_
    refine wq_block_exit ?_
    exact wj_meet _ () (Sum.inl.inj en1) (sub_cons rfl sub_nil) some_nil
  intro e1 _ hp
  obtain rfl : e1 = y1 := hp.symm
  refine wq_then ?_
  refine wcr ?_
  refine mv rfl rfl ?_
  refine asg rfl rfl ?_
  refine wnt ?_
  refine wc_ret ?_
  obtain rfl := Option.some.inj t0
  exact wq_ret1 rfl rfl fun w hw => ⟨rfl, hw.weak some_nil⟩

theorem c_impl_Block_copied (w : World) (a_b : GBlock) (v0a : Hd) (r0 : rdF w (dm w []) (sl v0a) a_b.Cells) {r : GBlock} (t0 : impl_Block_copied a_b = some r) : Calls Try.prog 59 #[.agg #[.int .i64 a_b.Size, (sl v0a)]] w fun e w' => ∃ x : Hd, e = .returned (.agg #[.int .i64 r.Size, (sl x)]) ∧ SH w [] [ownF (sl x) r.Cells] w' := by
  refine calls_of_wc (args := [_]) Try.func59 rfl Try.ntmps59 rfl ?_
  unfold impl_Block_copied at t0
  refine wcr ?_
  refine wl_eff (eo_box rfl rfl) rfl fun b1 => ?_
  refine wl_eff (eo_alloc (cs := [.int .i64 0, (sl (⟨none, 0, 0⟩ : Hd))]) za_26) rfl fun b2 => ?_
  refine wnt ?_
  refine wc_seq ?_
  refine wc_draw [box b2 [.int .i64 0, (sl (⟨none, 0, 0⟩ : Hd))], box b1 [.int .i64 a_b.Size, (sl v0a)]] 7 mixed ?_
  refine wa_pure 0 rfl (po_fld fo_26_0 rfl) (some_cons pick0 (some_cons pick0 some_nil)) rfl (by kernel_rfl) (fun _ _ _ h => h) ?_
  refine wa_pure (v := .int .i64 a_b.Size) 1 rfl (po_load_box tk_3 (pickS pick0) rfl rfl) (some_cons pick0 (some_cons pick0 some_nil)) rfl (by kernel_rfl) (fun _ _ _ h => h) ?_
  refine wa_pure 3 rfl (po_fld fo_26_1 rfl) (some_cons pick0 (some_cons pick0 some_nil)) rfl (by kernel_rfl) (fun _ _ _ h => h) ?_
  refine wa_pure (v := (sl v0a)) 4 rfl (po_load_box tk_24 (pickS pick0) rfl rfl) (some_cons pick0 (some_cons pick0 some_nil)) rfl (by kernel_rfl) (fun _ _ _ h => h) ?_
  refine wa_1 (i := 2) (by kernel_rfl) ?_
  refine ws_eff rfl (eo_buildSlice rfl sb_24_0) (fun _ => (sts_some (some_cons (pickS pick0) (some_cons (pickS pick0) some_nil)))) rfl fun b3 => ?_
  refine wa_1 (i := 5) (by kernel_rfl) ?_
  refine gdO t0 fun g1 t0 => ?_
  refine ws_eff rfl (eo_append (xs := ([] : List GCell)) (ys := a_b.Cells) ak_24 (pick_box_own pick0 (n := 0) (xs := ([] : List GCell)) rfl rfl (by unfold maxLen; omega)) rfl rfl (slin_rd fun _ g => Rg.on (rds_arg r0) g) g1) (fun _ => (sts_some (some_cons (pickS pick0) (some_cons (pickS pick0) some_nil)))) rfl fun x1 => ?_
  refine wa_pure 6 rfl (po_build rfl (bd_26_0_1 a_b.Size x1)) (some_cons (pickS pick0) (some_cons (pickS pick0) some_nil)) rfl (by kernel_rfl) (fun _ _ _ h => h) ?_
  refine wa_1 (i := 7) (by kernel_rfl) ?_
  refine ws_skipop rfl (so_box (cs' := [.int .i64 a_b.Size, (sl x1)]) tk_26 (pickS pick0) rfl rfl rfl rfl rfl rfl rfl) (sts_past (by kernel_rfl)) ?_
  refine wa_done (by kernel_rfl) ?_
  refine wq_then ?_
  refine wc_ret ?_
  obtain rfl := Option.some.inj t0
  exact wq_retc rfl tk_26 rfl pick0 rfl fun w hw => ⟨x1, rfl, hw.weak (some_cons (pickS pick0) some_nil)⟩

theorem c_impl_Block_isPlace (w : World) (a_b : GBlock) (v0a : Hd) (r0 : rdF w (dm w []) (sl v0a) a_b.Cells) (a_x : Int) (a_y : Int) {r : Bool} (t0 : impl_Block_isPlace a_b a_x a_y = some r) : Calls Try.prog 79 #[.agg #[.int .i64 a_b.Size, (sl v0a)], .int .i64 a_x, .int .i64 a_y] w fun e w' => e = .returned (.bool r) ∧ SH w [] [] w' := by
  refine calls_of_wc (args := [_, _, _]) Try.func79 rfl Try.ntmps79 rfl ?_
  unfold impl_Block_isPlace at t0
  refine wcr ?_
  refine wl_eff (eo_box rfl rfl) rfl fun b1 => ?_
  refine asg rfl rfl ?_
  refine wnt ?_
  refine wc_seq ?_
  refine bdO t0 fun y1 t1 t0 => ?_
  refine wj (J := Bool) (X := Unit) (fun z => y1 = z) (fun z _ => [(6, .bool z)]) (fun _ _ => []) ?_ ?_
  · skip
    refine wc_region ?_
    refine wl_pure (v := .agg #[.int .i64 a_b.Size, (sl v0a)]) (po_load_boxs tk_26 pick0 rfl rfl rfl) rfl ?_
    refine bdO t1 fun v1 hv1 t1 => ?_
    refine wl_call (co_c0 fa_39 rfl fun w hw => c_impl_BlockOk w a_b v0a (Rg.on (rds_arg r0) hw) hv1) rfl fun _ => ?_
    refine mv rfl rfl ?_
    refine wlO_ (t := 9) t1 rfl (fun h1 t1 => ?_) fun h1 t1 => ?_
    · skip
      refine wl_guard_on (j := 2) rfl rfl rfl (mv rfl rfl ?_)
      refine wl_guard_on (j := 2) rfl rfl rfl (wl_pure (po_fld fo_26_0 rfl) rfl ?_)
      refine wl_guard_on (j := 2) rfl rfl rfl (wl_pure (v := .int .i64 a_b.Size) (po_load_box tk_3 pick0 rfl rfl) rfl ?_)
      refine wl_guard_on (j := 2) rfl rfl rfl (wl_pure (po_sub rfl rfl) rfl ?_)
      refine bdO t1 fun v2 hv2 t1 => ?_
      refine wl_guard_on (j := 2) rfl rfl rfl (wl_call (co_c0 fa_43 rfl fun w hw => c_impl_within w a_x 0 (wr (a_b.Size - 1)) hv2) rfl (fun _ => ?_))
      refine wl_pure (po_pick_t rfl rfl) rfl ?_
      refine mv rfl rfl ?_
      refine wlO_ (t := 16) t1 rfl (fun h2 t1 => ?_) fun h2 t1 => ?_
      · skip
        refine wl_guard_on (j := 9) rfl rfl rfl (mv rfl rfl ?_)
        refine wl_guard_on (j := 9) rfl rfl rfl (wl_pure (po_fld fo_26_0 rfl) rfl ?_)
        refine wl_guard_on (j := 9) rfl rfl rfl (wl_pure (v := .int .i64 a_b.Size) (po_load_box tk_3 pick0 rfl rfl) rfl ?_)
        refine wl_guard_on (j := 9) rfl rfl rfl (wl_pure (po_sub rfl rfl) rfl ?_)
        refine bdO t1 fun v3 hv3 t1 => ?_
        refine wl_guard_on (j := 9) rfl rfl rfl (wl_call (co_c0 fa_43 rfl fun w hw => c_impl_within w a_y 0 (wr (a_b.Size - 1)) hv3) rfl (fun _ => ?_))
        refine wl_pure (po_pick_t rfl rfl) rfl ?_
        refine asg rfl rfl ?_
        refine wl_nil ?_
        exact wj_meet _ () (mtE t1) (sub_cons rfl sub_nil) some_nil
      refine wl_guard_off (j := 9) rfl rfl rfl rfl rfl ?_
      refine wl_guard_off (j := 9) rfl rfl rfl rfl rfl ?_
      refine wl_guard_off (j := 9) rfl rfl rfl rfl rfl ?_
      refine wl_guard_off (j := 9) rfl rfl rfl rfl rfl ?_
      refine wl_guard_off (j := 9) rfl rfl rfl rfl rfl ?_
      refine wl_pure (po_pick_f rfl rfl) rfl ?_
      refine asg rfl rfl ?_
      refine wl_nil ?_
      exact wj_meet _ () (mtE t1) (sub_cons rfl sub_nil) some_nil
    refine wl_guard_off (j := 2) rfl rfl rfl rfl rfl ?_
    refine wl_guard_off (j := 2) rfl rfl rfl rfl rfl ?_
    refine wl_guard_off (j := 2) rfl rfl rfl rfl rfl ?_
    refine wl_guard_off (j := 2) rfl rfl rfl rfl rfl ?_
    refine wl_guard_off (j := 2) rfl rfl rfl rfl rfl ?_
    refine wl_pure (po_pick_f rfl rfl) rfl ?_
    refine mv rfl rfl ?_
    refine wl_guard_off (j := 9) rfl rfl rfl rfl rfl ?_
    refine wl_guard_off (j := 9) rfl rfl rfl rfl rfl ?_
    refine wl_guard_off (j := 9) rfl rfl rfl rfl rfl ?_
    refine wl_guard_off (j := 9) rfl rfl rfl rfl rfl ?_
    refine wl_guard_off (j := 9) rfl rfl rfl rfl rfl ?_
    refine wl_pure (po_pick_f rfl rfl) rfl ?_
    refine asg rfl rfl ?_
    refine wl_nil ?_
    exact wj_meet _ () (mtE t1) (sub_cons rfl sub_nil) some_nil
  intro j1 _ hp
  obtain rfl : j1 = y1 := hp.symm
  refine wq_then ?_
  refine wc_ret ?_
  obtain rfl := Option.some.inj t0
  exact wq_ret1 rfl rfl fun w hw => ⟨rfl, hw.weak some_nil⟩

theorem c_impl_CellAt (w : World) (a_b : GBlock) (v0a : Hd) (r0 : rdF w (dm w []) (sl v0a) a_b.Cells) (a_x : Int) (a_y : Int) {r : GCell} (t0 : impl_CellAt a_b a_x a_y = some r) : Calls Try.prog 67 #[.agg #[.int .i64 a_b.Size, (sl v0a)], .int .i64 a_x, .int .i64 a_y] w fun e w' => e = .returned (.agg #[.int .i64 r.Split, .int .i64 r.A, .int .i64 r.B]) ∧ SH w [] [] w' := by
  refine calls_of_wc (args := [_, _, _]) Try.func67 rfl Try.ntmps67 rfl ?_
  unfold impl_CellAt at t0
  refine wcr ?_
  refine wl_eff (eo_box rfl rfl) rfl fun b1 => ?_
  refine wl_eff (eo_alloc (cs := [.int .i64 0, .int .i64 0, .int .i64 0]) za_33) rfl fun b2 => ?_
  refine wnt ?_
  refine wc_seq ?_
  refine wcr ?_
  refine wl_pure (v := .agg #[.int .i64 a_b.Size, (sl v0a)]) (po_load_boxs tk_26 (pickS pick0) rfl rfl rfl) rfl ?_
  refine mv rfl rfl ?_
  refine mv rfl rfl ?_
  refine bdO t0 fun v1 hv1 t0 => ?_
  refine wl_call (co_c0 fa_79 rfl fun w hw => c_impl_Block_isPlace w a_b v0a (Rg.on (rds_arg r0) hw) a_x a_y hv1) rfl fun _ => ?_
  refine wl_pure (po_not rfl) rfl ?_
  refine wnt ?_
  refine wcO t0 rfl (fun h1 t0 => ?_) fun h1 t0 => ?_
  · skip
    refine wcr ?_
    refine wl_pure (po_build rfl bd_33) rfl ?_
    refine wl_skipop (so_box (cs' := [.int .i64 0, .int .i64 0, .int .i64 0]) tk_33 pick0 rfl rfl rfl rfl rfl rfl rfl) ?_
    refine wnt ?_
    refine wc_ret ?_
    refine wq_then_ret ?_
    obtain rfl := Option.some.inj t0
    exact wq_retc rfl tk_33 rfl pick0 rfl fun w hw => ⟨rfl, hw.weak some_nil⟩
  refine wc_skip ?_
  refine wq_then ?_
  refine wcr ?_
  refine wl_pure (po_fld fo_26_1 rfl) rfl ?_
  refine wl_pure (v := (sl v0a)) (po_load_box tk_24 (pickS pick0) rfl rfl) rfl ?_
  refine mv rfl rfl ?_
  refine wl_pure (po_fld fo_26_0 rfl) rfl ?_
  refine wl_pure (v := .int .i64 a_b.Size) (po_load_box tk_3 (pickS pick0) rfl rfl) rfl ?_
  refine wl_pure (po_mul rfl rfl) rfl ?_
  refine mv rfl rfl ?_
  refine wl_pure (po_add rfl rfl) rfl ?_
  refine gdO t0 fun g1 t0 => ?_
  refine wl_pure (po_ixr (rds_arg r0) el_24 rfl rfl g1.1 g1.2) rfl ?_
  refine wl_pure (v := .agg #[.int .i64 ((gx a_b.Cells (((wr ((wr (a_y * a_b.Size)) + a_x))).toNat)).Split), .int .i64 ((gx a_b.Cells (((wr ((wr (a_y * a_b.Size)) + a_x))).toNat)).A), .int .i64 ((gx a_b.Cells (((wr ((wr (a_y * a_b.Size)) + a_x))).toNat)).B)]) (po_ldfs (rds_arg r0) tk_33 rfl (ix_lt g1) rfl rfl rfl) rfl ?_
  refine wl_skipop (so_box (cs' := [.int .i64 ((gx a_b.Cells (((wr ((wr (a_y * a_b.Size)) + a_x))).toNat)).Split), .int .i64 ((gx a_b.Cells (((wr ((wr (a_y * a_b.Size)) + a_x))).toNat)).A), .int .i64 ((gx a_b.Cells (((wr ((wr (a_y * a_b.Size)) + a_x))).toNat)).B)]) tk_33 pick0 rfl rfl rfl rfl rfl rfl rfl) ?_
  refine wnt ?_
  refine wc_ret ?_
  obtain rfl := Option.some.inj t0
  exact wq_retc rfl tk_33 rfl pick0 rfl fun w hw => ⟨rfl, hw.weak some_nil⟩

theorem c_impl_MirrorCell (w : World) (a_c : GCell) {r : GCell} (t0 : impl_MirrorCell a_c = some r) : Calls Try.prog 74 #[.agg #[.int .i64 a_c.Split, .int .i64 a_c.A, .int .i64 a_c.B]] w fun e w' => e = .returned (.agg #[.int .i64 r.Split, .int .i64 r.A, .int .i64 r.B]) ∧ SH w [] [] w' := by
  refine calls_of_wc (args := [_]) Try.func74 rfl Try.ntmps74 rfl ?_
  unfold impl_MirrorCell at t0
  refine wcr ?_
  refine wl_eff (eo_box rfl rfl) rfl fun b1 => ?_
  refine wl_eff (eo_alloc (cs := [.int .i64 0, .int .i64 0, .int .i64 0]) za_33) rfl fun b2 => ?_
  refine wnt ?_
  refine wc_seq ?_
  refine wc_block ?_
  refine wcr ?_
  refine wl_pure (v := .agg #[.int .i64 a_c.Split, .int .i64 a_c.A, .int .i64 a_c.B]) (po_load_boxs tk_33 (pickS pick0) rfl rfl rfl) rfl ?_
  refine bdO t0 fun v1 hv1 t0 => ?_
  refine wl_call (co_c0 fa_25 rfl fun w hw => c_impl_CellOk w a_c hv1) rfl fun _ => ?_
  refine wl_pure (po_not rfl) rfl ?_
  refine asg rfl rfl ?_
  refine wnt ?_
  refine wcO t0 rfl (fun h1 t0 => ?_) fun h1 t0 => ?_
  · skip
    refine wcr ?_
    refine wl_pure (po_build rfl bd_33) rfl ?_
    refine wl_skipop (so_box (cs' := [.int .i64 0, .int .i64 0, .int .i64 0]) tk_33 pick0 rfl rfl rfl rfl rfl rfl rfl) ?_
    refine wnt ?_
    refine wc_ret ?_
    refine wq_block_ret ?_
    refine wq_then_ret ?_
    obtain rfl := Option.some.inj t0
    exact wq_retc rfl tk_33 rfl pick0 rfl fun w hw => ⟨rfl, hw.weak some_nil⟩
  refine wcr ?_
  refine wl_pure (po_fld fo_33_0 rfl) rfl ?_
  refine wl_pure (v := .int .i64 a_c.Split) (po_load_box tk_3 (pickS pick0) rfl rfl) rfl ?_
  refine wl_pure (po_eql rfl rfl) rfl ?_
  refine asg rfl rfl ?_
  refine wnt ?_
  refine wcO t0 rfl (fun h2 t0 => ?_) fun h2 t0 => ?_
  · skip
    refine wcr ?_
    refine wl_pure (v := .agg #[.int .i64 a_c.Split, .int .i64 a_c.A, .int .i64 a_c.B]) (po_load_boxs tk_33 (pickS pick0) rfl rfl rfl) rfl ?_
    refine wl_skipop (so_box (cs' := [.int .i64 a_c.Split, .int .i64 a_c.A, .int .i64 a_c.B]) tk_33 pick0 rfl rfl rfl rfl rfl rfl rfl) ?_
    refine wnt ?_
    refine wc_ret ?_
    refine wq_block_ret ?_
    refine wq_then_ret ?_
    obtain rfl := Option.some.inj t0
    exact wq_retc rfl tk_33 rfl pick0 rfl fun w hw => ⟨rfl, hw.weak some_nil⟩
  refine wc_skip ?_
  refine wq_block ?_
  refine wq_then ?_
  refine wcr ?_
  refine wl_pure (po_fld fo_33_0 rfl) rfl ?_
  refine wl_pure (v := .int .i64 a_c.Split) (po_load_box tk_3 (pickS pick0) rfl rfl) rfl ?_
  refine wl_pure (po_sub rfl rfl) rfl ?_
  refine wl_pure (po_fld fo_33_2 rfl) rfl ?_
  refine wl_pure (v := .int .i64 a_c.B) (po_load_box tk_3 (pickS pick0) rfl rfl) rfl ?_
  refine wl_pure (po_fld fo_33_1 rfl) rfl ?_
  refine wl_pure (v := .int .i64 a_c.A) (po_load_box tk_3 (pickS pick0) rfl rfl) rfl ?_
  refine wl_pure (po_build rfl (bd_33_0_1_2 (wr (3 - a_c.Split)) a_c.B a_c.A)) rfl ?_
  refine wl_skipop (so_box (cs' := [.int .i64 (wr (3 - a_c.Split)), .int .i64 a_c.B, .int .i64 a_c.A]) tk_33 pick0 rfl rfl rfl rfl rfl rfl rfl) ?_
  refine wnt ?_
  refine wc_ret ?_
  obtain rfl := Option.some.inj t0
  exact wq_retc rfl tk_33 rfl pick0 rfl fun w hw => ⟨rfl, hw.weak some_nil⟩

theorem c_impl_MirrorBlock_c1 (w : World) (a_x : Int) (a_y : Int) (c_p2 : GBlock) (v0a : Hd) (r0 : rdF w (dm w []) (sl v0a) c_p2.Cells) (b2c : Nat) (q2 : Bx w b2c [.int .i64 c_p2.Size, (sl v0a)]) {r : GCell} (t0 : impl_MirrorBlock_c1 a_x a_y c_p2 = some r) : Calls Try.prog 73 #[.int .i64 a_x, .int .i64 a_y, ptr b2c 0] w fun e w' => e = .returned (.agg #[.int .i64 r.Split, .int .i64 r.A, .int .i64 r.B]) ∧ SH w [] [] w' := by
  refine calls_of_wc (args := [_, _, _]) Try.func73 rfl Try.ntmps73 rfl ?_
  unfold impl_MirrorBlock_c1 at t0
  refine wcr ?_
  refine wl_eff (eo_alloc (cs := [.int .i64 0, .int .i64 0, .int .i64 0]) za_33) rfl fun b1 => ?_
  refine wnt ?_
  refine wcr ?_
  refine wl_pure (v := .agg #[.int .i64 c_p2.Size, (sl v0a)]) (po_load_aboxs q2 tk_26 rfl rfl rfl) rfl ?_
  refine wl_pure (po_fld fo_26_0 rfl) rfl ?_
  refine wl_pure (v := .int .i64 c_p2.Size) (po_load_abox q2 tk_3 rfl rfl) rfl ?_
  refine wl_pure (po_sub rfl rfl) rfl ?_
  refine mv rfl rfl ?_
  refine wl_pure (po_sub rfl rfl) rfl ?_
  refine mv rfl rfl ?_
  refine bdO t0 fun v1 hv1 t0 => ?_
  refine wl_call (co_c0 fa_67 rfl fun w hw => c_impl_CellAt w c_p2 v0a (Rg.on (rds_arg r0) hw) (wr ((wr (c_p2.Size - 1)) - a_x)) a_y hv1) rfl fun _ => ?_
  refine bdO t0 fun v2 hv2 t0 => ?_
  refine wl_call (co_c0 fa_74 rfl fun w hw => c_impl_MirrorCell w v1 hv2) rfl fun _ => ?_
  refine wl_skipop (so_box (cs' := [.int .i64 v2.Split, .int .i64 v2.A, .int .i64 v2.B]) tk_33 pick0 rfl rfl rfl rfl rfl rfl rfl) ?_
  refine wnt ?_
  refine wc_ret ?_
  obtain rfl := Option.some.inj t0
  exact wq_retc rfl tk_33 rfl pick0 rfl fun w hw => ⟨rfl, hw.weak some_nil⟩

theorem c_impl_made (w : World) (a_size : Int) (a_one : Int → Int → Option GCell) (f1 : Nat) (us1 : List Value) (fn1 : FnAt Try.prog f1) (hg1 : ∀ (w' : World) (z0 : Int) (z1 : Int) (_ : Keep [] w w') (z : GCell) (_ : a_one z0 z1 = some z), Calls Try.prog f1 (([.int .i64 z0, .int .i64 z1] : List Value) ++ us1).toArray w' fun e w'' => e = .returned (.agg #[.int .i64 z.Split, .int .i64 z.A, .int .i64 z.B]) ∧ SH w' [] [] w'') {r : GBlock} (t0 : impl_made a_size a_one = some r) : Calls Try.prog 64 #[.int .i64 a_size, .func (.func f1) #[] us1.toArray] w fun e w' => ∃ x : Hd, e = .returned (.agg #[.int .i64 r.Size, (sl x)]) ∧ SH w [] [ownF (sl x) r.Cells] w' := by
  refine calls_of_wc (args := [_, _]) Try.func64 rfl Try.ntmps64 rfl ?_
  unfold impl_made at t0
  refine wcr ?_
  refine wl_eff (eo_alloc (cs := [.int .i64 0, (sl (⟨none, 0, 0⟩ : Hd))]) za_26) rfl fun b1 => ?_
  refine wnt ?_
  refine wcr ?_
  refine mv rfl rfl ?_
  refine wl_pure (po_build rfl (bd_26_0 a_size)) rfl ?_
  refine wl_eff (eo_alloc (cs := [.int .i64 0, (sl (⟨none, 0, 0⟩ : Hd))]) za_26) rfl fun b2 => ?_
  refine wl_skipop (so_box (cs' := [.int .i64 a_size, (sl (⟨none, 0, 0⟩ : Hd))]) tk_26 pick0 rfl rfl rfl rfl rfl rfl rfl) ?_
  refine wnt ?_
  refine wc_seq ?_
  refine wcr ?_
  refine mv rfl rfl ?_
  refine mv rfl rfl ?_
  refine wnt ?_
  refine gdO t0 fun g1 t0 => ?_
  refine lpO_inv t0 fun y1 l1 t0 => ?_
  refine wj (J := List GCell) (X := Hd) (fun z => y1 = z) (fun _ _ => [(4, ptr b1 0), (5, ptr b2 0)]) (fun z x => [box b2 [.int .i64 a_size, (sl x)], box b1 [.int .i64 0, (sl (⟨none, 0, 0⟩ : Hd))], ownF (sl x) z]) ?_ ?_
  · skip
    refine wc_block ?_
    refine wc_forO (X := Hd) l1 (fun k1 s1 x1l => [(0, .int .i64 a_size), (1, .func (.func f1) #[] us1.toArray), (4, ptr b1 0), (5, ptr b2 0), (10, .int .i64 a_size), (11, .int .i64 ((k1 : Nat) : Int))]) (fun k1 s1 x1l => [box b2 [.int .i64 a_size, (sl x1l)], box b1 [.int .i64 0, (sl (⟨none, 0, 0⟩ : Hd))], ownF (sl x1l) s1]) (⟨none, 0, 0⟩ : Hd) (sub_cons rfl (sub_cons rfl (sub_cons rfl (sub_cons rfl (sub_cons rfl (sub_cons rfl sub_nil)))))) (some_cons pick0 (some_cons pick0 (some_cons pick_nil some_nil))) fun k1 s1 x1l hN1 l1 => ?_
    by_cases hk1 : k1 < (a_size).toNat
    · skip
      refine forO_step l1 hk1 fun _ t1 l1 => ?_
      unfold impl_made_L1 at t1
      have c1 : (decide (((k1 : Nat) : Int) < a_size)) = true := decide_eq_true (by omega)
      refine wcr ?_
      refine wl_pure (po_lss rfl rfl) rfl ?_
      refine wnt ?_
      refine wc_seq ?_
      refine wc_cond_t rfl c1 ?_
      refine wc_skip ?_
      refine wq_then ?_
      refine wc_seq ?_
      refine wc_block ?_
      refine wcr ?_
      refine mv rfl rfl ?_
      refine asg rfl rfl ?_
      refine wnt ?_
      refine wcr ?_
      refine mv rfl rfl ?_
      refine mv rfl rfl ?_
      refine wnt ?_
      refine lpO_inv t1 fun y2 l2 t1 => ?_
      refine wj (J := List GCell) (X := Hd) (fun z => y2 = z) (fun _ _ => [(0, .int .i64 a_size), (1, .func (.func f1) #[] us1.toArray), (4, ptr b1 0), (5, ptr b2 0), (10, .int .i64 a_size), (11, .int .i64 ((k1 : Nat) : Int))]) (fun z x => [box b2 [.int .i64 a_size, (sl x)], box b1 [.int .i64 0, (sl (⟨none, 0, 0⟩ : Hd))], ownF (sl x) z]) ?_ ?_
      · skip
        refine wc_block ?_
        refine wc_forO (X := Hd) l2 (fun k2 s2 x2l => [(0, .int .i64 a_size), (1, .func (.func f1) #[] us1.toArray), (4, ptr b1 0), (5, ptr b2 0), (6, .int .i64 ((k1 : Nat) : Int)), (10, .int .i64 a_size), (11, .int .i64 ((k1 : Nat) : Int)), (14, .int .i64 a_size), (15, .int .i64 ((k2 : Nat) : Int))]) (fun k2 s2 x2l => [box b2 [.int .i64 a_size, (sl x2l)], box b1 [.int .i64 0, (sl (⟨none, 0, 0⟩ : Hd))], ownF (sl x2l) s2]) x1l (sub_cons rfl (sub_cons rfl (sub_cons rfl (sub_cons rfl (sub_cons rfl (sub_cons rfl (sub_cons rfl (sub_cons rfl (sub_cons rfl sub_nil))))))))) (some_cons pick0 (some_cons pick0 (some_cons pick0 some_nil))) fun k2 s2 x2l hN2 l2 => ?_
        by_cases hk2 : k2 < (a_size).toNat
        · skip
          refine forO_step l2 hk2 fun _ t2 l2 => ?_
          unfold impl_made_L2 at t2
          have c2 : (decide (((k2 : Nat) : Int) < a_size)) = true := decide_eq_true (by omega)
          refine wcr ?_
          refine wl_pure (po_lss rfl rfl) rfl ?_
          refine wnt ?_
          refine wc_seq ?_
          refine wc_cond_t rfl c2 ?_
          refine wc_skip ?_
          refine wq_then ?_
          refine wc_seq ?_
          refine wc_block ?_
          refine wcr ?_
          refine mv rfl rfl ?_
          refine asg rfl rfl ?_
          refine wnt ?_
          refine wc_draw [box b2 [.int .i64 a_size, (sl x2l)], box b1 [.int .i64 0, (sl (⟨none, 0, 0⟩ : Hd))]] 9 mixed ?_
          refine wa_pure 0 rfl (po_fld fo_26_1 rfl) (some_cons pick0 (some_cons pick0 some_nil)) rfl (by kernel_rfl) (fun _ _ _ h => h) ?_
          refine wa_pure (v := (sl x2l)) 1 rfl (po_load_box tk_24 pick0 rfl rfl) (some_cons pick0 (some_cons pick0 some_nil)) rfl (by kernel_rfl) (fun _ _ _ h => h) ?_
          refine wa_pure 2 rfl (po_move rfl) (some_cons pick0 (some_cons pick0 some_nil)) rfl (by kernel_rfl) (fun _ _ _ h => h) ?_
          refine wa_pure 3 rfl (po_move rfl) (some_cons pick0 (some_cons pick0 some_nil)) rfl (by kernel_rfl) (fun _ _ _ h => h) ?_
          refine wa_pure 4 rfl (po_move rfl) (some_cons pick0 (some_cons pick0 some_nil)) rfl (by kernel_rfl) (fun _ _ _ h => h) ?_
          refine wa_1 (i := 5) (by kernel_rfl) ?_
          refine bdO t2 fun v1 hv1 t2 => ?_
          refine ws_call rfl (co_d fn1 rfl rfl fun w hw => hg1 w ((k2 : Nat) : Int) ((k1 : Nat) : Int) hw.keep _ hv1) (fun _ => (sts_some (some_cons pick0 (some_cons pick0 some_nil)))) rfl fun _ => ?_
          refine wa_1 (i := 6) (by kernel_rfl) ?_
          refine ws_eff rfl (eo_buildSlice rfl (sb_24_1 v1.Split v1.A v1.B)) (fun _ => (sts_some (some_cons (pickS pick0) (some_cons (pickS pick0) some_nil)))) rfl fun b3 => ?_
          refine wa_1 (i := 7) (by kernel_rfl) ?_
          refine gdO t2 fun g2 t2 => ?_
          refine ws_eff rfl (eo_append (xs := s2) (ys := ([v1] : List GCell)) ak_24 (pickS (pickS (pickS pick0))) rfl rfl (slin_rd fun _ g => Rg.on (rds_own (pick_box_own pick0 (n := 1) (xs := ([v1] : List GCell)) rfl rfl (by unfold maxLen; omega))) g) g2) (fun _ => (sts_some (some_cons (pickS (pickS pick0)) (some_cons (pickS (pickS pick0)) some_nil)))) rfl fun x3 => ?_
          refine wa_pure 8 rfl (po_fld fo_26_1 rfl) (some_cons (pickS (pickS pick0)) (some_cons (pickS (pickS pick0)) some_nil)) rfl (by kernel_rfl) (fun _ _ _ h => h) ?_
          refine wa_1 (i := 9) (by kernel_rfl) ?_
          refine ws_skipop rfl (so_box (cs' := [.int .i64 a_size, (sl x3)]) tk_24 (pickS (pickS pick0)) rfl rfl rfl rfl rfl rfl rfl) (sts_past (by kernel_rfl)) ?_
          refine wa_done (by kernel_rfl) ?_
          refine wq_block ?_
          refine wq_then ?_
          refine wc_region ?_
          refine wl_pure (po_inc rfl rfl (by omega)) rfl ?_
          refine mv rfl rfl ?_
          refine wl_nil ?_
          exact wq_rnd hk2 (stpN l2 t2) x3 (sub_cons rfl (sub_cons rfl (sub_cons rfl (sub_cons rfl (sub_cons rfl (sub_cons rfl (sub_cons rfl (sub_cons rfl (sub_cons rfl sub_nil))))))))) (some_cons pick0 (some_cons (pickS (pickS pick0)) (some_cons pick0 some_nil)))
        have c2 : (decide (((k2 : Nat) : Int) < a_size)) = false := decide_eq_false (by omega)
        have en1 := forO_end l2 hk2
        refine wcr ?_
        refine wl_pure (po_lss rfl rfl) rfl ?_
        refine wnt ?_
        refine wc_seq ?_
        refine wc_cond_f rfl c2 ?_
        refine wc_exit ?_
        refine wq_then_exit ?_
        refine wq_then_exit ?_
        refine wq_block_exit ?_
        exact wj_meet _ x2l (Sum.inl.inj en1) (sub_cons rfl (sub_cons rfl (sub_cons rfl (sub_cons rfl (sub_cons rfl (sub_cons rfl sub_nil)))))) (some_cons pick0 (some_cons pick0 (some_cons pick0 some_nil)))
      intro e2 x2 hp
      obtain rfl : e2 = y2 := hp.symm
      refine wq_block ?_
      refine wq_then ?_
      refine wc_region ?_
      refine wl_pure (po_inc rfl rfl (by omega)) rfl ?_
      refine mv rfl rfl ?_
      refine wl_nil ?_
      exact wq_rnd hk1 (stpN l1 t1) x2 (sub_cons rfl (sub_cons rfl (sub_cons rfl (sub_cons rfl (sub_cons rfl (sub_cons rfl sub_nil)))))) (some_cons pick0 (some_cons pick0 (some_cons pick0 some_nil)))
    have c1 : (decide (((k1 : Nat) : Int) < a_size)) = false := decide_eq_false (by omega)
    have en2 := forO_end l1 hk1
    refine wcr ?_
    refine wl_pure (po_lss rfl rfl) rfl ?_
    refine wnt ?_
    refine wc_seq ?_
    refine wc_cond_f rfl c1 ?_
    refine wc_exit ?_
    refine wq_then_exit ?_
    refine wq_then_exit ?_
    refine wq_block_exit ?_
    exact wj_meet _ x1l (Sum.inl.inj en2) (sub_cons rfl (sub_cons rfl sub_nil)) (some_cons pick0 (some_cons pick0 (some_cons pick0 some_nil)))
  intro e1 x1 hp
  obtain rfl : e1 = y1 := hp.symm
  refine wq_then ?_
  refine wcr ?_
  refine wl_pure (v := .agg #[.int .i64 a_size, (sl x1)]) (po_load_boxs tk_26 pick0 rfl rfl rfl) rfl ?_
  refine wl_skipop (so_box (cs' := [.int .i64 a_size, (sl x1)]) tk_26 (pickS pick0) rfl rfl rfl rfl rfl rfl rfl) ?_
  refine wnt ?_
  refine wc_ret ?_
  obtain rfl := Option.some.inj t0
  exact wq_retc rfl tk_26 rfl pick0 rfl fun w hw => ⟨x1, rfl, hw.weak (some_cons (pickS (pickS pick0)) some_nil)⟩

theorem c_impl_MirrorBlock (w : World) (a_b : GBlock) (v0a : Hd) (r0 : rdF w (dm w []) (sl v0a) a_b.Cells) {r : GBlock} (t0 : impl_MirrorBlock a_b = some r) : Calls Try.prog 60 #[.agg #[.int .i64 a_b.Size, (sl v0a)]] w fun e w' => ∃ x : Hd, e = .returned (.agg #[.int .i64 r.Size, (sl x)]) ∧ SH w [] [ownF (sl x) r.Cells] w' := by
  refine calls_of_wc (args := [_]) Try.func60 rfl Try.ntmps60 rfl ?_
  unfold impl_MirrorBlock at t0
  refine wcr ?_
  refine wl_eff (eo_box rfl rfl) rfl fun b1 => ?_
  refine wl_eff (eo_alloc (cs := [.int .i64 0, (sl (⟨none, 0, 0⟩ : Hd))]) za_26) rfl fun b2 => ?_
  refine wnt ?_
  refine wc_seq ?_
  refine wcr ?_
  refine wl_pure (v := .agg #[.int .i64 a_b.Size, (sl v0a)]) (po_load_boxs tk_26 (pickS pick0) rfl rfl rfl) rfl ?_
  refine bdO t0 fun v1 hv1 t0 => ?_
  refine wl_call (co_c0 fa_39 rfl fun w hw => c_impl_BlockOk w a_b v0a (Rg.on (rds_arg r0) hw) hv1) rfl fun _ => ?_
  refine wl_pure (po_not rfl) rfl ?_
  refine wnt ?_
  refine wcO t0 rfl (fun h1 t0 => ?_) fun h1 t0 => ?_
  · skip
    refine wcr ?_
    refine wl_pure (po_build rfl bd_26) rfl ?_
    refine wl_skipop (so_box (cs' := [.int .i64 0, (sl (⟨none, 0, 0⟩ : Hd))]) tk_26 pick0 rfl rfl rfl rfl rfl rfl rfl) ?_
    refine wnt ?_
    refine wc_ret ?_
    refine wq_then_ret ?_
    obtain rfl := Option.some.inj t0
    exact wq_retc rfl tk_26 rfl pick0 rfl fun w hw => ⟨(⟨none, 0, 0⟩ : Hd), rfl, hw.weak (some_cons pick_nil some_nil)⟩
  refine wc_skip ?_
  refine wq_then ?_
  refine wcr ?_
  refine wl_pure (po_fld fo_26_0 rfl) rfl ?_
  refine wl_pure (v := .int .i64 a_b.Size) (po_load_box tk_3 (pickS pick0) rfl rfl) rfl ?_
  refine wl_pure (po_makeFunc rfl) rfl ?_
  refine bdO t0 fun v2 hv2 t0 => ?_
  refine wl_call (co_c1 fa_64 rfl fun w hw => c_impl_made w a_b.Size (fun z0 z1 => impl_MirrorBlock_c1 z0 z1 a_b) 73 [ptr b1 0] fa_73 (fun w2 z0 z1  hk _ hz => c_impl_MirrorBlock_c1 w2 z0 z1 a_b v0a (RdL.later (Rg.on (rds_arg r0) hw) hk) b1 (Bx.keep (hw.at_box (pickS pick0)) hk) hz) hv2) rfl fun x1 => ?_
  refine wl_skipop (so_box (cs' := [.int .i64 v2.Size, (sl x1)]) tk_26 (pickS pick0) rfl rfl rfl rfl rfl rfl rfl) ?_
  refine wnt ?_
  refine wc_ret ?_
  obtain rfl := Option.some.inj t0
  exact wq_retc rfl tk_26 rfl pick0 rfl fun w hw => ⟨x1, rfl, hw.weak (some_cons (pickS pick0) some_nil)⟩

theorem c_impl_TurnCell (w : World) (a_c : GCell) {r : GCell} (t0 : impl_TurnCell a_c = some r) : Calls Try.prog 76 #[.agg #[.int .i64 a_c.Split, .int .i64 a_c.A, .int .i64 a_c.B]] w fun e w' => e = .returned (.agg #[.int .i64 r.Split, .int .i64 r.A, .int .i64 r.B]) ∧ SH w [] [] w' := by
  refine calls_of_wc (args := [_]) Try.func76 rfl Try.ntmps76 rfl ?_
  unfold impl_TurnCell at t0
  refine wcr ?_
  refine wl_eff (eo_box rfl rfl) rfl fun b1 => ?_
  refine wl_eff (eo_alloc (cs := [.int .i64 0, .int .i64 0, .int .i64 0]) za_33) rfl fun b2 => ?_
  refine wnt ?_
  refine wc_seq ?_
  refine wc_block ?_
  refine wcr ?_
  refine wl_pure (v := .agg #[.int .i64 a_c.Split, .int .i64 a_c.A, .int .i64 a_c.B]) (po_load_boxs tk_33 (pickS pick0) rfl rfl rfl) rfl ?_
  refine bdO t0 fun v1 hv1 t0 => ?_
  refine wl_call (co_c0 fa_25 rfl fun w hw => c_impl_CellOk w a_c hv1) rfl fun _ => ?_
  refine wl_pure (po_not rfl) rfl ?_
  refine asg rfl rfl ?_
  refine wnt ?_
  refine wcO t0 rfl (fun h1 t0 => ?_) fun h1 t0 => ?_
  · skip
    refine wcr ?_
    refine wl_pure (po_build rfl bd_33) rfl ?_
    refine wl_skipop (so_box (cs' := [.int .i64 0, .int .i64 0, .int .i64 0]) tk_33 pick0 rfl rfl rfl rfl rfl rfl rfl) ?_
    refine wnt ?_
    refine wc_ret ?_
    refine wq_block_ret ?_
    refine wq_then_ret ?_
    obtain rfl := Option.some.inj t0
    exact wq_retc rfl tk_33 rfl pick0 rfl fun w hw => ⟨rfl, hw.weak some_nil⟩
  refine wcr ?_
  refine wl_pure (po_fld fo_33_0 rfl) rfl ?_
  refine wl_pure (v := .int .i64 a_c.Split) (po_load_box tk_3 (pickS pick0) rfl rfl) rfl ?_
  refine wl_pure (po_eql rfl rfl) rfl ?_
  refine asg rfl rfl ?_
  refine wnt ?_
  refine wcO t0 rfl (fun h2 t0 => ?_) fun h2 t0 => ?_
  · skip
    refine wcr ?_
    refine wl_pure (po_fld fo_33_2 rfl) rfl ?_
    refine wl_pure (v := .int .i64 a_c.B) (po_load_box tk_3 (pickS pick0) rfl rfl) rfl ?_
    refine wl_pure (po_fld fo_33_1 rfl) rfl ?_
    refine wl_pure (v := .int .i64 a_c.A) (po_load_box tk_3 (pickS pick0) rfl rfl) rfl ?_
    refine wl_pure (po_build rfl (bd_33_0_1_2 2 a_c.B a_c.A)) rfl ?_
    refine wl_skipop (so_box (cs' := [.int .i64 2, .int .i64 a_c.B, .int .i64 a_c.A]) tk_33 pick0 rfl rfl rfl rfl rfl rfl rfl) ?_
    refine wnt ?_
    refine wc_ret ?_
    refine wq_block_ret ?_
    refine wq_then_ret ?_
    obtain rfl := Option.some.inj t0
    exact wq_retc rfl tk_33 rfl pick0 rfl fun w hw => ⟨rfl, hw.weak some_nil⟩
  refine wcr ?_
  refine wl_pure (po_fld fo_33_0 rfl) rfl ?_
  refine wl_pure (v := .int .i64 a_c.Split) (po_load_box tk_3 (pickS pick0) rfl rfl) rfl ?_
  refine wl_pure (po_eql rfl rfl) rfl ?_
  refine asg rfl rfl ?_
  refine wnt ?_
  refine wcO t0 rfl (fun h3 t0 => ?_) fun h3 t0 => ?_
  · skip
    refine wcr ?_
    refine wl_pure (po_fld fo_33_1 rfl) rfl ?_
    refine wl_pure (v := .int .i64 a_c.A) (po_load_box tk_3 (pickS pick0) rfl rfl) rfl ?_
    refine wl_pure (po_fld fo_33_2 rfl) rfl ?_
    refine wl_pure (v := .int .i64 a_c.B) (po_load_box tk_3 (pickS pick0) rfl rfl) rfl ?_
    refine wl_pure (po_build rfl (bd_33_0_1_2 1 a_c.A a_c.B)) rfl ?_
    refine wl_skipop (so_box (cs' := [.int .i64 1, .int .i64 a_c.A, .int .i64 a_c.B]) tk_33 pick0 rfl rfl rfl rfl rfl rfl rfl) ?_
    refine wnt ?_
    refine wc_ret ?_
    refine wq_block_ret ?_
    refine wq_then_ret ?_
    obtain rfl := Option.some.inj t0
    exact wq_retc rfl tk_33 rfl pick0 rfl fun w hw => ⟨rfl, hw.weak some_nil⟩
  refine wc_skip ?_
  refine wq_block ?_
  refine wq_then ?_
  refine wcr ?_
  refine wl_pure (v := .agg #[.int .i64 a_c.Split, .int .i64 a_c.A, .int .i64 a_c.B]) (po_load_boxs tk_33 (pickS pick0) rfl rfl rfl) rfl ?_
  refine wl_skipop (so_box (cs' := [.int .i64 a_c.Split, .int .i64 a_c.A, .int .i64 a_c.B]) tk_33 pick0 rfl rfl rfl rfl rfl rfl rfl) ?_
  refine wnt ?_
  refine wc_ret ?_
  obtain rfl := Option.some.inj t0
  exact wq_retc rfl tk_33 rfl pick0 rfl fun w hw => ⟨rfl, hw.weak some_nil⟩

theorem c_impl_TurnBlock_c1 (w : World) (a_x : Int) (a_y : Int) (c_p2 : GBlock) (v0a : Hd) (r0 : rdF w (dm w []) (sl v0a) c_p2.Cells) (b2c : Nat) (q2 : Bx w b2c [.int .i64 c_p2.Size, (sl v0a)]) {r : GCell} (t0 : impl_TurnBlock_c1 a_x a_y c_p2 = some r) : Calls Try.prog 75 #[.int .i64 a_x, .int .i64 a_y, ptr b2c 0] w fun e w' => e = .returned (.agg #[.int .i64 r.Split, .int .i64 r.A, .int .i64 r.B]) ∧ SH w [] [] w' := by
  refine calls_of_wc (args := [_, _, _]) Try.func75 rfl Try.ntmps75 rfl ?_
  unfold impl_TurnBlock_c1 at t0
  refine wcr ?_
  refine wl_eff (eo_alloc (cs := [.int .i64 0, .int .i64 0, .int .i64 0]) za_33) rfl fun b1 => ?_
  refine wnt ?_
  refine wcr ?_
  refine wl_pure (v := .agg #[.int .i64 c_p2.Size, (sl v0a)]) (po_load_aboxs q2 tk_26 rfl rfl rfl) rfl ?_
  refine mv rfl rfl ?_
  refine wl_pure (po_fld fo_26_0 rfl) rfl ?_
  refine wl_pure (v := .int .i64 c_p2.Size) (po_load_abox q2 tk_3 rfl rfl) rfl ?_
  refine wl_pure (po_sub rfl rfl) rfl ?_
  refine mv rfl rfl ?_
  refine wl_pure (po_sub rfl rfl) rfl ?_
  refine bdO t0 fun v1 hv1 t0 => ?_
  refine wl_call (co_c0 fa_67 rfl fun w hw => c_impl_CellAt w c_p2 v0a (Rg.on (rds_arg r0) hw) a_y (wr ((wr (c_p2.Size - 1)) - a_x)) hv1) rfl fun _ => ?_
  refine bdO t0 fun v2 hv2 t0 => ?_
  refine wl_call (co_c0 fa_76 rfl fun w hw => c_impl_TurnCell w v1 hv2) rfl fun _ => ?_
  refine wl_skipop (so_box (cs' := [.int .i64 v2.Split, .int .i64 v2.A, .int .i64 v2.B]) tk_33 pick0 rfl rfl rfl rfl rfl rfl rfl) ?_
  refine wnt ?_
  refine wc_ret ?_
  obtain rfl := Option.some.inj t0
  exact wq_retc rfl tk_33 rfl pick0 rfl fun w hw => ⟨rfl, hw.weak some_nil⟩

theorem c_impl_TurnBlock (w : World) (a_b : GBlock) (v0a : Hd) (r0 : rdF w (dm w []) (sl v0a) a_b.Cells) {r : GBlock} (t0 : impl_TurnBlock a_b = some r) : Calls Try.prog 61 #[.agg #[.int .i64 a_b.Size, (sl v0a)]] w fun e w' => ∃ x : Hd, e = .returned (.agg #[.int .i64 r.Size, (sl x)]) ∧ SH w [] [ownF (sl x) r.Cells] w' := by
  refine calls_of_wc (args := [_]) Try.func61 rfl Try.ntmps61 rfl ?_
  unfold impl_TurnBlock at t0
  refine wcr ?_
  refine wl_eff (eo_box rfl rfl) rfl fun b1 => ?_
  refine wl_eff (eo_alloc (cs := [.int .i64 0, (sl (⟨none, 0, 0⟩ : Hd))]) za_26) rfl fun b2 => ?_
  refine wnt ?_
  refine wc_seq ?_
  refine wcr ?_
  refine wl_pure (v := .agg #[.int .i64 a_b.Size, (sl v0a)]) (po_load_boxs tk_26 (pickS pick0) rfl rfl rfl) rfl ?_
  refine bdO t0 fun v1 hv1 t0 => ?_
  refine wl_call (co_c0 fa_39 rfl fun w hw => c_impl_BlockOk w a_b v0a (Rg.on (rds_arg r0) hw) hv1) rfl fun _ => ?_
  refine wl_pure (po_not rfl) rfl ?_
  refine wnt ?_
  refine wcO t0 rfl (fun h1 t0 => ?_) fun h1 t0 => ?_
  · skip
    refine wcr ?_
    refine wl_pure (po_build rfl bd_26) rfl ?_
    refine wl_skipop (so_box (cs' := [.int .i64 0, (sl (⟨none, 0, 0⟩ : Hd))]) tk_26 pick0 rfl rfl rfl rfl rfl rfl rfl) ?_
    refine wnt ?_
    refine wc_ret ?_
    refine wq_then_ret ?_
    obtain rfl := Option.some.inj t0
    exact wq_retc rfl tk_26 rfl pick0 rfl fun w hw => ⟨(⟨none, 0, 0⟩ : Hd), rfl, hw.weak (some_cons pick_nil some_nil)⟩
  refine wc_skip ?_
  refine wq_then ?_
  refine wcr ?_
  refine wl_pure (po_fld fo_26_0 rfl) rfl ?_
  refine wl_pure (v := .int .i64 a_b.Size) (po_load_box tk_3 (pickS pick0) rfl rfl) rfl ?_
  refine wl_pure (po_makeFunc rfl) rfl ?_
  refine bdO t0 fun v2 hv2 t0 => ?_
  refine wl_call (co_c1 fa_64 rfl fun w hw => c_impl_made w a_b.Size (fun z0 z1 => impl_TurnBlock_c1 z0 z1 a_b) 75 [ptr b1 0] fa_75 (fun w2 z0 z1  hk _ hz => c_impl_TurnBlock_c1 w2 z0 z1 a_b v0a (RdL.later (Rg.on (rds_arg r0) hw) hk) b1 (Bx.keep (hw.at_box (pickS pick0)) hk) hz) hv2) rfl fun x1 => ?_
  refine wl_skipop (so_box (cs' := [.int .i64 v2.Size, (sl x1)]) tk_26 (pickS pick0) rfl rfl rfl rfl rfl rfl rfl) ?_
  refine wnt ?_
  refine wc_ret ?_
  obtain rfl := Option.some.inj t0
  exact wq_retc rfl tk_26 rfl pick0 rfl fun w hw => ⟨x1, rfl, hw.weak (some_cons (pickS pick0) some_nil)⟩

theorem c_impl_SeenFrom (w : World) (a_b : GBlock) (v0a : Hd) (r0 : rdF w (dm w []) (sl v0a) a_b.Cells) (a_k : Int) {r : GBlock} (t0 : impl_SeenFrom a_b a_k = some r) : Calls Try.prog 40 #[.agg #[.int .i64 a_b.Size, (sl v0a)], .int .i64 a_k] w fun e w' => ∃ x : Hd, e = .returned (.agg #[.int .i64 r.Size, (sl x)]) ∧ SH w [] [ownF (sl x) r.Cells] w' := by
  refine calls_of_wc (args := [_, _]) Try.func40 rfl Try.ntmps40 rfl ?_
  unfold impl_SeenFrom at t0
  refine wcr ?_
  refine wl_eff (eo_box rfl rfl) rfl fun b1 => ?_
  refine wl_eff (eo_alloc (cs := [.int .i64 0, (sl (⟨none, 0, 0⟩ : Hd))]) za_26) rfl fun b2 => ?_
  refine wnt ?_
  refine wc_seq ?_
  refine wc_seq ?_
  refine bdO t0 fun y1 t1 t0 => ?_
  refine wj (J := Bool) (X := Unit) (fun z => y1 = z) (fun z _ => [(1, .int .i64 a_k), (2, ptr b1 0), (4, ptr b2 0), (13, .bool z)]) (fun _ _ => [box b2 [.int .i64 0, (sl (⟨none, 0, 0⟩ : Hd))], box b1 [.int .i64 a_b.Size, (sl v0a)]]) ?_ ?_
  · skip
    refine wc_region ?_
    refine wl_pure (v := .agg #[.int .i64 a_b.Size, (sl v0a)]) (po_load_boxs tk_26 (pickS pick0) rfl rfl rfl) rfl ?_
    refine bdO t1 fun v1 hv1 t1 => ?_
    refine wl_call (co_c0 fa_39 rfl fun w hw => c_impl_BlockOk w a_b v0a (Rg.on (rds_arg r0) hw) hv1) rfl fun _ => ?_
    refine wl_pure (po_not rfl) rfl ?_
    refine mv rfl rfl ?_
    refine wlO_ (t := 9) t1 rfl (fun h1 t1 => ?_) fun h1 t1 => ?_
    · skip
      refine wl_guard_off (j := 3) rfl rfl rfl rfl rfl ?_
      refine wl_guard_off (j := 3) rfl rfl rfl rfl rfl ?_
      refine wl_guard_off (j := 3) rfl rfl rfl rfl rfl ?_
      refine wl_pure (po_pick_t rfl rfl) rfl ?_
      refine wl_nil ?_
      exact wj_meet _ () (mtE t1) (sub_cons rfl (sub_cons rfl (sub_cons rfl (sub_cons rfl sub_nil)))) (some_cons pick0 (some_cons pick0 some_nil))
    refine wl_guard_on (j := 3) rfl rfl rfl (mv rfl rfl ?_)
    refine bdO t1 fun v2 hv2 t1 => ?_
    refine wl_guard_on (j := 3) rfl rfl rfl (wl_call (co_c0 fa_43 rfl fun w hw => c_impl_within w a_k 0 7 hv2) rfl (fun _ => ?_))
    refine wl_guard_on (j := 3) rfl rfl rfl (wl_pure (po_not rfl) rfl ?_)
    refine wl_pure (po_pick_f rfl rfl) rfl ?_
    refine wl_nil ?_
    exact wj_meet _ () (mtE t1) (sub_cons rfl (sub_cons rfl (sub_cons rfl (sub_cons rfl sub_nil)))) (some_cons pick0 (some_cons pick0 some_nil))
  intro j1 _ hp
  obtain rfl : j1 = y1 := hp.symm
  refine wq_then ?_
  refine wcO t0 rfl (fun h2 t0 => ?_) fun h2 t0 => ?_
  · skip
    refine wcr ?_
    refine wl_pure (po_build rfl bd_26) rfl ?_
    refine wl_skipop (so_box (cs' := [.int .i64 0, (sl (⟨none, 0, 0⟩ : Hd))]) tk_26 pick0 rfl rfl rfl rfl rfl rfl rfl) ?_
    refine wnt ?_
    refine wc_ret ?_
    refine wq_then_ret ?_
    obtain rfl := Option.some.inj t0
    exact wq_retc rfl tk_26 rfl pick0 rfl fun w hw => ⟨(⟨none, 0, 0⟩ : Hd), rfl, hw.weak (some_cons pick_nil some_nil)⟩
  refine wc_skip ?_
  refine wq_then ?_
  refine wcr ?_
  refine wl_pure (v := .agg #[.int .i64 a_b.Size, (sl v0a)]) (po_load_boxs tk_26 (pickS pick0) rfl rfl rfl) rfl ?_
  refine bdO t0 fun v3 hv3 t0 => ?_
  refine wl_call (co_c1 fa_59 rfl fun w hw => c_impl_Block_copied w a_b v0a (Rg.on (rds_arg r0) hw) hv3) rfl fun x2 => ?_
  refine wl_eff (eo_alloc (cs := [.int .i64 0, (sl (⟨none, 0, 0⟩ : Hd))]) za_26) rfl fun b3 => ?_
  refine wl_skipop (so_box (cs' := [.int .i64 v3.Size, (sl x2)]) tk_26 pick0 rfl rfl rfl rfl rfl rfl rfl) ?_
  refine wnt ?_
  refine wc_seq ?_
  refine wcr ?_
  refine mv rfl rfl ?_
  refine wl_pure (po_geq rfl rfl) rfl ?_
  refine wnt ?_
  refine bdO t0 fun y1 t1 t0 => ?_
  refine wj (J := GBlock) (X := Hd) (fun z => y1 = z) (fun _ _ => [(1, .int .i64 a_k), (4, ptr b2 0), (5, ptr b3 0)]) (fun z x => [box b3 [.int .i64 ((z).Size), (sl x)], box b2 [.int .i64 0, (sl (⟨none, 0, 0⟩ : Hd))], ownF (sl x) ((z).Cells)]) ?_ ?_
  · skip
    refine wcO t1 rfl (fun h3 t1 => ?_) fun h3 t1 => ?_
    · skip
      refine wc_region ?_
      refine wl_pure (v := .agg #[.int .i64 a_b.Size, (sl v0a)]) (po_load_boxs tk_26 (pickS (pickS (pickS pick0))) rfl rfl rfl) rfl ?_
      refine bdO t1 fun v4 hv4 t1 => ?_
      refine wl_call (co_c1 fa_60 rfl fun w hw => c_impl_MirrorBlock w a_b v0a (Rg.on (rds_arg r0) hw) hv4) rfl fun x4 => ?_
      refine wl_skipop (so_box (cs' := [.int .i64 v4.Size, (sl x4)]) tk_26 (pickS pick0) rfl rfl rfl rfl rfl rfl rfl) ?_
      refine wl_nil ?_
      exact wj_meet _ x4 (mtE t1) (sub_cons rfl (sub_cons rfl (sub_cons rfl sub_nil))) (some_cons pick0 (some_cons (pickS (pickS pick0)) (some_cons pick0 some_nil)))
    refine wc_skip ?_
    exact wj_meet _ x2 (mtE t1) (sub_cons rfl (sub_cons rfl (sub_cons rfl sub_nil))) (some_cons pick0 (some_cons (pickS pick0) (some_cons pick0 some_nil)))
  intro j2 x3 hp
  obtain rfl : j2 = y1 := hp.symm
  refine wq_then ?_
  refine wc_seq ?_
  refine wcr ?_
  refine mv rfl rfl ?_
  refine wl_pure (po_rem rfl rfl (by decide)) rfl ?_
  refine mv rfl rfl ?_
  refine wnt ?_
  refine gdO t0 fun g1 t0 => ?_
  refine lpO_inv t0 fun y1 l1 t0 => ?_
  refine wj (J := Int × (List GCell)) (X := Hd) (fun z => y1 = z) (fun _ _ => [(4, ptr b2 0), (5, ptr b3 0)]) (fun z x => [box b3 [.int .i64 z.1, (sl x)], box b2 [.int .i64 0, (sl (⟨none, 0, 0⟩ : Hd))], ownF (sl x) z.2]) ?_ ?_
  · skip
    refine wc_block ?_
    refine wc_forO (X := Hd) l1 (fun k1 s1 x1l => [(4, ptr b2 0), (5, ptr b3 0), (22, .int .i64 (a_k.tmod 4)), (23, .int .i64 ((k1 : Nat) : Int))]) (fun k1 s1 x1l => [box b3 [.int .i64 s1.1, (sl x1l)], box b2 [.int .i64 0, (sl (⟨none, 0, 0⟩ : Hd))], ownF (sl x1l) s1.2]) x3 (sub_cons rfl (sub_cons rfl (sub_cons rfl (sub_cons rfl sub_nil)))) (some_cons pick0 (some_cons pick0 (some_cons pick0 some_nil))) fun k1 s1 x1l hN1 l1 => ?_
    by_cases hk1 : k1 < ((a_k.tmod 4)).toNat
    · skip
      refine forO_step l1 hk1 fun _ t1 l1 => ?_
      unfold impl_SeenFrom_L1 at t1
      have c1 : (decide (((k1 : Nat) : Int) < (a_k.tmod 4))) = true := decide_eq_true (by omega)
      refine wcr ?_
      refine wl_pure (po_lss rfl rfl) rfl ?_
      refine wnt ?_
      refine wc_seq ?_
      refine wc_cond_t rfl c1 ?_
      refine wc_skip ?_
      refine wq_then ?_
      refine wc_seq ?_
      refine wc_block ?_
      refine wc_region ?_
      refine wl_pure (v := .agg #[.int .i64 s1.1, (sl x1l)]) (po_load_boxs tk_26 pick0 rfl rfl rfl) rfl ?_
      refine bdO t1 fun v5 hv5 t1 => ?_
      refine wl_call (co_c1 fa_61 rfl fun w hw => c_impl_TurnBlock w (GBlock.mk s1.1 s1.2) x1l (Rg.on (rds_own (pickS (pickS pick0))) hw) hv5) rfl fun x6 => ?_
      refine wl_skipop (so_box (cs' := [.int .i64 v5.Size, (sl x6)]) tk_26 (pickS pick0) rfl rfl rfl rfl rfl rfl rfl) ?_
      refine wl_nil ?_
      refine wq_block ?_
      refine wq_then ?_
      refine wc_region ?_
      refine wl_pure (po_inc rfl rfl (by omega)) rfl ?_
      refine mv rfl rfl ?_
      refine wl_nil ?_
      exact wq_rnd hk1 (stpN l1 t1) x6 (sub_cons rfl (sub_cons rfl (sub_cons rfl (sub_cons rfl sub_nil)))) (some_cons pick0 (some_cons (pickS pick0) (some_cons pick0 some_nil)))
    have c1 : (decide (((k1 : Nat) : Int) < (a_k.tmod 4))) = false := decide_eq_false (by omega)
    have en1 := forO_end l1 hk1
    refine wcr ?_
    refine wl_pure (po_lss rfl rfl) rfl ?_
    refine wnt ?_
    refine wc_seq ?_
    refine wc_cond_f rfl c1 ?_
    refine wc_exit ?_
    refine wq_then_exit ?_
    refine wq_then_exit ?_
    refine wq_block_exit ?_
    exact wj_meet _ x1l (Sum.inl.inj en1) (sub_cons rfl (sub_cons rfl sub_nil)) (some_cons pick0 (some_cons pick0 (some_cons pick0 some_nil)))
  intro e1 x5 hp
  obtain rfl : e1 = y1 := hp.symm
  refine wq_then ?_
  refine wcr ?_
  refine wl_pure (v := .agg #[.int .i64 e1.1, (sl x5)]) (po_load_boxs tk_26 pick0 rfl rfl rfl) rfl ?_
  refine wl_skipop (so_box (cs' := [.int .i64 e1.1, (sl x5)]) tk_26 (pickS pick0) rfl rfl rfl rfl rfl rfl rfl) ?_
  refine wnt ?_
  refine wc_ret ?_
  obtain rfl := Option.some.inj t0
  exact wq_retc rfl tk_26 rfl pick0 rfl fun w hw => ⟨x5, rfl, hw.weak (some_cons (pickS (pickS pick0)) some_nil)⟩

theorem c_impl_views (w : World) (a_b : GBlock) (v0a : Hd) (r0 : rdF w (dm w []) (sl v0a) a_b.Cells) {r : List GBlock} (t0 : impl_views a_b = some r) : Calls Try.prog 19 #[.agg #[.int .i64 a_b.Size, (sl v0a)]] w fun e w' => ∃ x : Hd × (List Value), e = .returned ((sl x.1)) ∧ SH w [] [own (sl x.1) x.2 r] w' := by
  refine calls_of_wc (args := [_]) Try.func19 rfl Try.ntmps19 rfl ?_
  unfold impl_views at t0
  refine wcr ?_
  refine wl_eff (eo_box rfl rfl) rfl fun b1 => ?_
  refine asg rfl rfl ?_
  refine wnt ?_
  refine wcr ?_
  refine wl_eff (eo_buildSlice rfl sb_41_0) rfl fun b2 => ?_
  refine asg rfl rfl ?_
  refine wnt ?_
  refine wc_seq ?_
  refine wcr ?_
  refine mv rfl rfl ?_
  refine wnt ?_
  refine lpO_inv t0 fun y1 l1 t0 => ?_
  refine wj (J := List GBlock) (X := Hd × (List Value)) (fun z => y1 = z) (fun _ x => [(3, (sl x.1))]) (fun z x => [own (sl x.1) x.2 z]) ?_ ?_
  · skip
    refine wc_block ?_
    refine wc_forO (X := Hd × (List Value)) l1 (fun k1 s1 x1l => [(1, ptr b1 0), (3, (sl x1l.1)), (6, .int .i64 ((k1 : Nat) : Int))]) (fun k1 s1 x1l => [box b1 [.int .i64 a_b.Size, (sl v0a)], own (sl x1l.1) x1l.2 s1]) ((⟨some ⟨b2, 0, none⟩, 0, 0⟩ : Hd), []) (sub_cons rfl (sub_cons rfl (sub_cons rfl sub_nil))) (some_cons (pickS pick0) (some_cons (pick_box_nil pick0) some_nil)) fun k1 s1 x1l hN1 l1 => ?_
    by_cases hk1 : k1 < 8
    · skip
      refine forO_step l1 hk1 fun _ t1 l1 => ?_
      unfold impl_views_L1 at t1
      have c1 : (decide (((k1 : Nat) : Int) < 8)) = true := decide_eq_true (by omega)
      refine wcr ?_
      refine wl_pure (po_lss rfl rfl) rfl ?_
      refine wnt ?_
      refine wc_seq ?_
      refine wc_cond_t rfl c1 ?_
      refine wc_skip ?_
      refine wq_then ?_
      refine wc_seq ?_
      refine wc_block ?_
      refine wcr ?_
      refine mv rfl rfl ?_
      refine asg rfl rfl ?_
      refine wnt ?_
      refine wc_region ?_
      refine mv rfl rfl ?_
      refine wl_pure (v := .agg #[.int .i64 a_b.Size, (sl v0a)]) (po_load_boxs tk_26 pick0 rfl rfl rfl) rfl ?_
      refine mv rfl rfl ?_
      refine bdO t1 fun v1 hv1 t1 => ?_
      refine wl_call (co_c1 fa_40 rfl fun w hw => c_impl_SeenFrom w a_b v0a (Rg.on (rds_arg r0) hw) ((k1 : Nat) : Int) hv1) rfl fun x2 => ?_
      refine wl_eff (eo_buildSlice rfl (sb_41_1 v1.Size x2)) rfl fun b3 => ?_
      refine gdO t1 fun g1 t1 => ?_
      refine wl_eff (eo_append_one (us := x1l.2) (xs := s1) ak_41 (pickS (pickS (pickS pick0))) (pow_GBlock (x := v1) (pickS pick0)) pick0 rfl rfl rfl g1) rfl fun x3 => ?_
      refine asg rfl rfl ?_
      refine wl_nil ?_
      refine wq_block ?_
      refine wq_then ?_
      refine wc_region ?_
      refine wl_pure (po_inc rfl rfl (by omega)) rfl ?_
      refine mv rfl rfl ?_
      refine wl_nil ?_
      exact wq_rnd hk1 (stpN l1 t1) (x3, (x1l.2 ++ [.int .i64 v1.Size, (sl x2)])) (sub_cons rfl (sub_cons rfl (sub_cons rfl sub_nil))) (some_cons (pickS (pickS pick0)) (some_cons pick0 some_nil))
    have c1 : (decide (((k1 : Nat) : Int) < 8)) = false := decide_eq_false (by omega)
    have en1 := forO_end l1 hk1
    refine wcr ?_
    refine wl_pure (po_lss rfl rfl) rfl ?_
    refine wnt ?_
    refine wc_seq ?_
    refine wc_cond_f rfl c1 ?_
    refine wc_exit ?_
    refine wq_then_exit ?_
    refine wq_then_exit ?_
    refine wq_block_exit ?_
    exact wj_meet _ (x1l.1, x1l.2) (Sum.inl.inj en1) (sub_cons rfl sub_nil) (some_cons (pickS pick0) some_nil)
  intro e1 x1 hp
  obtain rfl : e1 = y1 := hp.symm
  refine wq_then ?_
  refine wcr ?_
  refine mv rfl rfl ?_
  refine asg rfl rfl ?_
  refine wnt ?_
  refine wc_ret ?_
  obtain rfl := Option.some.inj t0
  exact wq_ret1 rfl rfl fun w hw => ⟨(x1.1, x1.2), rfl, hw.weak (some_cons pick0 some_nil)⟩

theorem c_impl_BestLikeness (w : World) (a_b : GBlock) (v0a : Hd) (r0 : rdF w (dm w []) (sl v0a) a_b.Cells) (a_d : GBlock) (v1a : Hd) (r1 : rdF w (dm w []) (sl v1a) a_d.Cells) {r : Int} (t0 : impl_BestLikeness a_b a_d = some r) : Calls Try.prog 7 #[.agg #[.int .i64 a_b.Size, (sl v0a)], .agg #[.int .i64 a_d.Size, (sl v1a)]] w fun e w' => e = .returned (.int .i64 r) ∧ SH w [] [] w' := by
  refine calls_of_wc (args := [_, _]) Try.func7 rfl Try.ntmps7 rfl ?_
  unfold impl_BestLikeness at t0
  refine wcr ?_
  refine wl_eff (eo_box rfl rfl) rfl fun b1 => ?_
  refine wl_eff (eo_box rfl rfl) rfl fun b2 => ?_
  refine asg rfl rfl ?_
  refine wnt ?_
  refine wc_seq ?_
  refine wcr ?_
  refine wl_pure (v := .agg #[.int .i64 a_b.Size, (sl v0a)]) (po_load_boxs tk_26 (pickS pick0) rfl rfl rfl) rfl ?_
  refine wl_pure (v := .agg #[.int .i64 a_d.Size, (sl v1a)]) (po_load_boxs tk_26 pick0 rfl rfl rfl) rfl ?_
  refine bdO t0 fun v1 hv1 t0 => ?_
  refine wl_call (co_c0 fa_18 rfl fun w hw => c_impl_arePaired w a_b v0a (Rg.on (rds_arg r0) hw) a_d v1a (Rg.on (rds_arg r1) hw) hv1) rfl fun _ => ?_
  refine wl_pure (po_not rfl) rfl ?_
  refine wnt ?_
  refine wcO t0 rfl (fun h1 t0 => ?_) fun h1 t0 => ?_
  · skip
    refine wcr ?_
    refine asg rfl rfl ?_
    refine wnt ?_
    refine wc_ret ?_
    refine wq_then_ret ?_
    obtain rfl := Option.some.inj t0
    exact wq_ret1 rfl rfl fun w hw => ⟨rfl, hw.weak some_nil⟩
  refine wc_skip ?_
  refine wq_then ?_
  refine wcr ?_
  refine asg rfl rfl ?_
  refine wnt ?_
  refine wc_seq ?_
  refine wcr ?_
  refine wl_pure (v := .agg #[.int .i64 a_d.Size, (sl v1a)]) (po_load_boxs tk_26 pick0 rfl rfl rfl) rfl ?_
  refine bdO t0 fun v2 hv2 t0 => ?_
  refine wl_call (co_c1 fa_19 rfl fun w hw => c_impl_views w a_d v1a (Rg.on (rds_arg r1) hw) hv2) rfl fun x1 => ?_
  refine wl_pure (po_lenr (rds_own pick0) el_41 rfl) rfl ?_
  refine mv rfl rfl ?_
  refine wnt ?_
  refine gdO t0 fun g1 t0 => ?_
  refine lpO_inv t0 fun y1 l1 t0 => ?_
  refine wj (J := Int) (X := Unit) (fun z => y1 = z) (fun z _ => [(5, .int .i64 z)]) (fun _ _ => []) ?_ ?_
  · skip
    refine wc_block ?_
    refine wc_forO (X := Unit) l1 (fun k1 s1 x1l => [(2, ptr b1 0), (5, .int .i64 s1), (13, (sl x1.1)), (14, .int .i64 ((v2.length : Nat) : Int)), (15, .int .i64 ((k1 : Nat) : Int))]) (fun k1 s1 x1l => [own (sl x1.1) x1.2 v2, box b1 [.int .i64 a_b.Size, (sl v0a)]]) () (sub_cons rfl (sub_cons rfl (sub_cons rfl (sub_cons rfl (sub_cons rfl sub_nil))))) (some_cons pick0 (some_cons (pickS pick0) some_nil)) fun k1 s1 x1l hN1 l1 => ?_
    by_cases hk1 : k1 < v2.length
    · skip
      refine forO_step l1 hk1 fun _ t1 l1 => ?_
      unfold impl_BestLikeness_L1 at t1
      have c1 : (decide (((k1 : Nat) : Int) < ((v2.length : Nat) : Int))) = true := decide_eq_true (by omega)
      refine wcr ?_
      refine wl_pure (po_lss rfl rfl) rfl ?_
      refine wnt ?_
      refine wc_seq ?_
      refine wc_cond_t rfl c1 ?_
      refine wc_skip ?_
      refine wq_then ?_
      refine wc_seq ?_
      refine wc_block ?_
      refine wcr ?_
      refine wl_pure (po_ixn (k := k1) (rds_own pick0) el_41 rfl rfl hk1) rfl ?_
      refine wl_elem (rds_own pick0) hk1 ?_
      rintro ⟨_, _, he1⟩
      obtain ⟨w1, hc1, _⟩ := rd_GBlock.1 he1
      refine wl_pure (v := .agg #[.int .i64 ((gx v2 k1).Size), (sl w1)]) (po_ldns (rds_own pick0) tk_26 rfl hc1 rfl rfl rfl) rfl ?_
      refine wl_eff (eo_alloc (cs := [.int .i64 0, (sl (⟨none, 0, 0⟩ : Hd))]) za_26) rfl fun b3 => ?_
      refine wl_skipop (so_box (cs' := [.int .i64 ((gx v2 k1).Size), (sl w1)]) tk_26 pick0 rfl rfl rfl rfl rfl rfl rfl) ?_
      refine wnt ?_
      refine wc_region ?_
      refine mv rfl rfl ?_
      refine wl_pure (v := .agg #[.int .i64 a_b.Size, (sl v0a)]) (po_load_boxs tk_26 (pickS (pickS pick0)) rfl rfl rfl) rfl ?_
      refine wl_pure (v := .agg #[.int .i64 ((gx v2 k1).Size), (sl w1)]) (po_load_boxs tk_26 pick0 rfl rfl rfl) rfl ?_
      refine bdO t1 fun v3 hv3 t1 => ?_
      refine wl_call (co_c0 fa_6 rfl fun w hw => c_impl_Likeness w a_b v0a (Rg.on (rds_arg r0) hw) (gx v2 k1) w1 (Rg.on (er_GBlock_0 hc1 (rds_own (pickS pick0)) hk1) hw) hv3) rfl fun _ => ?_
      refine wl_pure (po_max rfl rfl) rfl ?_
      refine asg rfl rfl ?_
      refine wl_nil ?_
      refine wq_block ?_
      refine wq_then ?_
      refine wc_region ?_
      refine wl_pure (po_inc rfl rfl (by omega)) rfl ?_
      refine mv rfl rfl ?_
      refine wl_nil ?_
      exact wq_rnd hk1 (stpN l1 t1) () (sub_cons rfl (sub_cons rfl (sub_cons rfl (sub_cons rfl (sub_cons rfl sub_nil))))) (some_cons (pickS pick0) (some_cons (pickS pick0) some_nil))
    have c1 : (decide (((k1 : Nat) : Int) < ((v2.length : Nat) : Int))) = false := decide_eq_false (by omega)
    have en1 := forO_end l1 hk1
    refine wcr ?_
    refine wl_pure (po_lss rfl rfl) rfl ?_
    refine wnt ?_
    refine wc_seq ?_
    refine wc_cond_f rfl c1 ?_
    refine wc_exit ?_
    refine wq_then_exit ?_
    refine wq_then_exit ?_
    refine wq_block_exit ?_
    exact wj_meet _ () (Sum.inl.inj en1) (sub_cons rfl sub_nil) some_nil
  intro e1 _ hp
  obtain rfl : e1 = y1 := hp.symm
  refine wq_then ?_
  refine wcr ?_
  refine mv rfl rfl ?_
  refine asg rfl rfl ?_
  refine wnt ?_
  refine wc_ret ?_
  obtain rfl := Option.some.inj t0
  exact wq_ret1 rfl rfl fun w hw => ⟨rfl, hw.weak some_nil⟩

theorem c_impl_BestView (w : World) (a_b : GBlock) (v0a : Hd) (r0 : rdF w (dm w []) (sl v0a) a_b.Cells) (a_d : GBlock) (v1a : Hd) (r1 : rdF w (dm w []) (sl v1a) a_d.Cells) {r : Int} (t0 : impl_BestView a_b a_d = some r) : Calls Try.prog 8 #[.agg #[.int .i64 a_b.Size, (sl v0a)], .agg #[.int .i64 a_d.Size, (sl v1a)]] w fun e w' => e = .returned (.int .i64 r) ∧ SH w [] [] w' := by
  refine calls_of_wc (args := [_, _]) Try.func8 rfl Try.ntmps8 rfl ?_
  unfold impl_BestView at t0
  refine wcr ?_
  refine wl_eff (eo_box rfl rfl) rfl fun b1 => ?_
  refine wl_eff (eo_box rfl rfl) rfl fun b2 => ?_
  refine asg rfl rfl ?_
  refine wnt ?_
  refine wc_seq ?_
  refine wcr ?_
  refine wl_pure (v := .agg #[.int .i64 a_b.Size, (sl v0a)]) (po_load_boxs tk_26 (pickS pick0) rfl rfl rfl) rfl ?_
  refine wl_pure (v := .agg #[.int .i64 a_d.Size, (sl v1a)]) (po_load_boxs tk_26 pick0 rfl rfl rfl) rfl ?_
  refine bdO t0 fun v1 hv1 t0 => ?_
  refine wl_call (co_c0 fa_18 rfl fun w hw => c_impl_arePaired w a_b v0a (Rg.on (rds_arg r0) hw) a_d v1a (Rg.on (rds_arg r1) hw) hv1) rfl fun _ => ?_
  refine wl_pure (po_not rfl) rfl ?_
  refine wnt ?_
  refine wcO t0 rfl (fun h1 t0 => ?_) fun h1 t0 => ?_
  · skip
    refine wcr ?_
    refine asg rfl rfl ?_
    refine wnt ?_
    refine wc_ret ?_
    refine wq_then_ret ?_
    obtain rfl := Option.some.inj t0
    exact wq_ret1 rfl rfl fun w hw => ⟨rfl, hw.weak some_nil⟩
  refine wc_skip ?_
  refine wq_then ?_
  refine wcr ?_
  refine wl_pure (v := .agg #[.int .i64 a_b.Size, (sl v0a)]) (po_load_boxs tk_26 (pickS pick0) rfl rfl rfl) rfl ?_
  refine wl_pure (v := .agg #[.int .i64 a_d.Size, (sl v1a)]) (po_load_boxs tk_26 pick0 rfl rfl rfl) rfl ?_
  refine bdO t0 fun v2 hv2 t0 => ?_
  refine wl_call (co_c0 fa_7 rfl fun w hw => c_impl_BestLikeness w a_b v0a (Rg.on (rds_arg r0) hw) a_d v1a (Rg.on (rds_arg r1) hw) hv2) rfl fun _ => ?_
  refine asg rfl rfl ?_
  refine wnt ?_
  refine wc_seq ?_
  refine wcr ?_
  refine wl_pure (v := .agg #[.int .i64 a_d.Size, (sl v1a)]) (po_load_boxs tk_26 pick0 rfl rfl rfl) rfl ?_
  refine bdO t0 fun v3 hv3 t0 => ?_
  refine wl_call (co_c1 fa_19 rfl fun w hw => c_impl_views w a_d v1a (Rg.on (rds_arg r1) hw) hv3) rfl fun x1 => ?_
  refine wl_pure (po_lenr (rds_own pick0) el_41 rfl) rfl ?_
  refine mv rfl rfl ?_
  refine wnt ?_
  refine gdO t0 fun g1 t0 => ?_
  refine sqO t0 fun y1 l1 t0 => ?_
  refine wj (J := Unit) (X := Unit) (fun z => y1 = .inl z) (fun _ _ => []) (fun _ _ => []) ?_ ?_
  · skip
    refine wc_block ?_
    refine wc_forO (X := Unit) l1 (fun k1 s1 x1l => [(2, ptr b1 0), (5, .int .i64 v2), (16, (sl x1.1)), (17, .int .i64 ((v3.length : Nat) : Int)), (18, .int .i64 ((k1 : Nat) : Int))]) (fun k1 s1 x1l => [own (sl x1.1) x1.2 v3, box b1 [.int .i64 a_b.Size, (sl v0a)]]) () (sub_cons rfl (sub_cons rfl (sub_cons rfl (sub_cons rfl (sub_cons rfl sub_nil))))) (some_cons pick0 (some_cons (pickS pick0) some_nil)) fun k1 s1 x1l hN1 l1 => ?_
    by_cases hk1 : k1 < v3.length
    · skip
      refine forO_step l1 hk1 fun _ t1 l1 => ?_
      unfold impl_BestView_L1 at t1
      have c1 : (decide (((k1 : Nat) : Int) < ((v3.length : Nat) : Int))) = true := decide_eq_true (by omega)
      refine wcr ?_
      refine wl_pure (po_lss rfl rfl) rfl ?_
      refine wnt ?_
      refine wc_seq ?_
      refine wc_cond_t rfl c1 ?_
      refine wc_skip ?_
      refine wq_then ?_
      refine wc_seq ?_
      refine wc_block ?_
      refine wcr ?_
      refine mv rfl rfl ?_
      refine wl_pure (po_ixn (k := k1) (rds_own pick0) el_41 rfl rfl hk1) rfl ?_
      refine wl_elem (rds_own pick0) hk1 ?_
      rintro ⟨_, _, he1⟩
      obtain ⟨w1, hc1, _⟩ := rd_GBlock.1 he1
      refine wl_pure (v := .agg #[.int .i64 ((gx v3 k1).Size), (sl w1)]) (po_ldns (rds_own pick0) tk_26 rfl hc1 rfl rfl rfl) rfl ?_
      refine wl_eff (eo_alloc (cs := [.int .i64 0, (sl (⟨none, 0, 0⟩ : Hd))]) za_26) rfl fun b3 => ?_
      refine asg rfl rfl ?_
      refine wl_skipop (so_box (cs' := [.int .i64 ((gx v3 k1).Size), (sl w1)]) tk_26 pick0 rfl rfl rfl rfl rfl rfl rfl) ?_
      refine wnt ?_
      refine wcr ?_
      refine wl_pure (v := .agg #[.int .i64 a_b.Size, (sl v0a)]) (po_load_boxs tk_26 (pickS (pickS pick0)) rfl rfl rfl) rfl ?_
      refine wl_pure (v := .agg #[.int .i64 ((gx v3 k1).Size), (sl w1)]) (po_load_boxs tk_26 pick0 rfl rfl rfl) rfl ?_
      refine bdO t1 fun v4 hv4 t1 => ?_
      refine wl_call (co_c0 fa_6 rfl fun w hw => c_impl_Likeness w a_b v0a (Rg.on (rds_arg r0) hw) (gx v3 k1) w1 (Rg.on (er_GBlock_0 hc1 (rds_own (pickS pick0)) hk1) hw) hv4) rfl fun _ => ?_
      refine mv rfl rfl ?_
      refine wl_pure (po_eql rfl rfl) rfl ?_
      refine wnt ?_
      refine wcO t1 rfl (fun h2 t1 => ?_) fun h2 t1 => ?_
      · skip
        refine wcr ?_
        refine mv rfl rfl ?_
        refine asg rfl rfl ?_
        refine wnt ?_
        refine wc_ret ?_
        refine wq_block_ret ?_
        refine wq_then_ret ?_
        refine wq_then_ret ?_
        refine wq_block_ret ?_
        refine wq_then_ret ?_
        refine wq_then_ret ?_
        replace t0 := lpR t0 l1 t1
        obtain rfl := Option.some.inj t0
        exact wq_ret1 rfl rfl fun w hw => ⟨rfl, hw.weak some_nil⟩
      refine wc_skip ?_
      refine wq_block ?_
      refine wq_then ?_
      refine wc_region ?_
      refine wl_pure (po_inc rfl rfl (by omega)) rfl ?_
      refine mv rfl rfl ?_
      refine wl_nil ?_
      exact wq_rnd hk1 (stpN l1 t1) () (sub_cons rfl (sub_cons rfl (sub_cons rfl (sub_cons rfl (sub_cons rfl sub_nil))))) (some_cons (pickS pick0) (some_cons (pickS pick0) some_nil))
    have c1 : (decide (((k1 : Nat) : Int) < ((v3.length : Nat) : Int))) = false := decide_eq_false (by omega)
    have en1 := forO_end l1 hk1
    refine wcr ?_
    refine wl_pure (po_lss rfl rfl) rfl ?_
    refine wnt ?_
    refine wc_seq ?_
    refine wc_cond_f rfl c1 ?_
    refine wc_exit ?_
    refine wq_then_exit ?_
    refine wq_then_exit ?_
    refine wq_block_exit ?_
    exact wj_meet _ () en1 sub_nil some_nil
  intro e1 _ hp
  replace t0 := sqE (j := e1) t0 hp
  refine wq_then ?_
  refine wcr ?_
  refine asg rfl rfl ?_
  refine wnt ?_
  refine wc_ret ?_
  obtain rfl := Option.some.inj t0
  exact wq_ret1 rfl rfl fun w hw => ⟨rfl, hw.weak some_nil⟩

theorem c_impl_CellArea (w : World) (a_c : GCell) (a_a : Int) {r : Int} (t0 : impl_CellArea a_c a_a = some r) : Calls Try.prog 62 #[.agg #[.int .i64 a_c.Split, .int .i64 a_c.A, .int .i64 a_c.B], .int .i64 a_a] w fun e w' => e = .returned (.int .i64 r) ∧ SH w [] [] w' := by
  refine calls_of_wc (args := [_, _]) Try.func62 rfl Try.ntmps62 rfl ?_
  unfold impl_CellArea at t0
  refine wcr ?_
  refine wl_eff (eo_box rfl rfl) rfl fun b1 => ?_
  refine asg rfl rfl ?_
  refine wnt ?_
  refine wcr ?_
  refine asg rfl rfl ?_
  refine wnt ?_
  refine wc_seq ?_
  refine wc_seq ?_
  refine bdO t0 fun y1 t1 t0 => ?_
  refine wj (J := Bool) (X := Unit) (fun z => y1 = z) (fun z _ => [(1, .int .i64 a_a), (2, ptr b1 0), (5, .int .i64 0), (13, .bool z)]) (fun _ _ => [box b1 [.int .i64 a_c.Split, .int .i64 a_c.A, .int .i64 a_c.B]]) ?_ ?_
  · skip
    refine wc_region ?_
    refine wl_pure (v := .agg #[.int .i64 a_c.Split, .int .i64 a_c.A, .int .i64 a_c.B]) (po_load_boxs tk_33 pick0 rfl rfl rfl) rfl ?_
    refine bdO t1 fun v1 hv1 t1 => ?_
    refine wl_call (co_c0 fa_25 rfl fun w hw => c_impl_CellOk w a_c hv1) rfl fun _ => ?_
    refine mv rfl rfl ?_
    refine wlO_ (t := 8) t1 rfl (fun h1 t1 => ?_) fun h1 t1 => ?_
    · skip
      refine wl_guard_on (j := 2) rfl rfl rfl (wl_pure (po_fld fo_33_1 rfl) rfl ?_)
      refine wl_guard_on (j := 2) rfl rfl rfl (wl_pure (v := .int .i64 a_c.A) (po_load_box tk_3 pick0 rfl rfl) rfl ?_)
      refine wl_guard_on (j := 2) rfl rfl rfl (mv rfl rfl ?_)
      refine wl_guard_on (j := 2) rfl rfl rfl (wl_pure (po_eql rfl rfl) rfl ?_)
      refine wl_pure (po_pick_t rfl rfl) rfl ?_
      refine wl_nil ?_
      exact wj_meet _ () (mtE t1) (sub_cons rfl (sub_cons rfl (sub_cons rfl (sub_cons rfl sub_nil)))) (some_cons pick0 some_nil)
    refine wl_guard_off (j := 2) rfl rfl rfl rfl rfl ?_
    refine wl_guard_off (j := 2) rfl rfl rfl rfl rfl ?_
    refine wl_guard_off (j := 2) rfl rfl rfl rfl rfl ?_
    refine wl_guard_off (j := 2) rfl rfl rfl rfl rfl ?_
    refine wl_pure (po_pick_f rfl rfl) rfl ?_
    refine wl_nil ?_
    exact wj_meet _ () (mtE t1) (sub_cons rfl (sub_cons rfl (sub_cons rfl (sub_cons rfl sub_nil)))) (some_cons pick0 some_nil)
  intro j1 _ hp
  obtain rfl : j1 = y1 := hp.symm
  refine wq_then ?_
  refine wc_join (X := Unit) (fun _ => True) (fun _ => [(1, .int .i64 a_a), (2, ptr b1 0), (5, .int .i64 (bif j1 then (wr (0 + 2)) else 0))]) (fun _ => [box b1 [.int .i64 a_c.Split, .int .i64 a_c.A, .int .i64 a_c.B]]) ?_ ?_
  · skip
    refine wc_cond rfl (fun h2 => ?_) fun h2 => ?_
    · skip
      refine wc_region ?_
      refine mv rfl rfl ?_
      refine wl_pure (po_add rfl rfl) rfl ?_
      refine asg rfl rfl ?_
      refine wl_nil ?_
      exact wq_meet () trivial (sub_cons rfl (sub_cons rfl (sub_i rfl (by simp only [h2, cond_true]) sub_nil))) (some_cons pick0 some_nil)
    refine wc_skip ?_
    exact wq_meet () trivial (sub_cons rfl (sub_cons rfl (sub_i rfl (by simp only [h2, cond_false]) sub_nil))) (some_cons pick0 some_nil)
  intro _ _
  refine wq_then ?_
  refine wc_seq ?_
  refine wc_seq ?_
  refine bdO t0 fun y1 t1 t0 => ?_
  refine wj (J := Bool) (X := Unit) (fun z => y1 = z) (fun z _ => [(5, .int .i64 (bif j1 then (wr (0 + 2)) else 0)), (23, .bool z)]) (fun _ _ => []) ?_ ?_
  · skip
    refine wc_region ?_
    refine wl_pure (v := .agg #[.int .i64 a_c.Split, .int .i64 a_c.A, .int .i64 a_c.B]) (po_load_boxs tk_33 pick0 rfl rfl rfl) rfl ?_
    refine bdO t1 fun v2 hv2 t1 => ?_
    refine wl_call (co_c0 fa_25 rfl fun w hw => c_impl_CellOk w a_c hv2) rfl fun _ => ?_
    refine mv rfl rfl ?_
    refine wlO_ (t := 18) t1 rfl (fun h3 t1 => ?_) fun h3 t1 => ?_
    · skip
      refine wl_guard_on (j := 2) rfl rfl rfl (wl_pure (po_fld fo_33_2 rfl) rfl ?_)
      refine wl_guard_on (j := 2) rfl rfl rfl (wl_pure (v := .int .i64 a_c.B) (po_load_box tk_3 pick0 rfl rfl) rfl ?_)
      refine wl_guard_on (j := 2) rfl rfl rfl (mv rfl rfl ?_)
      refine wl_guard_on (j := 2) rfl rfl rfl (wl_pure (po_eql rfl rfl) rfl ?_)
      refine wl_pure (po_pick_t rfl rfl) rfl ?_
      refine wl_nil ?_
      exact wj_meet _ () (mtE t1) (sub_cons rfl (sub_cons rfl sub_nil)) some_nil
    refine wl_guard_off (j := 2) rfl rfl rfl rfl rfl ?_
    refine wl_guard_off (j := 2) rfl rfl rfl rfl rfl ?_
    refine wl_guard_off (j := 2) rfl rfl rfl rfl rfl ?_
    refine wl_guard_off (j := 2) rfl rfl rfl rfl rfl ?_
    refine wl_pure (po_pick_f rfl rfl) rfl ?_
    refine wl_nil ?_
    exact wj_meet _ () (mtE t1) (sub_cons rfl (sub_cons rfl sub_nil)) some_nil
  intro j3 _ hp
  obtain rfl : j3 = y1 := hp.symm
  refine wq_then ?_
  refine wc_join (X := Unit) (fun _ => True) (fun _ => [(5, .int .i64 (bif j3 then (wr ((bif j1 then (wr (0 + 2)) else 0) + 2)) else (bif j1 then (wr (0 + 2)) else 0)))]) (fun _ => []) ?_ ?_
  · skip
    refine wc_cond rfl (fun h4 => ?_) fun h4 => ?_
    · skip
      refine wc_region ?_
      refine mv rfl rfl ?_
      refine wl_pure (po_add rfl rfl) rfl ?_
      refine asg rfl rfl ?_
      refine wl_nil ?_
      exact wq_meet () trivial (sub_i rfl (by simp only [h4, cond_true]) sub_nil) some_nil
    refine wc_skip ?_
    exact wq_meet () trivial (sub_i rfl (by simp only [h4, cond_false]) sub_nil) some_nil
  intro _ _
  refine wq_then ?_
  refine wcr ?_
  refine mv rfl rfl ?_
  refine asg rfl rfl ?_
  refine wnt ?_
  refine wc_ret ?_
  obtain rfl := Option.some.inj t0
  exact wq_ret1 rfl rfl fun w hw => ⟨rfl, hw.weak some_nil⟩

theorem c_impl_AreaOf (w : World) (a_b : GBlock) (v0a : Hd) (r0 : rdF w (dm w []) (sl v0a) a_b.Cells) (a_a : Int) {r : Int} (t0 : impl_AreaOf a_b a_a = some r) : Calls Try.prog 41 #[.agg #[.int .i64 a_b.Size, (sl v0a)], .int .i64 a_a] w fun e w' => e = .returned (.int .i64 r) ∧ SH w [] [] w' := by
  refine calls_of_wc (args := [_, _]) Try.func41 rfl Try.ntmps41 rfl ?_
  unfold impl_AreaOf at t0
  refine wcr ?_
  refine wl_eff (eo_box rfl rfl) rfl fun b1 => ?_
  refine asg rfl rfl ?_
  refine wnt ?_
  refine wc_seq ?_
  refine wcr ?_
  refine wl_pure (v := .agg #[.int .i64 a_b.Size, (sl v0a)]) (po_load_boxs tk_26 pick0 rfl rfl rfl) rfl ?_
  refine bdO t0 fun v1 hv1 t0 => ?_
  refine wl_call (co_c0 fa_39 rfl fun w hw => c_impl_BlockOk w a_b v0a (Rg.on (rds_arg r0) hw) hv1) rfl fun _ => ?_
  refine wl_pure (po_not rfl) rfl ?_
  refine wnt ?_
  refine wcO t0 rfl (fun h1 t0 => ?_) fun h1 t0 => ?_
  · skip
    refine wcr ?_
    refine asg rfl rfl ?_
    refine wnt ?_
    refine wc_ret ?_
    refine wq_then_ret ?_
    obtain rfl := Option.some.inj t0
    exact wq_ret1 rfl rfl fun w hw => ⟨rfl, hw.weak some_nil⟩
  refine wc_skip ?_
  refine wq_then ?_
  refine wcr ?_
  refine asg rfl rfl ?_
  refine wnt ?_
  refine wc_seq ?_
  refine wcr ?_
  refine wl_pure (po_fld fo_26_1 rfl) rfl ?_
  refine wl_pure (v := (sl v0a)) (po_load_box tk_24 pick0 rfl rfl) rfl ?_
  refine wl_pure (po_lenr (rds_arg r0) el_24 rfl) rfl ?_
  refine mv rfl rfl ?_
  refine wnt ?_
  refine gdO t0 fun g1 t0 => ?_
  refine lpO_inv t0 fun y1 l1 t0 => ?_
  refine wj (J := Int) (X := Unit) (fun z => y1 = z) (fun z _ => [(5, .int .i64 z)]) (fun _ _ => []) ?_ ?_
  · skip
    refine wc_block ?_
    refine wc_forO (X := Unit) l1 (fun k1 s1 x1l => [(1, .int .i64 a_a), (5, .int .i64 s1), (12, (sl v0a)), (13, .int .i64 ((a_b.Cells.length : Nat) : Int)), (14, .int .i64 ((k1 : Nat) : Int))]) (fun k1 s1 x1l => []) () (sub_cons rfl (sub_cons rfl (sub_cons rfl (sub_cons rfl (sub_cons rfl sub_nil))))) some_nil fun k1 s1 x1l hN1 l1 => ?_
    by_cases hk1 : k1 < a_b.Cells.length
    · skip
      refine forO_step l1 hk1 fun _ t1 l1 => ?_
      unfold impl_AreaOf_L1 at t1
      have c1 : (decide (((k1 : Nat) : Int) < ((a_b.Cells.length : Nat) : Int))) = true := decide_eq_true (by omega)
      refine wcr ?_
      refine wl_pure (po_lss rfl rfl) rfl ?_
      refine wnt ?_
      refine wc_seq ?_
      refine wc_cond_t rfl c1 ?_
      refine wc_skip ?_
      refine wq_then ?_
      refine wc_seq ?_
      refine wc_block ?_
      refine wcr ?_
      refine wl_pure (po_ixn (k := k1) (rds_arg r0) el_24 rfl rfl hk1) rfl ?_
      refine wl_pure (v := .agg #[.int .i64 ((gx a_b.Cells k1).Split), .int .i64 ((gx a_b.Cells k1).A), .int .i64 ((gx a_b.Cells k1).B)]) (po_ldfs (rds_arg r0) tk_33 rfl hk1 rfl rfl rfl) rfl ?_
      refine wl_eff (eo_alloc (cs := [.int .i64 0, .int .i64 0, .int .i64 0]) za_33) rfl fun b2 => ?_
      refine wl_skipop (so_box (cs' := [.int .i64 ((gx a_b.Cells k1).Split), .int .i64 ((gx a_b.Cells k1).A), .int .i64 ((gx a_b.Cells k1).B)]) tk_33 pick0 rfl rfl rfl rfl rfl rfl rfl) ?_
      refine wnt ?_
      refine wc_region ?_
      refine mv rfl rfl ?_
      refine wl_pure (v := .agg #[.int .i64 ((gx a_b.Cells k1).Split), .int .i64 ((gx a_b.Cells k1).A), .int .i64 ((gx a_b.Cells k1).B)]) (po_load_boxs tk_33 pick0 rfl rfl rfl) rfl ?_
      refine mv rfl rfl ?_
      refine bdO t1 fun v2 hv2 t1 => ?_
      refine wl_call (co_c0 fa_62 rfl fun w hw => c_impl_CellArea w (gx a_b.Cells k1) a_a hv2) rfl fun _ => ?_
      refine wl_pure (po_add rfl rfl) rfl ?_
      refine asg rfl rfl ?_
      refine wl_nil ?_
      refine wq_block ?_
      refine wq_then ?_
      refine wc_region ?_
      refine wl_pure (po_inc rfl rfl (by omega)) rfl ?_
      refine mv rfl rfl ?_
      refine wl_nil ?_
      exact wq_rnd hk1 (stpN l1 t1) () (sub_cons rfl (sub_cons rfl (sub_cons rfl (sub_cons rfl (sub_cons rfl sub_nil))))) some_nil
    have c1 : (decide (((k1 : Nat) : Int) < ((a_b.Cells.length : Nat) : Int))) = false := decide_eq_false (by omega)
    have en1 := forO_end l1 hk1
    refine wcr ?_
    refine wl_pure (po_lss rfl rfl) rfl ?_
    refine wnt ?_
    refine wc_seq ?_
    refine wc_cond_f rfl c1 ?_
    refine wc_exit ?_
    refine wq_then_exit ?_
    refine wq_then_exit ?_
    refine wq_block_exit ?_
    exact wj_meet _ () (Sum.inl.inj en1) (sub_cons rfl sub_nil) some_nil
  intro e1 _ hp
  obtain rfl : e1 = y1 := hp.symm
  refine wq_then ?_
  refine wcr ?_
  refine mv rfl rfl ?_
  refine asg rfl rfl ?_
  refine wnt ?_
  refine wc_ret ?_
  obtain rfl := Option.some.inj t0
  exact wq_ret1 rfl rfl fun w hw => ⟨rfl, hw.weak some_nil⟩

theorem c_impl_ColorsOf (w : World) (a_b : GBlock) (v0a : Hd) (r0 : rdF w (dm w []) (sl v0a) a_b.Cells) {r : List Int} (t0 : impl_ColorsOf a_b = some r) : Calls Try.prog 20 #[.agg #[.int .i64 a_b.Size, (sl v0a)]] w fun e w' => ∃ x : Hd, e = .returned ((sl x)) ∧ SH w [] [ownF (sl x) r] w' := by
  refine calls_of_wc (args := [_]) Try.func20 rfl Try.ntmps20 rfl ?_
  unfold impl_ColorsOf at t0
  refine wcr ?_
  refine wl_eff (eo_box rfl rfl) rfl fun b1 => ?_
  refine asg rfl rfl ?_
  refine wnt ?_
  refine wc_seq ?_
  refine wcr ?_
  refine wl_pure (v := .agg #[.int .i64 a_b.Size, (sl v0a)]) (po_load_boxs tk_26 pick0 rfl rfl rfl) rfl ?_
  refine bdO t0 fun v1 hv1 t0 => ?_
  refine wl_call (co_c0 fa_39 rfl fun w hw => c_impl_BlockOk w a_b v0a (Rg.on (rds_arg r0) hw) hv1) rfl fun _ => ?_
  refine wl_pure (po_not rfl) rfl ?_
  refine wnt ?_
  refine wcO t0 rfl (fun h1 t0 => ?_) fun h1 t0 => ?_
  · skip
    refine wcr ?_
    refine asg rfl rfl ?_
    refine wnt ?_
    refine wc_ret ?_
    refine wq_then_ret ?_
    obtain rfl := Option.some.inj t0
    exact wq_ret1 rfl rfl fun w hw => ⟨(⟨none, 0, 0⟩ : Hd), rfl, hw.weak (some_cons pick_nil some_nil)⟩
  refine wc_skip ?_
  refine wq_then ?_
  refine wcr ?_
  refine wl_eff (eo_buildSlice rfl sb_34_0) rfl fun b2 => ?_
  refine asg rfl rfl ?_
  refine wnt ?_
  refine wc_seq ?_
  refine wcr ?_
  refine mv rfl rfl ?_
  refine wnt ?_
  refine lpO_inv t0 fun y1 l1 t0 => ?_
  refine wj (J := List Int) (X := Hd) (fun z => y1 = z) (fun _ x => [(3, (sl x))]) (fun z x => [ownF (sl x) z]) ?_ ?_
  · skip
    refine wc_block ?_
    refine wc_forO (X := Hd) l1 (fun k1 s1 x1l => [(1, ptr b1 0), (3, (sl x1l)), (9, .int .i64 ((k1 : Nat) : Int))]) (fun k1 s1 x1l => [box b1 [.int .i64 a_b.Size, (sl v0a)], ownF (sl x1l) s1]) (⟨some ⟨b2, 0, none⟩, 0, 0⟩ : Hd) (sub_cons rfl (sub_cons rfl (sub_cons rfl sub_nil))) (some_cons (pickS pick0) (some_cons (pick_box_own pick0 (n := 0) (xs := ([] : List Int)) rfl rfl (by unfold maxLen; omega)) some_nil)) fun k1 s1 x1l hN1 l1 => ?_
    by_cases hk1 : k1 < 6
    · skip
      refine forO_step l1 hk1 fun _ t1 l1 => ?_
      unfold impl_ColorsOf_L1 at t1
      have c1 : (decide (((k1 : Nat) : Int) < 6)) = true := decide_eq_true (by omega)
      refine wcr ?_
      refine wl_pure (po_lss rfl rfl) rfl ?_
      refine wnt ?_
      refine wc_seq ?_
      refine wc_cond_t rfl c1 ?_
      refine wc_skip ?_
      refine wq_then ?_
      refine wc_seq ?_
      refine wc_block ?_
      refine wcr ?_
      refine mv rfl rfl ?_
      refine asg rfl rfl ?_
      refine wnt ?_
      refine wcr ?_
      refine wl_pure (v := .agg #[.int .i64 a_b.Size, (sl v0a)]) (po_load_boxs tk_26 pick0 rfl rfl rfl) rfl ?_
      refine mv rfl rfl ?_
      refine bdO t1 fun v2 hv2 t1 => ?_
      refine wl_call (co_c0 fa_41 rfl fun w hw => c_impl_AreaOf w a_b v0a (Rg.on (rds_arg r0) hw) ((k1 : Nat) : Int) hv2) rfl fun _ => ?_
      refine wl_pure (po_gtr rfl rfl) rfl ?_
      refine wnt ?_
      refine bdO t1 fun y2 t2 t1 => ?_
      refine wj (J := List Int) (X := Hd) (fun z => y2 = z) (fun _ x => [(1, ptr b1 0), (3, (sl x)), (9, .int .i64 ((k1 : Nat) : Int))]) (fun z x => [box b1 [.int .i64 a_b.Size, (sl v0a)], ownF (sl x) z]) ?_ ?_
      · skip
        refine wcO t2 rfl (fun h2 t2 => ?_) fun h2 t2 => ?_
        · skip
          refine wc_region ?_
          refine mv rfl rfl ?_
          refine mv rfl rfl ?_
          refine wl_eff (eo_buildSlice rfl (sb_34_1 ((k1 : Nat) : Int))) rfl fun b3 => ?_
          refine gdO t2 fun g1 t2 => ?_
          refine wl_eff (eo_append (xs := s1) (ys := ([((k1 : Nat) : Int)] : List Int)) ak_34 (pickS (pickS pick0)) rfl rfl (slin_rd fun _ g => Rg.on (rds_own (pick_box_own pick0 (n := 1) (xs := ([((k1 : Nat) : Int)] : List Int)) rfl rfl (by unfold maxLen; omega))) g) g1) rfl fun x3 => ?_
          refine asg rfl rfl ?_
          refine wl_nil ?_
          exact wj_meet _ x3 (mtE t2) (sub_cons rfl (sub_cons rfl (sub_cons rfl sub_nil))) (some_cons (pickS (pickS pick0)) (some_cons pick0 some_nil))
        refine wc_skip ?_
        exact wj_meet _ x1l (mtE t2) (sub_cons rfl (sub_cons rfl (sub_cons rfl sub_nil))) (some_cons pick0 (some_cons pick0 some_nil))
      intro j1 x2 hp
      obtain rfl : j1 = y2 := hp.symm
      refine wq_block ?_
      refine wq_then ?_
      refine wc_region ?_
      refine wl_pure (po_inc rfl rfl (by omega)) rfl ?_
      refine mv rfl rfl ?_
      refine wl_nil ?_
      exact wq_rnd hk1 (stpN l1 t1) x2 (sub_cons rfl (sub_cons rfl (sub_cons rfl sub_nil))) (some_cons pick0 (some_cons pick0 some_nil))
    have c1 : (decide (((k1 : Nat) : Int) < 6)) = false := decide_eq_false (by omega)
    have en1 := forO_end l1 hk1
    refine wcr ?_
    refine wl_pure (po_lss rfl rfl) rfl ?_
    refine wnt ?_
    refine wc_seq ?_
    refine wc_cond_f rfl c1 ?_
    refine wc_exit ?_
    refine wq_then_exit ?_
    refine wq_then_exit ?_
    refine wq_block_exit ?_
    exact wj_meet _ x1l (Sum.inl.inj en1) (sub_cons rfl sub_nil) (some_cons (pickS pick0) some_nil)
  intro e1 x1 hp
  obtain rfl : e1 = y1 := hp.symm
  refine wq_then ?_
  refine wcr ?_
  refine mv rfl rfl ?_
  refine asg rfl rfl ?_
  refine wnt ?_
  refine wc_ret ?_
  obtain rfl := Option.some.inj t0
  exact wq_ret1 rfl rfl fun w hw => ⟨x1, rfl, hw.weak (some_cons pick0 some_nil)⟩

theorem c_impl_choices (w : World) (a_n : Int) {r : Int} (t0 : impl_choices a_n = some r) : Calls Try.prog 42 #[.int .i64 a_n] w fun e w' => e = .returned (.int .i64 r) ∧ SH w [] [] w' := by
  refine calls_of_wc (args := [_]) Try.func42 rfl Try.ntmps42 rfl ?_
  unfold impl_choices at t0
  refine wcr ?_
  refine asg rfl rfl ?_
  refine wnt ?_
  refine wcr ?_
  refine asg rfl rfl ?_
  refine wnt ?_
  refine wc_seq ?_
  refine wcr ?_
  refine mv rfl rfl ?_
  refine mv rfl rfl ?_
  refine wnt ?_
  refine gdO t0 fun g1 t0 => ?_
  refine lpO_inv t0 fun y1 l1 t0 => ?_
  refine wj (J := Int) (X := Unit) (fun z => y1 = z) (fun z _ => [(3, .int .i64 z)]) (fun _ _ => []) ?_ ?_
  · skip
    refine wc_block ?_
    refine wc_forO (X := Unit) l1 (fun k1 s1 x1l => [(3, .int .i64 s1), (5, .int .i64 a_n), (6, .int .i64 ((k1 : Nat) : Int))]) (fun k1 s1 x1l => []) () (sub_cons rfl (sub_cons rfl (sub_cons rfl sub_nil))) some_nil fun k1 s1 x1l hN1 l1 => ?_
    by_cases hk1 : k1 < (a_n).toNat
    · skip
      refine forO_step l1 hk1 fun _ t1 l1 => ?_
      unfold impl_choices_L1 at t1
      have c1 : (decide (((k1 : Nat) : Int) < a_n)) = true := decide_eq_true (by omega)
      refine wcr ?_
      refine wl_pure (po_lss rfl rfl) rfl ?_
      refine wnt ?_
      refine wc_seq ?_
      refine wc_cond_t rfl c1 ?_
      refine wc_skip ?_
      refine wq_then ?_
      refine wc_seq ?_
      refine wc_block ?_
      refine wcr ?_
      refine mv rfl rfl ?_
      refine asg rfl rfl ?_
      refine wnt ?_
      refine wc_region ?_
      refine mv rfl rfl ?_
      refine mv rfl rfl ?_
      refine wl_pure (po_sub rfl rfl) rfl ?_
      refine wl_pure (po_mul rfl rfl) rfl ?_
      refine asg rfl rfl ?_
      refine wl_nil ?_
      refine wq_block ?_
      refine wq_then ?_
      refine wc_region ?_
      refine wl_pure (po_inc rfl rfl (by omega)) rfl ?_
      refine mv rfl rfl ?_
      refine wl_nil ?_
      exact wq_rnd hk1 (stpN l1 t1) () (sub_cons rfl (sub_cons rfl (sub_cons rfl sub_nil))) some_nil
    have c1 : (decide (((k1 : Nat) : Int) < a_n)) = false := decide_eq_false (by omega)
    have en1 := forO_end l1 hk1
    refine wcr ?_
    refine wl_pure (po_lss rfl rfl) rfl ?_
    refine wnt ?_
    refine wc_seq ?_
    refine wc_cond_f rfl c1 ?_
    refine wc_exit ?_
    refine wq_then_exit ?_
    refine wq_then_exit ?_
    refine wq_block_exit ?_
    exact wj_meet _ () (Sum.inl.inj en1) (sub_cons rfl sub_nil) some_nil
  intro e1 _ hp
  obtain rfl : e1 = y1 := hp.symm
  refine wq_then ?_
  refine wcr ?_
  refine mv rfl rfl ?_
  refine asg rfl rfl ?_
  refine wnt ?_
  refine wc_ret ?_
  obtain rfl := Option.some.inj t0
  exact wq_ret1 rfl rfl fun w hw => ⟨rfl, hw.weak some_nil⟩

theorem c_impl_ColorwayCount (w : World) (a_b : GBlock) (v0a : Hd) (r0 : rdF w (dm w []) (sl v0a) a_b.Cells) {r : Int} (t0 : impl_ColorwayCount a_b = some r) : Calls Try.prog 21 #[.agg #[.int .i64 a_b.Size, (sl v0a)]] w fun e w' => e = .returned (.int .i64 r) ∧ SH w [] [] w' := by
  refine calls_of_wc (args := [_]) Try.func21 rfl Try.ntmps21 rfl ?_
  unfold impl_ColorwayCount at t0
  refine wcr ?_
  refine wl_eff (eo_box rfl rfl) rfl fun b1 => ?_
  refine asg rfl rfl ?_
  refine wnt ?_
  refine wc_seq ?_
  refine wcr ?_
  refine wl_pure (v := .agg #[.int .i64 a_b.Size, (sl v0a)]) (po_load_boxs tk_26 pick0 rfl rfl rfl) rfl ?_
  refine bdO t0 fun v1 hv1 t0 => ?_
  refine wl_call (co_c0 fa_39 rfl fun w hw => c_impl_BlockOk w a_b v0a (Rg.on (rds_arg r0) hw) hv1) rfl fun _ => ?_
  refine wl_pure (po_not rfl) rfl ?_
  refine wnt ?_
  refine wcO t0 rfl (fun h1 t0 => ?_) fun h1 t0 => ?_
  · skip
    refine wcr ?_
    refine asg rfl rfl ?_
    refine wnt ?_
    refine wc_ret ?_
    refine wq_then_ret ?_
    obtain rfl := Option.some.inj t0
    exact wq_ret1 rfl rfl fun w hw => ⟨rfl, hw.weak some_nil⟩
  refine wc_skip ?_
  refine wq_then ?_
  refine wcr ?_
  refine wl_pure (v := .agg #[.int .i64 a_b.Size, (sl v0a)]) (po_load_boxs tk_26 pick0 rfl rfl rfl) rfl ?_
  refine bdO t0 fun v2 hv2 t0 => ?_
  refine wl_call (co_c1 fa_20 rfl fun w hw => c_impl_ColorsOf w a_b v0a (Rg.on (rds_arg r0) hw) hv2) rfl fun x1 => ?_
  refine wl_pure (po_lenr (rds_own pick0) el_34 rfl) rfl ?_
  refine bdO t0 fun v3 hv3 t0 => ?_
  refine wl_call (co_c0 fa_42 rfl fun w hw => c_impl_choices w ((v2.length : Nat) : Int) hv3) rfl fun _ => ?_
  refine asg rfl rfl ?_
  refine wnt ?_
  refine wc_ret ?_
  obtain rfl := Option.some.inj t0
  exact wq_ret1 rfl rfl fun w hw => ⟨rfl, hw.weak some_nil⟩

theorem c_impl_upTo (w : World) (a_n : Int) {r : List Int} (t0 : impl_upTo a_n = some r) : Calls Try.prog 44 #[.int .i64 a_n] w fun e w' => ∃ x : Hd, e = .returned ((sl x)) ∧ SH w [] [ownF (sl x) r] w' := by
  refine calls_of_wc (args := [_]) Try.func44 rfl Try.ntmps44 rfl ?_
  unfold impl_upTo at t0
  refine wcr ?_
  refine asg rfl rfl ?_
  refine wnt ?_
  refine wcr ?_
  refine wl_eff (eo_buildSlice rfl sb_34_0) rfl fun b1 => ?_
  refine asg rfl rfl ?_
  refine wnt ?_
  refine wc_seq ?_
  refine wcr ?_
  refine mv rfl rfl ?_
  refine mv rfl rfl ?_
  refine wnt ?_
  refine gdO t0 fun g1 t0 => ?_
  refine lpO_inv t0 fun y1 l1 t0 => ?_
  refine wj (J := List Int) (X := Hd) (fun z => y1 = z) (fun _ x => [(3, (sl x))]) (fun z x => [ownF (sl x) z]) ?_ ?_
  · skip
    refine wc_block ?_
    refine wc_forO (X := Hd) l1 (fun k1 s1 x1l => [(3, (sl x1l)), (6, .int .i64 a_n), (7, .int .i64 ((k1 : Nat) : Int))]) (fun k1 s1 x1l => [ownF (sl x1l) s1]) (⟨some ⟨b1, 0, none⟩, 0, 0⟩ : Hd) (sub_cons rfl (sub_cons rfl (sub_cons rfl sub_nil))) (some_cons (pick_box_own pick0 (n := 0) (xs := ([] : List Int)) rfl rfl (by unfold maxLen; omega)) some_nil) fun k1 s1 x1l hN1 l1 => ?_
    by_cases hk1 : k1 < (a_n).toNat
    · skip
      refine forO_step l1 hk1 fun _ t1 l1 => ?_
      unfold impl_upTo_L1 at t1
      have c1 : (decide (((k1 : Nat) : Int) < a_n)) = true := decide_eq_true (by omega)
      refine wcr ?_
      refine wl_pure (po_lss rfl rfl) rfl ?_
      refine wnt ?_
      refine wc_seq ?_
      refine wc_cond_t rfl c1 ?_
      refine wc_skip ?_
      refine wq_then ?_
      refine wc_seq ?_
      refine wc_block ?_
      refine wcr ?_
      refine mv rfl rfl ?_
      refine asg rfl rfl ?_
      refine wnt ?_
      refine wc_region ?_
      refine mv rfl rfl ?_
      refine mv rfl rfl ?_
      refine wl_eff (eo_buildSlice rfl (sb_34_1 ((k1 : Nat) : Int))) rfl fun b2 => ?_
      refine gdO t1 fun g2 t1 => ?_
      refine wl_eff (eo_append (xs := s1) (ys := ([((k1 : Nat) : Int)] : List Int)) ak_34 (pickS pick0) rfl rfl (slin_rd fun _ g => Rg.on (rds_own (pick_box_own pick0 (n := 1) (xs := ([((k1 : Nat) : Int)] : List Int)) rfl rfl (by unfold maxLen; omega))) g) g2) rfl fun x2 => ?_
      refine asg rfl rfl ?_
      refine wl_nil ?_
      refine wq_block ?_
      refine wq_then ?_
      refine wc_region ?_
      refine wl_pure (po_inc rfl rfl (by omega)) rfl ?_
      refine mv rfl rfl ?_
      refine wl_nil ?_
      exact wq_rnd hk1 (stpN l1 t1) x2 (sub_cons rfl (sub_cons rfl (sub_cons rfl sub_nil))) (some_cons pick0 some_nil)
    have c1 : (decide (((k1 : Nat) : Int) < a_n)) = false := decide_eq_false (by omega)
    have en1 := forO_end l1 hk1
    refine wcr ?_
    refine wl_pure (po_lss rfl rfl) rfl ?_
    refine wnt ?_
    refine wc_seq ?_
    refine wc_cond_f rfl c1 ?_
    refine wc_exit ?_
    refine wq_then_exit ?_
    refine wq_then_exit ?_
    refine wq_block_exit ?_
    exact wj_meet _ x1l (Sum.inl.inj en1) (sub_cons rfl sub_nil) (some_cons pick0 some_nil)
  intro e1 x1 hp
  obtain rfl : e1 = y1 := hp.symm
  refine wq_then ?_
  refine wcr ?_
  refine mv rfl rfl ?_
  refine asg rfl rfl ?_
  refine wnt ?_
  refine wc_ret ?_
  obtain rfl := Option.some.inj t0
  exact wq_ret1 rfl rfl fun w hw => ⟨x1, rfl, hw.weak (some_cons pick0 some_nil)⟩

theorem c_impl_allWithin (w : World) (a_list : List Int) (v0a : Hd) (r0 : rdF w (dm w []) (sl v0a) a_list) (a_a : Int) (a_b : Int) {r : Bool} (t0 : impl_allWithin a_list a_a a_b = some r) : Calls Try.prog 77 #[(sl v0a), .int .i64 a_a, .int .i64 a_b] w fun e w' => e = .returned (.bool r) ∧ SH w [] [] w' := by
  refine calls_of_wc (args := [_, _, _]) Try.func77 rfl Try.ntmps77 rfl ?_
  unfold impl_allWithin at t0
  refine wcr ?_
  refine asg rfl rfl ?_
  refine wnt ?_
  refine wc_seq ?_
  refine wcr ?_
  refine mv rfl rfl ?_
  refine wl_pure (po_lenr (rds_arg r0) el_34 rfl) rfl ?_
  refine mv rfl rfl ?_
  refine wnt ?_
  refine gdO t0 fun g1 t0 => ?_
  refine sqO t0 fun y1 l1 t0 => ?_
  refine wj (J := Unit) (X := Unit) (fun z => y1 = .inl z) (fun _ _ => []) (fun _ _ => []) ?_ ?_
  · skip
    refine wc_block ?_
    refine wc_forO (X := Unit) l1 (fun k1 s1 x1l => [(1, .int .i64 a_a), (2, .int .i64 a_b), (9, (sl v0a)), (10, .int .i64 ((a_list.length : Nat) : Int)), (11, .int .i64 ((k1 : Nat) : Int))]) (fun k1 s1 x1l => []) () (sub_cons rfl (sub_cons rfl (sub_cons rfl (sub_cons rfl (sub_cons rfl sub_nil))))) some_nil fun k1 s1 x1l hN1 l1 => ?_
    by_cases hk1 : k1 < a_list.length
    · skip
      refine forO_step l1 hk1 fun _ t1 l1 => ?_
      unfold impl_allWithin_L1 at t1
      have c1 : (decide (((k1 : Nat) : Int) < ((a_list.length : Nat) : Int))) = true := decide_eq_true (by omega)
      refine wcr ?_
      refine wl_pure (po_lss rfl rfl) rfl ?_
      refine wnt ?_
      refine wc_seq ?_
      refine wc_cond_t rfl c1 ?_
      refine wc_skip ?_
      refine wq_then ?_
      refine wc_seq ?_
      refine wc_block ?_
      refine wcr ?_
      refine wl_pure (po_ixn (k := k1) (rds_arg r0) el_34 rfl rfl hk1) rfl ?_
      refine wl_pure (v := .int .i64 (gx a_list k1)) (po_ldf (rds_arg r0) tk_3 rfl hk1 rfl) rfl ?_
      refine asg rfl rfl ?_
      refine wnt ?_
      refine wcr ?_
      refine mv rfl rfl ?_
      refine mv rfl rfl ?_
      refine mv rfl rfl ?_
      refine bdO t1 fun v1 hv1 t1 => ?_
      refine wl_call (co_c0 fa_43 rfl fun w hw => c_impl_within w (gx a_list k1) a_a a_b hv1) rfl fun _ => ?_
      refine wl_pure (po_not rfl) rfl ?_
      refine wnt ?_
      refine wcO t1 rfl (fun h1 t1 => ?_) fun h1 t1 => ?_
      · skip
        refine wcr ?_
        refine asg rfl rfl ?_
        refine wnt ?_
        refine wc_ret ?_
        refine wq_block_ret ?_
        refine wq_then_ret ?_
        refine wq_then_ret ?_
        refine wq_block_ret ?_
        refine wq_then_ret ?_
        refine wq_then_ret ?_
        replace t0 := lpR t0 l1 t1
        obtain rfl := Option.some.inj t0
        exact wq_ret1 rfl rfl fun w hw => ⟨rfl, hw.weak some_nil⟩
      refine wc_skip ?_
      refine wq_block ?_
      refine wq_then ?_
      refine wc_region ?_
      refine wl_pure (po_inc rfl rfl (by omega)) rfl ?_
      refine mv rfl rfl ?_
      refine wl_nil ?_
      exact wq_rnd hk1 (stpN l1 t1) () (sub_cons rfl (sub_cons rfl (sub_cons rfl (sub_cons rfl (sub_cons rfl sub_nil))))) some_nil
    have c1 : (decide (((k1 : Nat) : Int) < ((a_list.length : Nat) : Int))) = false := decide_eq_false (by omega)
    have en1 := forO_end l1 hk1
    refine wcr ?_
    refine wl_pure (po_lss rfl rfl) rfl ?_
    refine wnt ?_
    refine wc_seq ?_
    refine wc_cond_f rfl c1 ?_
    refine wc_exit ?_
    refine wq_then_exit ?_
    refine wq_then_exit ?_
    refine wq_block_exit ?_
    exact wj_meet _ () en1 sub_nil some_nil
  intro e1 _ hp
  replace t0 := sqE (j := e1) t0 hp
  refine wq_then ?_
  refine wcr ?_
  refine asg rfl rfl ?_
  refine wnt ?_
  refine wc_ret ?_
  obtain rfl := Option.some.inj t0
  exact wq_ret1 rfl rfl fun w hw => ⟨rfl, hw.weak some_nil⟩

theorem c_impl_ListOk (w : World) (a_l : List Int) (v0a : Hd) (r0 : rdF w (dm w []) (sl v0a) a_l) {r : Bool} (t0 : impl_ListOk a_l = some r) : Calls Try.prog 63 #[(sl v0a)] w fun e w' => e = .returned (.bool r) ∧ SH w [] [] w' := by
  refine calls_of_wc (args := [_]) Try.func63 rfl Try.ntmps63 rfl ?_
  unfold impl_ListOk at t0
  refine wcr ?_
  refine asg rfl rfl ?_
  refine wnt ?_
  refine wc_seq ?_
  refine bdO t0 fun y1 t1 t0 => ?_
  refine wj (J := Bool) (X := Unit) (fun z => y1 = z) (fun z _ => [(2, .bool z)]) (fun _ _ => []) ?_ ?_
  · skip
    refine wc_region ?_
    refine mv rfl rfl ?_
    refine wl_pure (po_lenr (rds_arg r0) el_34 rfl) rfl ?_
    refine wl_pure (po_eql rfl rfl) rfl ?_
    refine mv rfl rfl ?_
    refine wlO_ (t := 6) t1 rfl (fun h1 t1 => ?_) fun h1 t1 => ?_
    · skip
      refine wl_guard_on (j := 3) rfl rfl rfl (mv rfl rfl ?_)
      refine bdO t1 fun v1 hv1 t1 => ?_
      refine wl_guard_on (j := 3) rfl rfl rfl (wl_call (co_c0 fa_77 rfl fun w hw => c_impl_allWithin w a_l v0a (Rg.on (rds_arg r0) hw) 0 5 hv1) rfl (fun _ => ?_))
      refine wl_pure (po_pick_t rfl rfl) rfl ?_
      refine asg rfl rfl ?_
      refine wl_nil ?_
      exact wj_meet _ () (mtE t1) (sub_cons rfl sub_nil) some_nil
    refine wl_guard_off (j := 3) rfl rfl rfl rfl rfl ?_
    refine wl_guard_off (j := 3) rfl rfl rfl rfl rfl ?_
    refine wl_pure (po_pick_f rfl rfl) rfl ?_
    refine asg rfl rfl ?_
    refine wl_nil ?_
    exact wj_meet _ () (mtE t1) (sub_cons rfl sub_nil) some_nil
  intro j1 _ hp
  obtain rfl : j1 = y1 := hp.symm
  refine wq_then ?_
  refine wc_ret ?_
  obtain rfl := Option.some.inj t0
  exact wq_ret1 rfl rfl fun w hw => ⟨rfl, hw.weak some_nil⟩

theorem c_impl_WholeCell (w : World) (a_a : Int) {r : GCell} (t0 : impl_WholeCell a_a = some r) : Calls Try.prog 81 #[.int .i64 a_a] w fun e w' => e = .returned (.agg #[.int .i64 r.Split, .int .i64 r.A, .int .i64 r.B]) ∧ SH w [] [] w' := by
  refine calls_of_wc (args := [_]) Try.func81 rfl Try.ntmps81 rfl ?_
  unfold impl_WholeCell at t0
  refine wcr ?_
  refine wl_eff (eo_alloc (cs := [.int .i64 0, .int .i64 0, .int .i64 0]) za_33) rfl fun b1 => ?_
  refine wnt ?_
  refine wc_seq ?_
  refine wcr ?_
  refine mv rfl rfl ?_
  refine bdO t0 fun v1 hv1 t0 => ?_
  refine wl_call (co_c0 fa_46 rfl fun w hw => c_impl_isColor w a_a hv1) rfl fun _ => ?_
  refine wl_pure (po_not rfl) rfl ?_
  refine wnt ?_
  refine wcO t0 rfl (fun h1 t0 => ?_) fun h1 t0 => ?_
  · skip
    refine wcr ?_
    refine wl_pure (po_build rfl bd_33) rfl ?_
    refine wl_skipop (so_box (cs' := [.int .i64 0, .int .i64 0, .int .i64 0]) tk_33 pick0 rfl rfl rfl rfl rfl rfl rfl) ?_
    refine wnt ?_
    refine wc_ret ?_
    refine wq_then_ret ?_
    obtain rfl := Option.some.inj t0
    exact wq_retc rfl tk_33 rfl pick0 rfl fun w hw => ⟨rfl, hw.weak some_nil⟩
  refine wc_skip ?_
  refine wq_then ?_
  refine wcr ?_
  refine mv rfl rfl ?_
  refine mv rfl rfl ?_
  refine wl_pure (po_build rfl (bd_33_1_2 a_a a_a)) rfl ?_
  refine wl_skipop (so_box (cs' := [.int .i64 0, .int .i64 a_a, .int .i64 a_a]) tk_33 pick0 rfl rfl rfl rfl rfl rfl rfl) ?_
  refine wnt ?_
  refine wc_ret ?_
  obtain rfl := Option.some.inj t0
  exact wq_retc rfl tk_33 rfl pick0 rfl fun w hw => ⟨rfl, hw.weak some_nil⟩

theorem c_impl_SplitCell (w : World) (a_split : Int) (a_a : Int) (a_b : Int) {r : GCell} (t0 : impl_SplitCell a_split a_a a_b = some r) : Calls Try.prog 78 #[.int .i64 a_split, .int .i64 a_a, .int .i64 a_b] w fun e w' => e = .returned (.agg #[.int .i64 r.Split, .int .i64 r.A, .int .i64 r.B]) ∧ SH w [] [] w' := by
  refine calls_of_wc (args := [_, _, _]) Try.func78 rfl Try.ntmps78 rfl ?_
  unfold impl_SplitCell at t0
  refine wcr ?_
  refine wl_eff (eo_alloc (cs := [.int .i64 0, .int .i64 0, .int .i64 0]) za_33) rfl fun b1 => ?_
  refine wnt ?_
  refine wc_seq ?_
  refine wcr ?_
  refine mv rfl rfl ?_
  refine mv rfl rfl ?_
  refine wl_pure (po_eql rfl rfl) rfl ?_
  refine wnt ?_
  refine wcO t0 rfl (fun h1 t0 => ?_) fun h1 t0 => ?_
  · skip
    refine wcr ?_
    refine mv rfl rfl ?_
    refine bdO t0 fun v1 hv1 t0 => ?_
    refine wl_call (co_c0 fa_81 rfl fun w hw => c_impl_WholeCell w a_a hv1) rfl fun _ => ?_
    refine wl_skipop (so_box (cs' := [.int .i64 v1.Split, .int .i64 v1.A, .int .i64 v1.B]) tk_33 pick0 rfl rfl rfl rfl rfl rfl rfl) ?_
    refine wnt ?_
    refine wc_ret ?_
    refine wq_then_ret ?_
    obtain rfl := Option.some.inj t0
    exact wq_retc rfl tk_33 rfl pick0 rfl fun w hw => ⟨rfl, hw.weak some_nil⟩
  refine wc_skip ?_
  refine wq_then ?_
  refine wcr ?_
  refine mv rfl rfl ?_
  refine mv rfl rfl ?_
  refine mv rfl rfl ?_
  refine wl_pure (po_build rfl (bd_33_0_1_2 a_split a_a a_b)) rfl ?_
  refine wl_eff (eo_alloc (cs := [.int .i64 0, .int .i64 0, .int .i64 0]) za_33) rfl fun b2 => ?_
  refine wl_skipop (so_box (cs' := [.int .i64 a_split, .int .i64 a_a, .int .i64 a_b]) tk_33 pick0 rfl rfl rfl rfl rfl rfl rfl) ?_
  refine wnt ?_
  refine wc_seq ?_
  refine wcr ?_
  refine wl_pure (v := .agg #[.int .i64 a_split, .int .i64 a_a, .int .i64 a_b]) (po_load_boxs tk_33 pick0 rfl rfl rfl) rfl ?_
  refine bdO t0 fun v2 hv2 t0 => ?_
  refine wl_call (co_c0 fa_25 rfl fun w hw => c_impl_CellOk w (GCell.mk a_split a_a a_b) hv2) rfl fun _ => ?_
  refine wl_pure (po_not rfl) rfl ?_
  refine wnt ?_
  refine wcO t0 rfl (fun h2 t0 => ?_) fun h2 t0 => ?_
  · skip
    refine wcr ?_
    refine wl_pure (po_build rfl bd_33) rfl ?_
    refine wl_skipop (so_box (cs' := [.int .i64 0, .int .i64 0, .int .i64 0]) tk_33 (pickS pick0) rfl rfl rfl rfl rfl rfl rfl) ?_
    refine wnt ?_
    refine wc_ret ?_
    refine wq_then_ret ?_
    obtain rfl := Option.some.inj t0
    exact wq_retc rfl tk_33 rfl pick0 rfl fun w hw => ⟨rfl, hw.weak some_nil⟩
  refine wc_skip ?_
  refine wq_then ?_
  refine wcr ?_
  refine wl_pure (v := .agg #[.int .i64 a_split, .int .i64 a_a, .int .i64 a_b]) (po_load_boxs tk_33 pick0 rfl rfl rfl) rfl ?_
  refine wl_skipop (so_box (cs' := [.int .i64 a_split, .int .i64 a_a, .int .i64 a_b]) tk_33 (pickS pick0) rfl rfl rfl rfl rfl rfl rfl) ?_
  refine wnt ?_
  refine wc_ret ?_
  obtain rfl := Option.some.inj t0
  exact wq_retc rfl tk_33 rfl pick0 rfl fun w hw => ⟨rfl, hw.weak some_nil⟩

theorem c_impl_ExchangeCell (w : World) (a_c : GCell) (a_l : List Int) (v0a : Hd) (r0 : rdF w (dm w []) (sl v0a) a_l) {r : GCell} (t0 : impl_ExchangeCell a_c a_l = some r) : Calls Try.prog 66 #[.agg #[.int .i64 a_c.Split, .int .i64 a_c.A, .int .i64 a_c.B], (sl v0a)] w fun e w' => e = .returned (.agg #[.int .i64 r.Split, .int .i64 r.A, .int .i64 r.B]) ∧ SH w [] [] w' := by
  refine calls_of_wc (args := [_, _]) Try.func66 rfl Try.ntmps66 rfl ?_
  unfold impl_ExchangeCell at t0
  refine wcr ?_
  refine wl_eff (eo_box rfl rfl) rfl fun b1 => ?_
  refine wl_eff (eo_alloc (cs := [.int .i64 0, .int .i64 0, .int .i64 0]) za_33) rfl fun b2 => ?_
  refine wnt ?_
  refine wc_seq ?_
  refine wc_seq ?_
  refine bdO t0 fun y1 t1 t0 => ?_
  refine wj (J := Bool) (X := Unit) (fun z => y1 = z) (fun z _ => [(1, (sl v0a)), (2, ptr b1 0), (4, ptr b2 0), (12, .bool z)]) (fun _ _ => [box b2 [.int .i64 0, .int .i64 0, .int .i64 0], box b1 [.int .i64 a_c.Split, .int .i64 a_c.A, .int .i64 a_c.B]]) ?_ ?_
  · skip
    refine wc_region ?_
    refine wl_pure (v := .agg #[.int .i64 a_c.Split, .int .i64 a_c.A, .int .i64 a_c.B]) (po_load_boxs tk_33 (pickS pick0) rfl rfl rfl) rfl ?_
    refine bdO t1 fun v1 hv1 t1 => ?_
    refine wl_call (co_c0 fa_25 rfl fun w hw => c_impl_CellOk w a_c hv1) rfl fun _ => ?_
    refine wl_pure (po_not rfl) rfl ?_
    refine mv rfl rfl ?_
    refine wlO_ (t := 8) t1 rfl (fun h1 t1 => ?_) fun h1 t1 => ?_
    · skip
      refine wl_guard_off (j := 3) rfl rfl rfl rfl rfl ?_
      refine wl_guard_off (j := 3) rfl rfl rfl rfl rfl ?_
      refine wl_guard_off (j := 3) rfl rfl rfl rfl rfl ?_
      refine wl_pure (po_pick_t rfl rfl) rfl ?_
      refine wl_nil ?_
      exact wj_meet _ () (mtE t1) (sub_cons rfl (sub_cons rfl (sub_cons rfl (sub_cons rfl sub_nil)))) (some_cons pick0 (some_cons pick0 some_nil))
    refine wl_guard_on (j := 3) rfl rfl rfl (mv rfl rfl ?_)
    refine bdO t1 fun v2 hv2 t1 => ?_
    refine wl_guard_on (j := 3) rfl rfl rfl (wl_call (co_c0 fa_63 rfl fun w hw => c_impl_ListOk w a_l v0a (Rg.on (rds_arg r0) hw) hv2) rfl (fun _ => ?_))
    refine wl_guard_on (j := 3) rfl rfl rfl (wl_pure (po_not rfl) rfl ?_)
    refine wl_pure (po_pick_f rfl rfl) rfl ?_
    refine wl_nil ?_
    exact wj_meet _ () (mtE t1) (sub_cons rfl (sub_cons rfl (sub_cons rfl (sub_cons rfl sub_nil)))) (some_cons pick0 (some_cons pick0 some_nil))
  intro j1 _ hp
  obtain rfl : j1 = y1 := hp.symm
  refine wq_then ?_
  refine wcO t0 rfl (fun h2 t0 => ?_) fun h2 t0 => ?_
  · skip
    refine wcr ?_
    refine wl_pure (po_build rfl bd_33) rfl ?_
    refine wl_skipop (so_box (cs' := [.int .i64 0, .int .i64 0, .int .i64 0]) tk_33 pick0 rfl rfl rfl rfl rfl rfl rfl) ?_
    refine wnt ?_
    refine wc_ret ?_
    refine wq_then_ret ?_
    obtain rfl := Option.some.inj t0
    exact wq_retc rfl tk_33 rfl pick0 rfl fun w hw => ⟨rfl, hw.weak some_nil⟩
  refine wc_skip ?_
  refine wq_then ?_
  refine wc_seq ?_
  refine wc_draw [box b2 [.int .i64 0, .int .i64 0, .int .i64 0], box b1 [.int .i64 a_c.Split, .int .i64 a_c.A, .int .i64 a_c.B]] 13 mixed ?_
  refine wa_pure 0 rfl (po_fld fo_33_0 rfl) (some_cons pick0 (some_cons pick0 some_nil)) rfl (by kernel_rfl) (fun _ _ _ h => h) ?_
  refine wa_pure (v := .int .i64 a_c.Split) 1 rfl (po_load_box tk_3 (pickS pick0) rfl rfl) (some_cons pick0 (some_cons pick0 some_nil)) rfl (by kernel_rfl) (fun _ _ _ h => h) ?_
  refine wa_pure 2 rfl (po_move rfl) (some_cons pick0 (some_cons pick0 some_nil)) rfl (by kernel_rfl) (fun _ _ _ h => h) ?_
  refine wa_pure 3 rfl (po_fld fo_33_1 rfl) (some_cons pick0 (some_cons pick0 some_nil)) rfl (by kernel_rfl) (fun _ _ _ h => h) ?_
  refine wa_pure (v := .int .i64 a_c.A) 4 rfl (po_load_box tk_3 (pickS pick0) rfl rfl) (some_cons pick0 (some_cons pick0 some_nil)) rfl (by kernel_rfl) (fun _ _ _ h => h) ?_
  refine gdO t0 fun g1 t0 => ?_
  refine wa_pure 5 rfl (po_ixr (rds_arg r0) el_34 rfl rfl g1.1 g1.2) (some_cons pick0 (some_cons pick0 some_nil)) rfl (by kernel_rfl) (fun _ _ _ h => h) ?_
  refine wa_pure (v := .int .i64 (gx a_l ((a_c.A).toNat))) 6 rfl (po_ldf (rds_arg r0) tk_3 rfl (ix_lt g1) rfl) (some_cons pick0 (some_cons pick0 some_nil)) rfl (by kernel_rfl) (fun _ _ _ h => h) ?_
  refine wa_pure 7 rfl (po_move rfl) (some_cons pick0 (some_cons pick0 some_nil)) rfl (by kernel_rfl) (fun _ _ _ h => h) ?_
  refine wa_pure 8 rfl (po_fld fo_33_2 rfl) (some_cons pick0 (some_cons pick0 some_nil)) rfl (by kernel_rfl) (fun _ _ _ h => h) ?_
  refine wa_pure (v := .int .i64 a_c.B) 9 rfl (po_load_box tk_3 (pickS pick0) rfl rfl) (some_cons pick0 (some_cons pick0 some_nil)) rfl (by kernel_rfl) (fun _ _ _ h => h) ?_
  refine gdO t0 fun g2 t0 => ?_
  refine wa_pure 10 rfl (po_ixr (rds_arg r0) el_34 rfl rfl g2.1 g2.2) (some_cons pick0 (some_cons pick0 some_nil)) rfl (by kernel_rfl) (fun _ _ _ h => h) ?_
  refine wa_pure (v := .int .i64 (gx a_l ((a_c.B).toNat))) 11 rfl (po_ldf (rds_arg r0) tk_3 rfl (ix_lt g2) rfl) (some_cons pick0 (some_cons pick0 some_nil)) rfl (by kernel_rfl) (fun _ _ _ h => h) ?_
  refine wa_1 (i := 12) (by kernel_rfl) ?_
  refine bdO t0 fun v3 hv3 t0 => ?_
  refine ws_call rfl (co_c0 fa_78 rfl fun w hw => c_impl_SplitCell w a_c.Split (gx a_l ((a_c.A).toNat)) (gx a_l ((a_c.B).toNat)) hv3) (fun _ => (sts_some (some_cons pick0 (some_cons pick0 some_nil)))) rfl fun _ => ?_
  refine wa_1 (i := 13) (by kernel_rfl) ?_
  refine ws_skipop rfl (so_box (cs' := [.int .i64 v3.Split, .int .i64 v3.A, .int .i64 v3.B]) tk_33 pick0 rfl rfl rfl rfl rfl rfl rfl) (sts_past (by kernel_rfl)) ?_
  refine wa_done (by kernel_rfl) ?_
  refine wq_then ?_
  refine wc_ret ?_
  obtain rfl := Option.some.inj t0
  exact wq_retc rfl tk_33 rfl pick0 rfl fun w hw => ⟨rfl, hw.weak some_nil⟩

theorem c_impl_ExchangeBlock_c1 (w : World) (a_x : Int) (a_y : Int) (c_p2 : GBlock) (v0a : Hd) (r0 : rdF w (dm w []) (sl v0a) c_p2.Cells) (b2c : Nat) (q2 : Bx w b2c [.int .i64 c_p2.Size, (sl v0a)]) (c_p3 : List Int) (v1a : Hd) (r1 : rdF w (dm w []) (sl v1a) c_p3) (b3c : Nat) (q3 : Bx w b3c [(sl v1a)]) {r : GCell} (t0 : impl_ExchangeBlock_c1 a_x a_y c_p2 c_p3 = some r) : Calls Try.prog 65 #[.int .i64 a_x, .int .i64 a_y, ptr b2c 0, ptr b3c 0] w fun e w' => e = .returned (.agg #[.int .i64 r.Split, .int .i64 r.A, .int .i64 r.B]) ∧ SH w [] [] w' := by
  refine calls_of_wc (args := [_, _, _, _]) Try.func65 rfl Try.ntmps65 rfl ?_
  unfold impl_ExchangeBlock_c1 at t0
  refine wcr ?_
  refine wl_eff (eo_alloc (cs := [.int .i64 0, .int .i64 0, .int .i64 0]) za_33) rfl fun b1 => ?_
  refine wnt ?_
  refine wc_seq ?_
  refine wc_draw [box b1 [.int .i64 0, .int .i64 0, .int .i64 0]] 6 mixed ?_
  refine wa_pure (v := .agg #[.int .i64 c_p2.Size, (sl v0a)]) 0 rfl (po_load_aboxs q2 tk_26 rfl rfl rfl) (some_cons pick0 some_nil) rfl (by kernel_rfl) (fun _ _ _ h => h) ?_
  refine wa_pure 1 rfl (po_move rfl) (some_cons pick0 some_nil) rfl (by kernel_rfl) (fun _ _ _ h => h) ?_
  refine wa_pure 2 rfl (po_move rfl) (some_cons pick0 some_nil) rfl (by kernel_rfl) (fun _ _ _ h => h) ?_
  refine wa_pure (v := (sl v1a)) 4 rfl (po_load_abox q3 tk_34 rfl rfl) (some_cons pick0 some_nil) rfl (by kernel_rfl) (fun _ _ _ h => h) ?_
  refine wa_1 (i := 3) (by kernel_rfl) ?_
  refine bdO t0 fun v1 hv1 t0 => ?_
  refine ws_call rfl (co_c0 fa_67 rfl fun w hw => c_impl_CellAt w c_p2 v0a (Rg.on (rds_arg r0) hw) a_x a_y hv1) (fun _ => (sts_some (some_cons pick0 some_nil))) rfl fun _ => ?_
  refine wa_1 (i := 5) (by kernel_rfl) ?_
  refine bdO t0 fun v2 hv2 t0 => ?_
  refine ws_call rfl (co_c0 fa_66 rfl fun w hw => c_impl_ExchangeCell w v1 c_p3 v1a (Rg.on (rds_arg r1) hw) hv2) (fun _ => (sts_some (some_cons pick0 some_nil))) rfl fun _ => ?_
  refine wa_1 (i := 6) (by kernel_rfl) ?_
  refine ws_skipop rfl (so_box (cs' := [.int .i64 v2.Split, .int .i64 v2.A, .int .i64 v2.B]) tk_33 pick0 rfl rfl rfl rfl rfl rfl rfl) (sts_past (by kernel_rfl)) ?_
  refine wa_done (by kernel_rfl) ?_
  refine wq_then ?_
  refine wc_ret ?_
  obtain rfl := Option.some.inj t0
  exact wq_retc rfl tk_33 rfl pick0 rfl fun w hw => ⟨rfl, hw.weak some_nil⟩

theorem c_impl_ExchangeBlock (w : World) (a_b : GBlock) (v0a : Hd) (r0 : rdF w (dm w []) (sl v0a) a_b.Cells) (a_l : List Int) (v1a : Hd) (r1 : rdF w (dm w []) (sl v1a) a_l) {r : GBlock × Bool} (t0 : impl_ExchangeBlock a_b a_l = some r) : Calls Try.prog 45 #[.agg #[.int .i64 a_b.Size, (sl v0a)], (sl v1a)] w fun e w' => ∃ x : Hd, e = .returned (.tuple #[.agg #[.int .i64 r.1.Size, (sl x)], .bool r.2]) ∧ SH w [] [ownF (sl x) r.1.Cells] w' := by
  refine calls_of_wc (args := [_, _]) Try.func45 rfl Try.ntmps45 rfl ?_
  unfold impl_ExchangeBlock at t0
  refine wcr ?_
  refine wl_eff (eo_box rfl rfl) rfl fun b1 => ?_
  refine wl_eff (eo_box rfl rfl) rfl fun b2 => ?_
  refine wl_eff (eo_alloc (cs := [.int .i64 0, (sl (⟨none, 0, 0⟩ : Hd))]) za_26) rfl fun b3 => ?_
  refine asg rfl rfl ?_
  refine wnt ?_
  refine wc_seq ?_
  refine wc_seq ?_
  refine bdO t0 fun y1 t1 t0 => ?_
  refine wj (J := Bool) (X := Unit) (fun z => y1 = z) (fun z _ => [(2, ptr b1 0), (3, ptr b2 0), (4, ptr b3 0), (13, .bool z)]) (fun _ _ => [box b3 [.int .i64 0, (sl (⟨none, 0, 0⟩ : Hd))], box b2 [(sl v1a)], box b1 [.int .i64 a_b.Size, (sl v0a)]]) ?_ ?_
  · skip
    refine wc_region ?_
    refine wl_pure (v := .agg #[.int .i64 a_b.Size, (sl v0a)]) (po_load_boxs tk_26 (pickS (pickS pick0)) rfl rfl rfl) rfl ?_
    refine bdO t1 fun v1 hv1 t1 => ?_
    refine wl_call (co_c0 fa_39 rfl fun w hw => c_impl_BlockOk w a_b v0a (Rg.on (rds_arg r0) hw) hv1) rfl fun _ => ?_
    refine wl_pure (po_not rfl) rfl ?_
    refine mv rfl rfl ?_
    refine wlO_ (t := 9) t1 rfl (fun h1 t1 => ?_) fun h1 t1 => ?_
    · skip
      refine wl_guard_off (j := 3) rfl rfl rfl rfl rfl ?_
      refine wl_guard_off (j := 3) rfl rfl rfl rfl rfl ?_
      refine wl_guard_off (j := 3) rfl rfl rfl rfl rfl ?_
      refine wl_pure (po_pick_t rfl rfl) rfl ?_
      refine wl_nil ?_
      exact wj_meet _ () (mtE t1) (sub_cons rfl (sub_cons rfl (sub_cons rfl (sub_cons rfl sub_nil)))) (some_cons pick0 (some_cons pick0 (some_cons pick0 some_nil)))
    refine wl_guard_on (j := 3) rfl rfl rfl (wl_pure (v := (sl v1a)) (po_load_box tk_34 (pickS pick0) rfl rfl) rfl ?_)
    refine bdO t1 fun v2 hv2 t1 => ?_
    refine wl_guard_on (j := 3) rfl rfl rfl (wl_call (co_c0 fa_63 rfl fun w hw => c_impl_ListOk w a_l v1a (Rg.on (rds_arg r1) hw) hv2) rfl (fun _ => ?_))
    refine wl_guard_on (j := 3) rfl rfl rfl (wl_pure (po_not rfl) rfl ?_)
    refine wl_pure (po_pick_f rfl rfl) rfl ?_
    refine wl_nil ?_
    exact wj_meet _ () (mtE t1) (sub_cons rfl (sub_cons rfl (sub_cons rfl (sub_cons rfl sub_nil)))) (some_cons pick0 (some_cons pick0 (some_cons pick0 some_nil)))
  intro j1 _ hp
  obtain rfl : j1 = y1 := hp.symm
  refine wq_then ?_
  refine wcO t0 rfl (fun h2 t0 => ?_) fun h2 t0 => ?_
  · skip
    refine wcr ?_
    refine wl_pure (v := .agg #[.int .i64 a_b.Size, (sl v0a)]) (po_load_boxs tk_26 (pickS (pickS pick0)) rfl rfl rfl) rfl ?_
    refine bdO t0 fun v3 hv3 t0 => ?_
    refine wl_call (co_c1 fa_59 rfl fun w hw => c_impl_Block_copied w a_b v0a (Rg.on (rds_arg r0) hw) hv3) rfl fun x2 => ?_
    refine wl_skipop (so_box (cs' := [.int .i64 v3.Size, (sl x2)]) tk_26 (pickS pick0) rfl rfl rfl rfl rfl rfl rfl) ?_
    refine asg rfl rfl ?_
    refine wnt ?_
    refine wc_ret ?_
    refine wq_then_ret ?_
    obtain rfl := Option.some.inj t0
    exact wq_retc1 rfl tk_26 rfl rfl pick0 rfl fun w hw => ⟨x2, rfl, hw.weak (some_cons (pickS pick0) some_nil)⟩
  refine wc_skip ?_
  refine wq_then ?_
  refine wcr ?_
  refine wl_pure (po_fld fo_26_0 rfl) rfl ?_
  refine wl_pure (v := .int .i64 a_b.Size) (po_load_box tk_3 (pickS (pickS pick0)) rfl rfl) rfl ?_
  refine wl_pure (po_makeFunc rfl) rfl ?_
  refine bdO t0 fun v4 hv4 t0 => ?_
  refine wl_call (co_c1 fa_64 rfl fun w hw => c_impl_made w a_b.Size (fun z0 z1 => impl_ExchangeBlock_c1 z0 z1 a_b a_l) 65 [ptr b1 0, ptr b2 0] fa_65 (fun w2 z0 z1  hk _ hz => c_impl_ExchangeBlock_c1 w2 z0 z1 a_b v0a (RdL.later (Rg.on (rds_arg r0) hw) hk) b1 (Bx.keep (hw.at_box (pickS (pickS pick0))) hk) a_l v1a (RdL.later (Rg.on (rds_arg r1) hw) hk) b2 (Bx.keep (hw.at_box (pickS pick0)) hk) hz) hv4) rfl fun x3 => ?_
  refine wl_skipop (so_box (cs' := [.int .i64 v4.Size, (sl x3)]) tk_26 (pickS pick0) rfl rfl rfl rfl rfl rfl rfl) ?_
  refine asg rfl rfl ?_
  refine wnt ?_
  refine wc_ret ?_
  obtain rfl := Option.some.inj t0
  exact wq_retc1 rfl tk_26 rfl rfl pick0 rfl fun w hw => ⟨x3, rfl, hw.weak (some_cons (pickS pick0) some_nil)⟩

theorem c_impl_ColorwayAt (w : World) (a_b : GBlock) (v0a : Hd) (r0 : rdF w (dm w []) (sl v0a) a_b.Cells) (a_index : Int) {r : GBlock × Bool} (t0 : impl_ColorwayAt a_b a_index = some r) : Calls Try.prog 22 #[.agg #[.int .i64 a_b.Size, (sl v0a)], .int .i64 a_index] w fun e w' => ∃ x : Hd, e = .returned (.tuple #[.agg #[.int .i64 r.1.Size, (sl x)], .bool r.2]) ∧ SH w [] [ownF (sl x) r.1.Cells] w' := by
  refine calls_of_wc (args := [_, _]) Try.func22 rfl Try.ntmps22 rfl ?_
  unfold impl_ColorwayAt at t0
  refine wcr ?_
  refine wl_eff (eo_box rfl rfl) rfl fun b1 => ?_
  refine wl_eff (eo_alloc (cs := [.int .i64 0, (sl (⟨none, 0, 0⟩ : Hd))]) za_26) rfl fun b2 => ?_
  refine asg rfl rfl ?_
  refine wnt ?_
  refine wc_seq ?_
  refine wcr ?_
  refine mv rfl rfl ?_
  refine wl_pure (v := .agg #[.int .i64 a_b.Size, (sl v0a)]) (po_load_boxs tk_26 (pickS pick0) rfl rfl rfl) rfl ?_
  refine bdO t0 fun v1 hv1 t0 => ?_
  refine wl_call (co_c0 fa_21 rfl fun w hw => c_impl_ColorwayCount w a_b v0a (Rg.on (rds_arg r0) hw) hv1) rfl fun _ => ?_
  refine wl_pure (po_sub rfl rfl) rfl ?_
  refine bdO t0 fun v2 hv2 t0 => ?_
  refine wl_call (co_c0 fa_43 rfl fun w hw => c_impl_within w a_index 0 (wr (v1 - 1)) hv2) rfl fun _ => ?_
  refine wl_pure (po_not rfl) rfl ?_
  refine wnt ?_
  refine wcO t0 rfl (fun h1 t0 => ?_) fun h1 t0 => ?_
  · skip
    refine wcr ?_
    refine wl_pure (po_build rfl bd_26) rfl ?_
    refine wl_skipop (so_box (cs' := [.int .i64 0, (sl (⟨none, 0, 0⟩ : Hd))]) tk_26 pick0 rfl rfl rfl rfl rfl rfl rfl) ?_
    refine asg rfl rfl ?_
    refine wnt ?_
    refine wc_ret ?_
    refine wq_then_ret ?_
    obtain rfl := Option.some.inj t0
    exact wq_retc1 rfl tk_26 rfl rfl pick0 rfl fun w hw => ⟨(⟨none, 0, 0⟩ : Hd), rfl, hw.weak (some_cons pick_nil some_nil)⟩
  refine wc_skip ?_
  refine wq_then ?_
  refine wcr ?_
  refine wl_pure (v := .agg #[.int .i64 a_b.Size, (sl v0a)]) (po_load_boxs tk_26 (pickS pick0) rfl rfl rfl) rfl ?_
  refine bdO t0 fun v3 hv3 t0 => ?_
  refine wl_call (co_c1 fa_20 rfl fun w hw => c_impl_ColorsOf w a_b v0a (Rg.on (rds_arg r0) hw) hv3) rfl fun x1 => ?_
  refine asg rfl rfl ?_
  refine wnt ?_
  refine wc_seq ?_
  refine bdO t0 fun v4 hv4 t0 => ?_
  refine wc_join (X := Hd × Hd) (fun _ => True) (fun z => [(1, .int .i64 a_index), (2, ptr b1 0), (4, ptr b2 0), (6, (sl x1)), (7, (sl z.1)), (8, (sl z.2))]) (fun z => [ownF (sl z.2) (List.replicate 6 (0 : Int)), ownF (sl z.1) v4, ownF (sl x1) v3, box b2 [.int .i64 0, (sl (⟨none, 0, 0⟩ : Hd))], box b1 [.int .i64 a_b.Size, (sl v0a)]]) ?_ ?_
  · skip
    refine wc_draw [ownF (sl x1) v3, box b2 [.int .i64 0, (sl (⟨none, 0, 0⟩ : Hd))], box b1 [.int .i64 a_b.Size, (sl v0a)]] 4 mixed ?_
    refine wa_2 (i := 0) (j := 1) (by kernel_rfl) ?_ ?_
    · skip
      refine ws_call rfl (co_c1 fa_44 rfl fun w hw => c_impl_upTo w 6 hv4) (fun _ => (sts_some (some_cons (pickS pick0) (some_cons (pickS pick0) (some_cons (pickS pick0) some_nil))))) rfl fun x2 => ?_
      refine wa_pure 2 rfl (po_assign rfl) (some_cons (pickS pick0) (some_cons (pickS pick0) (some_cons (pickS pick0) some_nil))) rfl (by kernel_rfl) (fun _ _ _ h => h) ?_
      refine wa_1 (i := 1) (by kernel_rfl) ?_
      refine ws_eff rfl (eo_make_ (n := 6) (0 : Int) mk_34 rfl rfl rfl (by omega) rfl) (fun _ => (sts_some (some_cons (pickS (pickS pick0)) (some_cons (pickS (pickS pick0)) (some_cons (pickS (pickS pick0)) some_nil))))) rfl fun x3 => ?_
      refine wa_pure 3 rfl (po_assign rfl) (some_cons (pickS (pickS pick0)) (some_cons (pickS (pickS pick0)) (some_cons (pickS (pickS pick0)) some_nil))) rfl (by kernel_rfl) (fun _ _ _ h => h) ?_
      refine wa_done (by kernel_rfl) ?_
      exact wq_meet (x2, x3) trivial (sub_cons rfl (sub_cons rfl (sub_cons rfl (sub_cons rfl (sub_cons rfl (sub_cons rfl sub_nil)))))) (some_cons pick0 (some_cons pick0 (some_cons pick0 (some_cons pick0 (some_cons pick0 some_nil)))))
    refine ws_eff rfl (eo_make_ (n := 6) (0 : Int) mk_34 rfl rfl rfl (by omega) rfl) (fun _ => (sts_some (some_cons (pickS pick0) (some_cons (pickS pick0) (some_cons (pickS pick0) some_nil))))) rfl fun x4 => ?_
    refine wa_1 (i := 0) (by kernel_rfl) ?_
    refine ws_call rfl (co_c1 fa_44 rfl fun w hw => c_impl_upTo w 6 hv4) (fun _ => (sts_some (some_cons (pickS (pickS pick0)) (some_cons (pickS (pickS pick0)) (some_cons (pickS (pickS pick0)) some_nil))))) rfl fun x5 => ?_
    refine wa_pure 2 rfl (po_assign rfl) (some_cons (pickS (pickS pick0)) (some_cons (pickS (pickS pick0)) (some_cons (pickS (pickS pick0)) some_nil))) rfl (by kernel_rfl) (fun _ _ _ h => h) ?_
    refine wa_pure 3 rfl (po_assign rfl) (some_cons (pickS (pickS pick0)) (some_cons (pickS (pickS pick0)) (some_cons (pickS (pickS pick0)) some_nil))) rfl (by kernel_rfl) (fun _ _ _ h => h) ?_
    refine wa_done (by kernel_rfl) ?_
    exact wq_meet (x5, x4) trivial (sub_cons rfl (sub_cons rfl (sub_cons rfl (sub_cons rfl (sub_cons rfl (sub_cons rfl sub_nil)))))) (some_cons (pickS pick0) (some_cons pick0 (some_cons pick0 (some_cons pick0 (some_cons pick0 some_nil)))))
  intro x6 _
  refine wq_then ?_
  refine wc_seq ?_
  refine wcr ?_
  refine mv rfl rfl ?_
  refine wl_pure (po_lenr (rds_own (pickS (pickS pick0))) el_34 rfl) rfl ?_
  refine mv rfl rfl ?_
  refine wnt ?_
  refine gdO t0 fun g1 t0 => ?_
  refine lpO_inv t0 fun y1 l1 t0 => ?_
  refine wj (J := Int × (List Int) × (List Int)) (X := Hd) (fun z => y1 = z) (fun _ _ => [(2, ptr b1 0), (4, ptr b2 0), (8, (sl x6.2))]) (fun z _ => [ownF (sl x6.2) z.2.2, box b2 [.int .i64 0, (sl (⟨none, 0, 0⟩ : Hd))], box b1 [.int .i64 a_b.Size, (sl v0a)]]) ?_ ?_
  · skip
    refine wc_block ?_
    refine wc_forO (X := Hd) l1 (fun k1 s1 x1l => [(1, .int .i64 s1.1), (2, ptr b1 0), (4, ptr b2 0), (6, (sl x1)), (7, (sl x1l)), (8, (sl x6.2)), (24, (sl x1)), (25, .int .i64 ((v3.length : Nat) : Int)), (26, .int .i64 ((k1 : Nat) : Int))]) (fun k1 s1 x1l => [ownF (sl x6.2) s1.2.2, ownF (sl x1l) s1.2.1, ownF (sl x1) v3, box b2 [.int .i64 0, (sl (⟨none, 0, 0⟩ : Hd))], box b1 [.int .i64 a_b.Size, (sl v0a)]]) x6.1 (sub_cons rfl (sub_cons rfl (sub_cons rfl (sub_cons rfl (sub_cons rfl (sub_cons rfl (sub_cons rfl (sub_cons rfl (sub_cons rfl sub_nil))))))))) (some_cons pick0 (some_cons pick0 (some_cons pick0 (some_cons pick0 (some_cons pick0 some_nil))))) fun k1 s1 x1l hN1 l1 => ?_
    by_cases hk1 : k1 < v3.length
    · skip
      refine forO_step l1 hk1 fun _ t1 l1 => ?_
      unfold impl_ColorwayAt_L1 at t1
      have c1 : (decide (((k1 : Nat) : Int) < ((v3.length : Nat) : Int))) = true := decide_eq_true (by omega)
      refine wcr ?_
      refine wl_pure (po_lss rfl rfl) rfl ?_
      refine wnt ?_
      refine wc_seq ?_
      refine wc_cond_t rfl c1 ?_
      refine wc_skip ?_
      refine wq_then ?_
      refine wc_seq ?_
      refine wc_block ?_
      refine wcr ?_
      refine mv rfl rfl ?_
      refine wl_pure (po_ixn (k := k1) (rds_own (pickS (pickS pick0))) el_34 rfl rfl hk1) rfl ?_
      refine wl_pure (v := .int .i64 (gx v3 k1)) (po_ldf (rds_own (pickS (pickS pick0))) tk_3 rfl hk1 rfl) rfl ?_
      refine asg rfl rfl ?_
      refine asg rfl rfl ?_
      refine wnt ?_
      refine wcr ?_
      refine mv rfl rfl ?_
      refine wl_pure (po_lenr (rds_own (pickS (pickS pick0))) el_34 rfl) rfl ?_
      refine bdO t1 fun v5 hv5 t1 => ?_
      refine wl_call (co_c0 fa_42 rfl fun w hw => c_impl_choices w ((v3.length : Nat) : Int) hv5) rfl fun _ => ?_
      refine mv rfl rfl ?_
      refine wl_pure (po_inc rfl rfl (by omega)) rfl ?_
      refine bdO t1 fun v6 hv6 t1 => ?_
      refine wl_call (co_c0 fa_42 rfl fun w hw => c_impl_choices w ((k1 + 1 : Nat) : Int) hv6) rfl fun _ => ?_
      refine gdO t1 fun g2 t1 => ?_
      refine wl_pure (po_quo rfl rfl g2) rfl ?_
      refine asg rfl rfl ?_
      refine wnt ?_
      refine wcr ?_
      refine mv rfl rfl ?_
      refine mv rfl rfl ?_
      refine gdO t1 fun g3 t1 => ?_
      refine wl_pure (po_quo rfl rfl g3) rfl ?_
      refine asg rfl rfl ?_
      refine wnt ?_
      refine wcr ?_
      refine mv rfl rfl ?_
      refine mv rfl rfl ?_
      refine wl_pure (po_rem rfl rfl g3) rfl ?_
      refine asg rfl rfl ?_
      refine wnt ?_
      refine wcr ?_
      refine mv rfl rfl ?_
      refine mv rfl rfl ?_
      refine mv rfl rfl ?_
      refine mv rfl rfl ?_
      refine gdO t1 fun g4 t1 => ?_
      refine wl_pure (po_ixr (rds_own (pickS pick0)) el_34 rfl rfl g4.1 g4.2) rfl ?_
      refine wl_pure (v := .int .i64 (gx s1.2.1 (((wr (s1.1.tdiv (wr (v5.tdiv v6))))).toNat))) (po_ldf (rds_own (pickS pick0)) tk_3 rfl (ix_lt g4) rfl) rfl ?_
      refine gdO t1 fun g5 t1 => ?_
      refine wl_pure (po_ixr (rds_own pick0) el_34 rfl rfl g5.1 g5.2) rfl ?_
      refine wl_skipop (so_own (x' := (gx s1.2.1 (((wr (s1.1.tdiv (wr (v5.tdiv v6))))).toNat))) tk_3 pick0 rfl rfl rfl rfl rfl rfl (ix_lt g5) rfl) ?_
      refine wnt ?_
      refine wc_draw [ownF (sl x6.2) (s1.2.2.set (((gx v3 k1)).toNat) (gx s1.2.1 (((wr (s1.1.tdiv (wr (v5.tdiv v6))))).toNat))), ownF (sl x1l) s1.2.1, ownF (sl x1) v3, box b2 [.int .i64 0, (sl (⟨none, 0, 0⟩ : Hd))], box b1 [.int .i64 a_b.Size, (sl v0a)]] 11 mixed ?_
      refine wa_pure 1 rfl (po_move rfl) (some_cons pick0 (some_cons pick0 (some_cons pick0 (some_cons pick0 (some_cons pick0 some_nil))))) rfl (by kernel_rfl) (fun _ _ _ h => h) ?_
      refine wa_pure 2 rfl (po_move rfl) (some_cons pick0 (some_cons pick0 (some_cons pick0 (some_cons pick0 (some_cons pick0 some_nil))))) rfl (by kernel_rfl) (fun _ _ _ h => h) ?_
      refine gdO t1 fun g6 t1 => ?_
      refine wa_pure 3 rfl (po_cutr (l := 0) (h := ((wr (s1.1.tdiv (wr (v5.tdiv v6))))).toNat) (rds_own (pickS pick0)) el_34 rfl (.inl ⟨rfl, rfl⟩) (.inr ⟨_, rfl, ixn g6.1⟩) g6.2.1 g6.2.2) (some_cons pick0 (some_cons pick0 (some_cons pick0 (some_cons pick0 (some_cons pick0 some_nil))))) rfl (by kernel_rfl) (fun _ _ _ h => h) ?_
      refine wa_pure 5 rfl (po_move rfl) (some_cons pick0 (some_cons pick0 (some_cons pick0 (some_cons pick0 (some_cons pick0 some_nil))))) rfl (by kernel_rfl) (fun _ _ _ h => h) ?_
      refine wa_pure 6 rfl (po_move rfl) (some_cons pick0 (some_cons pick0 (some_cons pick0 (some_cons pick0 (some_cons pick0 some_nil))))) rfl (by kernel_rfl) (fun _ _ _ h => h) ?_
      refine wa_pure 7 rfl (po_add rfl rfl) (some_cons pick0 (some_cons pick0 (some_cons pick0 (some_cons pick0 (some_cons pick0 some_nil))))) rfl (by kernel_rfl) (fun _ _ _ h => h) ?_
      refine gdO t1 fun g7 t1 => ?_
      refine wa_pure 8 rfl (po_cutr (l := ((wr ((wr (s1.1.tdiv (wr (v5.tdiv v6)))) + 1))).toNat) (h := s1.2.1.length) (rds_own (pickS pick0)) el_34 rfl (.inr ⟨_, rfl, ixn g7.1⟩) (.inl ⟨rfl, rfl⟩) g7.2.1 g7.2.2) (some_cons pick0 (some_cons pick0 (some_cons pick0 (some_cons pick0 (some_cons pick0 some_nil))))) rfl (by kernel_rfl) (fun _ _ _ h => h) ?_
      refine wa_1 (i := 0) (by kernel_rfl) ?_
      refine ws_eff rfl (eo_buildSlice rfl sb_34_0) (fun _ => (sts_some (some_cons (pickS pick0) (some_cons (pickS pick0) (some_cons (pickS pick0) (some_cons (pickS pick0) (some_cons (pickS pick0) some_nil))))))) rfl fun b3 => ?_
      refine wa_1 (i := 4) (by kernel_rfl) ?_
      refine gdO t1 fun g8 t1 => ?_
      refine ws_eff rfl (eo_append (xs := ([] : List Int)) (ys := ((s1.2.1.drop 0).take (((wr (s1.1.tdiv (wr (v5.tdiv v6))))).toNat - 0))) ak_34 (pick_box_own pick0 (n := 0) (xs := ([] : List Int)) rfl rfl (by unfold maxLen; omega)) rfl rfl (slin_rd fun _ g => Rg.on (rds_cut (rds_own (pickS (pickS pick0))) g6.2.1 g6.2.2) g) g8) (fun _ => (sts_some (some_cons (pickS pick0) (some_cons (pickS pick0) (some_cons (pickS pick0) (some_cons (pickS pick0) (some_cons (pickS pick0) some_nil))))))) rfl fun x8 => ?_
      refine wa_1 (i := 9) (by kernel_rfl) ?_
      refine gdO t1 fun g9 t1 => ?_
      refine ws_eff rfl (eo_append (xs := (([] : List Int) ++ ((s1.2.1.drop 0).take (((wr (s1.1.tdiv (wr (v5.tdiv v6))))).toNat - 0)))) (ys := ((s1.2.1.drop (((wr ((wr (s1.1.tdiv (wr (v5.tdiv v6)))) + 1))).toNat)).take (s1.2.1.length - (((wr ((wr (s1.1.tdiv (wr (v5.tdiv v6)))) + 1))).toNat)))) ak_34 pick0 rfl rfl (slin_rd fun _ g => Rg.on (rds_cut (rds_own (pickS (pickS pick0))) g7.2.1 g7.2.2) g) g9) (fun _ => (sts_some (some_cons (pickS pick0) (some_cons (pickS pick0) (some_cons (pickS pick0) (some_cons (pickS pick0) (some_cons (pickS pick0) some_nil))))))) rfl fun x9 => ?_
      refine wa_pure 10 rfl (po_assign rfl) (some_cons (pickS pick0) (some_cons (pickS pick0) (some_cons (pickS pick0) (some_cons (pickS pick0) (some_cons (pickS pick0) some_nil))))) rfl (by kernel_rfl) (fun _ _ _ h => h) ?_
      refine wa_done (by kernel_rfl) ?_
      refine wq_block ?_
      refine wq_then ?_
      refine wc_region ?_
      refine wl_pure (po_inc rfl rfl (by omega)) rfl ?_
      refine mv rfl rfl ?_
      refine wl_nil ?_
      exact wq_rnd hk1 (stpN l1 t1) x9 (sub_cons rfl (sub_cons rfl (sub_cons rfl (sub_cons rfl (sub_cons rfl (sub_cons rfl (sub_cons rfl (sub_cons rfl (sub_cons rfl sub_nil))))))))) (some_cons (pickS pick0) (some_cons pick0 (some_cons (pickS pick0) (some_cons (pickS pick0) (some_cons (pickS pick0) some_nil)))))
    have c1 : (decide (((k1 : Nat) : Int) < ((v3.length : Nat) : Int))) = false := decide_eq_false (by omega)
    have en1 := forO_end l1 hk1
    refine wcr ?_
    refine wl_pure (po_lss rfl rfl) rfl ?_
    refine wnt ?_
    refine wc_seq ?_
    refine wc_cond_f rfl c1 ?_
    refine wc_exit ?_
    refine wq_then_exit ?_
    refine wq_then_exit ?_
    refine wq_block_exit ?_
    exact wj_meet _ x1l (Sum.inl.inj en1) (sub_cons rfl (sub_cons rfl (sub_cons rfl sub_nil))) (some_cons pick0 (some_cons (pickS (pickS pick0)) (some_cons (pickS (pickS pick0)) some_nil)))
  intro e1 x7 hp
  obtain rfl : e1 = y1 := hp.symm
  refine wq_then ?_
  refine wcr ?_
  refine wl_pure (v := .agg #[.int .i64 a_b.Size, (sl v0a)]) (po_load_boxs tk_26 (pickS (pickS pick0)) rfl rfl rfl) rfl ?_
  refine mv rfl rfl ?_
  refine bdO t0 fun v7 hv7 t0 => ?_
  refine wl_call (co_c1 fa_45 rfl fun w hw => c_impl_ExchangeBlock w a_b v0a (Rg.on (rds_arg r0) hw) e1.2.2 x6.2 (Rg.on (rds_own pick0) hw) hv7) rfl fun x10 => ?_
  refine wl_pure (po_extract rfl rfl) rfl ?_
  refine wl_pure (po_extract rfl rfl) rfl ?_
  refine wl_skipop (so_box (cs' := [.int .i64 v7.1.Size, (sl x10)]) tk_26 (pickS (pickS pick0)) rfl rfl rfl rfl rfl rfl rfl) ?_
  refine asg rfl rfl ?_
  refine wnt ?_
  refine wc_ret ?_
  obtain rfl := Option.some.inj t0
  exact wq_retc1 rfl tk_26 rfl rfl pick0 rfl fun w hw => ⟨x10, rfl, hw.weak (some_cons (pickS pick0) some_nil)⟩

theorem c_impl_PatternLikeness (w : World) (a_b : GBlock) (v0a : Hd) (r0 : rdF w (dm w []) (sl v0a) a_b.Cells) (a_d : GBlock) (v1a : Hd) (r1 : rdF w (dm w []) (sl v1a) a_d.Cells) {r : Int} (t0 : impl_PatternLikeness a_b a_d = some r) : Calls Try.prog 9 #[.agg #[.int .i64 a_b.Size, (sl v0a)], .agg #[.int .i64 a_d.Size, (sl v1a)]] w fun e w' => e = .returned (.int .i64 r) ∧ SH w [] [] w' := by
  refine calls_of_wc (args := [_, _]) Try.func9 rfl Try.ntmps9 rfl ?_
  unfold impl_PatternLikeness at t0
  refine wcr ?_
  refine wl_eff (eo_box rfl rfl) rfl fun b1 => ?_
  refine wl_eff (eo_box rfl rfl) rfl fun b2 => ?_
  refine asg rfl rfl ?_
  refine wnt ?_
  refine wc_seq ?_
  refine wc_seq ?_
  refine bdO t0 fun y1 t1 t0 => ?_
  refine wj (J := Bool) (X := Unit) (fun z => y1 = z) (fun z _ => [(2, ptr b1 0), (3, ptr b2 0), (18, .bool z)]) (fun _ _ => [box b2 [.int .i64 a_d.Size, (sl v1a)], box b1 [.int .i64 a_b.Size, (sl v0a)]]) ?_ ?_
  · skip
    refine wc_region ?_
    refine wl_pure (v := .agg #[.int .i64 a_b.Size, (sl v0a)]) (po_load_boxs tk_26 (pickS pick0) rfl rfl rfl) rfl ?_
    refine wl_pure (v := .agg #[.int .i64 a_d.Size, (sl v1a)]) (po_load_boxs tk_26 pick0 rfl rfl rfl) rfl ?_
    refine bdO t1 fun v1 hv1 t1 => ?_
    refine wl_call (co_c0 fa_18 rfl fun w hw => c_impl_arePaired w a_b v0a (Rg.on (rds_arg r0) hw) a_d v1a (Rg.on (rds_arg r1) hw) hv1) rfl fun _ => ?_
    refine wl_pure (po_not rfl) rfl ?_
    refine mv rfl rfl ?_
    refine wlO_ (t := 13) t1 rfl (fun h1 t1 => ?_) fun h1 t1 => ?_
    · skip
      refine wl_guard_off (j := 4) rfl rfl rfl rfl rfl ?_
      refine wl_guard_off (j := 4) rfl rfl rfl rfl rfl ?_
      refine wl_guard_off (j := 4) rfl rfl rfl rfl rfl ?_
      refine wl_guard_off (j := 4) rfl rfl rfl rfl rfl ?_
      refine wl_pure (po_pick_t rfl rfl) rfl ?_
      refine wl_nil ?_
      exact wj_meet _ () (mtE t1) (sub_cons rfl (sub_cons rfl (sub_cons rfl sub_nil))) (some_cons pick0 (some_cons pick0 some_nil))
    refine wl_guard_on (j := 4) rfl rfl rfl (wl_pure (v := .agg #[.int .i64 a_d.Size, (sl v1a)]) (po_load_boxs tk_26 pick0 rfl rfl rfl) rfl ?_)
    refine bdO t1 fun v2 hv2 t1 => ?_
    refine wl_guard_on (j := 4) rfl rfl rfl (wl_call (co_c1 fa_20 rfl fun w hw => c_impl_ColorsOf w a_d v1a (Rg.on (rds_arg r1) hw) hv2) rfl (fun x2 => ?_))
    refine wl_guard_on (j := 4) rfl rfl rfl (wl_pure (po_lenr (rds_own pick0) el_34 rfl) rfl ?_)
    refine wl_guard_on (j := 4) rfl rfl rfl (wl_pure (po_gtr rfl rfl) rfl ?_)
    refine wl_pure (po_pick_f rfl rfl) rfl ?_
    refine wl_nil ?_
    exact wj_meet _ () (mtE t1) (sub_cons rfl (sub_cons rfl (sub_cons rfl sub_nil))) (some_cons (pickS pick0) (some_cons (pickS pick0) some_nil))
  intro j1 _ hp
  obtain rfl : j1 = y1 := hp.symm
  refine wq_then ?_
  refine wcO t0 rfl (fun h2 t0 => ?_) fun h2 t0 => ?_
  · skip
    refine wcr ?_
    refine asg rfl rfl ?_
    refine wnt ?_
    refine wc_ret ?_
    refine wq_then_ret ?_
    obtain rfl := Option.some.inj t0
    exact wq_ret1 rfl rfl fun w hw => ⟨rfl, hw.weak some_nil⟩
  refine wc_skip ?_
  refine wq_then ?_
  refine wcr ?_
  refine asg rfl rfl ?_
  refine wnt ?_
  refine wc_seq ?_
  refine wcr ?_
  refine wl_pure (v := .agg #[.int .i64 a_d.Size, (sl v1a)]) (po_load_boxs tk_26 pick0 rfl rfl rfl) rfl ?_
  refine bdO t0 fun v3 hv3 t0 => ?_
  refine wl_call (co_c0 fa_21 rfl fun w hw => c_impl_ColorwayCount w a_d v1a (Rg.on (rds_arg r1) hw) hv3) rfl fun _ => ?_
  refine mv rfl rfl ?_
  refine wnt ?_
  refine gdO t0 fun g1 t0 => ?_
  refine lpO_inv t0 fun y1 l1 t0 => ?_
  refine wj (J := Int) (X := Unit) (fun z => y1 = z) (fun z _ => [(5, .int .i64 z)]) (fun _ _ => []) ?_ ?_
  · skip
    refine wc_block ?_
    refine wc_forO (X := Unit) l1 (fun k1 s1 x1l => [(2, ptr b1 0), (3, ptr b2 0), (5, .int .i64 s1), (20, .int .i64 v3), (21, .int .i64 ((k1 : Nat) : Int))]) (fun k1 s1 x1l => [box b2 [.int .i64 a_d.Size, (sl v1a)], box b1 [.int .i64 a_b.Size, (sl v0a)]]) () (sub_cons rfl (sub_cons rfl (sub_cons rfl (sub_cons rfl (sub_cons rfl sub_nil))))) (some_cons pick0 (some_cons pick0 some_nil)) fun k1 s1 x1l hN1 l1 => ?_
    by_cases hk1 : k1 < (v3).toNat
    · skip
      refine forO_step l1 hk1 fun _ t1 l1 => ?_
      unfold impl_PatternLikeness_L1 at t1
      have c1 : (decide (((k1 : Nat) : Int) < v3)) = true := decide_eq_true (by omega)
      refine wcr ?_
      refine wl_pure (po_lss rfl rfl) rfl ?_
      refine wnt ?_
      refine wc_seq ?_
      refine wc_cond_t rfl c1 ?_
      refine wc_skip ?_
      refine wq_then ?_
      refine wc_seq ?_
      refine wc_block ?_
      refine wcr ?_
      refine mv rfl rfl ?_
      refine asg rfl rfl ?_
      refine wnt ?_
      refine wcr ?_
      refine wl_pure (v := .agg #[.int .i64 a_d.Size, (sl v1a)]) (po_load_boxs tk_26 pick0 rfl rfl rfl) rfl ?_
      refine mv rfl rfl ?_
      refine bdO t1 fun v4 hv4 t1 => ?_
      refine wl_call (co_c1 fa_22 rfl fun w hw => c_impl_ColorwayAt w a_d v1a (Rg.on (rds_arg r1) hw) ((k1 : Nat) : Int) hv4) rfl fun x4 => ?_
      refine mv rfl rfl ?_
      refine wl_pure (po_extract rfl rfl) rfl ?_
      refine wl_pure (po_extract rfl rfl) rfl ?_
      refine wl_eff (eo_alloc (cs := [.int .i64 0, (sl (⟨none, 0, 0⟩ : Hd))]) za_26) rfl fun b3 => ?_
      refine wl_skipop (so_box (cs' := [.int .i64 v4.1.Size, (sl x4)]) tk_26 pick0 rfl rfl rfl rfl rfl rfl rfl) ?_
      refine asg rfl rfl ?_
      refine wnt ?_
      refine wc_region ?_
      refine mv rfl rfl ?_
      refine wl_pure (v := .agg #[.int .i64 a_b.Size, (sl v0a)]) (po_load_boxs tk_26 (pickS (pickS (pickS pick0))) rfl rfl rfl) rfl ?_
      refine wl_pure (v := .agg #[.int .i64 v4.1.Size, (sl x4)]) (po_load_boxs tk_26 pick0 rfl rfl rfl) rfl ?_
      refine bdO t1 fun v5 hv5 t1 => ?_
      refine wl_call (co_c0 fa_7 rfl fun w hw => c_impl_BestLikeness w a_b v0a (Rg.on (rds_arg r0) hw) v4.1 x4 (Rg.on (rds_own (pickS pick0)) hw) hv5) rfl fun _ => ?_
      refine wl_pure (po_max rfl rfl) rfl ?_
      refine asg rfl rfl ?_
      refine wl_nil ?_
      refine wq_block ?_
      refine wq_then ?_
      refine wc_region ?_
      refine wl_pure (po_inc rfl rfl (by omega)) rfl ?_
      refine mv rfl rfl ?_
      refine wl_nil ?_
      exact wq_rnd hk1 (stpN l1 t1) () (sub_cons rfl (sub_cons rfl (sub_cons rfl (sub_cons rfl (sub_cons rfl sub_nil))))) (some_cons (pickS (pickS pick0)) (some_cons (pickS (pickS pick0)) some_nil))
    have c1 : (decide (((k1 : Nat) : Int) < v3)) = false := decide_eq_false (by omega)
    have en1 := forO_end l1 hk1
    refine wcr ?_
    refine wl_pure (po_lss rfl rfl) rfl ?_
    refine wnt ?_
    refine wc_seq ?_
    refine wc_cond_f rfl c1 ?_
    refine wc_exit ?_
    refine wq_then_exit ?_
    refine wq_then_exit ?_
    refine wq_block_exit ?_
    exact wj_meet _ () (Sum.inl.inj en1) (sub_cons rfl sub_nil) some_nil
  intro e1 _ hp
  obtain rfl : e1 = y1 := hp.symm
  refine wq_then ?_
  refine wcr ?_
  refine mv rfl rfl ?_
  refine asg rfl rfl ?_
  refine wnt ?_
  refine wc_ret ?_
  obtain rfl := Option.some.inj t0
  exact wq_ret1 rfl rfl fun w hw => ⟨rfl, hw.weak some_nil⟩

theorem c_spec_ColorsOf (w : World) (a_b : GBlock) (v0a : Hd) (r0 : rdF w (dm w []) (sl v0a) a_b.Cells) {r : List Int} (t0 : spec_ColorsOf a_b = some r) : Calls Try.prog 12 #[.agg #[.int .i64 a_b.Size, (sl v0a)]] w fun e w' => ∃ x : Hd, e = .returned ((sl x)) ∧ SH w [] [ownF (sl x) r] w' := by
  refine calls_of_wc (args := [_]) Try.func12 rfl Try.ntmps12 rfl ?_
  unfold spec_ColorsOf at t0
  refine wcr ?_
  refine wl_eff (eo_box rfl rfl) rfl fun b1 => ?_
  refine asg rfl rfl ?_
  refine wnt ?_
  refine wcr ?_
  refine wl_eff (eo_buildSlice rfl sb_34_0) rfl fun b2 => ?_
  refine asg rfl rfl ?_
  refine wnt ?_
  refine wc_seq ?_
  refine wcr ?_
  refine wl_pure (v := .agg #[.int .i64 a_b.Size, (sl v0a)]) (po_load_boxs tk_26 (pickS pick0) rfl rfl rfl) rfl ?_
  refine bdO t0 fun v1 hv1 t0 => ?_
  refine wl_call (co_c0 fa_10 rfl fun w hw => c_spec_BlockOk w a_b v0a (Rg.on (rds_arg r0) hw) hv1) rfl fun _ => ?_
  refine wl_pure (po_not rfl) rfl ?_
  refine wnt ?_
  refine wcO t0 rfl (fun h1 t0 => ?_) fun h1 t0 => ?_
  · skip
    refine wcr ?_
    refine mv rfl rfl ?_
    refine asg rfl rfl ?_
    refine wnt ?_
    refine wc_ret ?_
    refine wq_then_ret ?_
    obtain rfl := Option.some.inj t0
    exact wq_ret1 rfl rfl fun w hw => ⟨(⟨some ⟨b2, 0, none⟩, 0, 0⟩ : Hd), rfl, hw.weak (some_cons (pick_box_own pick0 (n := 0) (xs := ([] : List Int)) rfl rfl (by unfold maxLen; omega)) some_nil)⟩
  refine wc_skip ?_
  refine wq_then ?_
  refine wc_seq ?_
  refine wcr ?_
  refine asg rfl rfl ?_
  refine wnt ?_
  refine lpO_inv t0 fun y1 l1 t0 => ?_
  refine wj (J := List Int) (X := Hd) (fun z => y1 = z) (fun _ x => [(3, (sl x))]) (fun z x => [ownF (sl x) z]) ?_ ?_
  · skip
    refine wc_block ?_
    refine wc_forO (X := Hd) l1 (fun k1 s1 x1l => [(1, ptr b1 0), (3, (sl x1l)), (4, .int .i64 ((k1 : Nat) : Int))]) (fun k1 s1 x1l => [box b1 [.int .i64 a_b.Size, (sl v0a)], ownF (sl x1l) s1]) (⟨some ⟨b2, 0, none⟩, 0, 0⟩ : Hd) (sub_cons rfl (sub_cons rfl (sub_cons rfl sub_nil))) (some_cons (pickS pick0) (some_cons (pick_box_own pick0 (n := 0) (xs := ([] : List Int)) rfl rfl (by unfold maxLen; omega)) some_nil)) fun k1 s1 x1l hN1 l1 => ?_
    by_cases hk1 : k1 < 6
    · skip
      refine forO_step l1 hk1 fun _ t1 l1 => ?_
      unfold spec_ColorsOf_L1 at t1
      have c1 : (decide (((k1 : Nat) : Int) < 6)) = true := decide_eq_true (by omega)
      refine wc_seq ?_
      refine wcr ?_
      refine mv rfl rfl ?_
      refine wl_pure (po_lss rfl rfl) rfl ?_
      refine wnt ?_
      refine wc_cond_t rfl c1 ?_
      refine wc_skip ?_
      refine wq_then ?_
      refine wc_seq ?_
      refine wc_block ?_
      refine wcr ?_
      refine asg rfl rfl ?_
      refine wnt ?_
      refine wc_seq ?_
      refine wcr ?_
      refine asg rfl rfl ?_
      refine wnt ?_
      refine gdO t1 fun g1 t1 => ?_
      refine lpO_inv t1 fun y2 l2 t1 => ?_
      refine wj (J := Bool) (X := Unit) (fun z => y2 = z) (fun z _ => [(1, ptr b1 0), (3, (sl x1l)), (4, .int .i64 ((k1 : Nat) : Int)), (5, .bool z)]) (fun _ _ => [box b1 [.int .i64 a_b.Size, (sl v0a)], ownF (sl x1l) s1]) ?_ ?_
      · skip
        refine wc_block ?_
        refine wc_forO (X := Unit) l2 (fun k2 s2 x2l => [(1, ptr b1 0), (3, (sl x1l)), (4, .int .i64 ((k1 : Nat) : Int)), (5, .bool s2), (6, .int .i64 ((k2 : Nat) : Int))]) (fun k2 s2 x2l => [box b1 [.int .i64 a_b.Size, (sl v0a)], ownF (sl x1l) s1]) () (sub_cons rfl (sub_cons rfl (sub_cons rfl (sub_cons rfl (sub_cons rfl sub_nil))))) (some_cons pick0 (some_cons pick0 some_nil)) fun k2 s2 x2l hN2 l2 => ?_
        by_cases hk2 : k2 < a_b.Cells.length
        · skip
          refine forO_step l2 hk2 fun _ t2 l2 => ?_
          unfold spec_ColorsOf_L2 at t2
          have c2 : (decide (((k2 : Nat) : Int) < ((a_b.Cells.length : Nat) : Int))) = true := decide_eq_true (by omega)
          refine wc_seq ?_
          refine wcr ?_
          refine mv rfl rfl ?_
          refine wl_pure (po_fld fo_26_1 rfl) rfl ?_
          refine wl_pure (v := (sl v0a)) (po_load_box tk_24 pick0 rfl rfl) rfl ?_
          refine wl_pure (po_lenr (rds_arg r0) el_24 rfl) rfl ?_
          refine wl_pure (po_lss rfl rfl) rfl ?_
          refine wnt ?_
          refine wc_cond_t rfl c2 ?_
          refine wc_skip ?_
          refine wq_then ?_
          refine wc_seq ?_
          refine wc_block ?_
          refine wc_join (X := Unit) (fun _ => True) (fun _ => [(1, ptr b1 0), (3, (sl x1l)), (4, .int .i64 ((k1 : Nat) : Int)), (5, .bool (s2 || (((gx a_b.Cells k2).A == ((k1 : Nat) : Int)) || ((gx a_b.Cells k2).B == ((k1 : Nat) : Int))))), (6, .int .i64 ((k2 : Nat) : Int))]) (fun _ => [box b1 [.int .i64 a_b.Size, (sl v0a)], ownF (sl x1l) s1]) ?_ ?_
          · skip
            refine wc_region ?_
            refine mv rfl rfl ?_
            refine mv rfl rfl ?_
            refine wl_fork (t := 24) rfl (fun h2 => ?_) fun h2 => ?_
            · skip
              refine wl_guard_off (j := 1) rfl rfl rfl rfl rfl ?_
              refine wl_guard_off (j := 1) rfl rfl rfl rfl rfl ?_
              refine wl_guard_off (j := 1) rfl rfl rfl rfl rfl ?_
              refine wl_guard_off (j := 1) rfl rfl rfl rfl rfl ?_
              refine wl_guard_off (j := 1) rfl rfl rfl rfl rfl ?_
              refine wl_guard_off (j := 1) rfl rfl rfl rfl rfl ?_
              refine wl_guard_off (j := 1) rfl rfl rfl rfl rfl ?_
              refine wl_guard_off (j := 1) rfl rfl rfl rfl rfl ?_
              refine wl_pure (po_pick_t rfl rfl) rfl ?_
              refine mv rfl rfl ?_
              refine wl_guard_off (j := 11) rfl rfl rfl rfl rfl ?_
              refine wl_guard_off (j := 11) rfl rfl rfl rfl rfl ?_
              refine wl_guard_off (j := 11) rfl rfl rfl rfl rfl ?_
              refine wl_guard_off (j := 11) rfl rfl rfl rfl rfl ?_
              refine wl_guard_off (j := 11) rfl rfl rfl rfl rfl ?_
              refine wl_guard_off (j := 11) rfl rfl rfl rfl rfl ?_
              refine wl_guard_off (j := 11) rfl rfl rfl rfl rfl ?_
              refine wl_guard_off (j := 11) rfl rfl rfl rfl rfl ?_
              refine wl_pure (po_pick_t rfl rfl) rfl ?_
              refine asg rfl rfl ?_
              refine wl_nil ?_
              exact wq_meet () trivial (sub_cons rfl (sub_cons rfl (sub_cons rfl (sub_b rfl (by rw [h2]; rfl) (sub_cons rfl sub_nil))))) (some_cons pick0 (some_cons pick0 some_nil))
            refine wl_guard_on (j := 1) rfl rfl rfl (wl_pure (po_fld fo_26_1 rfl) rfl ?_)
            refine wl_guard_on (j := 1) rfl rfl rfl (wl_pure (v := (sl v0a)) (po_load_box tk_24 pick0 rfl rfl) rfl ?_)
            refine wl_guard_on (j := 1) rfl rfl rfl (mv rfl rfl ?_)
            refine wl_guard_on (j := 1) rfl rfl rfl (wl_pure (po_ixn (k := k2) (rds_arg r0) el_24 rfl rfl hk2) rfl ?_)
            refine wl_guard_on (j := 1) rfl rfl rfl (wl_pure (po_sfldr (rds_arg r0) hk2 fo_33_1 rfl) rfl ?_)
            refine wl_guard_on (j := 1) rfl rfl rfl (wl_pure (v := .int .i64 ((gx a_b.Cells k2).A)) (po_ldf (rds_arg r0) tk_3 rfl hk2 rfl) rfl ?_)
            refine wl_guard_on (j := 1) rfl rfl rfl (mv rfl rfl ?_)
            refine wl_guard_on (j := 1) rfl rfl rfl (wl_pure (po_eql rfl rfl) rfl ?_)
            refine wl_pure (po_pick_f rfl rfl) rfl ?_
            refine mv rfl rfl ?_
            refine wl_fork (t := 34) rfl (fun h3 => ?_) fun h3 => ?_
            · skip
              refine wl_guard_off (j := 11) rfl rfl rfl rfl rfl ?_
              refine wl_guard_off (j := 11) rfl rfl rfl rfl rfl ?_
              refine wl_guard_off (j := 11) rfl rfl rfl rfl rfl ?_
              refine wl_guard_off (j := 11) rfl rfl rfl rfl rfl ?_
              refine wl_guard_off (j := 11) rfl rfl rfl rfl rfl ?_
              refine wl_guard_off (j := 11) rfl rfl rfl rfl rfl ?_
              refine wl_guard_off (j := 11) rfl rfl rfl rfl rfl ?_
              refine wl_guard_off (j := 11) rfl rfl rfl rfl rfl ?_
              refine wl_pure (po_pick_t rfl rfl) rfl ?_
              refine asg rfl rfl ?_
              refine wl_nil ?_
              exact wq_meet () trivial (sub_cons rfl (sub_cons rfl (sub_cons rfl (sub_b rfl (by rw [h2, h3]; rfl) (sub_cons rfl sub_nil))))) (some_cons pick0 (some_cons pick0 some_nil))
            refine wl_guard_on (j := 11) rfl rfl rfl (wl_pure (po_fld fo_26_1 rfl) rfl ?_)
            refine wl_guard_on (j := 11) rfl rfl rfl (wl_pure (v := (sl v0a)) (po_load_box tk_24 pick0 rfl rfl) rfl ?_)
            refine wl_guard_on (j := 11) rfl rfl rfl (mv rfl rfl ?_)
            refine wl_guard_on (j := 11) rfl rfl rfl (wl_pure (po_ixn (k := k2) (rds_arg r0) el_24 rfl rfl hk2) rfl ?_)
            refine wl_guard_on (j := 11) rfl rfl rfl (wl_pure (po_sfldr (rds_arg r0) hk2 fo_33_2 rfl) rfl ?_)
            refine wl_guard_on (j := 11) rfl rfl rfl (wl_pure (v := .int .i64 ((gx a_b.Cells k2).B)) (po_ldf (rds_arg r0) tk_3 rfl hk2 rfl) rfl ?_)
            refine wl_guard_on (j := 11) rfl rfl rfl (mv rfl rfl ?_)
            refine wl_guard_on (j := 11) rfl rfl rfl (wl_pure (po_eql rfl rfl) rfl ?_)
            refine wl_pure (po_pick_f rfl rfl) rfl ?_
            refine asg rfl rfl ?_
            refine wl_nil ?_
            exact wq_meet () trivial (sub_cons rfl (sub_cons rfl (sub_cons rfl (sub_b rfl (by rw [h2, h3]; rfl) (sub_cons rfl sub_nil))))) (some_cons pick0 (some_cons pick0 some_nil))
          intro _ _
          refine wq_block ?_
          refine wq_then ?_
          refine wc_region ?_
          refine mv rfl rfl ?_
          refine wl_pure (po_inc rfl rfl (by omega)) rfl ?_
          refine asg rfl rfl ?_
          refine wl_nil ?_
          exact wq_rnd hk2 (stpN l2 t2) () (sub_cons rfl (sub_cons rfl (sub_cons rfl (sub_cons rfl (sub_cons rfl sub_nil))))) (some_cons pick0 (some_cons pick0 some_nil))
        have c2 : (decide (((k2 : Nat) : Int) < ((a_b.Cells.length : Nat) : Int))) = false := decide_eq_false (by omega)
        have en1 := forO_end l2 hk2
        refine wc_seq ?_
        refine wcr ?_
        refine mv rfl rfl ?_
        refine wl_pure (po_fld fo_26_1 rfl) rfl ?_
        refine wl_pure (v := (sl v0a)) (po_load_box tk_24 pick0 rfl rfl) rfl ?_
        refine wl_pure (po_lenr (rds_arg r0) el_24 rfl) rfl ?_
        refine wl_pure (po_lss rfl rfl) rfl ?_
        refine wnt ?_
        refine wc_cond_f rfl c2 ?_
        refine wc_exit ?_
        refine wq_then_exit ?_
        refine wq_then_exit ?_
        refine wq_block_exit ?_
        exact wj_meet _ () (Sum.inl.inj en1) (sub_cons rfl (sub_cons rfl (sub_cons rfl (sub_cons rfl sub_nil)))) (some_cons pick0 (some_cons pick0 some_nil))
      intro e2 _ hp
      obtain rfl : e2 = y2 := hp.symm
      refine wq_then ?_
      refine wcr ?_
      refine mv rfl rfl ?_
      refine wnt ?_
      refine bdO t1 fun y2 t2 t1 => ?_
      refine wj (J := List Int) (X := Hd) (fun z => y2 = z) (fun _ x => [(1, ptr b1 0), (3, (sl x)), (4, .int .i64 ((k1 : Nat) : Int))]) (fun z x => [box b1 [.int .i64 a_b.Size, (sl v0a)], ownF (sl x) z]) ?_ ?_
      · skip
        refine wcO t2 rfl (fun h4 t2 => ?_) fun h4 t2 => ?_
        · skip
          refine wc_region ?_
          refine mv rfl rfl ?_
          refine mv rfl rfl ?_
          refine wl_eff (eo_buildSlice rfl (sb_34_1 ((k1 : Nat) : Int))) rfl fun b3 => ?_
          refine gdO t2 fun g2 t2 => ?_
          refine wl_eff (eo_append (xs := s1) (ys := ([((k1 : Nat) : Int)] : List Int)) ak_34 (pickS (pickS pick0)) rfl rfl (slin_rd fun _ g => Rg.on (rds_own (pick_box_own pick0 (n := 1) (xs := ([((k1 : Nat) : Int)] : List Int)) rfl rfl (by unfold maxLen; omega))) g) g2) rfl fun x5 => ?_
          refine asg rfl rfl ?_
          refine wl_nil ?_
          exact wj_meet _ x5 (mtE t2) (sub_cons rfl (sub_cons rfl (sub_cons rfl sub_nil))) (some_cons (pickS (pickS pick0)) (some_cons pick0 some_nil))
        refine wc_skip ?_
        exact wj_meet _ x1l (mtE t2) (sub_cons rfl (sub_cons rfl (sub_cons rfl sub_nil))) (some_cons pick0 (some_cons pick0 some_nil))
      intro j2 x4 hp
      obtain rfl : j2 = y2 := hp.symm
      refine wq_block ?_
      refine wq_then ?_
      refine wc_region ?_
      refine mv rfl rfl ?_
      refine wl_pure (po_inc rfl rfl (by omega)) rfl ?_
      refine asg rfl rfl ?_
      refine wl_nil ?_
      exact wq_rnd hk1 (stpN l1 t1) x4 (sub_cons rfl (sub_cons rfl (sub_cons rfl sub_nil))) (some_cons pick0 (some_cons pick0 some_nil))
    have c1 : (decide (((k1 : Nat) : Int) < 6)) = false := decide_eq_false (by omega)
    have en2 := forO_end l1 hk1
    refine wc_seq ?_
    refine wcr ?_
    refine mv rfl rfl ?_
    refine wl_pure (po_lss rfl rfl) rfl ?_
    refine wnt ?_
    refine wc_cond_f rfl c1 ?_
    refine wc_exit ?_
    refine wq_then_exit ?_
    refine wq_then_exit ?_
    refine wq_block_exit ?_
    exact wj_meet _ x1l (Sum.inl.inj en2) (sub_cons rfl sub_nil) (some_cons (pickS pick0) some_nil)
  intro e1 x1 hp
  obtain rfl : e1 = y1 := hp.symm
  refine wq_then ?_
  refine wcr ?_
  refine mv rfl rfl ?_
  refine asg rfl rfl ?_
  refine wnt ?_
  refine wc_ret ?_
  obtain rfl := Option.some.inj t0
  exact wq_ret1 rfl rfl fun w hw => ⟨x1, rfl, hw.weak (some_cons pick0 some_nil)⟩

theorem c_spec_l01Figure (w : World) (a_x : Int) {r : UInt8} (t0 : spec_l01Figure a_x = some r) : Calls Try.prog 82 #[.int .i64 a_x] w fun e w' => e = .returned (.int .u8 (r.toNat : Int)) ∧ SH w [] [] w' := by
  refine calls_of_wc (args := [_]) Try.func82 rfl Try.ntmps82 rfl ?_
  unfold spec_l01Figure at t0
  refine wcr ?_
  refine asg rfl rfl ?_
  refine wnt ?_
  refine wc_seq ?_
  refine wcr ?_
  refine mv rfl rfl ?_
  refine wl_pure (po_lss rfl rfl) rfl ?_
  refine wnt ?_
  refine wcO t0 rfl (fun h1 t0 => ?_) fun h1 t0 => ?_
  · skip
    refine wcr ?_
    refine mv rfl rfl ?_
    refine wl_pure (po_add rfl rfl) rfl ?_
    refine wl_pure (po_intu8 isInt_3 isU8_5 rfl) rfl ?_
    refine asg rfl rfl ?_
    refine wnt ?_
    refine wc_ret ?_
    refine wq_then_ret ?_
    obtain rfl := Option.some.inj t0
    exact wq_ret1 rfl rfl fun w hw => ⟨rfl, hw.weak some_nil⟩
  refine wc_skip ?_
  refine wq_then ?_
  refine wcr ?_
  refine mv rfl rfl ?_
  refine wl_pure (po_add rfl rfl) rfl ?_
  refine wl_pure (po_sub rfl rfl) rfl ?_
  refine wl_pure (po_intu8 isInt_3 isU8_5 rfl) rfl ?_
  refine asg rfl rfl ?_
  refine wnt ?_
  refine wc_ret ?_
  obtain rfl := Option.some.inj t0
  exact wq_ret1 rfl rfl fun w hw => ⟨rfl, hw.weak some_nil⟩

theorem c_spec_FormatInt (w : World) (a_n : Int) {r : Str} (t0 : spec_FormatInt a_n = some r) : Calls Try.prog 80 #[.int .i64 a_n] w fun e w' => e = .returned (bs r) ∧ SH w [] [] w' := by
  refine calls_of_wc (args := [_]) Try.func80 rfl Try.ntmps80 rfl ?_
  unfold spec_FormatInt at t0
  refine wcr ?_
  refine asg rfl rfl ?_
  refine wnt ?_
  refine wc_seq ?_
  refine wcr ?_
  refine mv rfl rfl ?_
  refine wl_pure (po_eql rfl rfl) rfl ?_
  refine wnt ?_
  refine wcO t0 rfl (fun h1 t0 => ?_) fun h1 t0 => ?_
  · skip
    refine wcr ?_
    refine asg rfl rfl ?_
    refine wnt ?_
    refine wc_ret ?_
    refine wq_then_ret ?_
    obtain rfl := Option.some.inj t0
    exact wq_ret1 rfl rfl fun w hw => ⟨rfl, hw.weak some_nil⟩
  refine wc_skip ?_
  refine wq_then ?_
  refine wcr ?_
  refine mv rfl rfl ?_
  refine wl_pure (po_lss rfl rfl) rfl ?_
  refine asg rfl rfl ?_
  refine wnt ?_
  refine wcr ?_
  refine asg rfl rfl ?_
  refine wnt ?_
  refine wc_seq ?_
  refine wlO_inv t0 fun y1 l1 t0 => ?_
  refine wj (J := Int × Str) (X := Unit) (fun z => y1 = z) (fun z _ => [(3, .bool (decide (a_n < 0))), (4, bs z.2)]) (fun _ _ => []) ?_ ?_
  · skip
    refine wc_block ?_
    refine wc_whO (X := Unit) l1 (fun s1 x1l => [(0, .int .i64 s1.1), (3, .bool (decide (a_n < 0))), (4, bs s1.2)]) (fun s1 x1l => []) () (sub_cons rfl (sub_cons rfl (sub_cons rfl sub_nil))) some_nil fun m1 s1 x1l l1 => ?_
    refine whO_step l1 fun _ t1 l1 => ?_
    unfold spec_FormatInt_L1 at t1
    refine wc_seq ?_
    refine wcr ?_
    refine mv rfl rfl ?_
    refine wl_pure (po_neq rfl rfl) rfl ?_
    refine wnt ?_
    refine wcO t1 rfl (fun h2 t1 => ?_) fun h2 t1 => ?_
    · skip
      refine wc_skip ?_
      refine wq_then ?_
      refine wc_block ?_
      refine wcr ?_
      refine mv rfl rfl ?_
      refine wl_pure (po_rem rfl rfl (by decide)) rfl ?_
      refine asg rfl rfl ?_
      refine wnt ?_
      refine wc_seq ?_
      refine wcr ?_
      refine mv rfl rfl ?_
      refine wl_pure (po_lss rfl rfl) rfl ?_
      refine wnt ?_
      refine wc_join (X := Unit) (fun _ => True) (fun _ => [(0, .int .i64 s1.1), (3, .bool (decide (a_n < 0))), (4, bs s1.2), (5, .int .i64 (bif (decide ((s1.1.tmod 10) < 0)) then (wr (0 - (s1.1.tmod 10))) else (s1.1.tmod 10)))]) (fun _ => []) ?_ ?_
      · skip
        refine wc_cond rfl (fun h3 => ?_) fun h3 => ?_
        · skip
          refine wc_region ?_
          refine mv rfl rfl ?_
          refine wl_pure (po_neg rfl) rfl ?_
          refine asg rfl rfl ?_
          refine wl_nil ?_
          exact wq_meet () trivial (sub_cons rfl (sub_cons rfl (sub_cons rfl (sub_i rfl (by simp only [h3, cond_true]) sub_nil)))) some_nil
        refine wc_skip ?_
        exact wq_meet () trivial (sub_cons rfl (sub_cons rfl (sub_cons rfl (sub_i rfl (by simp only [h3, cond_false]) sub_nil)))) some_nil
      intro _ _
      refine wq_then ?_
      refine wcr ?_
      refine mv rfl rfl ?_
      refine bdO t1 fun v1 hv1 t1 => ?_
      refine wl_call (co_c0 fa_82 rfl fun w hw => c_spec_l01Figure w (bif (decide ((s1.1.tmod 10) < 0)) then (wr (0 - (s1.1.tmod 10))) else (s1.1.tmod 10)) hv1) rfl fun _ => ?_
      refine wl_eff (eo_buildSlice rfl (sb_22_1 v1)) rfl fun b1 => ?_
      refine wl_pure (po_b2s (rds_own (pick_box_own pick0 (n := 1) (xs := ([v1] : List UInt8)) rfl rfl (by unfold maxLen; omega))) isBytes_22 isStr_9 rfl) rfl ?_
      refine mv rfl rfl ?_
      refine gdO t1 fun g1 t1 => ?_
      refine wl_pure (po_sadd rfl rfl g1) rfl ?_
      refine asg rfl rfl ?_
      refine wnt ?_
      refine wc_region ?_
      refine mv rfl rfl ?_
      refine wl_pure (po_quo rfl rfl (by decide)) rfl ?_
      refine asg rfl rfl ?_
      refine wl_nil ?_
      refine wq_block ?_
      exact wq_rndw (stwN l1 t1) () (sub_cons rfl (sub_cons rfl (sub_cons rfl sub_nil))) some_nil
    refine wc_exit ?_
    refine wq_then_exit ?_
    refine wq_then_exit ?_
    refine wq_block_exit ?_
    exact wj_meet _ () (Sum.inl.inj (stwB l1 t1)) (sub_cons rfl (sub_cons rfl sub_nil)) some_nil
  intro e1 _ hp
  obtain rfl : e1 = y1 := hp.symm
  refine wq_then ?_
  refine wc_seq ?_
  refine wcr ?_
  refine mv rfl rfl ?_
  refine wnt ?_
  refine wcO t0 rfl (fun h4 t0 => ?_) fun h4 t0 => ?_
  · skip
    refine wcr ?_
    refine mv rfl rfl ?_
    refine gdO t0 fun g2 t0 => ?_
    refine wl_pure (po_sadd rfl rfl g2) rfl ?_
    refine asg rfl rfl ?_
    refine wnt ?_
    refine wc_ret ?_
    refine wq_then_ret ?_
    obtain rfl := Option.some.inj t0
    exact wq_ret1 rfl rfl fun w hw => ⟨rfl, hw.weak some_nil⟩
  refine wc_skip ?_
  refine wq_then ?_
  refine wcr ?_
  refine mv rfl rfl ?_
  refine asg rfl rfl ?_
  refine wnt ?_
  refine wc_ret ?_
  obtain rfl := Option.some.inj t0
  exact wq_ret1 rfl rfl fun w hw => ⟨rfl, hw.weak some_nil⟩

theorem c_spec_CellText (w : World) (a_c : GCell) {r : Str} (t0 : spec_CellText a_c = some r) : Calls Try.prog 68 #[.agg #[.int .i64 a_c.Split, .int .i64 a_c.A, .int .i64 a_c.B]] w fun e w' => e = .returned (bs r) ∧ SH w [] [] w' := by
  refine calls_of_wc (args := [_]) Try.func68 rfl Try.ntmps68 rfl ?_
  unfold spec_CellText at t0
  refine wcr ?_
  refine wl_eff (eo_box rfl rfl) rfl fun b1 => ?_
  refine asg rfl rfl ?_
  refine wnt ?_
  refine wc_seq ?_
  refine wcr ?_
  refine wl_pure (v := .agg #[.int .i64 a_c.Split, .int .i64 a_c.A, .int .i64 a_c.B]) (po_load_boxs tk_33 pick0 rfl rfl rfl) rfl ?_
  refine bdO t0 fun v1 hv1 t0 => ?_
  refine wl_call (co_c0 fa_24 rfl fun w hw => c_spec_CellOk w a_c hv1) rfl fun _ => ?_
  refine wl_pure (po_not rfl) rfl ?_
  refine wnt ?_
  refine wcO t0 rfl (fun h1 t0 => ?_) fun h1 t0 => ?_
  · skip
    refine wcr ?_
    refine asg rfl rfl ?_
    refine wnt ?_
    refine wc_ret ?_
    refine wq_then_ret ?_
    obtain rfl := Option.some.inj t0
    exact wq_ret1 rfl rfl fun w hw => ⟨rfl, hw.weak some_nil⟩
  refine wc_skip ?_
  refine wq_then ?_
  refine wc_seq ?_
  refine wcr ?_
  refine wl_pure (po_fld fo_33_0 rfl) rfl ?_
  refine wl_pure (v := .int .i64 a_c.Split) (po_load_box tk_3 pick0 rfl rfl) rfl ?_
  refine wnt ?_
  refine wc_block ?_
  refine wcr ?_
  refine wl_pure (po_eql rfl rfl) rfl ?_
  refine asg rfl rfl ?_
  refine wnt ?_
  refine wcO t0 rfl (fun h2 t0 => ?_) fun h2 t0 => ?_
  · skip
    refine wc_seq ?_
    refine wc_draw [box b1 [.int .i64 a_c.Split, .int .i64 a_c.A, .int .i64 a_c.B]] 9 mixed ?_
    refine wa_pure 0 rfl (po_fld fo_33_1 rfl) (some_cons pick0 some_nil) rfl (by kernel_rfl) (fun _ _ _ h => h) ?_
    refine wa_pure (v := .int .i64 a_c.A) 1 rfl (po_load_box tk_3 pick0 rfl rfl) (some_cons pick0 some_nil) rfl (by kernel_rfl) (fun _ _ _ h => h) ?_
    refine wa_pure 4 rfl (po_fld fo_33_2 rfl) (some_cons pick0 some_nil) rfl (by kernel_rfl) (fun _ _ _ h => h) ?_
    refine wa_pure (v := .int .i64 a_c.B) 5 rfl (po_load_box tk_3 pick0 rfl rfl) (some_cons pick0 some_nil) rfl (by kernel_rfl) (fun _ _ _ h => h) ?_
    refine wa_1 (i := 2) (by kernel_rfl) ?_
    refine bdO t0 fun v2 hv2 t0 => ?_
    refine ws_call rfl (co_c0 fa_80 rfl fun w hw => c_spec_FormatInt w a_c.A hv2) (fun _ => (sts_some (some_cons pick0 some_nil))) rfl fun _ => ?_
    refine gdO t0 fun g1 t0 => ?_
    refine wa_pure 3 rfl (po_sadd rfl rfl g1) (some_cons pick0 some_nil) rfl (by kernel_rfl) (fun _ _ _ h => h) ?_
    refine wa_1 (i := 6) (by kernel_rfl) ?_
    refine bdO t0 fun v3 hv3 t0 => ?_
    refine ws_call rfl (co_c0 fa_80 rfl fun w hw => c_spec_FormatInt w a_c.B hv3) (fun _ => (sts_some (some_cons pick0 some_nil))) rfl fun _ => ?_
    refine gdO t0 fun g2 t0 => ?_
    refine wa_pure 7 rfl (po_sadd rfl rfl g2) (some_cons pick0 some_nil) rfl (by kernel_rfl) (fun _ _ _ h => h) ?_
    refine wa_pure 8 rfl (po_assign rfl) (some_cons pick0 some_nil) rfl (by kernel_rfl) (fun _ _ _ h => h) ?_
    refine wa_done (by kernel_rfl) ?_
    refine wq_then ?_
    refine wc_ret ?_
    refine wq_block_ret ?_
    refine wq_then_ret ?_
    obtain rfl := Option.some.inj t0
    exact wq_ret1 rfl rfl fun w hw => ⟨rfl, hw.weak some_nil⟩
  refine wcr ?_
  refine wl_pure (po_eql rfl rfl) rfl ?_
  refine asg rfl rfl ?_
  refine wnt ?_
  refine wcO t0 rfl (fun h3 t0 => ?_) fun h3 t0 => ?_
  · skip
    refine wc_seq ?_
    refine wc_draw [box b1 [.int .i64 a_c.Split, .int .i64 a_c.A, .int .i64 a_c.B]] 9 mixed ?_
    refine wa_pure 0 rfl (po_fld fo_33_1 rfl) (some_cons pick0 some_nil) rfl (by kernel_rfl) (fun _ _ _ h => h) ?_
    refine wa_pure (v := .int .i64 a_c.A) 1 rfl (po_load_box tk_3 pick0 rfl rfl) (some_cons pick0 some_nil) rfl (by kernel_rfl) (fun _ _ _ h => h) ?_
    refine wa_pure 4 rfl (po_fld fo_33_2 rfl) (some_cons pick0 some_nil) rfl (by kernel_rfl) (fun _ _ _ h => h) ?_
    refine wa_pure (v := .int .i64 a_c.B) 5 rfl (po_load_box tk_3 pick0 rfl rfl) (some_cons pick0 some_nil) rfl (by kernel_rfl) (fun _ _ _ h => h) ?_
    refine wa_1 (i := 2) (by kernel_rfl) ?_
    refine bdO t0 fun v4 hv4 t0 => ?_
    refine ws_call rfl (co_c0 fa_80 rfl fun w hw => c_spec_FormatInt w a_c.A hv4) (fun _ => (sts_some (some_cons pick0 some_nil))) rfl fun _ => ?_
    refine gdO t0 fun g3 t0 => ?_
    refine wa_pure 3 rfl (po_sadd rfl rfl g3) (some_cons pick0 some_nil) rfl (by kernel_rfl) (fun _ _ _ h => h) ?_
    refine wa_1 (i := 6) (by kernel_rfl) ?_
    refine bdO t0 fun v5 hv5 t0 => ?_
    refine ws_call rfl (co_c0 fa_80 rfl fun w hw => c_spec_FormatInt w a_c.B hv5) (fun _ => (sts_some (some_cons pick0 some_nil))) rfl fun _ => ?_
    refine gdO t0 fun g4 t0 => ?_
    refine wa_pure 7 rfl (po_sadd rfl rfl g4) (some_cons pick0 some_nil) rfl (by kernel_rfl) (fun _ _ _ h => h) ?_
    refine wa_pure 8 rfl (po_assign rfl) (some_cons pick0 some_nil) rfl (by kernel_rfl) (fun _ _ _ h => h) ?_
    refine wa_done (by kernel_rfl) ?_
    refine wq_then ?_
    refine wc_ret ?_
    refine wq_block_ret ?_
    refine wq_then_ret ?_
    obtain rfl := Option.some.inj t0
    exact wq_ret1 rfl rfl fun w hw => ⟨rfl, hw.weak some_nil⟩
  refine wc_skip ?_
  refine wq_block ?_
  refine wq_then ?_
  refine wcr ?_
  refine wl_pure (po_fld fo_33_1 rfl) rfl ?_
  refine wl_pure (v := .int .i64 a_c.A) (po_load_box tk_3 pick0 rfl rfl) rfl ?_
  refine bdO t0 fun v6 hv6 t0 => ?_
  refine wl_call (co_c0 fa_80 rfl fun w hw => c_spec_FormatInt w a_c.A hv6) rfl fun _ => ?_
  refine asg rfl rfl ?_
  refine wnt ?_
  refine wc_ret ?_
  obtain rfl := Option.some.inj t0
  exact wq_ret1 rfl rfl fun w hw => ⟨rfl, hw.weak some_nil⟩

theorem c_spec_TextOf (w : World) (a_b : GBlock) (v0a : Hd) (r0 : rdF w (dm w []) (sl v0a) a_b.Cells) {r : Str} (t0 : spec_TextOf a_b = some r) : Calls Try.prog 49 #[.agg #[.int .i64 a_b.Size, (sl v0a)]] w fun e w' => e = .returned (bs r) ∧ SH w [] [] w' := by
  refine calls_of_wc (args := [_]) Try.func49 rfl Try.ntmps49 rfl ?_
  unfold spec_TextOf at t0
  refine wcr ?_
  refine wl_eff (eo_box rfl rfl) rfl fun b1 => ?_
  refine asg rfl rfl ?_
  refine wnt ?_
  refine wcr ?_
  refine asg rfl rfl ?_
  refine wnt ?_
  refine wc_seq ?_
  refine wcr ?_
  refine asg rfl rfl ?_
  refine wnt ?_
  refine gdO t0 fun g1 t0 => ?_
  refine lpO_inv t0 fun y1 l1 t0 => ?_
  refine wj (J := Str) (X := Unit) (fun z => y1 = z) (fun z _ => [(3, bs z)]) (fun _ _ => []) ?_ ?_
  · skip
    refine wc_block ?_
    refine wc_forO (X := Unit) l1 (fun k1 s1 x1l => [(1, ptr b1 0), (3, bs s1), (4, .int .i64 ((k1 : Nat) : Int))]) (fun k1 s1 x1l => [box b1 [.int .i64 a_b.Size, (sl v0a)]]) () (sub_cons rfl (sub_cons rfl (sub_cons rfl sub_nil))) (some_cons pick0 some_nil) fun k1 s1 x1l hN1 l1 => ?_
    by_cases hk1 : k1 < a_b.Cells.length
    · skip
      refine forO_step l1 hk1 fun _ t1 l1 => ?_
      unfold spec_TextOf_L1 at t1
      have c1 : (decide (((k1 : Nat) : Int) < ((a_b.Cells.length : Nat) : Int))) = true := decide_eq_true (by omega)
      refine wc_seq ?_
      refine wcr ?_
      refine mv rfl rfl ?_
      refine wl_pure (po_fld fo_26_1 rfl) rfl ?_
      refine wl_pure (v := (sl v0a)) (po_load_box tk_24 pick0 rfl rfl) rfl ?_
      refine wl_pure (po_lenr (rds_arg r0) el_24 rfl) rfl ?_
      refine wl_pure (po_lss rfl rfl) rfl ?_
      refine mv rfl rfl ?_
      refine wl_know (t := 10) rfl c1 ?_
      refine wl_guard_on (j := 5) rfl rfl rfl (wl_pure (v := .agg #[.int .i64 a_b.Size, (sl v0a)]) (po_load_boxs tk_26 pick0 rfl rfl rfl) rfl ?_)
      refine bdO t1 fun v1 hv1 t1 => ?_
      refine wl_guard_on (j := 5) rfl rfl rfl (wl_call (co_c0 fa_10 rfl fun w hw => c_spec_BlockOk w a_b v0a (Rg.on (rds_arg r0) hw) hv1) rfl (fun _ => ?_))
      refine wl_pure (po_pick_t rfl rfl) rfl ?_
      refine wnt ?_
      refine wcO t1 rfl (fun h1 t1 => ?_) fun h1 t1 => ?_
      · skip
        refine wc_skip ?_
        refine wq_then ?_
        refine wc_seq ?_
        refine wc_block ?_
        refine wc_region ?_
        refine mv rfl rfl ?_
        refine wl_pure (po_fld fo_26_1 rfl) rfl ?_
        refine wl_pure (v := (sl v0a)) (po_load_box tk_24 pick0 rfl rfl) rfl ?_
        refine mv rfl rfl ?_
        refine wl_pure (po_ixn (k := k1) (rds_arg r0) el_24 rfl rfl hk1) rfl ?_
        refine wl_pure (v := .agg #[.int .i64 ((gx a_b.Cells k1).Split), .int .i64 ((gx a_b.Cells k1).A), .int .i64 ((gx a_b.Cells k1).B)]) (po_ldfs (rds_arg r0) tk_33 rfl hk1 rfl rfl rfl) rfl ?_
        refine bdO t1 fun v2 hv2 t1 => ?_
        refine wl_call (co_c0 fa_68 rfl fun w hw => c_spec_CellText w (gx a_b.Cells k1) hv2) rfl fun _ => ?_
        refine gdO t1 fun g2 t1 => ?_
        refine wl_pure (po_sadd rfl rfl g2) rfl ?_
        refine gdO t1 fun g3 t1 => ?_
        refine wl_pure (po_sadd rfl rfl g3) rfl ?_
        refine asg rfl rfl ?_
        refine wl_nil ?_
        refine wq_block ?_
        refine wq_then ?_
        refine wc_region ?_
        refine mv rfl rfl ?_
        refine wl_pure (po_inc rfl rfl (by omega)) rfl ?_
        refine asg rfl rfl ?_
        refine wl_nil ?_
        exact wq_rnd hk1 (stpN l1 t1) () (sub_cons rfl (sub_cons rfl (sub_cons rfl sub_nil))) (some_cons pick0 some_nil)
      refine wc_exit ?_
      refine wq_then_exit ?_
      refine wq_then_exit ?_
      refine wq_block_exit ?_
      exact wj_meet _ () (Sum.inl.inj (stpB l1 t1)) (sub_cons rfl sub_nil) some_nil
    have c1 : (decide (((k1 : Nat) : Int) < ((a_b.Cells.length : Nat) : Int))) = false := decide_eq_false (by omega)
    have en1 := forO_end l1 hk1
    refine wc_seq ?_
    refine wcr ?_
    refine mv rfl rfl ?_
    refine wl_pure (po_fld fo_26_1 rfl) rfl ?_
    refine wl_pure (v := (sl v0a)) (po_load_box tk_24 pick0 rfl rfl) rfl ?_
    refine wl_pure (po_lenr (rds_arg r0) el_24 rfl) rfl ?_
    refine wl_pure (po_lss rfl rfl) rfl ?_
    refine mv rfl rfl ?_
    refine wl_know (t := 10) rfl c1 ?_
    refine wl_guard_off (j := 5) rfl rfl rfl rfl rfl ?_
    refine wl_guard_off (j := 5) rfl rfl rfl rfl rfl ?_
    refine wl_pure (po_pick_f rfl rfl) rfl ?_
    refine wnt ?_
    refine wc_cond_f rfl rfl ?_
    refine wc_exit ?_
    refine wq_then_exit ?_
    refine wq_then_exit ?_
    refine wq_block_exit ?_
    exact wj_meet _ () (Sum.inl.inj en1) (sub_cons rfl sub_nil) some_nil
  intro e1 _ hp
  obtain rfl : e1 = y1 := hp.symm
  refine wq_then ?_
  refine wcr ?_
  refine mv rfl rfl ?_
  refine asg rfl rfl ?_
  refine wnt ?_
  refine wc_ret ?_
  obtain rfl := Option.some.inj t0
  exact wq_ret1 rfl rfl fun w hw => ⟨rfl, hw.weak some_nil⟩

theorem c_spec_LeastForm (w : World) (a_b : GBlock) (v0a : Hd) (r0 : rdF w (dm w []) (sl v0a) a_b.Cells) {r : GBlock} (t0 : spec_LeastForm a_b = some r) : Calls Try.prog 31 #[.agg #[.int .i64 a_b.Size, (sl v0a)]] w fun e w' => ∃ x : Hd, e = .returned (.agg #[.int .i64 r.Size, (sl x)]) ∧ SH w [] [ownF (sl x) r.Cells] w' := by
  refine calls_of_wc (args := [_]) Try.func31 rfl Try.ntmps31 rfl ?_
  unfold spec_LeastForm at t0
  refine wcr ?_
  refine wl_eff (eo_box rfl rfl) rfl fun b1 => ?_
  refine wl_eff (eo_alloc (cs := [.int .i64 0, (sl (⟨none, 0, 0⟩ : Hd))]) za_26) rfl fun b2 => ?_
  refine wnt ?_
  refine wc_seq ?_
  refine wcr ?_
  refine wl_pure (v := .agg #[.int .i64 a_b.Size, (sl v0a)]) (po_load_boxs tk_26 (pickS pick0) rfl rfl rfl) rfl ?_
  refine bdO t0 fun v1 hv1 t0 => ?_
  refine wl_call (co_c0 fa_10 rfl fun w hw => c_spec_BlockOk w a_b v0a (Rg.on (rds_arg r0) hw) hv1) rfl fun _ => ?_
  refine wl_pure (po_not rfl) rfl ?_
  refine wnt ?_
  refine wcO t0 rfl (fun h1 t0 => ?_) fun h1 t0 => ?_
  · skip
    refine wcr ?_
    refine wl_pure (po_build rfl bd_26) rfl ?_
    refine wl_skipop (so_box (cs' := [.int .i64 0, (sl (⟨none, 0, 0⟩ : Hd))]) tk_26 pick0 rfl rfl rfl rfl rfl rfl rfl) ?_
    refine wnt ?_
    refine wc_ret ?_
    refine wq_then_ret ?_
    obtain rfl := Option.some.inj t0
    exact wq_retc rfl tk_26 rfl pick0 rfl fun w hw => ⟨(⟨none, 0, 0⟩ : Hd), rfl, hw.weak (some_cons pick_nil some_nil)⟩
  refine wc_skip ?_
  refine wq_then ?_
  refine wcr ?_
  refine wl_pure (v := .agg #[.int .i64 a_b.Size, (sl v0a)]) (po_load_boxs tk_26 (pickS pick0) rfl rfl rfl) rfl ?_
  refine bdO t0 fun v2 hv2 t0 => ?_
  refine wl_call (co_c1 fa_27 rfl fun w hw => c_spec_l03Copy w a_b v0a (Rg.on (rds_arg r0) hw) hv2) rfl fun x1 => ?_
  refine wl_eff (eo_alloc (cs := [.int .i64 0, (sl (⟨none, 0, 0⟩ : Hd))]) za_26) rfl fun b3 => ?_
  refine wl_skipop (so_box (cs' := [.int .i64 v2.Size, (sl x1)]) tk_26 pick0 rfl rfl rfl rfl rfl rfl rfl) ?_
  refine wnt ?_
  refine wc_seq ?_
  refine wcr ?_
  refine asg rfl rfl ?_
  refine wnt ?_
  refine lpO_inv t0 fun y1 l1 t0 => ?_
  refine wj (J := Int × (List GCell)) (X := Hd) (fun z => y1 = z) (fun _ _ => [(2, ptr b2 0), (3, ptr b3 0)]) (fun z x => [box b3 [.int .i64 z.1, (sl x)], ownF (sl x) z.2, box b2 [.int .i64 0, (sl (⟨none, 0, 0⟩ : Hd))]]) ?_ ?_
  · skip
    refine wc_block ?_
    refine wc_forO (X := Hd) l1 (fun k1 s1 x1l => [(1, ptr b1 0), (2, ptr b2 0), (3, ptr b3 0), (4, .int .i64 (((k1 + 1) : Nat) : Int))]) (fun k1 s1 x1l => [box b3 [.int .i64 s1.1, (sl x1l)], ownF (sl x1l) s1.2, box b2 [.int .i64 0, (sl (⟨none, 0, 0⟩ : Hd))], box b1 [.int .i64 a_b.Size, (sl v0a)]]) x1 (sub_cons rfl (sub_cons rfl (sub_cons rfl (sub_cons rfl sub_nil)))) (some_cons pick0 (some_cons pick0 (some_cons pick0 (some_cons pick0 some_nil)))) fun k1 s1 x1l hN1 l1 => ?_
    by_cases hk1 : k1 < 7
    · skip
      refine forO_step l1 hk1 fun _ t1 l1 => ?_
      unfold spec_LeastForm_L1 at t1
      have c1 : (decide ((((k1 + 1) : Nat) : Int) < 8)) = true := decide_eq_true (by omega)
      refine wc_seq ?_
      refine wcr ?_
      refine mv rfl rfl ?_
      refine wl_pure (po_lss rfl rfl) rfl ?_
      refine wnt ?_
      refine wc_cond_t rfl c1 ?_
      refine wc_skip ?_
      refine wq_then ?_
      refine wc_seq ?_
      refine wc_block ?_
      refine wcr ?_
      refine wl_pure (v := .agg #[.int .i64 a_b.Size, (sl v0a)]) (po_load_boxs tk_26 (pickS (pickS (pickS pick0))) rfl rfl rfl) rfl ?_
      refine mv rfl rfl ?_
      refine bdO t1 fun v3 hv3 t1 => ?_
      refine wl_call (co_c1 fa_13 rfl fun w hw => c_spec_SeenFrom w a_b v0a (Rg.on (rds_arg r0) hw) (((k1 + 1) : Nat) : Int) hv3) rfl fun x3 => ?_
      refine wl_eff (eo_alloc (cs := [.int .i64 0, (sl (⟨none, 0, 0⟩ : Hd))]) za_26) rfl fun b4 => ?_
      refine wl_skipop (so_box (cs' := [.int .i64 v3.Size, (sl x3)]) tk_26 pick0 rfl rfl rfl rfl rfl rfl rfl) ?_
      refine wnt ?_
      refine wc_seq ?_
      refine wc_draw [box b4 [.int .i64 v3.Size, (sl x3)], ownF (sl x3) v3.Cells, box b3 [.int .i64 s1.1, (sl x1l)], ownF (sl x1l) s1.2, box b2 [.int .i64 0, (sl (⟨none, 0, 0⟩ : Hd))], box b1 [.int .i64 a_b.Size, (sl v0a)]] 5 mixed ?_
      refine wa_pure (v := .agg #[.int .i64 v3.Size, (sl x3)]) 0 rfl (po_load_boxs tk_26 pick0 rfl rfl rfl) (some_cons pick0 (some_cons pick0 (some_cons pick0 (some_cons pick0 (some_cons pick0 (some_cons pick0 some_nil)))))) rfl (by kernel_rfl) (fun _ _ _ h => h) ?_
      refine wa_pure (v := .agg #[.int .i64 s1.1, (sl x1l)]) 2 rfl (po_load_boxs tk_26 (pickS (pickS pick0)) rfl rfl rfl) (some_cons pick0 (some_cons pick0 (some_cons pick0 (some_cons pick0 (some_cons pick0 (some_cons pick0 some_nil)))))) rfl (by kernel_rfl) (fun _ _ _ h => h) ?_
      refine wa_1 (i := 1) (by kernel_rfl) ?_
      refine bdO t1 fun v4 hv4 t1 => ?_
      refine ws_call rfl (co_c0 fa_49 rfl fun w hw => c_spec_TextOf w v3 x3 (Rg.on (rds_own (pickS pick0)) hw) hv4) (fun _ => (sts_some (some_cons pick0 (some_cons pick0 (some_cons pick0 (some_cons pick0 (some_cons pick0 (some_cons pick0 some_nil)))))))) rfl fun _ => ?_
      refine wa_1 (i := 3) (by kernel_rfl) ?_
      refine bdO t1 fun v5 hv5 t1 => ?_
      refine ws_call rfl (co_c0 fa_49 rfl fun w hw => c_spec_TextOf w (GBlock.mk s1.1 s1.2) x1l (Rg.on (rds_own (pickS (pickS (pickS pick0)))) hw) hv5) (fun _ => (sts_some (some_cons pick0 (some_cons pick0 (some_cons pick0 (some_cons pick0 (some_cons pick0 (some_cons pick0 some_nil)))))))) rfl fun _ => ?_
      refine wa_pure 4 rfl (po_slss rfl rfl) (some_cons pick0 (some_cons pick0 (some_cons pick0 (some_cons pick0 (some_cons pick0 (some_cons pick0 some_nil)))))) rfl (by kernel_rfl) (fun _ _ _ h => h) ?_
      refine wa_done (by kernel_rfl) ?_
      refine wq_then ?_
      refine wc_join (X := Hd) (fun _ => True) (fun z => [(1, ptr b1 0), (2, ptr b2 0), (3, ptr b3 0), (4, .int .i64 (((k1 + 1) : Nat) : Int))]) (fun z => [box b3 [.int .i64 ((bif (slt v4 v5) then v3 else (GBlock.mk s1.1 s1.2)).Size), (sl z)], box b2 [.int .i64 0, (sl (⟨none, 0, 0⟩ : Hd))], box b1 [.int .i64 a_b.Size, (sl v0a)], ownF (sl z) ((bif (slt v4 v5) then v3 else (GBlock.mk s1.1 s1.2)).Cells)]) ?_ ?_
      · skip
        refine wc_cond rfl (fun h2 => ?_) fun h2 => ?_
        · skip
          refine wc_region ?_
          refine wl_pure (v := .agg #[.int .i64 v3.Size, (sl x3)]) (po_load_boxs tk_26 pick0 rfl rfl rfl) rfl ?_
          refine wl_skipop (so_box (cs' := [.int .i64 v3.Size, (sl x3)]) tk_26 (pickS (pickS pick0)) rfl rfl rfl rfl rfl rfl rfl) ?_
          refine wl_nil ?_
          exact wq_meet x3 trivial (sub_cons rfl (sub_cons rfl (sub_cons rfl (sub_cons rfl sub_nil)))) (some_cons (by simp only [h2, cond_true]; exact pick0) (some_cons (pickS (pickS (pickS pick0))) (some_cons (pickS (pickS (pickS pick0))) (some_cons (by simp only [h2, cond_true]; exact (pickS pick0)) some_nil))))
        refine wc_skip ?_
        exact wq_meet x1l trivial (sub_cons rfl (sub_cons rfl (sub_cons rfl (sub_cons rfl sub_nil)))) (some_cons (by simp only [h2, cond_false]; exact (pickS (pickS pick0))) (some_cons (pickS (pickS (pickS pick0))) (some_cons (pickS (pickS (pickS pick0))) (some_cons (by simp only [h2, cond_false]; exact (pickS (pickS pick0))) some_nil))))
      intro x4 _
      refine wq_block ?_
      refine wq_then ?_
      refine wc_region ?_
      refine mv rfl rfl ?_
      refine wl_pure (po_inc rfl rfl (by omega)) rfl ?_
      refine asg rfl rfl ?_
      refine wl_nil ?_
      exact wq_rnd hk1 (stpN l1 t1) x4 (sub_cons rfl (sub_cons rfl (sub_cons rfl (sub_cons rfl sub_nil)))) (some_cons pick0 (some_cons (pickS (pickS pick0)) (some_cons pick0 (some_cons pick0 some_nil))))
    have c1 : (decide ((((k1 + 1) : Nat) : Int) < 8)) = false := decide_eq_false (by omega)
    have en1 := forO_end l1 hk1
    refine wc_seq ?_
    refine wcr ?_
    refine mv rfl rfl ?_
    refine wl_pure (po_lss rfl rfl) rfl ?_
    refine wnt ?_
    refine wc_cond_f rfl c1 ?_
    refine wc_exit ?_
    refine wq_then_exit ?_
    refine wq_then_exit ?_
    refine wq_block_exit ?_
    exact wj_meet _ x1l (Sum.inl.inj en1) (sub_cons rfl (sub_cons rfl sub_nil)) (some_cons pick0 (some_cons pick0 (some_cons pick0 some_nil)))
  intro e1 x2 hp
  obtain rfl : e1 = y1 := hp.symm
  refine wq_then ?_
  refine wcr ?_
  refine wl_pure (v := .agg #[.int .i64 e1.1, (sl x2)]) (po_load_boxs tk_26 pick0 rfl rfl rfl) rfl ?_
  refine wl_skipop (so_box (cs' := [.int .i64 e1.1, (sl x2)]) tk_26 (pickS (pickS pick0)) rfl rfl rfl rfl rfl rfl rfl) ?_
  refine wnt ?_
  refine wc_ret ?_
  obtain rfl := Option.some.inj t0
  exact wq_retc rfl tk_26 rfl pick0 rfl fun w hw => ⟨x2, rfl, hw.weak (some_cons (pickS (pickS pick0)) some_nil)⟩

theorem c_spec_SameBlock (w : World) (a_b : GBlock) (v0a : Hd) (r0 : rdF w (dm w []) (sl v0a) a_b.Cells) (a_d : GBlock) (v1a : Hd) (r1 : rdF w (dm w []) (sl v1a) a_d.Cells) {r : Bool} (t0 : spec_SameBlock a_b a_d = some r) : Calls Try.prog 30 #[.agg #[.int .i64 a_b.Size, (sl v0a)], .agg #[.int .i64 a_d.Size, (sl v1a)]] w fun e w' => e = .returned (.bool r) ∧ SH w [] [] w' := by
  refine calls_of_wc (args := [_, _]) Try.func30 rfl Try.ntmps30 rfl ?_
  unfold spec_SameBlock at t0
  refine wcr ?_
  refine wl_eff (eo_box rfl rfl) rfl fun b1 => ?_
  refine wl_eff (eo_box rfl rfl) rfl fun b2 => ?_
  refine asg rfl rfl ?_
  refine wnt ?_
  refine wc_seq ?_
  refine wc_seq ?_
  refine wc_join (X := Unit) (fun _ => True) (fun _ => [(2, ptr b1 0), (3, ptr b2 0), (19, .bool ((a_b.Size != a_d.Size) || (((a_b.Cells.length : Nat) : Int) != ((a_d.Cells.length : Nat) : Int))))]) (fun _ => [box b2 [.int .i64 a_d.Size, (sl v1a)], box b1 [.int .i64 a_b.Size, (sl v0a)]]) ?_ ?_
  · skip
    refine wc_region ?_
    refine wl_pure (po_fld fo_26_0 rfl) rfl ?_
    refine wl_pure (v := .int .i64 a_b.Size) (po_load_box tk_3 (pickS pick0) rfl rfl) rfl ?_
    refine wl_pure (po_fld fo_26_0 rfl) rfl ?_
    refine wl_pure (v := .int .i64 a_d.Size) (po_load_box tk_3 pick0 rfl rfl) rfl ?_
    refine wl_pure (po_neq rfl rfl) rfl ?_
    refine mv rfl rfl ?_
    refine wl_fork (t := 11) rfl (fun h1 => ?_) fun h1 => ?_
    · skip
      refine wl_guard_off (j := 5) rfl rfl rfl rfl rfl ?_
      refine wl_guard_off (j := 5) rfl rfl rfl rfl rfl ?_
      refine wl_guard_off (j := 5) rfl rfl rfl rfl rfl ?_
      refine wl_guard_off (j := 5) rfl rfl rfl rfl rfl ?_
      refine wl_guard_off (j := 5) rfl rfl rfl rfl rfl ?_
      refine wl_guard_off (j := 5) rfl rfl rfl rfl rfl ?_
      refine wl_guard_off (j := 5) rfl rfl rfl rfl rfl ?_
      refine wl_pure (po_pick_t rfl rfl) rfl ?_
      refine wl_nil ?_
      exact wq_meet () trivial (sub_cons rfl (sub_cons rfl (sub_b rfl (by rw [h1]; rfl) sub_nil))) (some_cons pick0 (some_cons pick0 some_nil))
    refine wl_guard_on (j := 5) rfl rfl rfl (wl_pure (po_fld fo_26_1 rfl) rfl ?_)
    refine wl_guard_on (j := 5) rfl rfl rfl (wl_pure (v := (sl v0a)) (po_load_box tk_24 (pickS pick0) rfl rfl) rfl ?_)
    refine wl_guard_on (j := 5) rfl rfl rfl (wl_pure (po_lenr (rds_arg r0) el_24 rfl) rfl ?_)
    refine wl_guard_on (j := 5) rfl rfl rfl (wl_pure (po_fld fo_26_1 rfl) rfl ?_)
    refine wl_guard_on (j := 5) rfl rfl rfl (wl_pure (v := (sl v1a)) (po_load_box tk_24 pick0 rfl rfl) rfl ?_)
    refine wl_guard_on (j := 5) rfl rfl rfl (wl_pure (po_lenr (rds_arg r1) el_24 rfl) rfl ?_)
    refine wl_guard_on (j := 5) rfl rfl rfl (wl_pure (po_neq rfl rfl) rfl ?_)
    refine wl_pure (po_pick_f rfl rfl) rfl ?_
    refine wl_nil ?_
    exact wq_meet () trivial (sub_cons rfl (sub_cons rfl (sub_b rfl (by rw [h1]; rfl) sub_nil))) (some_cons pick0 (some_cons pick0 some_nil))
  intro _ _
  refine wq_then ?_
  refine wcO t0 rfl (fun h2 t0 => ?_) fun h2 t0 => ?_
  · skip
    refine wcr ?_
    refine asg rfl rfl ?_
    refine wnt ?_
    refine wc_ret ?_
    refine wq_then_ret ?_
    obtain rfl := Option.some.inj t0
    exact wq_ret1 rfl rfl fun w hw => ⟨rfl, hw.weak some_nil⟩
  refine wc_skip ?_
  refine wq_then ?_
  refine wc_seq ?_
  refine wcr ?_
  refine asg rfl rfl ?_
  refine wnt ?_
  refine gdO t0 fun g1 t0 => ?_
  refine sqO t0 fun y1 l1 t0 => ?_
  refine wj (J := Unit) (X := Unit) (fun z => y1 = .inl z) (fun _ _ => []) (fun _ _ => []) ?_ ?_
  · skip
    refine wc_block ?_
    refine wc_forO (X := Unit) l1 (fun k1 s1 x1l => [(2, ptr b1 0), (3, ptr b2 0), (5, .int .i64 ((k1 : Nat) : Int))]) (fun k1 s1 x1l => [box b2 [.int .i64 a_d.Size, (sl v1a)], box b1 [.int .i64 a_b.Size, (sl v0a)]]) () (sub_cons rfl (sub_cons rfl (sub_cons rfl sub_nil))) (some_cons pick0 (some_cons pick0 some_nil)) fun k1 s1 x1l hN1 l1 => ?_
    by_cases hk1 : k1 < a_b.Cells.length
    · skip
      refine forO_step l1 hk1 fun _ t1 l1 => ?_
      unfold spec_SameBlock_L1 at t1
      have c1 : (decide (((k1 : Nat) : Int) < ((a_b.Cells.length : Nat) : Int))) = true := decide_eq_true (by omega)
      refine wc_seq ?_
      refine wcr ?_
      refine mv rfl rfl ?_
      refine wl_pure (po_fld fo_26_1 rfl) rfl ?_
      refine wl_pure (v := (sl v0a)) (po_load_box tk_24 (pickS pick0) rfl rfl) rfl ?_
      refine wl_pure (po_lenr (rds_arg r0) el_24 rfl) rfl ?_
      refine wl_pure (po_lss rfl rfl) rfl ?_
      refine wnt ?_
      refine wc_cond_t rfl c1 ?_
      refine wc_skip ?_
      refine wq_then ?_
      refine wc_seq ?_
      refine wc_block ?_
      refine wc_seq ?_
      refine wc_draw [box b2 [.int .i64 a_d.Size, (sl v1a)], box b1 [.int .i64 a_b.Size, (sl v0a)]] 11 mixed ?_
      refine wa_pure 0 rfl (po_fld fo_26_1 rfl) (some_cons pick0 (some_cons pick0 some_nil)) rfl (by kernel_rfl) (fun _ _ _ h => h) ?_
      refine wa_pure (v := (sl v0a)) 1 rfl (po_load_box tk_24 (pickS pick0) rfl rfl) (some_cons pick0 (some_cons pick0 some_nil)) rfl (by kernel_rfl) (fun _ _ _ h => h) ?_
      refine wa_pure 2 rfl (po_move rfl) (some_cons pick0 (some_cons pick0 some_nil)) rfl (by kernel_rfl) (fun _ _ _ h => h) ?_
      refine wa_pure 3 rfl (po_ixn (k := k1) (rds_arg r0) el_24 rfl rfl hk1) (some_cons pick0 (some_cons pick0 some_nil)) rfl (by kernel_rfl) (fun _ _ _ h => h) ?_
      refine wa_pure (v := .agg #[.int .i64 ((gx a_b.Cells k1).Split), .int .i64 ((gx a_b.Cells k1).A), .int .i64 ((gx a_b.Cells k1).B)]) 4 rfl (po_ldfs (rds_arg r0) tk_33 rfl hk1 rfl rfl rfl) (some_cons pick0 (some_cons pick0 some_nil)) rfl (by kernel_rfl) (fun _ _ _ h => h) ?_
      refine wa_pure 5 rfl (po_fld fo_26_1 rfl) (some_cons pick0 (some_cons pick0 some_nil)) rfl (by kernel_rfl) (fun _ _ _ h => h) ?_
      refine wa_pure (v := (sl v1a)) 6 rfl (po_load_box tk_24 pick0 rfl rfl) (some_cons pick0 (some_cons pick0 some_nil)) rfl (by kernel_rfl) (fun _ _ _ h => h) ?_
      refine wa_pure 7 rfl (po_move rfl) (some_cons pick0 (some_cons pick0 some_nil)) rfl (by kernel_rfl) (fun _ _ _ h => h) ?_
      refine gdO t1 fun g2 t1 => ?_
      refine wa_pure 8 rfl (po_ixn (k := k1) (rds_arg r1) el_24 rfl rfl g2) (some_cons pick0 (some_cons pick0 some_nil)) rfl (by kernel_rfl) (fun _ _ _ h => h) ?_
      refine wa_pure (v := .agg #[.int .i64 ((gx a_d.Cells k1).Split), .int .i64 ((gx a_d.Cells k1).A), .int .i64 ((gx a_d.Cells k1).B)]) 9 rfl (po_ldfs (rds_arg r1) tk_33 rfl g2 rfl rfl rfl) (some_cons pick0 (some_cons pick0 some_nil)) rfl (by kernel_rfl) (fun _ _ _ h => h) ?_
      refine wa_pure 10 rfl (po_neq_struct (ps := [(gx a_b.Cells k1).Split, (gx a_b.Cells k1).A, (gx a_b.Cells k1).B]) (qs := [(gx a_d.Cells k1).Split, (gx a_d.Cells k1).A, (gx a_d.Cells k1).B]) sq_33 rfl rfl rfl rfl) (some_cons pick0 (some_cons pick0 some_nil)) rfl (by kernel_rfl) (fun _ _ _ h => h) ?_
      refine wa_done (by kernel_rfl) ?_
      refine wq_then ?_
      refine wcO t1 rfl (fun h3 t1 => ?_) fun h3 t1 => ?_
      · skip
        refine wcr ?_
        refine asg rfl rfl ?_
        refine wnt ?_
        refine wc_ret ?_
        refine wq_block_ret ?_
        refine wq_then_ret ?_
        refine wq_then_ret ?_
        refine wq_block_ret ?_
        refine wq_then_ret ?_
        refine wq_then_ret ?_
        replace t0 := lpR t0 l1 t1
        obtain rfl := Option.some.inj t0
        exact wq_ret1 rfl rfl fun w hw => ⟨rfl, hw.weak some_nil⟩
      refine wc_skip ?_
      refine wq_block ?_
      refine wq_then ?_
      refine wc_region ?_
      refine mv rfl rfl ?_
      refine wl_pure (po_inc rfl rfl (by omega)) rfl ?_
      refine asg rfl rfl ?_
      refine wl_nil ?_
      exact wq_rnd hk1 (stpN l1 t1) () (sub_cons rfl (sub_cons rfl (sub_cons rfl sub_nil))) (some_cons pick0 (some_cons pick0 some_nil))
    have c1 : (decide (((k1 : Nat) : Int) < ((a_b.Cells.length : Nat) : Int))) = false := decide_eq_false (by omega)
    have en1 := forO_end l1 hk1
    refine wc_seq ?_
    refine wcr ?_
    refine mv rfl rfl ?_
    refine wl_pure (po_fld fo_26_1 rfl) rfl ?_
    refine wl_pure (v := (sl v0a)) (po_load_box tk_24 (pickS pick0) rfl rfl) rfl ?_
    refine wl_pure (po_lenr (rds_arg r0) el_24 rfl) rfl ?_
    refine wl_pure (po_lss rfl rfl) rfl ?_
    refine wnt ?_
    refine wc_cond_f rfl c1 ?_
    refine wc_exit ?_
    refine wq_then_exit ?_
    refine wq_then_exit ?_
    refine wq_block_exit ?_
    exact wj_meet _ () en1 sub_nil some_nil
  intro e1 _ hp
  replace t0 := sqE (j := e1) t0 hp
  refine wq_then ?_
  refine wcr ?_
  refine asg rfl rfl ?_
  refine wnt ?_
  refine wc_ret ?_
  obtain rfl := Option.some.inj t0
  exact wq_ret1 rfl rfl fun w hw => ⟨rfl, hw.weak some_nil⟩

theorem c_spec_AreSame (w : World) (a_b : GBlock) (v0a : Hd) (r0 : rdF w (dm w []) (sl v0a) a_b.Cells) (a_d : GBlock) (v1a : Hd) (r1 : rdF w (dm w []) (sl v1a) a_d.Cells) {r : Bool} (t0 : spec_AreSame a_b a_d = some r) : Calls Try.prog 14 #[.agg #[.int .i64 a_b.Size, (sl v0a)], .agg #[.int .i64 a_d.Size, (sl v1a)]] w fun e w' => e = .returned (.bool r) ∧ SH w [] [] w' := by
  refine calls_of_wc (args := [_, _]) Try.func14 rfl Try.ntmps14 rfl ?_
  unfold spec_AreSame at t0
  refine wcr ?_
  refine wl_eff (eo_box rfl rfl) rfl fun b1 => ?_
  refine wl_eff (eo_box rfl rfl) rfl fun b2 => ?_
  refine asg rfl rfl ?_
  refine wnt ?_
  refine wc_seq ?_
  refine bdO t0 fun y1 t1 t0 => ?_
  refine wj (J := Bool) (X := Unit) (fun z => y1 = z) (fun z _ => [(4, .bool z)]) (fun _ _ => []) ?_ ?_
  · skip
    refine wc_draw [box b2 [.int .i64 a_d.Size, (sl v1a)], box b1 [.int .i64 a_b.Size, (sl v0a)]] 14 mixed ?_
    refine wa_pure (v := .agg #[.int .i64 a_b.Size, (sl v0a)]) 0 rfl (po_load_boxs tk_26 (pickS pick0) rfl rfl rfl) (some_cons pick0 (some_cons pick0 some_nil)) rfl (by kernel_rfl) (fun _ _ _ h => h) ?_
    refine wa_1 (i := 1) (by kernel_rfl) ?_
    refine bdO t1 fun v1 hv1 t1 => ?_
    refine ws_call rfl (co_c0 fa_10 rfl fun w hw => c_spec_BlockOk w a_b v0a (Rg.on (rds_arg r0) hw) hv1) (fun _ => (sts_some (some_cons pick0 (some_cons pick0 some_nil)))) rfl fun _ => ?_
    refine wa_pure 2 rfl (po_move rfl) (some_cons pick0 (some_cons pick0 some_nil)) rfl (by kernel_rfl) (fun _ _ _ h => h) ?_
    refine waO_ (t := 7) t1 rfl (fun h1 t1 => ?_) fun h1 t1 => ?_
    · skip
      refine wa_pure_on (v := .agg #[.int .i64 a_d.Size, (sl v1a)]) 3 (j := 2) rfl rfl rfl rfl (po_load_boxs tk_26 pick0 rfl rfl rfl) (some_cons pick0 (some_cons pick0 some_nil)) rfl (by kernel_rfl) (fun _ _ _ h => h) ?_
      refine wa_1 (i := 4) (by kernel_rfl) ?_
      refine bdO t1 fun v2 hv2 t1 => ?_
      refine ws_call_on (j := 2) rfl rfl rfl rfl (co_c0 fa_10 rfl fun w hw => c_spec_BlockOk w a_d v1a (Rg.on (rds_arg r1) hw) hv2) (fun _ => (sts_some (some_cons pick0 (some_cons pick0 some_nil)))) rfl fun _ => ?_
      refine wa_pure 5 rfl (po_pick_t rfl rfl) (some_cons pick0 (some_cons pick0 some_nil)) rfl (by kernel_rfl) (fun _ _ _ h => h) ?_
      refine wa_pure 6 rfl (po_move rfl) (some_cons pick0 (some_cons pick0 some_nil)) rfl (by kernel_rfl) (fun _ _ _ h => h) ?_
      refine waO_ (t := 11) t1 rfl (fun h2 t1 => ?_) fun h2 t1 => ?_
      · skip
        refine wa_pure_on (v := .agg #[.int .i64 a_b.Size, (sl v0a)]) 7 (j := 6) rfl rfl rfl rfl (po_load_boxs tk_26 (pickS pick0) rfl rfl rfl) (some_cons pick0 (some_cons pick0 some_nil)) rfl (by kernel_rfl) (fun _ _ _ h => h) ?_
        refine wa_pure_on (v := .agg #[.int .i64 a_d.Size, (sl v1a)]) 9 (j := 6) rfl rfl rfl rfl (po_load_boxs tk_26 pick0 rfl rfl rfl) (some_cons pick0 (some_cons pick0 some_nil)) rfl (by kernel_rfl) (fun _ _ _ h => h) ?_
        refine wa_1 (i := 8) (by kernel_rfl) ?_
        refine bdO t1 fun v3 hv3 t1 => ?_
        refine ws_call_on (j := 6) rfl rfl rfl rfl (co_c1 fa_31 rfl fun w hw => c_spec_LeastForm w a_b v0a (Rg.on (rds_arg r0) hw) hv3) (fun _ => (sts_some (some_cons (pickS pick0) (some_cons (pickS pick0) some_nil)))) rfl fun x2 => ?_
        refine wa_1 (i := 10) (by kernel_rfl) ?_
        refine bdO t1 fun v4 hv4 t1 => ?_
        refine ws_call_on (j := 6) rfl rfl rfl rfl (co_c1 fa_31 rfl fun w hw => c_spec_LeastForm w a_d v1a (Rg.on (rds_arg r1) hw) hv4) (fun _ => (sts_some (some_cons (pickS (pickS pick0)) (some_cons (pickS (pickS pick0)) some_nil)))) rfl fun x3 => ?_
        refine wa_1 (i := 11) (by kernel_rfl) ?_
        refine bdO t1 fun v5 hv5 t1 => ?_
        refine ws_call_on (j := 6) rfl rfl rfl rfl (co_c0 fa_30 rfl fun w hw => c_spec_SameBlock w v3 x2 (Rg.on (rds_own (pickS pick0)) hw) v4 x3 (Rg.on (rds_own pick0) hw) hv5) (fun _ => (sts_some (some_cons (pickS (pickS pick0)) (some_cons (pickS (pickS pick0)) some_nil)))) rfl fun _ => ?_
        refine wa_pure 12 rfl (po_pick_t rfl rfl) (some_cons (pickS (pickS pick0)) (some_cons (pickS (pickS pick0)) some_nil)) rfl (by kernel_rfl) (fun _ _ _ h => h) ?_
        refine wa_pure 13 rfl (po_assign rfl) (some_cons (pickS (pickS pick0)) (some_cons (pickS (pickS pick0)) some_nil)) rfl (by kernel_rfl) (fun _ _ _ h => h) ?_
        refine wa_done (by kernel_rfl) ?_
        exact wj_meet _ () (mtE t1) (sub_cons rfl sub_nil) some_nil
      refine wa_off 7 (j := 6) rfl rfl rfl rfl rfl (some_cons pick0 (some_cons pick0 some_nil)) rfl (by kernel_rfl) (fun _ _ _ h => h) ?_
      refine wa_off 8 (j := 6) rfl rfl rfl rfl rfl (some_cons pick0 (some_cons pick0 some_nil)) rfl (by kernel_rfl) (fun _ _ _ h => h) ?_
      refine wa_off 9 (j := 6) rfl rfl rfl rfl rfl (some_cons pick0 (some_cons pick0 some_nil)) rfl (by kernel_rfl) (fun _ _ _ h => h) ?_
      refine wa_off 10 (j := 6) rfl rfl rfl rfl rfl (some_cons pick0 (some_cons pick0 some_nil)) rfl (by kernel_rfl) (fun _ _ _ h => h) ?_
      refine wa_off 11 (j := 6) rfl rfl rfl rfl rfl (some_cons pick0 (some_cons pick0 some_nil)) rfl (by kernel_rfl) (fun _ _ _ h => h) ?_
      refine wa_pure 12 rfl (po_pick_f rfl rfl) (some_cons pick0 (some_cons pick0 some_nil)) rfl (by kernel_rfl) (fun _ _ _ h => h) ?_
      refine wa_pure 13 rfl (po_assign rfl) (some_cons pick0 (some_cons pick0 some_nil)) rfl (by kernel_rfl) (fun _ _ _ h => h) ?_
      refine wa_done (by kernel_rfl) ?_
      exact wj_meet _ () (mtE t1) (sub_cons rfl sub_nil) some_nil
    refine wa_off 3 (j := 2) rfl rfl rfl rfl rfl (some_cons pick0 (some_cons pick0 some_nil)) rfl (by kernel_rfl) (fun _ _ _ h => h) ?_
    refine wa_off 4 (j := 2) rfl rfl rfl rfl rfl (some_cons pick0 (some_cons pick0 some_nil)) rfl (by kernel_rfl) (fun _ _ _ h => h) ?_
    refine wa_pure 5 rfl (po_pick_f rfl rfl) (some_cons pick0 (some_cons pick0 some_nil)) rfl (by kernel_rfl) (fun _ _ _ h => h) ?_
    refine wa_pure 6 rfl (po_move rfl) (some_cons pick0 (some_cons pick0 some_nil)) rfl (by kernel_rfl) (fun _ _ _ h => h) ?_
    refine wa_off 7 (j := 6) rfl rfl rfl rfl rfl (some_cons pick0 (some_cons pick0 some_nil)) rfl (by kernel_rfl) (fun _ _ _ h => h) ?_
    refine wa_off 8 (j := 6) rfl rfl rfl rfl rfl (some_cons pick0 (some_cons pick0 some_nil)) rfl (by kernel_rfl) (fun _ _ _ h => h) ?_
    refine wa_off 9 (j := 6) rfl rfl rfl rfl rfl (some_cons pick0 (some_cons pick0 some_nil)) rfl (by kernel_rfl) (fun _ _ _ h => h) ?_
    refine wa_off 10 (j := 6) rfl rfl rfl rfl rfl (some_cons pick0 (some_cons pick0 some_nil)) rfl (by kernel_rfl) (fun _ _ _ h => h) ?_
    refine wa_off 11 (j := 6) rfl rfl rfl rfl rfl (some_cons pick0 (some_cons pick0 some_nil)) rfl (by kernel_rfl) (fun _ _ _ h => h) ?_
    refine wa_pure 12 rfl (po_pick_f rfl rfl) (some_cons pick0 (some_cons pick0 some_nil)) rfl (by kernel_rfl) (fun _ _ _ h => h) ?_
    refine wa_pure 13 rfl (po_assign rfl) (some_cons pick0 (some_cons pick0 some_nil)) rfl (by kernel_rfl) (fun _ _ _ h => h) ?_
    refine wa_done (by kernel_rfl) ?_
    exact wj_meet _ () (mtE t1) (sub_cons rfl sub_nil) some_nil
  intro j1 _ hp
  obtain rfl : j1 = y1 := hp.symm
  refine wq_then ?_
  refine wc_ret ?_
  obtain rfl := Option.some.inj t0
  exact wq_ret1 rfl rfl fun w hw => ⟨rfl, hw.weak some_nil⟩

theorem c_spec_FirstUse (w : World) (a_b : GBlock) (v0a : Hd) (r0 : rdF w (dm w []) (sl v0a) a_b.Cells) {r : List Int} (t0 : spec_FirstUse a_b = some r) : Calls Try.prog 69 #[.agg #[.int .i64 a_b.Size, (sl v0a)]] w fun e w' => ∃ x : Hd, e = .returned ((sl x)) ∧ SH w [] [ownF (sl x) r] w' := by
  refine calls_of_wc (args := [_]) Try.func69 rfl Try.ntmps69 rfl ?_
  unfold spec_FirstUse at t0
  refine wcr ?_
  refine wl_eff (eo_box rfl rfl) rfl fun b1 => ?_
  refine asg rfl rfl ?_
  refine wnt ?_
  refine wc_seq ?_
  refine wcr ?_
  refine wl_pure (v := .agg #[.int .i64 a_b.Size, (sl v0a)]) (po_load_boxs tk_26 pick0 rfl rfl rfl) rfl ?_
  refine bdO t0 fun v1 hv1 t0 => ?_
  refine wl_call (co_c0 fa_10 rfl fun w hw => c_spec_BlockOk w a_b v0a (Rg.on (rds_arg r0) hw) hv1) rfl fun _ => ?_
  refine wl_pure (po_not rfl) rfl ?_
  refine wnt ?_
  refine wcO t0 rfl (fun h1 t0 => ?_) fun h1 t0 => ?_
  · skip
    refine wcr ?_
    refine wl_eff (eo_buildSlice rfl sb_34_0) rfl fun b2 => ?_
    refine asg rfl rfl ?_
    refine wnt ?_
    refine wc_ret ?_
    refine wq_then_ret ?_
    obtain rfl := Option.some.inj t0
    exact wq_ret1 rfl rfl fun w hw => ⟨(⟨some ⟨b2, 0, none⟩, 0, 0⟩ : Hd), rfl, hw.weak (some_cons (pick_box_own pick0 (n := 0) (xs := ([] : List Int)) rfl rfl (by unfold maxLen; omega)) some_nil)⟩
  refine wc_skip ?_
  refine wq_then ?_
  refine wcr ?_
  refine wl_eff (eo_buildSlice rfl sb_34_0) rfl fun b3 => ?_
  refine asg rfl rfl ?_
  refine wnt ?_
  refine wc_seq ?_
  refine wcr ?_
  refine asg rfl rfl ?_
  refine wnt ?_
  refine lpO_inv t0 fun y1 l1 t0 => ?_
  refine wj (J := List Int) (X := Hd) (fun z => y1 = z) (fun _ x => [(1, ptr b1 0), (3, (sl x))]) (fun z x => [box b1 [.int .i64 a_b.Size, (sl v0a)], ownF (sl x) z]) ?_ ?_
  · skip
    refine wc_block ?_
    refine wc_forO (X := Hd) l1 (fun k1 s1 x1l => [(1, ptr b1 0), (3, (sl x1l)), (4, .int .i64 ((k1 : Nat) : Int))]) (fun k1 s1 x1l => [box b1 [.int .i64 a_b.Size, (sl v0a)], ownF (sl x1l) s1]) (⟨some ⟨b3, 0, none⟩, 0, 0⟩ : Hd) (sub_cons rfl (sub_cons rfl (sub_cons rfl sub_nil))) (some_cons (pickS pick0) (some_cons (pick_box_own pick0 (n := 0) (xs := ([] : List Int)) rfl rfl (by unfold maxLen; omega)) some_nil)) fun k1 s1 x1l hN1 l1 => ?_
    by_cases hk1 : k1 < 6
    · skip
      refine forO_step l1 hk1 fun _ t1 l1 => ?_
      unfold spec_FirstUse_L1 at t1
      have c1 : (decide (((k1 : Nat) : Int) < 6)) = true := decide_eq_true (by omega)
      refine wc_seq ?_
      refine wcr ?_
      refine mv rfl rfl ?_
      refine wl_pure (po_lss rfl rfl) rfl ?_
      refine wnt ?_
      refine wc_cond_t rfl c1 ?_
      refine wc_skip ?_
      refine wq_then ?_
      refine wc_seq ?_
      refine wc_block ?_
      refine wc_region ?_
      refine mv rfl rfl ?_
      refine wl_eff (eo_buildSlice rfl (sb_34_1 (-1))) rfl fun b4 => ?_
      refine gdO t1 fun g1 t1 => ?_
      refine wl_eff (eo_append (xs := s1) (ys := ([(-1)] : List Int)) ak_34 (pickS (pickS pick0)) rfl rfl (slin_rd fun _ g => Rg.on (rds_own (pick_box_own pick0 (n := 1) (xs := ([(-1)] : List Int)) rfl rfl (by unfold maxLen; omega))) g) g1) rfl fun x2 => ?_
      refine asg rfl rfl ?_
      refine wl_nil ?_
      refine wq_block ?_
      refine wq_then ?_
      refine wc_region ?_
      refine mv rfl rfl ?_
      refine wl_pure (po_inc rfl rfl (by omega)) rfl ?_
      refine asg rfl rfl ?_
      refine wl_nil ?_
      exact wq_rnd hk1 (stpN l1 t1) x2 (sub_cons rfl (sub_cons rfl (sub_cons rfl sub_nil))) (some_cons (pickS (pickS pick0)) (some_cons pick0 some_nil))
    have c1 : (decide (((k1 : Nat) : Int) < 6)) = false := decide_eq_false (by omega)
    have en1 := forO_end l1 hk1
    refine wc_seq ?_
    refine wcr ?_
    refine mv rfl rfl ?_
    refine wl_pure (po_lss rfl rfl) rfl ?_
    refine wnt ?_
    refine wc_cond_f rfl c1 ?_
    refine wc_exit ?_
    refine wq_then_exit ?_
    refine wq_then_exit ?_
    refine wq_block_exit ?_
    exact wj_meet _ x1l (Sum.inl.inj en1) (sub_cons rfl (sub_cons rfl sub_nil)) (some_cons pick0 (some_cons pick0 some_nil))
  intro e1 x1 hp
  obtain rfl : e1 = y1 := hp.symm
  refine wq_then ?_
  refine wcr ?_
  refine asg rfl rfl ?_
  refine wnt ?_
  refine wc_seq ?_
  refine wcr ?_
  refine asg rfl rfl ?_
  refine wnt ?_
  refine gdO t0 fun g2 t0 => ?_
  refine lpO_inv t0 fun y1 l1 t0 => ?_
  refine wj (J := (List Int) × Int) (X := Unit) (fun z => y1 = z) (fun z _ => [(3, (sl x1)), (5, .int .i64 z.2)]) (fun z _ => [ownF (sl x1) z.1]) ?_ ?_
  · skip
    refine wc_block ?_
    refine wc_forO (X := Unit) l1 (fun k2 s2 x2l => [(1, ptr b1 0), (3, (sl x1)), (5, .int .i64 s2.2), (6, .int .i64 ((k2 : Nat) : Int))]) (fun k2 s2 x2l => [box b1 [.int .i64 a_b.Size, (sl v0a)], ownF (sl x1) s2.1]) () (sub_cons rfl (sub_cons rfl (sub_cons rfl (sub_cons rfl sub_nil)))) (some_cons pick0 (some_cons pick0 some_nil)) fun k2 s2 x2l hN2 l1 => ?_
    by_cases hk2 : k2 < ((wr (2 * ((a_b.Cells.length : Nat) : Int)))).toNat
    · skip
      refine forO_step l1 hk2 fun _ t1 l1 => ?_
      unfold spec_FirstUse_L2 at t1
      have c2 : (decide (((k2 : Nat) : Int) < (wr (2 * ((a_b.Cells.length : Nat) : Int))))) = true := decide_eq_true (by omega)
      refine wc_seq ?_
      refine wcr ?_
      refine mv rfl rfl ?_
      refine wl_pure (po_fld fo_26_1 rfl) rfl ?_
      refine wl_pure (v := (sl v0a)) (po_load_box tk_24 pick0 rfl rfl) rfl ?_
      refine wl_pure (po_lenr (rds_arg r0) el_24 rfl) rfl ?_
      refine wl_pure (po_mul rfl rfl) rfl ?_
      refine wl_pure (po_lss rfl rfl) rfl ?_
      refine wnt ?_
      refine wc_cond_t rfl c2 ?_
      refine wc_skip ?_
      refine wq_then ?_
      refine wc_seq ?_
      refine wc_block ?_
      refine wcr ?_
      refine wl_pure (po_fld fo_26_1 rfl) rfl ?_
      refine wl_pure (v := (sl v0a)) (po_load_box tk_24 pick0 rfl rfl) rfl ?_
      refine mv rfl rfl ?_
      refine wl_pure (po_quo rfl rfl (by decide)) rfl ?_
      refine gdO t1 fun g3 t1 => ?_
      refine wl_pure (po_ixr (rds_arg r0) el_24 rfl rfl g3.1 g3.2) rfl ?_
      refine wl_pure (po_sfldr (rds_arg r0) (ix_lt g3) fo_33_1 rfl) rfl ?_
      refine wl_pure (v := .int .i64 ((gx a_b.Cells (((wr (((k2 : Nat) : Int).tdiv 2))).toNat)).A)) (po_ldf (rds_arg r0) tk_3 rfl (ix_lt g3) rfl) rfl ?_
      refine asg rfl rfl ?_
      refine wnt ?_
      refine wc_seq ?_
      refine wcr ?_
      refine mv rfl rfl ?_
      refine wl_pure (po_rem rfl rfl (by decide)) rfl ?_
      refine wl_pure (po_eql rfl rfl) rfl ?_
      refine wnt ?_
      refine wc_join (X := Unit) (fun _ => True) (fun _ => [(1, ptr b1 0), (3, (sl x1)), (5, .int .i64 s2.2), (6, .int .i64 ((k2 : Nat) : Int)), (7, .int .i64 (bif ((((k2 : Nat) : Int).tmod 2) == 1) then (gx a_b.Cells (((wr (((k2 : Nat) : Int).tdiv 2))).toNat)).B else (gx a_b.Cells (((wr (((k2 : Nat) : Int).tdiv 2))).toNat)).A))]) (fun _ => [box b1 [.int .i64 a_b.Size, (sl v0a)], ownF (sl x1) s2.1]) ?_ ?_
      · skip
        refine wc_cond rfl (fun h2 => ?_) fun h2 => ?_
        · skip
          refine wc_region ?_
          refine wl_pure (po_fld fo_26_1 rfl) rfl ?_
          refine wl_pure (v := (sl v0a)) (po_load_box tk_24 pick0 rfl rfl) rfl ?_
          refine mv rfl rfl ?_
          refine wl_pure (po_quo rfl rfl (by decide)) rfl ?_
          refine wl_pure (po_ixr (rds_arg r0) el_24 rfl rfl g3.1 g3.2) rfl ?_
          refine wl_pure (po_sfldr (rds_arg r0) (ix_lt g3) fo_33_2 rfl) rfl ?_
          refine wl_pure (v := .int .i64 ((gx a_b.Cells (((wr (((k2 : Nat) : Int).tdiv 2))).toNat)).B)) (po_ldf (rds_arg r0) tk_3 rfl (ix_lt g3) rfl) rfl ?_
          refine asg rfl rfl ?_
          refine wl_nil ?_
          exact wq_meet () trivial (sub_cons rfl (sub_cons rfl (sub_cons rfl (sub_cons rfl (sub_i rfl (by simp only [h2, cond_true]) sub_nil))))) (some_cons pick0 (some_cons pick0 some_nil))
        refine wc_skip ?_
        exact wq_meet () trivial (sub_cons rfl (sub_cons rfl (sub_cons rfl (sub_cons rfl (sub_i rfl (by simp only [h2, cond_false]) sub_nil))))) (some_cons pick0 (some_cons pick0 some_nil))
      intro _ _
      refine wq_then ?_
      refine wcr ?_
      refine mv rfl rfl ?_
      refine mv rfl rfl ?_
      refine gdO t1 fun g4 t1 => ?_
      refine wl_pure (po_ixr (rds_own (pickS pick0)) el_34 rfl rfl g4.1 g4.2) rfl ?_
      refine wl_pure (v := .int .i64 (gx s2.1 (((bif ((((k2 : Nat) : Int).tmod 2) == 1) then (gx a_b.Cells (((wr (((k2 : Nat) : Int).tdiv 2))).toNat)).B else (gx a_b.Cells (((wr (((k2 : Nat) : Int).tdiv 2))).toNat)).A)).toNat))) (po_ldf (rds_own (pickS pick0)) tk_3 rfl (ix_lt g4) rfl) rfl ?_
      refine wl_pure (po_lss rfl rfl) rfl ?_
      refine wnt ?_
      refine wc_join (X := Unit) (fun _ => True) (fun _ => [(1, ptr b1 0), (3, (sl x1)), (5, .int .i64 (bif (decide ((gx s2.1 (((bif ((((k2 : Nat) : Int).tmod 2) == 1) then (gx a_b.Cells (((wr (((k2 : Nat) : Int).tdiv 2))).toNat)).B else (gx a_b.Cells (((wr (((k2 : Nat) : Int).tdiv 2))).toNat)).A)).toNat)) < 0)) then (wr (s2.2 + 1)) else s2.2)), (6, .int .i64 ((k2 : Nat) : Int))]) (fun _ => [box b1 [.int .i64 a_b.Size, (sl v0a)], ownF (sl x1) (bif (decide ((gx s2.1 (((bif ((((k2 : Nat) : Int).tmod 2) == 1) then (gx a_b.Cells (((wr (((k2 : Nat) : Int).tdiv 2))).toNat)).B else (gx a_b.Cells (((wr (((k2 : Nat) : Int).tdiv 2))).toNat)).A)).toNat)) < 0)) then (s2.1.set (((bif ((((k2 : Nat) : Int).tmod 2) == 1) then (gx a_b.Cells (((wr (((k2 : Nat) : Int).tdiv 2))).toNat)).B else (gx a_b.Cells (((wr (((k2 : Nat) : Int).tdiv 2))).toNat)).A)).toNat) s2.2) else s2.1)]) ?_ ?_
      · skip
        refine wc_cond rfl (fun h3 => ?_) fun h3 => ?_
        · skip
          refine wcr ?_
          refine mv rfl rfl ?_
          refine mv rfl rfl ?_
          refine mv rfl rfl ?_
          refine wl_pure (po_ixr (rds_own (pickS pick0)) el_34 rfl rfl g4.1 g4.2) rfl ?_
          refine wl_skipop (so_own (x' := s2.2) tk_3 (pickS pick0) rfl rfl rfl rfl rfl rfl (ix_lt g4) rfl) ?_
          refine wnt ?_
          refine wc_region ?_
          refine mv rfl rfl ?_
          refine wl_pure (po_add rfl rfl) rfl ?_
          refine asg rfl rfl ?_
          refine wl_nil ?_
          exact wq_meet () trivial (sub_cons rfl (sub_cons rfl (sub_i rfl (by simp only [h3, cond_true]) (sub_cons rfl sub_nil)))) (some_cons (pickS pick0) (some_cons (by simp only [h3, cond_true]; exact pick0) some_nil))
        refine wc_skip ?_
        exact wq_meet () trivial (sub_cons rfl (sub_cons rfl (sub_i rfl (by simp only [h3, cond_false]) (sub_cons rfl sub_nil)))) (some_cons pick0 (some_cons (by simp only [h3, cond_false]; exact pick0) some_nil))
      intro _ _
      refine wq_block ?_
      refine wq_then ?_
      refine wc_region ?_
      refine mv rfl rfl ?_
      refine wl_pure (po_inc rfl rfl (by omega)) rfl ?_
      refine asg rfl rfl ?_
      refine wl_nil ?_
      exact wq_rnd hk2 (stpN l1 t1) () (sub_cons rfl (sub_cons rfl (sub_cons rfl (sub_cons rfl sub_nil)))) (some_cons pick0 (some_cons pick0 some_nil))
    have c2 : (decide (((k2 : Nat) : Int) < (wr (2 * ((a_b.Cells.length : Nat) : Int))))) = false := decide_eq_false (by omega)
    have en2 := forO_end l1 hk2
    refine wc_seq ?_
    refine wcr ?_
    refine mv rfl rfl ?_
    refine wl_pure (po_fld fo_26_1 rfl) rfl ?_
    refine wl_pure (v := (sl v0a)) (po_load_box tk_24 pick0 rfl rfl) rfl ?_
    refine wl_pure (po_lenr (rds_arg r0) el_24 rfl) rfl ?_
    refine wl_pure (po_mul rfl rfl) rfl ?_
    refine wl_pure (po_lss rfl rfl) rfl ?_
    refine wnt ?_
    refine wc_cond_f rfl c2 ?_
    refine wc_exit ?_
    refine wq_then_exit ?_
    refine wq_then_exit ?_
    refine wq_block_exit ?_
    exact wj_meet _ () (Sum.inl.inj en2) (sub_cons rfl (sub_cons rfl sub_nil)) (some_cons (pickS pick0) some_nil)
  intro e2 _ hp
  obtain rfl : e2 = y1 := hp.symm
  refine wq_then ?_
  refine wc_seq ?_
  refine wcr ?_
  refine asg rfl rfl ?_
  refine wnt ?_
  refine lpO_inv t0 fun y1 l1 t0 => ?_
  refine wj (J := (List Int) × Int) (X := Unit) (fun z => y1 = z) (fun _ _ => [(3, (sl x1))]) (fun z _ => [ownF (sl x1) z.1]) ?_ ?_
  · skip
    refine wc_block ?_
    refine wc_forO (X := Unit) l1 (fun k3 s3 x3l => [(3, (sl x1)), (5, .int .i64 s3.2), (8, .int .i64 ((k3 : Nat) : Int))]) (fun k3 s3 x3l => [ownF (sl x1) s3.1]) () (sub_cons rfl (sub_cons rfl (sub_cons rfl sub_nil))) (some_cons pick0 some_nil) fun k3 s3 x3l hN3 l1 => ?_
    by_cases hk3 : k3 < 6
    · skip
      refine forO_step l1 hk3 fun _ t1 l1 => ?_
      unfold spec_FirstUse_L3 at t1
      have c3 : (decide (((k3 : Nat) : Int) < 6)) = true := decide_eq_true (by omega)
      refine wc_seq ?_
      refine wcr ?_
      refine mv rfl rfl ?_
      refine wl_pure (po_lss rfl rfl) rfl ?_
      refine wnt ?_
      refine wc_cond_t rfl c3 ?_
      refine wc_skip ?_
      refine wq_then ?_
      refine wc_seq ?_
      refine wc_block ?_
      refine wcr ?_
      refine mv rfl rfl ?_
      refine mv rfl rfl ?_
      refine gdO t1 fun g5 t1 => ?_
      refine wl_pure (po_ixn (k := k3) (rds_own pick0) el_34 rfl rfl g5) rfl ?_
      refine wl_pure (v := .int .i64 (gx s3.1 k3)) (po_ldf (rds_own pick0) tk_3 rfl g5 rfl) rfl ?_
      refine wl_pure (po_lss rfl rfl) rfl ?_
      refine wnt ?_
      refine wc_join (X := Unit) (fun _ => True) (fun _ => [(3, (sl x1)), (5, .int .i64 (bif (decide ((gx s3.1 k3) < 0)) then (wr (s3.2 + 1)) else s3.2)), (8, .int .i64 ((k3 : Nat) : Int))]) (fun _ => [ownF (sl x1) (bif (decide ((gx s3.1 k3) < 0)) then (s3.1.set k3 s3.2) else s3.1)]) ?_ ?_
      · skip
        refine wc_cond rfl (fun h4 => ?_) fun h4 => ?_
        · skip
          refine wcr ?_
          refine mv rfl rfl ?_
          refine mv rfl rfl ?_
          refine mv rfl rfl ?_
          refine wl_pure (po_ixn (k := k3) (rds_own pick0) el_34 rfl rfl g5) rfl ?_
          refine wl_skipop (so_own (x' := s3.2) tk_3 pick0 rfl rfl rfl rfl rfl rfl g5 rfl) ?_
          refine wnt ?_
          refine wc_region ?_
          refine mv rfl rfl ?_
          refine wl_pure (po_add rfl rfl) rfl ?_
          refine asg rfl rfl ?_
          refine wl_nil ?_
          exact wq_meet () trivial (sub_cons rfl (sub_i rfl (by simp only [h4, cond_true]) (sub_cons rfl sub_nil))) (some_cons (by simp only [h4, cond_true]; exact pick0) some_nil)
        refine wc_skip ?_
        exact wq_meet () trivial (sub_cons rfl (sub_i rfl (by simp only [h4, cond_false]) (sub_cons rfl sub_nil))) (some_cons (by simp only [h4, cond_false]; exact pick0) some_nil)
      intro _ _
      refine wq_block ?_
      refine wq_then ?_
      refine wc_region ?_
      refine mv rfl rfl ?_
      refine wl_pure (po_inc rfl rfl (by omega)) rfl ?_
      refine asg rfl rfl ?_
      refine wl_nil ?_
      exact wq_rnd hk3 (stpN l1 t1) () (sub_cons rfl (sub_cons rfl (sub_cons rfl sub_nil))) (some_cons pick0 some_nil)
    have c3 : (decide (((k3 : Nat) : Int) < 6)) = false := decide_eq_false (by omega)
    have en3 := forO_end l1 hk3
    refine wc_seq ?_
    refine wcr ?_
    refine mv rfl rfl ?_
    refine wl_pure (po_lss rfl rfl) rfl ?_
    refine wnt ?_
    refine wc_cond_f rfl c3 ?_
    refine wc_exit ?_
    refine wq_then_exit ?_
    refine wq_then_exit ?_
    refine wq_block_exit ?_
    exact wj_meet _ () (Sum.inl.inj en3) (sub_cons rfl sub_nil) (some_cons pick0 some_nil)
  intro e3 _ hp
  obtain rfl : e3 = y1 := hp.symm
  refine wq_then ?_
  refine wcr ?_
  refine mv rfl rfl ?_
  refine asg rfl rfl ?_
  refine wnt ?_
  refine wc_ret ?_
  obtain rfl := Option.some.inj t0
  exact wq_ret1 rfl rfl fun w hw => ⟨x1, rfl, hw.weak (some_cons pick0 some_nil)⟩

theorem c_spec_l07Plain (w : World) (a_b : GBlock) (v0a : Hd) (r0 : rdF w (dm w []) (sl v0a) a_b.Cells) {r : GBlock} (t0 : spec_l07Plain a_b = some r) : Calls Try.prog 50 #[.agg #[.int .i64 a_b.Size, (sl v0a)]] w fun e w' => ∃ x : Hd, e = .returned (.agg #[.int .i64 r.Size, (sl x)]) ∧ SH w [] [ownF (sl x) r.Cells] w' := by
  refine calls_of_wc (args := [_]) Try.func50 rfl Try.ntmps50 rfl ?_
  unfold spec_l07Plain at t0
  refine wcr ?_
  refine wl_eff (eo_box rfl rfl) rfl fun b1 => ?_
  refine wl_eff (eo_alloc (cs := [.int .i64 0, (sl (⟨none, 0, 0⟩ : Hd))]) za_26) rfl fun b2 => ?_
  refine wnt ?_
  refine wc_seq ?_
  refine bdO t0 fun v1 hv1 t0 => ?_
  refine bdO t0 fun v2 hv2 t0 => ?_
  refine wc_join (X := Nat × Hd) (fun _ => True) (fun z => [(2, ptr b2 0), (3, ptr z.1 0)]) (fun z => [box z.1 [.int .i64 v2.1.Size, (sl z.2)], ownF (sl z.2) v2.1.Cells, box b2 [.int .i64 0, (sl (⟨none, 0, 0⟩ : Hd))]]) ?_ ?_
  · skip
    refine wc_draw [box b2 [.int .i64 0, (sl (⟨none, 0, 0⟩ : Hd))], box b1 [.int .i64 a_b.Size, (sl v0a)]] 10 mixed ?_
    refine wa_pure (v := .agg #[.int .i64 a_b.Size, (sl v0a)]) 0 rfl (po_load_boxs tk_26 (pickS pick0) rfl rfl rfl) (some_cons pick0 (some_cons pick0 some_nil)) rfl (by kernel_rfl) (fun _ _ _ h => h) ?_
    refine wa_pure (v := .agg #[.int .i64 a_b.Size, (sl v0a)]) 1 rfl (po_load_boxs tk_26 (pickS pick0) rfl rfl rfl) (some_cons pick0 (some_cons pick0 some_nil)) rfl (by kernel_rfl) (fun _ _ _ h => h) ?_
    refine wa_2 (i := 2) (j := 7) (by kernel_rfl) ?_ ?_
    · skip
      refine ws_call rfl (co_c1 fa_69 rfl fun w hw => c_spec_FirstUse w a_b v0a (Rg.on (rds_arg r0) hw) hv1) (fun _ => (sts_some (some_cons (pickS pick0) (some_cons (pickS pick0) some_nil)))) rfl fun x1 => ?_
      refine wa_2 (i := 3) (j := 7) (by kernel_rfl) ?_ ?_
      · skip
        refine ws_call rfl (co_c1 fa_35 rfl fun w hw => c_spec_ExchangeBlock w a_b v0a (Rg.on (rds_arg r0) hw) v1 x1 (Rg.on (rds_own pick0) hw) hv2) (fun _ => (sts_some (some_cons (pickS (pickS pick0)) (some_cons (pickS (pickS pick0)) some_nil)))) rfl fun x2 => ?_
        refine wa_pure 4 rfl (po_move rfl) (some_cons (pickS (pickS pick0)) (some_cons (pickS (pickS pick0)) some_nil)) rfl (by kernel_rfl) (fun _ _ _ h => h) ?_
        refine wa_pure 5 rfl (po_extract rfl rfl) (some_cons (pickS (pickS pick0)) (some_cons (pickS (pickS pick0)) some_nil)) rfl (by kernel_rfl) (fun _ _ _ h => h) ?_
        refine wa_pure 6 rfl (po_extract rfl rfl) (some_cons (pickS (pickS pick0)) (some_cons (pickS (pickS pick0)) some_nil)) rfl (by kernel_rfl) (fun _ _ _ h => h) ?_
        refine wa_1 (i := 7) (by kernel_rfl) ?_
        refine ws_eff rfl (eo_alloc (cs := [.int .i64 0, (sl (⟨none, 0, 0⟩ : Hd))]) za_26) (fun _ => (sts_some (some_cons (pickS (pickS (pickS pick0))) (some_cons (pickS (pickS (pickS pick0))) some_nil)))) rfl fun b3 => ?_
        refine wa_1 (i := 8) (by kernel_rfl) ?_
        refine ws_skipop rfl (so_box (cs' := [.int .i64 v2.1.Size, (sl x2)]) tk_26 pick0 rfl rfl rfl rfl rfl rfl rfl) (sts_some (some_cons (pickS (pickS (pickS pick0))) (some_cons (pickS (pickS (pickS pick0))) some_nil))) ?_
        refine wa_pure 9 rfl (po_assign rfl) (some_cons (pickS (pickS (pickS pick0))) (some_cons (pickS (pickS (pickS pick0))) some_nil)) rfl (by kernel_rfl) (fun _ _ _ h => h) ?_
        refine wa_done (by kernel_rfl) ?_
        exact wq_meet (b3, x2) trivial (sub_cons rfl (sub_cons rfl sub_nil)) (some_cons pick0 (some_cons pick0 (some_cons (pickS pick0) some_nil)))
      refine ws_eff rfl (eo_alloc (cs := [.int .i64 0, (sl (⟨none, 0, 0⟩ : Hd))]) za_26) (fun _ => (sts_some (some_cons (pickS (pickS pick0)) (some_cons (pickS (pickS pick0)) some_nil)))) rfl fun b4 => ?_
      refine wa_1 (i := 3) (by kernel_rfl) ?_
      refine ws_call rfl (co_c1 fa_35 rfl fun w hw => c_spec_ExchangeBlock w a_b v0a (Rg.on (rds_arg r0) hw) v1 x1 (Rg.on (rds_own (pickS pick0)) hw) hv2) (fun _ => (sts_some (some_cons (pickS (pickS (pickS pick0))) (some_cons (pickS (pickS (pickS pick0))) some_nil)))) rfl fun x3 => ?_
      refine wa_pure 4 rfl (po_move rfl) (some_cons (pickS (pickS (pickS pick0))) (some_cons (pickS (pickS (pickS pick0))) some_nil)) rfl (by kernel_rfl) (fun _ _ _ h => h) ?_
      refine wa_pure 5 rfl (po_extract rfl rfl) (some_cons (pickS (pickS (pickS pick0))) (some_cons (pickS (pickS (pickS pick0))) some_nil)) rfl (by kernel_rfl) (fun _ _ _ h => h) ?_
      refine wa_pure 6 rfl (po_extract rfl rfl) (some_cons (pickS (pickS (pickS pick0))) (some_cons (pickS (pickS (pickS pick0))) some_nil)) rfl (by kernel_rfl) (fun _ _ _ h => h) ?_
      refine wa_1 (i := 8) (by kernel_rfl) ?_
      refine ws_skipop rfl (so_box (cs' := [.int .i64 v2.1.Size, (sl x3)]) tk_26 (pickS pick0) rfl rfl rfl rfl rfl rfl rfl) (sts_some (some_cons (pickS (pickS (pickS pick0))) (some_cons (pickS (pickS (pickS pick0))) some_nil))) ?_
      refine wa_pure 9 rfl (po_assign rfl) (some_cons (pickS (pickS (pickS pick0))) (some_cons (pickS (pickS (pickS pick0))) some_nil)) rfl (by kernel_rfl) (fun _ _ _ h => h) ?_
      refine wa_done (by kernel_rfl) ?_
      exact wq_meet (b4, x3) trivial (sub_cons rfl (sub_cons rfl sub_nil)) (some_cons pick0 (some_cons pick0 (some_cons (pickS pick0) some_nil)))
    refine ws_eff rfl (eo_alloc (cs := [.int .i64 0, (sl (⟨none, 0, 0⟩ : Hd))]) za_26) (fun _ => (sts_some (some_cons (pickS pick0) (some_cons (pickS pick0) some_nil)))) rfl fun b5 => ?_
    refine wa_1 (i := 2) (by kernel_rfl) ?_
    refine ws_call rfl (co_c1 fa_69 rfl fun w hw => c_spec_FirstUse w a_b v0a (Rg.on (rds_arg r0) hw) hv1) (fun _ => (sts_some (some_cons (pickS (pickS pick0)) (some_cons (pickS (pickS pick0)) some_nil)))) rfl fun x4 => ?_
    refine wa_1 (i := 3) (by kernel_rfl) ?_
    refine ws_call rfl (co_c1 fa_35 rfl fun w hw => c_spec_ExchangeBlock w a_b v0a (Rg.on (rds_arg r0) hw) v1 x4 (Rg.on (rds_own pick0) hw) hv2) (fun _ => (sts_some (some_cons (pickS (pickS (pickS pick0))) (some_cons (pickS (pickS (pickS pick0))) some_nil)))) rfl fun x5 => ?_
    refine wa_pure 4 rfl (po_move rfl) (some_cons (pickS (pickS (pickS pick0))) (some_cons (pickS (pickS (pickS pick0))) some_nil)) rfl (by kernel_rfl) (fun _ _ _ h => h) ?_
    refine wa_pure 5 rfl (po_extract rfl rfl) (some_cons (pickS (pickS (pickS pick0))) (some_cons (pickS (pickS (pickS pick0))) some_nil)) rfl (by kernel_rfl) (fun _ _ _ h => h) ?_
    refine wa_pure 6 rfl (po_extract rfl rfl) (some_cons (pickS (pickS (pickS pick0))) (some_cons (pickS (pickS (pickS pick0))) some_nil)) rfl (by kernel_rfl) (fun _ _ _ h => h) ?_
    refine wa_1 (i := 8) (by kernel_rfl) ?_
    refine ws_skipop rfl (so_box (cs' := [.int .i64 v2.1.Size, (sl x5)]) tk_26 (pickS (pickS pick0)) rfl rfl rfl rfl rfl rfl rfl) (sts_some (some_cons (pickS (pickS (pickS pick0))) (some_cons (pickS (pickS (pickS pick0))) some_nil))) ?_
    refine wa_pure 9 rfl (po_assign rfl) (some_cons (pickS (pickS (pickS pick0))) (some_cons (pickS (pickS (pickS pick0))) some_nil)) rfl (by kernel_rfl) (fun _ _ _ h => h) ?_
    refine wa_done (by kernel_rfl) ?_
    exact wq_meet (b5, x5) trivial (sub_cons rfl (sub_cons rfl sub_nil)) (some_cons pick0 (some_cons pick0 (some_cons (pickS pick0) some_nil)))
  intro x6 _
  refine wq_then ?_
  refine wcr ?_
  refine wl_pure (v := .agg #[.int .i64 v2.1.Size, (sl x6.2)]) (po_load_boxs tk_26 pick0 rfl rfl rfl) rfl ?_
  refine wl_skipop (so_box (cs' := [.int .i64 v2.1.Size, (sl x6.2)]) tk_26 (pickS (pickS pick0)) rfl rfl rfl rfl rfl rfl rfl) ?_
  refine wnt ?_
  refine wc_ret ?_
  obtain rfl := Option.some.inj t0
  exact wq_retc rfl tk_26 rfl pick0 rfl fun w hw => ⟨x6.2, rfl, hw.weak (some_cons (pickS (pickS pick0)) some_nil)⟩

theorem c_spec_LeastPattern (w : World) (a_b : GBlock) (v0a : Hd) (r0 : rdF w (dm w []) (sl v0a) a_b.Cells) {r : GBlock} (t0 : spec_LeastPattern a_b = some r) : Calls Try.prog 32 #[.agg #[.int .i64 a_b.Size, (sl v0a)]] w fun e w' => ∃ x : Hd, e = .returned (.agg #[.int .i64 r.Size, (sl x)]) ∧ SH w [] [ownF (sl x) r.Cells] w' := by
  refine calls_of_wc (args := [_]) Try.func32 rfl Try.ntmps32 rfl ?_
  unfold spec_LeastPattern at t0
  refine wcr ?_
  refine wl_eff (eo_box rfl rfl) rfl fun b1 => ?_
  refine wl_eff (eo_alloc (cs := [.int .i64 0, (sl (⟨none, 0, 0⟩ : Hd))]) za_26) rfl fun b2 => ?_
  refine wnt ?_
  refine wc_seq ?_
  refine wcr ?_
  refine wl_pure (v := .agg #[.int .i64 a_b.Size, (sl v0a)]) (po_load_boxs tk_26 (pickS pick0) rfl rfl rfl) rfl ?_
  refine bdO t0 fun v1 hv1 t0 => ?_
  refine wl_call (co_c0 fa_10 rfl fun w hw => c_spec_BlockOk w a_b v0a (Rg.on (rds_arg r0) hw) hv1) rfl fun _ => ?_
  refine wl_pure (po_not rfl) rfl ?_
  refine wnt ?_
  refine wcO t0 rfl (fun h1 t0 => ?_) fun h1 t0 => ?_
  · skip
    refine wcr ?_
    refine wl_pure (po_build rfl bd_26) rfl ?_
    refine wl_skipop (so_box (cs' := [.int .i64 0, (sl (⟨none, 0, 0⟩ : Hd))]) tk_26 pick0 rfl rfl rfl rfl rfl rfl rfl) ?_
    refine wnt ?_
    refine wc_ret ?_
    refine wq_then_ret ?_
    obtain rfl := Option.some.inj t0
    exact wq_retc rfl tk_26 rfl pick0 rfl fun w hw => ⟨(⟨none, 0, 0⟩ : Hd), rfl, hw.weak (some_cons pick_nil some_nil)⟩
  refine wc_skip ?_
  refine wq_then ?_
  refine wcr ?_
  refine wl_pure (v := .agg #[.int .i64 a_b.Size, (sl v0a)]) (po_load_boxs tk_26 (pickS pick0) rfl rfl rfl) rfl ?_
  refine bdO t0 fun v2 hv2 t0 => ?_
  refine wl_call (co_c1 fa_50 rfl fun w hw => c_spec_l07Plain w a_b v0a (Rg.on (rds_arg r0) hw) hv2) rfl fun x1 => ?_
  refine wl_eff (eo_alloc (cs := [.int .i64 0, (sl (⟨none, 0, 0⟩ : Hd))]) za_26) rfl fun b3 => ?_
  refine wl_skipop (so_box (cs' := [.int .i64 v2.Size, (sl x1)]) tk_26 pick0 rfl rfl rfl rfl rfl rfl rfl) ?_
  refine wnt ?_
  refine wc_seq ?_
  refine wcr ?_
  refine asg rfl rfl ?_
  refine wnt ?_
  refine lpO_inv t0 fun y1 l1 t0 => ?_
  refine wj (J := Int × (List GCell)) (X := Hd) (fun z => y1 = z) (fun _ _ => [(2, ptr b2 0), (3, ptr b3 0)]) (fun z x => [box b3 [.int .i64 z.1, (sl x)], ownF (sl x) z.2, box b2 [.int .i64 0, (sl (⟨none, 0, 0⟩ : Hd))]]) ?_ ?_
  · skip
    refine wc_block ?_
    refine wc_forO (X := Hd) l1 (fun k1 s1 x1l => [(1, ptr b1 0), (2, ptr b2 0), (3, ptr b3 0), (4, .int .i64 (((k1 + 1) : Nat) : Int))]) (fun k1 s1 x1l => [box b3 [.int .i64 s1.1, (sl x1l)], ownF (sl x1l) s1.2, box b2 [.int .i64 0, (sl (⟨none, 0, 0⟩ : Hd))], box b1 [.int .i64 a_b.Size, (sl v0a)]]) x1 (sub_cons rfl (sub_cons rfl (sub_cons rfl (sub_cons rfl sub_nil)))) (some_cons pick0 (some_cons pick0 (some_cons pick0 (some_cons pick0 some_nil)))) fun k1 s1 x1l hN1 l1 => ?_
    by_cases hk1 : k1 < 7
    · skip
      refine forO_step l1 hk1 fun _ t1 l1 => ?_
      unfold spec_LeastPattern_L1 at t1
      have c1 : (decide ((((k1 + 1) : Nat) : Int) < 8)) = true := decide_eq_true (by omega)
      refine wc_seq ?_
      refine wcr ?_
      refine mv rfl rfl ?_
      refine wl_pure (po_lss rfl rfl) rfl ?_
      refine wnt ?_
      refine wc_cond_t rfl c1 ?_
      refine wc_skip ?_
      refine wq_then ?_
      refine wc_seq ?_
      refine wc_block ?_
      refine wcr ?_
      refine wl_pure (v := .agg #[.int .i64 a_b.Size, (sl v0a)]) (po_load_boxs tk_26 (pickS (pickS (pickS pick0))) rfl rfl rfl) rfl ?_
      refine mv rfl rfl ?_
      refine bdO t1 fun v3 hv3 t1 => ?_
      refine wl_call (co_c1 fa_13 rfl fun w hw => c_spec_SeenFrom w a_b v0a (Rg.on (rds_arg r0) hw) (((k1 + 1) : Nat) : Int) hv3) rfl fun x3 => ?_
      refine bdO t1 fun v4 hv4 t1 => ?_
      refine wl_call (co_c1 fa_50 rfl fun w hw => c_spec_l07Plain w v3 x3 (Rg.on (rds_own pick0) hw) hv4) rfl fun x4 => ?_
      refine wl_eff (eo_alloc (cs := [.int .i64 0, (sl (⟨none, 0, 0⟩ : Hd))]) za_26) rfl fun b4 => ?_
      refine wl_skipop (so_box (cs' := [.int .i64 v4.Size, (sl x4)]) tk_26 pick0 rfl rfl rfl rfl rfl rfl rfl) ?_
      refine wnt ?_
      refine wc_seq ?_
      refine wc_draw [box b4 [.int .i64 v4.Size, (sl x4)], ownF (sl x4) v4.Cells, ownF (sl x3) v3.Cells, box b3 [.int .i64 s1.1, (sl x1l)], ownF (sl x1l) s1.2, box b2 [.int .i64 0, (sl (⟨none, 0, 0⟩ : Hd))], box b1 [.int .i64 a_b.Size, (sl v0a)]] 5 mixed ?_
      refine wa_pure (v := .agg #[.int .i64 v4.Size, (sl x4)]) 0 rfl (po_load_boxs tk_26 pick0 rfl rfl rfl) (some_cons pick0 (some_cons pick0 (some_cons pick0 (some_cons pick0 (some_cons pick0 (some_cons pick0 (some_cons pick0 some_nil))))))) rfl (by kernel_rfl) (fun _ _ _ h => h) ?_
      refine wa_pure (v := .agg #[.int .i64 s1.1, (sl x1l)]) 2 rfl (po_load_boxs tk_26 (pickS (pickS (pickS pick0))) rfl rfl rfl) (some_cons pick0 (some_cons pick0 (some_cons pick0 (some_cons pick0 (some_cons pick0 (some_cons pick0 (some_cons pick0 some_nil))))))) rfl (by kernel_rfl) (fun _ _ _ h => h) ?_
      refine wa_1 (i := 1) (by kernel_rfl) ?_
      refine bdO t1 fun v5 hv5 t1 => ?_
      refine ws_call rfl (co_c0 fa_49 rfl fun w hw => c_spec_TextOf w v4 x4 (Rg.on (rds_own (pickS pick0)) hw) hv5) (fun _ => (sts_some (some_cons pick0 (some_cons pick0 (some_cons pick0 (some_cons pick0 (some_cons pick0 (some_cons pick0 (some_cons pick0 some_nil))))))))) rfl fun _ => ?_
      refine wa_1 (i := 3) (by kernel_rfl) ?_
      refine bdO t1 fun v6 hv6 t1 => ?_
      refine ws_call rfl (co_c0 fa_49 rfl fun w hw => c_spec_TextOf w (GBlock.mk s1.1 s1.2) x1l (Rg.on (rds_own (pickS (pickS (pickS (pickS pick0))))) hw) hv6) (fun _ => (sts_some (some_cons pick0 (some_cons pick0 (some_cons pick0 (some_cons pick0 (some_cons pick0 (some_cons pick0 (some_cons pick0 some_nil))))))))) rfl fun _ => ?_
      refine wa_pure 4 rfl (po_slss rfl rfl) (some_cons pick0 (some_cons pick0 (some_cons pick0 (some_cons pick0 (some_cons pick0 (some_cons pick0 (some_cons pick0 some_nil))))))) rfl (by kernel_rfl) (fun _ _ _ h => h) ?_
      refine wa_done (by kernel_rfl) ?_
      refine wq_then ?_
      refine wc_join (X := Hd) (fun _ => True) (fun z => [(1, ptr b1 0), (2, ptr b2 0), (3, ptr b3 0), (4, .int .i64 (((k1 + 1) : Nat) : Int))]) (fun z => [box b3 [.int .i64 ((bif (slt v5 v6) then v4 else (GBlock.mk s1.1 s1.2)).Size), (sl z)], box b2 [.int .i64 0, (sl (⟨none, 0, 0⟩ : Hd))], box b1 [.int .i64 a_b.Size, (sl v0a)], ownF (sl z) ((bif (slt v5 v6) then v4 else (GBlock.mk s1.1 s1.2)).Cells)]) ?_ ?_
      · skip
        refine wc_cond rfl (fun h2 => ?_) fun h2 => ?_
        · skip
          refine wc_region ?_
          refine wl_pure (v := .agg #[.int .i64 v4.Size, (sl x4)]) (po_load_boxs tk_26 pick0 rfl rfl rfl) rfl ?_
          refine wl_skipop (so_box (cs' := [.int .i64 v4.Size, (sl x4)]) tk_26 (pickS (pickS (pickS pick0))) rfl rfl rfl rfl rfl rfl rfl) ?_
          refine wl_nil ?_
          exact wq_meet x4 trivial (sub_cons rfl (sub_cons rfl (sub_cons rfl (sub_cons rfl sub_nil)))) (some_cons (by simp only [h2, cond_true]; exact pick0) (some_cons (pickS (pickS (pickS (pickS pick0)))) (some_cons (pickS (pickS (pickS (pickS pick0)))) (some_cons (by simp only [h2, cond_true]; exact (pickS pick0)) some_nil))))
        refine wc_skip ?_
        exact wq_meet x1l trivial (sub_cons rfl (sub_cons rfl (sub_cons rfl (sub_cons rfl sub_nil)))) (some_cons (by simp only [h2, cond_false]; exact (pickS (pickS (pickS pick0)))) (some_cons (pickS (pickS (pickS (pickS pick0)))) (some_cons (pickS (pickS (pickS (pickS pick0)))) (some_cons (by simp only [h2, cond_false]; exact (pickS (pickS (pickS pick0)))) some_nil))))
      intro x5 _
      refine wq_block ?_
      refine wq_then ?_
      refine wc_region ?_
      refine mv rfl rfl ?_
      refine wl_pure (po_inc rfl rfl (by omega)) rfl ?_
      refine asg rfl rfl ?_
      refine wl_nil ?_
      exact wq_rnd hk1 (stpN l1 t1) x5 (sub_cons rfl (sub_cons rfl (sub_cons rfl (sub_cons rfl sub_nil)))) (some_cons pick0 (some_cons (pickS (pickS pick0)) (some_cons pick0 (some_cons pick0 some_nil))))
    have c1 : (decide ((((k1 + 1) : Nat) : Int) < 8)) = false := decide_eq_false (by omega)
    have en1 := forO_end l1 hk1
    refine wc_seq ?_
    refine wcr ?_
    refine mv rfl rfl ?_
    refine wl_pure (po_lss rfl rfl) rfl ?_
    refine wnt ?_
    refine wc_cond_f rfl c1 ?_
    refine wc_exit ?_
    refine wq_then_exit ?_
    refine wq_then_exit ?_
    refine wq_block_exit ?_
    exact wj_meet _ x1l (Sum.inl.inj en1) (sub_cons rfl (sub_cons rfl sub_nil)) (some_cons pick0 (some_cons pick0 (some_cons pick0 some_nil)))
  intro e1 x2 hp
  obtain rfl : e1 = y1 := hp.symm
  refine wq_then ?_
  refine wcr ?_
  refine wl_pure (v := .agg #[.int .i64 e1.1, (sl x2)]) (po_load_boxs tk_26 pick0 rfl rfl rfl) rfl ?_
  refine wl_skipop (so_box (cs' := [.int .i64 e1.1, (sl x2)]) tk_26 (pickS (pickS pick0)) rfl rfl rfl rfl rfl rfl rfl) ?_
  refine wnt ?_
  refine wc_ret ?_
  obtain rfl := Option.some.inj t0
  exact wq_retc rfl tk_26 rfl pick0 rfl fun w hw => ⟨x2, rfl, hw.weak (some_cons (pickS (pickS pick0)) some_nil)⟩

theorem c_spec_ArePatternsSame (w : World) (a_b : GBlock) (v0a : Hd) (r0 : rdF w (dm w []) (sl v0a) a_b.Cells) (a_d : GBlock) (v1a : Hd) (r1 : rdF w (dm w []) (sl v1a) a_d.Cells) {r : Bool} (t0 : spec_ArePatternsSame a_b a_d = some r) : Calls Try.prog 15 #[.agg #[.int .i64 a_b.Size, (sl v0a)], .agg #[.int .i64 a_d.Size, (sl v1a)]] w fun e w' => e = .returned (.bool r) ∧ SH w [] [] w' := by
  refine calls_of_wc (args := [_, _]) Try.func15 rfl Try.ntmps15 rfl ?_
  unfold spec_ArePatternsSame at t0
  refine wcr ?_
  refine wl_eff (eo_box rfl rfl) rfl fun b1 => ?_
  refine wl_eff (eo_box rfl rfl) rfl fun b2 => ?_
  refine asg rfl rfl ?_
  refine wnt ?_
  refine wc_seq ?_
  refine bdO t0 fun y1 t1 t0 => ?_
  refine wj (J := Bool) (X := Unit) (fun z => y1 = z) (fun z _ => [(4, .bool z)]) (fun _ _ => []) ?_ ?_
  · skip
    refine wc_draw [box b2 [.int .i64 a_d.Size, (sl v1a)], box b1 [.int .i64 a_b.Size, (sl v0a)]] 14 mixed ?_
    refine wa_pure (v := .agg #[.int .i64 a_b.Size, (sl v0a)]) 0 rfl (po_load_boxs tk_26 (pickS pick0) rfl rfl rfl) (some_cons pick0 (some_cons pick0 some_nil)) rfl (by kernel_rfl) (fun _ _ _ h => h) ?_
    refine wa_1 (i := 1) (by kernel_rfl) ?_
    refine bdO t1 fun v1 hv1 t1 => ?_
    refine ws_call rfl (co_c0 fa_10 rfl fun w hw => c_spec_BlockOk w a_b v0a (Rg.on (rds_arg r0) hw) hv1) (fun _ => (sts_some (some_cons pick0 (some_cons pick0 some_nil)))) rfl fun _ => ?_
    refine wa_pure 2 rfl (po_move rfl) (some_cons pick0 (some_cons pick0 some_nil)) rfl (by kernel_rfl) (fun _ _ _ h => h) ?_
    refine waO_ (t := 7) t1 rfl (fun h1 t1 => ?_) fun h1 t1 => ?_
    · skip
      refine wa_pure_on (v := .agg #[.int .i64 a_d.Size, (sl v1a)]) 3 (j := 2) rfl rfl rfl rfl (po_load_boxs tk_26 pick0 rfl rfl rfl) (some_cons pick0 (some_cons pick0 some_nil)) rfl (by kernel_rfl) (fun _ _ _ h => h) ?_
      refine wa_1 (i := 4) (by kernel_rfl) ?_
      refine bdO t1 fun v2 hv2 t1 => ?_
      refine ws_call_on (j := 2) rfl rfl rfl rfl (co_c0 fa_10 rfl fun w hw => c_spec_BlockOk w a_d v1a (Rg.on (rds_arg r1) hw) hv2) (fun _ => (sts_some (some_cons pick0 (some_cons pick0 some_nil)))) rfl fun _ => ?_
      refine wa_pure 5 rfl (po_pick_t rfl rfl) (some_cons pick0 (some_cons pick0 some_nil)) rfl (by kernel_rfl) (fun _ _ _ h => h) ?_
      refine wa_pure 6 rfl (po_move rfl) (some_cons pick0 (some_cons pick0 some_nil)) rfl (by kernel_rfl) (fun _ _ _ h => h) ?_
      refine waO_ (t := 11) t1 rfl (fun h2 t1 => ?_) fun h2 t1 => ?_
      · skip
        refine wa_pure_on (v := .agg #[.int .i64 a_b.Size, (sl v0a)]) 7 (j := 6) rfl rfl rfl rfl (po_load_boxs tk_26 (pickS pick0) rfl rfl rfl) (some_cons pick0 (some_cons pick0 some_nil)) rfl (by kernel_rfl) (fun _ _ _ h => h) ?_
        refine wa_pure_on (v := .agg #[.int .i64 a_d.Size, (sl v1a)]) 9 (j := 6) rfl rfl rfl rfl (po_load_boxs tk_26 pick0 rfl rfl rfl) (some_cons pick0 (some_cons pick0 some_nil)) rfl (by kernel_rfl) (fun _ _ _ h => h) ?_
        refine wa_1 (i := 8) (by kernel_rfl) ?_
        refine bdO t1 fun v3 hv3 t1 => ?_
        refine ws_call_on (j := 6) rfl rfl rfl rfl (co_c1 fa_32 rfl fun w hw => c_spec_LeastPattern w a_b v0a (Rg.on (rds_arg r0) hw) hv3) (fun _ => (sts_some (some_cons (pickS pick0) (some_cons (pickS pick0) some_nil)))) rfl fun x2 => ?_
        refine wa_1 (i := 10) (by kernel_rfl) ?_
        refine bdO t1 fun v4 hv4 t1 => ?_
        refine ws_call_on (j := 6) rfl rfl rfl rfl (co_c1 fa_32 rfl fun w hw => c_spec_LeastPattern w a_d v1a (Rg.on (rds_arg r1) hw) hv4) (fun _ => (sts_some (some_cons (pickS (pickS pick0)) (some_cons (pickS (pickS pick0)) some_nil)))) rfl fun x3 => ?_
        refine wa_1 (i := 11) (by kernel_rfl) ?_
        refine bdO t1 fun v5 hv5 t1 => ?_
        refine ws_call_on (j := 6) rfl rfl rfl rfl (co_c0 fa_30 rfl fun w hw => c_spec_SameBlock w v3 x2 (Rg.on (rds_own (pickS pick0)) hw) v4 x3 (Rg.on (rds_own pick0) hw) hv5) (fun _ => (sts_some (some_cons (pickS (pickS pick0)) (some_cons (pickS (pickS pick0)) some_nil)))) rfl fun _ => ?_
        refine wa_pure 12 rfl (po_pick_t rfl rfl) (some_cons (pickS (pickS pick0)) (some_cons (pickS (pickS pick0)) some_nil)) rfl (by kernel_rfl) (fun _ _ _ h => h) ?_
        refine wa_pure 13 rfl (po_assign rfl) (some_cons (pickS (pickS pick0)) (some_cons (pickS (pickS pick0)) some_nil)) rfl (by kernel_rfl) (fun _ _ _ h => h) ?_
        refine wa_done (by kernel_rfl) ?_
        exact wj_meet _ () (mtE t1) (sub_cons rfl sub_nil) some_nil
      refine wa_off 7 (j := 6) rfl rfl rfl rfl rfl (some_cons pick0 (some_cons pick0 some_nil)) rfl (by kernel_rfl) (fun _ _ _ h => h) ?_
      refine wa_off 8 (j := 6) rfl rfl rfl rfl rfl (some_cons pick0 (some_cons pick0 some_nil)) rfl (by kernel_rfl) (fun _ _ _ h => h) ?_
      refine wa_off 9 (j := 6) rfl rfl rfl rfl rfl (some_cons pick0 (some_cons pick0 some_nil)) rfl (by kernel_rfl) (fun _ _ _ h => h) ?_
      refine wa_off 10 (j := 6) rfl rfl rfl rfl rfl (some_cons pick0 (some_cons pick0 some_nil)) rfl (by kernel_rfl) (fun _ _ _ h => h) ?_
      refine wa_off 11 (j := 6) rfl rfl rfl rfl rfl (some_cons pick0 (some_cons pick0 some_nil)) rfl (by kernel_rfl) (fun _ _ _ h => h) ?_
      refine wa_pure 12 rfl (po_pick_f rfl rfl) (some_cons pick0 (some_cons pick0 some_nil)) rfl (by kernel_rfl) (fun _ _ _ h => h) ?_
      refine wa_pure 13 rfl (po_assign rfl) (some_cons pick0 (some_cons pick0 some_nil)) rfl (by kernel_rfl) (fun _ _ _ h => h) ?_
      refine wa_done (by kernel_rfl) ?_
      exact wj_meet _ () (mtE t1) (sub_cons rfl sub_nil) some_nil
    refine wa_off 3 (j := 2) rfl rfl rfl rfl rfl (some_cons pick0 (some_cons pick0 some_nil)) rfl (by kernel_rfl) (fun _ _ _ h => h) ?_
    refine wa_off 4 (j := 2) rfl rfl rfl rfl rfl (some_cons pick0 (some_cons pick0 some_nil)) rfl (by kernel_rfl) (fun _ _ _ h => h) ?_
    refine wa_pure 5 rfl (po_pick_f rfl rfl) (some_cons pick0 (some_cons pick0 some_nil)) rfl (by kernel_rfl) (fun _ _ _ h => h) ?_
    refine wa_pure 6 rfl (po_move rfl) (some_cons pick0 (some_cons pick0 some_nil)) rfl (by kernel_rfl) (fun _ _ _ h => h) ?_
    refine wa_off 7 (j := 6) rfl rfl rfl rfl rfl (some_cons pick0 (some_cons pick0 some_nil)) rfl (by kernel_rfl) (fun _ _ _ h => h) ?_
    refine wa_off 8 (j := 6) rfl rfl rfl rfl rfl (some_cons pick0 (some_cons pick0 some_nil)) rfl (by kernel_rfl) (fun _ _ _ h => h) ?_
    refine wa_off 9 (j := 6) rfl rfl rfl rfl rfl (some_cons pick0 (some_cons pick0 some_nil)) rfl (by kernel_rfl) (fun _ _ _ h => h) ?_
    refine wa_off 10 (j := 6) rfl rfl rfl rfl rfl (some_cons pick0 (some_cons pick0 some_nil)) rfl (by kernel_rfl) (fun _ _ _ h => h) ?_
    refine wa_off 11 (j := 6) rfl rfl rfl rfl rfl (some_cons pick0 (some_cons pick0 some_nil)) rfl (by kernel_rfl) (fun _ _ _ h => h) ?_
    refine wa_pure 12 rfl (po_pick_f rfl rfl) (some_cons pick0 (some_cons pick0 some_nil)) rfl (by kernel_rfl) (fun _ _ _ h => h) ?_
    refine wa_pure 13 rfl (po_assign rfl) (some_cons pick0 (some_cons pick0 some_nil)) rfl (by kernel_rfl) (fun _ _ _ h => h) ?_
    refine wa_done (by kernel_rfl) ?_
    exact wj_meet _ () (mtE t1) (sub_cons rfl sub_nil) some_nil
  intro j1 _ hp
  obtain rfl : j1 = y1 := hp.symm
  refine wq_then ?_
  refine wc_ret ?_
  obtain rfl := Option.some.inj t0
  exact wq_ret1 rfl rfl fun w hw => ⟨rfl, hw.weak some_nil⟩

end Go.Proofs.Ytfnfngicgikhgab
