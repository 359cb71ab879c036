/-
  Each Go function computes its Lean function (part 2).
-/
import Derived.Test.YtgimnmlcdidcdagWalks1
namespace Go.Proofs.Ytgimnmlcdidcdag
open Go Go.RowKit Go.Proofs
set_option maxRecDepth 100000

theorem c_impl_shifted (w : World) (a_q : GQuilt) (v0a : Hd) (r0 : rdF w (dm w []) (sl v0a) a_q.Spots) (a_i : Int) (a_dx : Int) (a_dy : Int) {r : Int} (t0 : impl_shifted a_q a_i a_dx a_dy = some r) : Calls Try.prog 24 #[.agg #[.int .i64 a_q.Width, .int .i64 a_q.Height, (sl v0a)], .int .i64 a_i, .int .i64 a_dx, .int .i64 a_dy] w fun e w' => e = .returned (.int .i64 r) ∧ SH w [] [] w' := by
  refine calls_of_wc (args := [_, _, _, _]) Try.func24 rfl Try.ntmps24 rfl ?_
  unfold impl_shifted at t0
  refine wcr ?_
  refine wl_eff (eo_box rfl rfl) rfl fun b1 => ?_
  refine asg rfl rfl ?_
  refine wnt ?_
  refine wc_seq ?_
  refine wc_draw [box b1 [.int .i64 a_q.Width, .int .i64 a_q.Height, (sl v0a)]] 20 mixed ?_
  refine wa_pure 0 rfl (po_move rfl) (some_cons pick0 some_nil) rfl (by kernel_rfl) (fun _ _ _ h => h) ?_
  refine wa_pure 1 rfl (po_fld fo_31_0 rfl) (some_cons pick0 some_nil) rfl (by kernel_rfl) (fun _ _ _ h => h) ?_
  refine wa_pure (v := .int .i64 a_q.Width) 2 rfl (po_load_box tk_3 pick0 rfl rfl) (some_cons pick0 some_nil) rfl (by kernel_rfl) (fun _ _ _ h => h) ?_
  refine gdO t0 fun g1 t0 => ?_
  refine wa_pure 3 rfl (po_rem rfl rfl g1) (some_cons pick0 some_nil) rfl (by kernel_rfl) (fun _ _ _ h => h) ?_
  refine wa_pure 4 rfl (po_move rfl) (some_cons pick0 some_nil) rfl (by kernel_rfl) (fun _ _ _ h => h) ?_
  refine wa_pure 5 rfl (po_add rfl rfl) (some_cons pick0 some_nil) rfl (by kernel_rfl) (fun _ _ _ h => h) ?_
  refine wa_pure 6 rfl (po_fld fo_31_0 rfl) (some_cons pick0 some_nil) rfl (by kernel_rfl) (fun _ _ _ h => h) ?_
  refine wa_pure (v := .int .i64 a_q.Width) 7 rfl (po_load_box tk_3 pick0 rfl rfl) (some_cons pick0 some_nil) rfl (by kernel_rfl) (fun _ _ _ h => h) ?_
  refine wa_pure 8 rfl (po_rem rfl rfl g1) (some_cons pick0 some_nil) rfl (by kernel_rfl) (fun _ _ _ h => h) ?_
  refine wa_pure 9 rfl (po_move rfl) (some_cons pick0 some_nil) rfl (by kernel_rfl) (fun _ _ _ h => h) ?_
  refine wa_pure 10 rfl (po_fld fo_31_0 rfl) (some_cons pick0 some_nil) rfl (by kernel_rfl) (fun _ _ _ h => h) ?_
  refine wa_pure (v := .int .i64 a_q.Width) 11 rfl (po_load_box tk_3 pick0 rfl rfl) (some_cons pick0 some_nil) rfl (by kernel_rfl) (fun _ _ _ h => h) ?_
  refine wa_pure 12 rfl (po_quo rfl rfl g1) (some_cons pick0 some_nil) rfl (by kernel_rfl) (fun _ _ _ h => h) ?_
  refine wa_pure 13 rfl (po_move rfl) (some_cons pick0 some_nil) rfl (by kernel_rfl) (fun _ _ _ h => h) ?_
  refine wa_pure 14 rfl (po_add rfl rfl) (some_cons pick0 some_nil) rfl (by kernel_rfl) (fun _ _ _ h => h) ?_
  refine wa_pure 15 rfl (po_fld fo_31_1 rfl) (some_cons pick0 some_nil) rfl (by kernel_rfl) (fun _ _ _ h => h) ?_
  refine wa_pure (v := .int .i64 a_q.Height) 16 rfl (po_load_box tk_3 pick0 rfl rfl) (some_cons pick0 some_nil) rfl (by kernel_rfl) (fun _ _ _ h => h) ?_
  refine gdO t0 fun g2 t0 => ?_
  refine wa_pure 17 rfl (po_rem rfl rfl g2) (some_cons pick0 some_nil) rfl (by kernel_rfl) (fun _ _ _ h => h) ?_
  refine wa_pure 18 rfl (po_assign rfl) (some_cons pick0 some_nil) rfl (by kernel_rfl) (fun _ _ _ h => h) ?_
  refine wa_pure 19 rfl (po_assign rfl) (some_cons pick0 some_nil) rfl (by kernel_rfl) (fun _ _ _ h => h) ?_
  refine wa_done (by kernel_rfl) ?_
  refine wq_then ?_
  refine wcr ?_
  refine mv rfl rfl ?_
  refine wl_pure (po_fld fo_31_0 rfl) rfl ?_
  refine wl_pure (v := .int .i64 a_q.Width) (po_load_box tk_3 pick0 rfl rfl) rfl ?_
  refine wl_pure (po_mul rfl rfl) rfl ?_
  refine mv rfl rfl ?_
  refine wl_pure (po_add rfl rfl) rfl ?_
  refine asg rfl rfl ?_
  refine wnt ?_
  refine wc_ret ?_
  obtain rfl := Option.some.inj t0
  exact wq_ret1 rfl rfl fun w hw => ⟨rfl, hw.weak some_nil⟩

theorem c_impl_SameBlock (w : World) (a_b : GBlock) (v0a : Hd) (r0 : rdF w (dm w []) (sl v0a) a_b.Cells) (a_d : GBlock) (v1a : Hd) (r1 : rdF w (dm w []) (sl v1a) a_d.Cells) {r : Bool} (t0 : impl_SameBlock a_b a_d = some r) : Calls Try.prog 23 #[.agg #[.int .i64 a_b.Size, (sl v0a)], .agg #[.int .i64 a_d.Size, (sl v1a)]] w fun e w' => e = .returned (.bool r) ∧ SH w [] [] w' := by
  refine calls_of_wc (args := [_, _]) Try.func23 rfl Try.ntmps23 rfl ?_
  unfold impl_SameBlock at t0
  refine wcr ?_
  refine wl_eff (eo_box rfl rfl) rfl fun b1 => ?_
  refine wl_eff (eo_box rfl rfl) rfl fun b2 => ?_
  refine asg rfl rfl ?_
  refine wnt ?_
  refine wc_seq ?_
  refine wc_seq ?_
  refine wc_join (X := Unit) (fun _ => True) (fun _ => [(2, ptr b1 0), (3, ptr b2 0), (19, .bool ((a_b.Size != a_d.Size) || (((a_b.Cells.length : Nat) : Int) != ((a_d.Cells.length : Nat) : Int))))]) (fun _ => [box b2 [.int .i64 a_d.Size, (sl v1a)], box b1 [.int .i64 a_b.Size, (sl v0a)]]) ?_ ?_
  · skip
    refine wc_region ?_
    refine wl_pure (po_fld fo_51_0 rfl) rfl ?_
    refine wl_pure (v := .int .i64 a_b.Size) (po_load_box tk_3 (pickS pick0) rfl rfl) rfl ?_
    refine wl_pure (po_fld fo_51_0 rfl) rfl ?_
    refine wl_pure (v := .int .i64 a_d.Size) (po_load_box tk_3 pick0 rfl rfl) rfl ?_
    refine wl_pure (po_neq rfl rfl) rfl ?_
    refine mv rfl rfl ?_
    refine wl_fork (t := 11) rfl (fun h1 => ?_) fun h1 => ?_
    · skip
      refine wl_guard_off (j := 5) rfl rfl rfl rfl rfl ?_
      refine wl_guard_off (j := 5) rfl rfl rfl rfl rfl ?_
      refine wl_guard_off (j := 5) rfl rfl rfl rfl rfl ?_
      refine wl_guard_off (j := 5) rfl rfl rfl rfl rfl ?_
      refine wl_guard_off (j := 5) rfl rfl rfl rfl rfl ?_
      refine wl_guard_off (j := 5) rfl rfl rfl rfl rfl ?_
      refine wl_guard_off (j := 5) rfl rfl rfl rfl rfl ?_
      refine wl_pure (po_pick_t rfl rfl) rfl ?_
      refine wl_nil ?_
      exact wq_meet () trivial (sub_cons rfl (sub_cons rfl (sub_b rfl (by rw [h1]; rfl) sub_nil))) (some_cons pick0 (some_cons pick0 some_nil))
    refine wl_guard_on (j := 5) rfl rfl rfl (wl_pure (po_fld fo_51_1 rfl) rfl ?_)
    refine wl_guard_on (j := 5) rfl rfl rfl (wl_pure (v := (sl v0a)) (po_load_box tk_49 (pickS pick0) rfl rfl) rfl ?_)
    refine wl_guard_on (j := 5) rfl rfl rfl (wl_pure (po_lenr (rds_arg r0) el_49 rfl) rfl ?_)
    refine wl_guard_on (j := 5) rfl rfl rfl (wl_pure (po_fld fo_51_1 rfl) rfl ?_)
    refine wl_guard_on (j := 5) rfl rfl rfl (wl_pure (v := (sl v1a)) (po_load_box tk_49 pick0 rfl rfl) rfl ?_)
    refine wl_guard_on (j := 5) rfl rfl rfl (wl_pure (po_lenr (rds_arg r1) el_49 rfl) rfl ?_)
    refine wl_guard_on (j := 5) rfl rfl rfl (wl_pure (po_neq rfl rfl) rfl ?_)
    refine wl_pure (po_pick_f rfl rfl) rfl ?_
    refine wl_nil ?_
    exact wq_meet () trivial (sub_cons rfl (sub_cons rfl (sub_b rfl (by rw [h1]; rfl) sub_nil))) (some_cons pick0 (some_cons pick0 some_nil))
  intro _ _
  refine wq_then ?_
  refine wcO t0 rfl (fun h2 t0 => ?_) fun h2 t0 => ?_
  · skip
    refine wcr ?_
    refine asg rfl rfl ?_
    refine wnt ?_
    refine wc_ret ?_
    refine wq_then_ret ?_
    obtain rfl := Option.some.inj t0
    exact wq_ret1 rfl rfl fun w hw => ⟨rfl, hw.weak some_nil⟩
  refine wc_skip ?_
  refine wq_then ?_
  refine wc_seq ?_
  refine wcr ?_
  refine wl_pure (po_fld fo_51_1 rfl) rfl ?_
  refine wl_pure (v := (sl v0a)) (po_load_box tk_49 (pickS pick0) rfl rfl) rfl ?_
  refine wl_pure (po_lenr (rds_arg r0) el_49 rfl) rfl ?_
  refine mv rfl rfl ?_
  refine wnt ?_
  refine gdO t0 fun g1 t0 => ?_
  refine sqO t0 fun y1 l1 t0 => ?_
  refine wj (J := Unit) (X := Unit) (fun z => y1 = .inl z) (fun _ _ => []) (fun _ _ => []) ?_ ?_
  · skip
    refine wc_block ?_
    refine wc_forO (X := Unit) l1 (fun k1 s1 x1l => [(2, ptr b1 0), (3, ptr b2 0), (22, .int .i64 ((a_b.Cells.length : Nat) : Int)), (23, .int .i64 ((k1 : Nat) : Int))]) (fun k1 s1 x1l => [box b2 [.int .i64 a_d.Size, (sl v1a)], box b1 [.int .i64 a_b.Size, (sl v0a)]]) () (sub_cons rfl (sub_cons rfl (sub_cons rfl (sub_cons rfl sub_nil)))) (some_cons pick0 (some_cons pick0 some_nil)) fun k1 s1 x1l hN1 l1 => ?_
    by_cases hk1 : k1 < a_b.Cells.length
    · skip
      refine forO_step l1 hk1 fun _ t1 l1 => ?_
      unfold impl_SameBlock_L1 at t1
      have c1 : (decide (((k1 : Nat) : Int) < ((a_b.Cells.length : Nat) : Int))) = true := decide_eq_true (by omega)
      refine wcr ?_
      refine wl_pure (po_lss rfl rfl) rfl ?_
      refine wnt ?_
      refine wc_seq ?_
      refine wc_cond_t rfl c1 ?_
      refine wc_skip ?_
      refine wq_then ?_
      refine wc_seq ?_
      refine wc_block ?_
      refine wcr ?_
      refine mv rfl rfl ?_
      refine asg rfl rfl ?_
      refine wnt ?_
      refine wc_seq ?_
      refine wc_draw [box b2 [.int .i64 a_d.Size, (sl v1a)], box b1 [.int .i64 a_b.Size, (sl v0a)]] 11 mixed ?_
      refine wa_pure 0 rfl (po_fld fo_51_1 rfl) (some_cons pick0 (some_cons pick0 some_nil)) rfl (by kernel_rfl) (fun _ _ _ h => h) ?_
      refine wa_pure (v := (sl v0a)) 1 rfl (po_load_box tk_49 (pickS pick0) rfl rfl) (some_cons pick0 (some_cons pick0 some_nil)) rfl (by kernel_rfl) (fun _ _ _ h => h) ?_
      refine wa_pure 2 rfl (po_move rfl) (some_cons pick0 (some_cons pick0 some_nil)) rfl (by kernel_rfl) (fun _ _ _ h => h) ?_
      refine wa_pure 3 rfl (po_ixn (k := k1) (rds_arg r0) el_49 rfl rfl hk1) (some_cons pick0 (some_cons pick0 some_nil)) rfl (by kernel_rfl) (fun _ _ _ h => h) ?_
      refine wa_pure (v := .agg #[.int .i64 ((gx a_b.Cells k1).Split), .int .i64 ((gx a_b.Cells k1).A), .int .i64 ((gx a_b.Cells k1).B)]) 4 rfl (po_ldfs (rds_arg r0) tk_69 rfl hk1 rfl rfl rfl) (some_cons pick0 (some_cons pick0 some_nil)) rfl (by kernel_rfl) (fun _ _ _ h => h) ?_
      refine wa_pure 5 rfl (po_fld fo_51_1 rfl) (some_cons pick0 (some_cons pick0 some_nil)) rfl (by kernel_rfl) (fun _ _ _ h => h) ?_
      refine wa_pure (v := (sl v1a)) 6 rfl (po_load_box tk_49 pick0 rfl rfl) (some_cons pick0 (some_cons pick0 some_nil)) rfl (by kernel_rfl) (fun _ _ _ h => h) ?_
      refine wa_pure 7 rfl (po_move rfl) (some_cons pick0 (some_cons pick0 some_nil)) rfl (by kernel_rfl) (fun _ _ _ h => h) ?_
      refine gdO t1 fun g2 t1 => ?_
      refine wa_pure 8 rfl (po_ixn (k := k1) (rds_arg r1) el_49 rfl rfl g2) (some_cons pick0 (some_cons pick0 some_nil)) rfl (by kernel_rfl) (fun _ _ _ h => h) ?_
      refine wa_pure (v := .agg #[.int .i64 ((gx a_d.Cells k1).Split), .int .i64 ((gx a_d.Cells k1).A), .int .i64 ((gx a_d.Cells k1).B)]) 9 rfl (po_ldfs (rds_arg r1) tk_69 rfl g2 rfl rfl rfl) (some_cons pick0 (some_cons pick0 some_nil)) rfl (by kernel_rfl) (fun _ _ _ h => h) ?_
      refine wa_pure 10 rfl (po_neq_struct (ps := [(gx a_b.Cells k1).Split, (gx a_b.Cells k1).A, (gx a_b.Cells k1).B]) (qs := [(gx a_d.Cells k1).Split, (gx a_d.Cells k1).A, (gx a_d.Cells k1).B]) sq_69 rfl rfl rfl rfl) (some_cons pick0 (some_cons pick0 some_nil)) rfl (by kernel_rfl) (fun _ _ _ h => h) ?_
      refine wa_done (by kernel_rfl) ?_
      refine wq_then ?_
      refine wcO t1 rfl (fun h3 t1 => ?_) fun h3 t1 => ?_
      · skip
        refine wcr ?_
        refine asg rfl rfl ?_
        refine wnt ?_
        refine wc_ret ?_
        refine wq_block_ret ?_
        refine wq_then_ret ?_
        refine wq_then_ret ?_
        refine wq_block_ret ?_
        refine wq_then_ret ?_
        refine wq_then_ret ?_
        replace t0 := lpR t0 l1 t1
        obtain rfl := Option.some.inj t0
        exact wq_ret1 rfl rfl fun w hw => ⟨rfl, hw.weak some_nil⟩
      refine wc_skip ?_
      refine wq_block ?_
      refine wq_then ?_
      refine wc_region ?_
      refine wl_pure (po_inc rfl rfl (by omega)) rfl ?_
      refine mv rfl rfl ?_
      refine wl_nil ?_
      exact wq_rnd hk1 (stpN l1 t1) () (sub_cons rfl (sub_cons rfl (sub_cons rfl (sub_cons rfl sub_nil)))) (some_cons pick0 (some_cons pick0 some_nil))
    have c1 : (decide (((k1 : Nat) : Int) < ((a_b.Cells.length : Nat) : Int))) = false := decide_eq_false (by omega)
    have en1 := forO_end l1 hk1
    refine wcr ?_
    refine wl_pure (po_lss rfl rfl) rfl ?_
    refine wnt ?_
    refine wc_seq ?_
    refine wc_cond_f rfl c1 ?_
    refine wc_exit ?_
    refine wq_then_exit ?_
    refine wq_then_exit ?_
    refine wq_block_exit ?_
    exact wj_meet _ () en1 sub_nil some_nil
  intro e1 _ hp
  replace t0 := sqE (j := e1) t0 hp
  refine wq_then ?_
  refine wcr ?_
  refine asg rfl rfl ?_
  refine wnt ?_
  refine wc_ret ?_
  obtain rfl := Option.some.inj t0
  exact wq_ret1 rfl rfl fun w hw => ⟨rfl, hw.weak some_nil⟩

theorem c_impl_HasShift (w : World) (a_q : GQuilt) (v0a : Hd) (r0 : rdF w (dm w []) (sl v0a) a_q.Spots) (a_blocks : List GBlock) (v1a : Hd) (u1a : List Value) (r1 : RdL w (dm w []) (sl v1a) u1a a_blocks) (a_dx : Int) (a_dy : Int) {r : Bool} (t0 : impl_HasShift a_q a_blocks a_dx a_dy = some r) : Calls Try.prog 9 #[.agg #[.int .i64 a_q.Width, .int .i64 a_q.Height, (sl v0a)], (sl v1a), .int .i64 a_dx, .int .i64 a_dy] w fun e w' => e = .returned (.bool r) ∧ SH w [] [] w' := by
  refine calls_of_wc (args := [_, _, _, _]) Try.func9 rfl Try.ntmps9 rfl ?_
  unfold impl_HasShift at t0
  refine wcr ?_
  refine wl_eff (eo_box rfl rfl) rfl fun b1 => ?_
  refine asg rfl rfl ?_
  refine wnt ?_
  refine wc_seq ?_
  refine wc_seq ?_
  refine bdO t0 fun y1 t1 t0 => ?_
  refine wj (J := Bool) (X := Unit) (fun z => y1 = z) (fun z _ => [(1, (sl v1a)), (2, .int .i64 a_dx), (3, .int .i64 a_dy), (4, ptr b1 0), (21, .bool z)]) (fun _ _ => [box b1 [.int .i64 a_q.Width, .int .i64 a_q.Height, (sl v0a)]]) ?_ ?_
  · skip
    refine wc_region ?_
    refine wl_pure (v := .agg #[.int .i64 a_q.Width, .int .i64 a_q.Height, (sl v0a)]) (po_load_boxs tk_31 pick0 rfl rfl rfl) rfl ?_
    refine mv rfl rfl ?_
    refine bdO t1 fun v1 hv1 t1 => ?_
    refine wl_call (co_c0 fa_20 rfl fun w hw => c_impl_QuiltOk w a_q v0a (Rg.on (rds_arg r0) hw) a_blocks v1a u1a (Rg.on (rds_arg r1) hw) hv1) rfl fun _ => ?_
    refine wl_pure (po_not rfl) rfl ?_
    refine mv rfl rfl ?_
    refine wlO_ (t := 15) t1 rfl (fun h1 t1 => ?_) fun h1 t1 => ?_
    · skip
      refine wl_guard_off (j := 4) rfl rfl rfl rfl rfl ?_
      refine wl_guard_off (j := 4) rfl rfl rfl rfl rfl ?_
      refine wl_guard_off (j := 4) rfl rfl rfl rfl rfl ?_
      refine wl_guard_off (j := 4) rfl rfl rfl rfl rfl ?_
      refine wl_guard_off (j := 4) rfl rfl rfl rfl rfl ?_
      refine wl_pure (po_pick_t rfl rfl) rfl ?_
      refine wl_nil ?_
      exact wj_meet _ () (mtE t1) (sub_cons rfl (sub_cons rfl (sub_cons rfl (sub_cons rfl (sub_cons rfl sub_nil))))) (some_cons pick0 some_nil)
    refine wl_guard_on (j := 4) rfl rfl rfl (wl_pure (v := .agg #[.int .i64 a_q.Width, .int .i64 a_q.Height, (sl v0a)]) (po_load_boxs tk_31 pick0 rfl rfl rfl) rfl ?_)
    refine wl_guard_on (j := 4) rfl rfl rfl (mv rfl rfl ?_)
    refine wl_guard_on (j := 4) rfl rfl rfl (mv rfl rfl ?_)
    refine bdO t1 fun v2 hv2 t1 => ?_
    refine wl_guard_on (j := 4) rfl rfl rfl (wl_call (co_c0 fa_21 rfl fun w hw => c_impl_isShift w a_q v0a (Rg.on (rds_arg r0) hw) a_dx a_dy hv2) rfl (fun _ => ?_))
    refine wl_guard_on (j := 4) rfl rfl rfl (wl_pure (po_not rfl) rfl ?_)
    refine wl_pure (po_pick_f rfl rfl) rfl ?_
    refine wl_nil ?_
    exact wj_meet _ () (mtE t1) (sub_cons rfl (sub_cons rfl (sub_cons rfl (sub_cons rfl (sub_cons rfl sub_nil))))) (some_cons pick0 some_nil)
  intro j1 _ hp
  obtain rfl : j1 = y1 := hp.symm
  refine wq_then ?_
  refine wcO t0 rfl (fun h2 t0 => ?_) fun h2 t0 => ?_
  · skip
    refine wcr ?_
    refine asg rfl rfl ?_
    refine wnt ?_
    refine wc_ret ?_
    refine wq_then_ret ?_
    obtain rfl := Option.some.inj t0
    exact wq_ret1 rfl rfl fun w hw => ⟨rfl, hw.weak some_nil⟩
  refine wc_skip ?_
  refine wq_then ?_
  refine wcr ?_
  refine wl_pure (v := .agg #[.int .i64 a_q.Width, .int .i64 a_q.Height, (sl v0a)]) (po_load_boxs tk_31 pick0 rfl rfl rfl) rfl ?_
  refine mv rfl rfl ?_
  refine bdO t0 fun v3 hv3 t0 => ?_
  refine wl_call (co_c1 fa_22 rfl fun w hw => c_impl_shown w a_q v0a (Rg.on (rds_arg r0) hw) a_blocks v1a u1a (Rg.on (rds_arg r1) hw) hv3) rfl fun x2 => ?_
  refine asg rfl rfl ?_
  refine wnt ?_
  refine wc_seq ?_
  refine wcr ?_
  refine mv rfl rfl ?_
  refine wl_pure (po_lenr (rds_own pick0) el_33 rfl) rfl ?_
  refine mv rfl rfl ?_
  refine wnt ?_
  refine gdO t0 fun g1 t0 => ?_
  refine sqO t0 fun y1 l1 t0 => ?_
  refine wj (J := Unit) (X := Unit) (fun z => y1 = .inl z) (fun _ _ => []) (fun _ _ => []) ?_ ?_
  · skip
    refine wc_block ?_
    refine wc_forO (X := Unit) l1 (fun k1 s1 x1l => [(2, .int .i64 a_dx), (3, .int .i64 a_dy), (4, ptr b1 0), (9, (sl x2.1)), (26, .int .i64 ((v3.length : Nat) : Int)), (27, .int .i64 ((k1 : Nat) : Int))]) (fun k1 s1 x1l => [own (sl x2.1) x2.2 v3, box b1 [.int .i64 a_q.Width, .int .i64 a_q.Height, (sl v0a)]]) () (sub_cons rfl (sub_cons rfl (sub_cons rfl (sub_cons rfl (sub_cons rfl (sub_cons rfl sub_nil)))))) (some_cons pick0 (some_cons pick0 some_nil)) fun k1 s1 x1l hN1 l1 => ?_
    by_cases hk1 : k1 < v3.length
    · skip
      refine forO_step l1 hk1 fun _ t1 l1 => ?_
      unfold impl_HasShift_L1 at t1
      have c1 : (decide (((k1 : Nat) : Int) < ((v3.length : Nat) : Int))) = true := decide_eq_true (by omega)
      refine wcr ?_
      refine wl_pure (po_lss rfl rfl) rfl ?_
      refine wnt ?_
      refine wc_seq ?_
      refine wc_cond_t rfl c1 ?_
      refine wc_skip ?_
      refine wq_then ?_
      refine wc_seq ?_
      refine wc_block ?_
      refine wcr ?_
      refine mv rfl rfl ?_
      refine asg rfl rfl ?_
      refine wnt ?_
      refine wc_seq ?_
      refine wc_draw [own (sl x2.1) x2.2 v3, box b1 [.int .i64 a_q.Width, .int .i64 a_q.Height, (sl v0a)]] 14 mixed ?_
      refine wa_pure 0 rfl (po_move rfl) (some_cons pick0 (some_cons pick0 some_nil)) rfl (by kernel_rfl) (fun _ _ _ h => h) ?_
      refine wa_pure 1 rfl (po_move rfl) (some_cons pick0 (some_cons pick0 some_nil)) rfl (by kernel_rfl) (fun _ _ _ h => h) ?_
      refine wa_pure 2 rfl (po_ixn (k := k1) (rds_own pick0) el_33 rfl rfl hk1) (some_cons pick0 (some_cons pick0 some_nil)) rfl (by kernel_rfl) (fun _ _ _ h => h) ?_
      refine wa_elem (rds_own pick0) hk1 ?_
      rintro ⟨_, _, he1⟩
      obtain ⟨w1, hc1, _⟩ := rd_GBlock.1 he1
      refine wa_pure (v := .agg #[.int .i64 ((gx v3 k1).Size), (sl w1)]) 3 rfl (po_ldns (rds_own pick0) tk_51 rfl hc1 rfl rfl rfl) (some_cons pick0 (some_cons pick0 some_nil)) rfl (by kernel_rfl) (fun _ _ _ h => h) ?_
      refine wa_pure 4 rfl (po_move rfl) (some_cons pick0 (some_cons pick0 some_nil)) rfl (by kernel_rfl) (fun _ _ _ h => h) ?_
      refine wa_pure (v := .agg #[.int .i64 a_q.Width, .int .i64 a_q.Height, (sl v0a)]) 5 rfl (po_load_boxs tk_31 (pickS pick0) rfl rfl rfl) (some_cons pick0 (some_cons pick0 some_nil)) rfl (by kernel_rfl) (fun _ _ _ h => h) ?_
      refine wa_pure 6 rfl (po_move rfl) (some_cons pick0 (some_cons pick0 some_nil)) rfl (by kernel_rfl) (fun _ _ _ h => h) ?_
      refine wa_pure 7 rfl (po_move rfl) (some_cons pick0 (some_cons pick0 some_nil)) rfl (by kernel_rfl) (fun _ _ _ h => h) ?_
      refine wa_pure 8 rfl (po_move rfl) (some_cons pick0 (some_cons pick0 some_nil)) rfl (by kernel_rfl) (fun _ _ _ h => h) ?_
      refine wa_1 (i := 9) (by kernel_rfl) ?_
      refine bdO t1 fun v4 hv4 t1 => ?_
      refine ws_call rfl (co_c0 fa_24 rfl fun w hw => c_impl_shifted w a_q v0a (Rg.on (rds_arg r0) hw) ((k1 : Nat) : Int) a_dx a_dy hv4) (fun _ => (sts_some (some_cons pick0 (some_cons pick0 some_nil)))) rfl fun _ => ?_
      refine gdO t1 fun g2 t1 => ?_
      refine wa_pure 10 rfl (po_ixr (rds_own pick0) el_33 rfl rfl g2.1 g2.2) (some_cons pick0 (some_cons pick0 some_nil)) rfl (by kernel_rfl) (fun _ _ _ h => h) ?_
      refine wa_elem (rds_own pick0) (ix_lt g2) ?_
      rintro ⟨_, _, he2⟩
      obtain ⟨w2, hc2, _⟩ := rd_GBlock.1 he2
      refine wa_pure (v := .agg #[.int .i64 ((gx v3 ((v4).toNat)).Size), (sl w2)]) 11 rfl (po_ldns (rds_own pick0) tk_51 rfl hc2 rfl rfl rfl) (some_cons pick0 (some_cons pick0 some_nil)) rfl (by kernel_rfl) (fun _ _ _ h => h) ?_
      refine wa_1 (i := 12) (by kernel_rfl) ?_
      refine bdO t1 fun v5 hv5 t1 => ?_
      refine ws_call rfl (co_c0 fa_23 rfl fun w hw => c_impl_SameBlock w (gx v3 k1) w1 (Rg.on (er_GBlock_0 hc1 (rds_own pick0) hk1) hw) (gx v3 ((v4).toNat)) w2 (Rg.on (er_GBlock_0 hc2 (rds_own pick0) (ix_lt g2)) hw) hv5) (fun _ => (sts_some (some_cons pick0 (some_cons pick0 some_nil)))) rfl fun _ => ?_
      refine wa_pure 13 rfl (po_not rfl) (some_cons pick0 (some_cons pick0 some_nil)) rfl (by kernel_rfl) (fun _ _ _ h => h) ?_
      refine wa_done (by kernel_rfl) ?_
      refine wq_then ?_
      refine wcO t1 rfl (fun h3 t1 => ?_) fun h3 t1 => ?_
      · skip
        refine wcr ?_
        refine asg rfl rfl ?_
        refine wnt ?_
        refine wc_ret ?_
        refine wq_block_ret ?_
        refine wq_then_ret ?_
        refine wq_then_ret ?_
        refine wq_block_ret ?_
        refine wq_then_ret ?_
        refine wq_then_ret ?_
        replace t0 := lpR t0 l1 t1
        obtain rfl := Option.some.inj t0
        exact wq_ret1 rfl rfl fun w hw => ⟨rfl, hw.weak some_nil⟩
      refine wc_skip ?_
      refine wq_block ?_
      refine wq_then ?_
      refine wc_region ?_
      refine wl_pure (po_inc rfl rfl (by omega)) rfl ?_
      refine mv rfl rfl ?_
      refine wl_nil ?_
      exact wq_rnd hk1 (stpN l1 t1) () (sub_cons rfl (sub_cons rfl (sub_cons rfl (sub_cons rfl (sub_cons rfl (sub_cons rfl sub_nil)))))) (some_cons pick0 (some_cons pick0 some_nil))
    have c1 : (decide (((k1 : Nat) : Int) < ((v3.length : Nat) : Int))) = false := decide_eq_false (by omega)
    have en1 := forO_end l1 hk1
    refine wcr ?_
    refine wl_pure (po_lss rfl rfl) rfl ?_
    refine wnt ?_
    refine wc_seq ?_
    refine wc_cond_f rfl c1 ?_
    refine wc_exit ?_
    refine wq_then_exit ?_
    refine wq_then_exit ?_
    refine wq_block_exit ?_
    exact wj_meet _ () en1 sub_nil some_nil
  intro e1 _ hp
  replace t0 := sqE (j := e1) t0 hp
  refine wq_then ?_
  refine wcr ?_
  refine asg rfl rfl ?_
  refine wnt ?_
  refine wc_ret ?_
  obtain rfl := Option.some.inj t0
  exact wq_ret1 rfl rfl fun w hw => ⟨rfl, hw.weak some_nil⟩

theorem c_laws_eqSpot (w : World) (a_a : GSpot) (a_b : GSpot) {r : Bool} (t0 : laws_eqSpot a_a a_b = some r) : Calls Try.prog 37 #[.agg #[.int .i64 a_a.Block, .int .i64 a_a.Seen], .agg #[.int .i64 a_b.Block, .int .i64 a_b.Seen]] w fun e w' => e = .returned (.bool r) ∧ SH w [] [] w' := by
  refine calls_of_wc (args := [_, _]) Try.func37 rfl Try.ntmps37 rfl ?_
  unfold laws_eqSpot at t0
  refine wcr ?_
  refine wl_eff (eo_box rfl rfl) rfl fun b1 => ?_
  refine wl_eff (eo_box rfl rfl) rfl fun b2 => ?_
  refine asg rfl rfl ?_
  refine wnt ?_
  refine wc_seq ?_
  refine wcr ?_
  refine wl_pure (po_fld fo_61_0 rfl) rfl ?_
  refine wl_pure (v := .int .i64 a_a.Block) (po_load_box tk_3 (pickS pick0) rfl rfl) rfl ?_
  refine wl_pure (po_fld fo_61_0 rfl) rfl ?_
  refine wl_pure (v := .int .i64 a_b.Block) (po_load_box tk_3 pick0 rfl rfl) rfl ?_
  refine wl_pure (po_neq rfl rfl) rfl ?_
  refine wnt ?_
  refine wcO t0 rfl (fun h1 t0 => ?_) fun h1 t0 => ?_
  · skip
    refine wcr ?_
    refine asg rfl rfl ?_
    refine wnt ?_
    refine wc_ret ?_
    refine wq_then_ret ?_
    obtain rfl := Option.some.inj t0
    exact wq_ret1 rfl rfl fun w hw => ⟨rfl, hw.weak some_nil⟩
  refine wc_skip ?_
  refine wq_then ?_
  refine wc_seq ?_
  refine wcr ?_
  refine wl_pure (po_fld fo_61_1 rfl) rfl ?_
  refine wl_pure (v := .int .i64 a_a.Seen) (po_load_box tk_3 (pickS pick0) rfl rfl) rfl ?_
  refine wl_pure (po_fld fo_61_1 rfl) rfl ?_
  refine wl_pure (v := .int .i64 a_b.Seen) (po_load_box tk_3 pick0 rfl rfl) rfl ?_
  refine wl_pure (po_neq rfl rfl) rfl ?_
  refine wnt ?_
  refine wcO t0 rfl (fun h2 t0 => ?_) fun h2 t0 => ?_
  · skip
    refine wcr ?_
    refine asg rfl rfl ?_
    refine wnt ?_
    refine wc_ret ?_
    refine wq_then_ret ?_
    obtain rfl := Option.some.inj t0
    exact wq_ret1 rfl rfl fun w hw => ⟨rfl, hw.weak some_nil⟩
  refine wc_skip ?_
  refine wq_then ?_
  refine wcr ?_
  refine asg rfl rfl ?_
  refine wnt ?_
  refine wc_ret ?_
  obtain rfl := Option.some.inj t0
  exact wq_ret1 rfl rfl fun w hw => ⟨rfl, hw.weak some_nil⟩

theorem c_laws_eqSpotS (w : World) (a_a : List GSpot) (v0a : Hd) (r0 : rdF w (dm w []) (sl v0a) a_a) (a_b : List GSpot) (v1a : Hd) (r1 : rdF w (dm w []) (sl v1a) a_b) {r : Bool} (t0 : laws_eqSpotS a_a a_b = some r) : Calls Try.prog 25 #[(sl v0a), (sl v1a)] w fun e w' => e = .returned (.bool r) ∧ SH w [] [] w' := by
  refine calls_of_wc (args := [_, _]) Try.func25 rfl Try.ntmps25 rfl ?_
  unfold laws_eqSpotS at t0
  refine wcr ?_
  refine asg rfl rfl ?_
  refine wnt ?_
  refine wc_seq ?_
  refine wcr ?_
  refine mv rfl rfl ?_
  refine wl_pure (po_lenr (rds_arg r0) el_29 rfl) rfl ?_
  refine mv rfl rfl ?_
  refine wl_pure (po_lenr (rds_arg r1) el_29 rfl) rfl ?_
  refine wl_pure (po_neq rfl rfl) rfl ?_
  refine wnt ?_
  refine wcO t0 rfl (fun h1 t0 => ?_) fun h1 t0 => ?_
  · skip
    refine wcr ?_
    refine asg rfl rfl ?_
    refine wnt ?_
    refine wc_ret ?_
    refine wq_then_ret ?_
    obtain rfl := Option.some.inj t0
    exact wq_ret1 rfl rfl fun w hw => ⟨rfl, hw.weak some_nil⟩
  refine wc_skip ?_
  refine wq_then ?_
  refine wc_seq ?_
  refine wcr ?_
  refine asg rfl rfl ?_
  refine wnt ?_
  refine gdO t0 fun g1 t0 => ?_
  refine sqO t0 fun y1 l1 t0 => ?_
  refine wj (J := Unit) (X := Unit) (fun z => y1 = .inl z) (fun _ _ => []) (fun _ _ => []) ?_ ?_
  · skip
    refine wc_block ?_
    refine wc_forO (X := Unit) l1 (fun k1 s1 x1l => [(0, (sl v0a)), (1, (sl v1a)), (5, .int .i64 ((k1 : Nat) : Int))]) (fun k1 s1 x1l => []) () (sub_cons rfl (sub_cons rfl (sub_cons rfl sub_nil))) some_nil fun k1 s1 x1l hN1 l1 => ?_
    by_cases hk1 : k1 < a_a.length
    · skip
      refine forO_step l1 hk1 fun _ t1 l1 => ?_
      unfold laws_eqSpotS_L1 at t1
      have c1 : (decide (((k1 : Nat) : Int) < ((a_a.length : Nat) : Int))) = true := decide_eq_true (by omega)
      refine wc_seq ?_
      refine wcr ?_
      refine mv rfl rfl ?_
      refine mv rfl rfl ?_
      refine wl_pure (po_lenr (rds_arg r0) el_29 rfl) rfl ?_
      refine wl_pure (po_lss rfl rfl) rfl ?_
      refine wnt ?_
      refine wc_cond_t rfl c1 ?_
      refine wc_skip ?_
      refine wq_then ?_
      refine wc_seq ?_
      refine wc_block ?_
      refine wc_seq ?_
      refine wc_draw [] 10 mixed ?_
      refine wa_pure 0 rfl (po_move rfl) some_nil rfl (by kernel_rfl) (fun _ _ _ h => h) ?_
      refine wa_pure 1 rfl (po_move rfl) some_nil rfl (by kernel_rfl) (fun _ _ _ h => h) ?_
      refine wa_pure 2 rfl (po_ixn (k := k1) (rds_arg r0) el_29 rfl rfl hk1) some_nil rfl (by kernel_rfl) (fun _ _ _ h => h) ?_
      refine wa_pure (v := .agg #[.int .i64 ((gx a_a k1).Block), .int .i64 ((gx a_a k1).Seen)]) 3 rfl (po_ldfs (rds_arg r0) tk_61 rfl hk1 rfl rfl rfl) some_nil rfl (by kernel_rfl) (fun _ _ _ h => h) ?_
      refine wa_pure 4 rfl (po_move rfl) some_nil rfl (by kernel_rfl) (fun _ _ _ h => h) ?_
      refine wa_pure 5 rfl (po_move rfl) some_nil rfl (by kernel_rfl) (fun _ _ _ h => h) ?_
      refine gdO t1 fun g2 t1 => ?_
      refine wa_pure 6 rfl (po_ixn (k := k1) (rds_arg r1) el_29 rfl rfl g2) some_nil rfl (by kernel_rfl) (fun _ _ _ h => h) ?_
      refine wa_pure (v := .agg #[.int .i64 ((gx a_b k1).Block), .int .i64 ((gx a_b k1).Seen)]) 7 rfl (po_ldfs (rds_arg r1) tk_61 rfl g2 rfl rfl rfl) some_nil rfl (by kernel_rfl) (fun _ _ _ h => h) ?_
      refine wa_1 (i := 8) (by kernel_rfl) ?_
      refine bdO t1 fun v1 hv1 t1 => ?_
      refine ws_call rfl (co_c0 fa_37 rfl fun w hw => c_laws_eqSpot w (gx a_a k1) (gx a_b k1) hv1) (fun _ => (sts_some some_nil)) rfl fun _ => ?_
      refine wa_pure 9 rfl (po_not rfl) some_nil rfl (by kernel_rfl) (fun _ _ _ h => h) ?_
      refine wa_done (by kernel_rfl) ?_
      refine wq_then ?_
      refine wcO t1 rfl (fun h2 t1 => ?_) fun h2 t1 => ?_
      · skip
        refine wcr ?_
        refine asg rfl rfl ?_
        refine wnt ?_
        refine wc_ret ?_
        refine wq_block_ret ?_
        refine wq_then_ret ?_
        refine wq_then_ret ?_
        refine wq_block_ret ?_
        refine wq_then_ret ?_
        refine wq_then_ret ?_
        replace t0 := lpR t0 l1 t1
        obtain rfl := Option.some.inj t0
        exact wq_ret1 rfl rfl fun w hw => ⟨rfl, hw.weak some_nil⟩
      refine wc_skip ?_
      refine wq_block ?_
      refine wq_then ?_
      refine wc_region ?_
      refine mv rfl rfl ?_
      refine wl_pure (po_inc rfl rfl (by omega)) rfl ?_
      refine asg rfl rfl ?_
      refine wl_nil ?_
      exact wq_rnd hk1 (stpN l1 t1) () (sub_cons rfl (sub_cons rfl (sub_cons rfl sub_nil))) some_nil
    have c1 : (decide (((k1 : Nat) : Int) < ((a_a.length : Nat) : Int))) = false := decide_eq_false (by omega)
    have en1 := forO_end l1 hk1
    refine wc_seq ?_
    refine wcr ?_
    refine mv rfl rfl ?_
    refine mv rfl rfl ?_
    refine wl_pure (po_lenr (rds_arg r0) el_29 rfl) rfl ?_
    refine wl_pure (po_lss rfl rfl) rfl ?_
    refine wnt ?_
    refine wc_cond_f rfl c1 ?_
    refine wc_exit ?_
    refine wq_then_exit ?_
    refine wq_then_exit ?_
    refine wq_block_exit ?_
    exact wj_meet _ () en1 sub_nil some_nil
  intro e1 _ hp
  replace t0 := sqE (j := e1) t0 hp
  refine wq_then ?_
  refine wcr ?_
  refine asg rfl rfl ?_
  refine wnt ?_
  refine wc_ret ?_
  obtain rfl := Option.some.inj t0
  exact wq_ret1 rfl rfl fun w hw => ⟨rfl, hw.weak some_nil⟩

theorem c_laws_eqQuilt (w : World) (a_a : GQuilt) (v0a : Hd) (r0 : rdF w (dm w []) (sl v0a) a_a.Spots) (a_b : GQuilt) (v1a : Hd) (r1 : rdF w (dm w []) (sl v1a) a_b.Spots) {r : Bool} (t0 : laws_eqQuilt a_a a_b = some r) : Calls Try.prog 10 #[.agg #[.int .i64 a_a.Width, .int .i64 a_a.Height, (sl v0a)], .agg #[.int .i64 a_b.Width, .int .i64 a_b.Height, (sl v1a)]] w fun e w' => e = .returned (.bool r) ∧ SH w [] [] w' := by
  refine calls_of_wc (args := [_, _]) Try.func10 rfl Try.ntmps10 rfl ?_
  unfold laws_eqQuilt at t0
  refine wcr ?_
  refine wl_eff (eo_box rfl rfl) rfl fun b1 => ?_
  refine wl_eff (eo_box rfl rfl) rfl fun b2 => ?_
  refine asg rfl rfl ?_
  refine wnt ?_
  refine wc_seq ?_
  refine wcr ?_
  refine wl_pure (po_fld fo_31_0 rfl) rfl ?_
  refine wl_pure (v := .int .i64 a_a.Width) (po_load_box tk_3 (pickS pick0) rfl rfl) rfl ?_
  refine wl_pure (po_fld fo_31_0 rfl) rfl ?_
  refine wl_pure (v := .int .i64 a_b.Width) (po_load_box tk_3 pick0 rfl rfl) rfl ?_
  refine wl_pure (po_neq rfl rfl) rfl ?_
  refine wnt ?_
  refine wcO t0 rfl (fun h1 t0 => ?_) fun h1 t0 => ?_
  · skip
    refine wcr ?_
    refine asg rfl rfl ?_
    refine wnt ?_
    refine wc_ret ?_
    refine wq_then_ret ?_
    obtain rfl := Option.some.inj t0
    exact wq_ret1 rfl rfl fun w hw => ⟨rfl, hw.weak some_nil⟩
  refine wc_skip ?_
  refine wq_then ?_
  refine wc_seq ?_
  refine wcr ?_
  refine wl_pure (po_fld fo_31_1 rfl) rfl ?_
  refine wl_pure (v := .int .i64 a_a.Height) (po_load_box tk_3 (pickS pick0) rfl rfl) rfl ?_
  refine wl_pure (po_fld fo_31_1 rfl) rfl ?_
  refine wl_pure (v := .int .i64 a_b.Height) (po_load_box tk_3 pick0 rfl rfl) rfl ?_
  refine wl_pure (po_neq rfl rfl) rfl ?_
  refine wnt ?_
  refine wcO t0 rfl (fun h2 t0 => ?_) fun h2 t0 => ?_
  · skip
    refine wcr ?_
    refine asg rfl rfl ?_
    refine wnt ?_
    refine wc_ret ?_
    refine wq_then_ret ?_
    obtain rfl := Option.some.inj t0
    exact wq_ret1 rfl rfl fun w hw => ⟨rfl, hw.weak some_nil⟩
  refine wc_skip ?_
  refine wq_then ?_
  refine wc_seq ?_
  refine wcr ?_
  refine wl_pure (po_fld fo_31_2 rfl) rfl ?_
  refine wl_pure (v := (sl v0a)) (po_load_box tk_29 (pickS pick0) rfl rfl) rfl ?_
  refine wl_pure (po_fld fo_31_2 rfl) rfl ?_
  refine wl_pure (v := (sl v1a)) (po_load_box tk_29 pick0 rfl rfl) rfl ?_
  refine bdO t0 fun v1 hv1 t0 => ?_
  refine wl_call (co_c0 fa_25 rfl fun w hw => c_laws_eqSpotS w a_a.Spots v0a (Rg.on (rds_arg r0) hw) a_b.Spots v1a (Rg.on (rds_arg r1) hw) hv1) rfl fun _ => ?_
  refine wl_pure (po_not rfl) rfl ?_
  refine wnt ?_
  refine wcO t0 rfl (fun h3 t0 => ?_) fun h3 t0 => ?_
  · skip
    refine wcr ?_
    refine asg rfl rfl ?_
    refine wnt ?_
    refine wc_ret ?_
    refine wq_then_ret ?_
    obtain rfl := Option.some.inj t0
    exact wq_ret1 rfl rfl fun w hw => ⟨rfl, hw.weak some_nil⟩
  refine wc_skip ?_
  refine wq_then ?_
  refine wcr ?_
  refine asg rfl rfl ?_
  refine wnt ?_
  refine wc_ret ?_
  obtain rfl := Option.some.inj t0
  exact wq_ret1 rfl rfl fun w hw => ⟨rfl, hw.weak some_nil⟩

theorem c_laws_eqCell (w : World) (a_a : GCell) (a_b : GCell) {r : Bool} (t0 : laws_eqCell a_a a_b = some r) : Calls Try.prog 49 #[.agg #[.int .i64 a_a.Split, .int .i64 a_a.A, .int .i64 a_a.B], .agg #[.int .i64 a_b.Split, .int .i64 a_b.A, .int .i64 a_b.B]] w fun e w' => e = .returned (.bool r) ∧ SH w [] [] w' := by
  refine calls_of_wc (args := [_, _]) Try.func49 rfl Try.ntmps49 rfl ?_
  unfold laws_eqCell at t0
  refine wcr ?_
  refine wl_eff (eo_box rfl rfl) rfl fun b1 => ?_
  refine wl_eff (eo_box rfl rfl) rfl fun b2 => ?_
  refine asg rfl rfl ?_
  refine wnt ?_
  refine wc_seq ?_
  refine wcr ?_
  refine wl_pure (po_fld fo_69_0 rfl) rfl ?_
  refine wl_pure (v := .int .i64 a_a.Split) (po_load_box tk_3 (pickS pick0) rfl rfl) rfl ?_
  refine wl_pure (po_fld fo_69_0 rfl) rfl ?_
  refine wl_pure (v := .int .i64 a_b.Split) (po_load_box tk_3 pick0 rfl rfl) rfl ?_
  refine wl_pure (po_neq rfl rfl) rfl ?_
  refine wnt ?_
  refine wcO t0 rfl (fun h1 t0 => ?_) fun h1 t0 => ?_
  · skip
    refine wcr ?_
    refine asg rfl rfl ?_
    refine wnt ?_
    refine wc_ret ?_
    refine wq_then_ret ?_
    obtain rfl := Option.some.inj t0
    exact wq_ret1 rfl rfl fun w hw => ⟨rfl, hw.weak some_nil⟩
  refine wc_skip ?_
  refine wq_then ?_
  refine wc_seq ?_
  refine wcr ?_
  refine wl_pure (po_fld fo_69_1 rfl) rfl ?_
  refine wl_pure (v := .int .i64 a_a.A) (po_load_box tk_3 (pickS pick0) rfl rfl) rfl ?_
  refine wl_pure (po_fld fo_69_1 rfl) rfl ?_
  refine wl_pure (v := .int .i64 a_b.A) (po_load_box tk_3 pick0 rfl rfl) rfl ?_
  refine wl_pure (po_neq rfl rfl) rfl ?_
  refine wnt ?_
  refine wcO t0 rfl (fun h2 t0 => ?_) fun h2 t0 => ?_
  · skip
    refine wcr ?_
    refine asg rfl rfl ?_
    refine wnt ?_
    refine wc_ret ?_
    refine wq_then_ret ?_
    obtain rfl := Option.some.inj t0
    exact wq_ret1 rfl rfl fun w hw => ⟨rfl, hw.weak some_nil⟩
  refine wc_skip ?_
  refine wq_then ?_
  refine wc_seq ?_
  refine wcr ?_
  refine wl_pure (po_fld fo_69_2 rfl) rfl ?_
  refine wl_pure (v := .int .i64 a_a.B) (po_load_box tk_3 (pickS pick0) rfl rfl) rfl ?_
  refine wl_pure (po_fld fo_69_2 rfl) rfl ?_
  refine wl_pure (v := .int .i64 a_b.B) (po_load_box tk_3 pick0 rfl rfl) rfl ?_
  refine wl_pure (po_neq rfl rfl) rfl ?_
  refine wnt ?_
  refine wcO t0 rfl (fun h3 t0 => ?_) fun h3 t0 => ?_
  · skip
    refine wcr ?_
    refine asg rfl rfl ?_
    refine wnt ?_
    refine wc_ret ?_
    refine wq_then_ret ?_
    obtain rfl := Option.some.inj t0
    exact wq_ret1 rfl rfl fun w hw => ⟨rfl, hw.weak some_nil⟩
  refine wc_skip ?_
  refine wq_then ?_
  refine wcr ?_
  refine asg rfl rfl ?_
  refine wnt ?_
  refine wc_ret ?_
  obtain rfl := Option.some.inj t0
  exact wq_ret1 rfl rfl fun w hw => ⟨rfl, hw.weak some_nil⟩

theorem c_laws_eqCellS (w : World) (a_a : List GCell) (v0a : Hd) (r0 : rdF w (dm w []) (sl v0a) a_a) (a_b : List GCell) (v1a : Hd) (r1 : rdF w (dm w []) (sl v1a) a_b) {r : Bool} (t0 : laws_eqCellS a_a a_b = some r) : Calls Try.prog 38 #[(sl v0a), (sl v1a)] w fun e w' => e = .returned (.bool r) ∧ SH w [] [] w' := by
  refine calls_of_wc (args := [_, _]) Try.func38 rfl Try.ntmps38 rfl ?_
  unfold laws_eqCellS at t0
  refine wcr ?_
  refine asg rfl rfl ?_
  refine wnt ?_
  refine wc_seq ?_
  refine wcr ?_
  refine mv rfl rfl ?_
  refine wl_pure (po_lenr (rds_arg r0) el_49 rfl) rfl ?_
  refine mv rfl rfl ?_
  refine wl_pure (po_lenr (rds_arg r1) el_49 rfl) rfl ?_
  refine wl_pure (po_neq rfl rfl) rfl ?_
  refine wnt ?_
  refine wcO t0 rfl (fun h1 t0 => ?_) fun h1 t0 => ?_
  · skip
    refine wcr ?_
    refine asg rfl rfl ?_
    refine wnt ?_
    refine wc_ret ?_
    refine wq_then_ret ?_
    obtain rfl := Option.some.inj t0
    exact wq_ret1 rfl rfl fun w hw => ⟨rfl, hw.weak some_nil⟩
  refine wc_skip ?_
  refine wq_then ?_
  refine wc_seq ?_
  refine wcr ?_
  refine asg rfl rfl ?_
  refine wnt ?_
  refine gdO t0 fun g1 t0 => ?_
  refine sqO t0 fun y1 l1 t0 => ?_
  refine wj (J := Unit) (X := Unit) (fun z => y1 = .inl z) (fun _ _ => []) (fun _ _ => []) ?_ ?_
  · skip
    refine wc_block ?_
    refine wc_forO (X := Unit) l1 (fun k1 s1 x1l => [(0, (sl v0a)), (1, (sl v1a)), (5, .int .i64 ((k1 : Nat) : Int))]) (fun k1 s1 x1l => []) () (sub_cons rfl (sub_cons rfl (sub_cons rfl sub_nil))) some_nil fun k1 s1 x1l hN1 l1 => ?_
    by_cases hk1 : k1 < a_a.length
    · skip
      refine forO_step l1 hk1 fun _ t1 l1 => ?_
      unfold laws_eqCellS_L1 at t1
      have c1 : (decide (((k1 : Nat) : Int) < ((a_a.length : Nat) : Int))) = true := decide_eq_true (by omega)
      refine wc_seq ?_
      refine wcr ?_
      refine mv rfl rfl ?_
      refine mv rfl rfl ?_
      refine wl_pure (po_lenr (rds_arg r0) el_49 rfl) rfl ?_
      refine wl_pure (po_lss rfl rfl) rfl ?_
      refine wnt ?_
      refine wc_cond_t rfl c1 ?_
      refine wc_skip ?_
      refine wq_then ?_
      refine wc_seq ?_
      refine wc_block ?_
      refine wc_seq ?_
      refine wc_draw [] 10 mixed ?_
      refine wa_pure 0 rfl (po_move rfl) some_nil rfl (by kernel_rfl) (fun _ _ _ h => h) ?_
      refine wa_pure 1 rfl (po_move rfl) some_nil rfl (by kernel_rfl) (fun _ _ _ h => h) ?_
      refine wa_pure 2 rfl (po_ixn (k := k1) (rds_arg r0) el_49 rfl rfl hk1) some_nil rfl (by kernel_rfl) (fun _ _ _ h => h) ?_
      refine wa_pure (v := .agg #[.int .i64 ((gx a_a k1).Split), .int .i64 ((gx a_a k1).A), .int .i64 ((gx a_a k1).B)]) 3 rfl (po_ldfs (rds_arg r0) tk_69 rfl hk1 rfl rfl rfl) some_nil rfl (by kernel_rfl) (fun _ _ _ h => h) ?_
      refine wa_pure 4 rfl (po_move rfl) some_nil rfl (by kernel_rfl) (fun _ _ _ h => h) ?_
      refine wa_pure 5 rfl (po_move rfl) some_nil rfl (by kernel_rfl) (fun _ _ _ h => h) ?_
      refine gdO t1 fun g2 t1 => ?_
      refine wa_pure 6 rfl (po_ixn (k := k1) (rds_arg r1) el_49 rfl rfl g2) some_nil rfl (by kernel_rfl) (fun _ _ _ h => h) ?_
      refine wa_pure (v := .agg #[.int .i64 ((gx a_b k1).Split), .int .i64 ((gx a_b k1).A), .int .i64 ((gx a_b k1).B)]) 7 rfl (po_ldfs (rds_arg r1) tk_69 rfl g2 rfl rfl rfl) some_nil rfl (by kernel_rfl) (fun _ _ _ h => h) ?_
      refine wa_1 (i := 8) (by kernel_rfl) ?_
      refine bdO t1 fun v1 hv1 t1 => ?_
      refine ws_call rfl (co_c0 fa_49 rfl fun w hw => c_laws_eqCell w (gx a_a k1) (gx a_b k1) hv1) (fun _ => (sts_some some_nil)) rfl fun _ => ?_
      refine wa_pure 9 rfl (po_not rfl) some_nil rfl (by kernel_rfl) (fun _ _ _ h => h) ?_
      refine wa_done (by kernel_rfl) ?_
      refine wq_then ?_
      refine wcO t1 rfl (fun h2 t1 => ?_) fun h2 t1 => ?_
      · skip
        refine wcr ?_
        refine asg rfl rfl ?_
        refine wnt ?_
        refine wc_ret ?_
        refine wq_block_ret ?_
        refine wq_then_ret ?_
        refine wq_then_ret ?_
        refine wq_block_ret ?_
        refine wq_then_ret ?_
        refine wq_then_ret ?_
        replace t0 := lpR t0 l1 t1
        obtain rfl := Option.some.inj t0
        exact wq_ret1 rfl rfl fun w hw => ⟨rfl, hw.weak some_nil⟩
      refine wc_skip ?_
      refine wq_block ?_
      refine wq_then ?_
      refine wc_region ?_
      refine mv rfl rfl ?_
      refine wl_pure (po_inc rfl rfl (by omega)) rfl ?_
      refine asg rfl rfl ?_
      refine wl_nil ?_
      exact wq_rnd hk1 (stpN l1 t1) () (sub_cons rfl (sub_cons rfl (sub_cons rfl sub_nil))) some_nil
    have c1 : (decide (((k1 : Nat) : Int) < ((a_a.length : Nat) : Int))) = false := decide_eq_false (by omega)
    have en1 := forO_end l1 hk1
    refine wc_seq ?_
    refine wcr ?_
    refine mv rfl rfl ?_
    refine mv rfl rfl ?_
    refine wl_pure (po_lenr (rds_arg r0) el_49 rfl) rfl ?_
    refine wl_pure (po_lss rfl rfl) rfl ?_
    refine wnt ?_
    refine wc_cond_f rfl c1 ?_
    refine wc_exit ?_
    refine wq_then_exit ?_
    refine wq_then_exit ?_
    refine wq_block_exit ?_
    exact wj_meet _ () en1 sub_nil some_nil
  intro e1 _ hp
  replace t0 := sqE (j := e1) t0 hp
  refine wq_then ?_
  refine wcr ?_
  refine asg rfl rfl ?_
  refine wnt ?_
  refine wc_ret ?_
  obtain rfl := Option.some.inj t0
  exact wq_ret1 rfl rfl fun w hw => ⟨rfl, hw.weak some_nil⟩

theorem c_laws_eqBlock (w : World) (a_a : GBlock) (v0a : Hd) (r0 : rdF w (dm w []) (sl v0a) a_a.Cells) (a_b : GBlock) (v1a : Hd) (r1 : rdF w (dm w []) (sl v1a) a_b.Cells) {r : Bool} (t0 : laws_eqBlock a_a a_b = some r) : Calls Try.prog 26 #[.agg #[.int .i64 a_a.Size, (sl v0a)], .agg #[.int .i64 a_b.Size, (sl v1a)]] w fun e w' => e = .returned (.bool r) ∧ SH w [] [] w' := by
  refine calls_of_wc (args := [_, _]) Try.func26 rfl Try.ntmps26 rfl ?_
  unfold laws_eqBlock at t0
  refine wcr ?_
  refine wl_eff (eo_box rfl rfl) rfl fun b1 => ?_
  refine wl_eff (eo_box rfl rfl) rfl fun b2 => ?_
  refine asg rfl rfl ?_
  refine wnt ?_
  refine wc_seq ?_
  refine wcr ?_
  refine wl_pure (po_fld fo_51_0 rfl) rfl ?_
  refine wl_pure (v := .int .i64 a_a.Size) (po_load_box tk_3 (pickS pick0) rfl rfl) rfl ?_
  refine wl_pure (po_fld fo_51_0 rfl) rfl ?_
  refine wl_pure (v := .int .i64 a_b.Size) (po_load_box tk_3 pick0 rfl rfl) rfl ?_
  refine wl_pure (po_neq rfl rfl) rfl ?_
  refine wnt ?_
  refine wcO t0 rfl (fun h1 t0 => ?_) fun h1 t0 => ?_
  · skip
    refine wcr ?_
    refine asg rfl rfl ?_
    refine wnt ?_
    refine wc_ret ?_
    refine wq_then_ret ?_
    obtain rfl := Option.some.inj t0
    exact wq_ret1 rfl rfl fun w hw => ⟨rfl, hw.weak some_nil⟩
  refine wc_skip ?_
  refine wq_then ?_
  refine wc_seq ?_
  refine wcr ?_
  refine wl_pure (po_fld fo_51_1 rfl) rfl ?_
  refine wl_pure (v := (sl v0a)) (po_load_box tk_49 (pickS pick0) rfl rfl) rfl ?_
  refine wl_pure (po_fld fo_51_1 rfl) rfl ?_
  refine wl_pure (v := (sl v1a)) (po_load_box tk_49 pick0 rfl rfl) rfl ?_
  refine bdO t0 fun v1 hv1 t0 => ?_
  refine wl_call (co_c0 fa_38 rfl fun w hw => c_laws_eqCellS w a_a.Cells v0a (Rg.on (rds_arg r0) hw) a_b.Cells v1a (Rg.on (rds_arg r1) hw) hv1) rfl fun _ => ?_
  refine wl_pure (po_not rfl) rfl ?_
  refine wnt ?_
  refine wcO t0 rfl (fun h2 t0 => ?_) fun h2 t0 => ?_
  · skip
    refine wcr ?_
    refine asg rfl rfl ?_
    refine wnt ?_
    refine wc_ret ?_
    refine wq_then_ret ?_
    obtain rfl := Option.some.inj t0
    exact wq_ret1 rfl rfl fun w hw => ⟨rfl, hw.weak some_nil⟩
  refine wc_skip ?_
  refine wq_then ?_
  refine wcr ?_
  refine asg rfl rfl ?_
  refine wnt ?_
  refine wc_ret ?_
  obtain rfl := Option.some.inj t0
  exact wq_ret1 rfl rfl fun w hw => ⟨rfl, hw.weak some_nil⟩

theorem c_laws_eqBlockS (w : World) (a_a : List GBlock) (v0a : Hd) (u0a : List Value) (r0 : RdL w (dm w []) (sl v0a) u0a a_a) (a_b : List GBlock) (v1a : Hd) (u1a : List Value) (r1 : RdL w (dm w []) (sl v1a) u1a a_b) {r : Bool} (t0 : laws_eqBlockS a_a a_b = some r) : Calls Try.prog 11 #[(sl v0a), (sl v1a)] w fun e w' => e = .returned (.bool r) ∧ SH w [] [] w' := by
  refine calls_of_wc (args := [_, _]) Try.func11 rfl Try.ntmps11 rfl ?_
  unfold laws_eqBlockS at t0
  refine wcr ?_
  refine asg rfl rfl ?_
  refine wnt ?_
  refine wc_seq ?_
  refine wcr ?_
  refine mv rfl rfl ?_
  refine wl_pure (po_lenr (rds_arg r0) el_33 rfl) rfl ?_
  refine mv rfl rfl ?_
  refine wl_pure (po_lenr (rds_arg r1) el_33 rfl) rfl ?_
  refine wl_pure (po_neq rfl rfl) rfl ?_
  refine wnt ?_
  refine wcO t0 rfl (fun h1 t0 => ?_) fun h1 t0 => ?_
  · skip
    refine wcr ?_
    refine asg rfl rfl ?_
    refine wnt ?_
    refine wc_ret ?_
    refine wq_then_ret ?_
    obtain rfl := Option.some.inj t0
    exact wq_ret1 rfl rfl fun w hw => ⟨rfl, hw.weak some_nil⟩
  refine wc_skip ?_
  refine wq_then ?_
  refine wc_seq ?_
  refine wcr ?_
  refine asg rfl rfl ?_
  refine wnt ?_
  refine gdO t0 fun g1 t0 => ?_
  refine sqO t0 fun y1 l1 t0 => ?_
  refine wj (J := Unit) (X := Unit) (fun z => y1 = .inl z) (fun _ _ => []) (fun _ _ => []) ?_ ?_
  · skip
    refine wc_block ?_
    refine wc_forO (X := Unit) l1 (fun k1 s1 x1l => [(0, (sl v0a)), (1, (sl v1a)), (5, .int .i64 ((k1 : Nat) : Int))]) (fun k1 s1 x1l => []) () (sub_cons rfl (sub_cons rfl (sub_cons rfl sub_nil))) some_nil fun k1 s1 x1l hN1 l1 => ?_
    by_cases hk1 : k1 < a_a.length
    · skip
      refine forO_step l1 hk1 fun _ t1 l1 => ?_
      unfold laws_eqBlockS_L1 at t1
      have c1 : (decide (((k1 : Nat) : Int) < ((a_a.length : Nat) : Int))) = true := decide_eq_true (by omega)
      refine wc_seq ?_
      refine wcr ?_
      refine mv rfl rfl ?_
      refine mv rfl rfl ?_
      refine wl_pure (po_lenr (rds_arg r0) el_33 rfl) rfl ?_
      refine wl_pure (po_lss rfl rfl) rfl ?_
      refine wnt ?_
      refine wc_cond_t rfl c1 ?_
      refine wc_skip ?_
      refine wq_then ?_
      refine wc_seq ?_
      refine wc_block ?_
      refine wc_seq ?_
      refine wc_draw [] 10 mixed ?_
      refine wa_pure 0 rfl (po_move rfl) some_nil rfl (by kernel_rfl) (fun _ _ _ h => h) ?_
      refine wa_pure 1 rfl (po_move rfl) some_nil rfl (by kernel_rfl) (fun _ _ _ h => h) ?_
      refine wa_pure 2 rfl (po_ixn (k := k1) (rds_arg r0) el_33 rfl rfl hk1) some_nil rfl (by kernel_rfl) (fun _ _ _ h => h) ?_
      refine wa_elem (rds_arg r0) hk1 ?_
      rintro ⟨_, _, he1⟩
      obtain ⟨w1, hc1, _⟩ := rd_GBlock.1 he1
      refine wa_pure (v := .agg #[.int .i64 ((gx a_a k1).Size), (sl w1)]) 3 rfl (po_ldns (rds_arg r0) tk_51 rfl hc1 rfl rfl rfl) some_nil rfl (by kernel_rfl) (fun _ _ _ h => h) ?_
      refine wa_pure 4 rfl (po_move rfl) some_nil rfl (by kernel_rfl) (fun _ _ _ h => h) ?_
      refine wa_pure 5 rfl (po_move rfl) some_nil rfl (by kernel_rfl) (fun _ _ _ h => h) ?_
      refine gdO t1 fun g2 t1 => ?_
      refine wa_pure 6 rfl (po_ixn (k := k1) (rds_arg r1) el_33 rfl rfl g2) some_nil rfl (by kernel_rfl) (fun _ _ _ h => h) ?_
      refine wa_elem (rds_arg r1) g2 ?_
      rintro ⟨_, _, he2⟩
      obtain ⟨w2, hc2, _⟩ := rd_GBlock.1 he2
      refine wa_pure (v := .agg #[.int .i64 ((gx a_b k1).Size), (sl w2)]) 7 rfl (po_ldns (rds_arg r1) tk_51 rfl hc2 rfl rfl rfl) some_nil rfl (by kernel_rfl) (fun _ _ _ h => h) ?_
      refine wa_1 (i := 8) (by kernel_rfl) ?_
      refine bdO t1 fun v1 hv1 t1 => ?_
      refine ws_call rfl (co_c0 fa_26 rfl fun w hw => c_laws_eqBlock w (gx a_a k1) w1 (Rg.on (er_GBlock_0 hc1 (rds_arg r0) hk1) hw) (gx a_b k1) w2 (Rg.on (er_GBlock_0 hc2 (rds_arg r1) g2) hw) hv1) (fun _ => (sts_some some_nil)) rfl fun _ => ?_
      refine wa_pure 9 rfl (po_not rfl) some_nil rfl (by kernel_rfl) (fun _ _ _ h => h) ?_
      refine wa_done (by kernel_rfl) ?_
      refine wq_then ?_
      refine wcO t1 rfl (fun h2 t1 => ?_) fun h2 t1 => ?_
      · skip
        refine wcr ?_
        refine asg rfl rfl ?_
        refine wnt ?_
        refine wc_ret ?_
        refine wq_block_ret ?_
        refine wq_then_ret ?_
        refine wq_then_ret ?_
        refine wq_block_ret ?_
        refine wq_then_ret ?_
        refine wq_then_ret ?_
        replace t0 := lpR t0 l1 t1
        obtain rfl := Option.some.inj t0
        exact wq_ret1 rfl rfl fun w hw => ⟨rfl, hw.weak some_nil⟩
      refine wc_skip ?_
      refine wq_block ?_
      refine wq_then ?_
      refine wc_region ?_
      refine mv rfl rfl ?_
      refine wl_pure (po_inc rfl rfl (by omega)) rfl ?_
      refine asg rfl rfl ?_
      refine wl_nil ?_
      exact wq_rnd hk1 (stpN l1 t1) () (sub_cons rfl (sub_cons rfl (sub_cons rfl sub_nil))) some_nil
    have c1 : (decide (((k1 : Nat) : Int) < ((a_a.length : Nat) : Int))) = false := decide_eq_false (by omega)
    have en1 := forO_end l1 hk1
    refine wc_seq ?_
    refine wcr ?_
    refine mv rfl rfl ?_
    refine mv rfl rfl ?_
    refine wl_pure (po_lenr (rds_arg r0) el_33 rfl) rfl ?_
    refine wl_pure (po_lss rfl rfl) rfl ?_
    refine wnt ?_
    refine wc_cond_f rfl c1 ?_
    refine wc_exit ?_
    refine wq_then_exit ?_
    refine wq_then_exit ?_
    refine wq_block_exit ?_
    exact wj_meet _ () en1 sub_nil some_nil
  intro e1 _ hp
  replace t0 := sqE (j := e1) t0 hp
  refine wq_then ?_
  refine wcr ?_
  refine asg rfl rfl ?_
  refine wnt ?_
  refine wc_ret ?_
  obtain rfl := Option.some.inj t0
  exact wq_ret1 rfl rfl fun w hw => ⟨rfl, hw.weak some_nil⟩

theorem c_laws_FnExactHasShift (w : World) (a_aQ : GQuilt) (v0a : Hd) (r0 : rdF w (dm w []) (sl v0a) a_aQ.Spots) (a_aBlocks : List GBlock) (v1a : Hd) (u1a : List Value) (r1 : RdL w (dm w []) (sl v1a) u1a a_aBlocks) (a_aDx : Int) (a_aDy : Int) {r : Bool} (t0 : laws_FnExactHasShift a_aQ a_aBlocks a_aDx a_aDy = some r) : Calls Try.prog 3 #[.agg #[.int .i64 a_aQ.Width, .int .i64 a_aQ.Height, (sl v0a)], (sl v1a), .int .i64 a_aDx, .int .i64 a_aDy] w fun e w' => e = .returned (.bool r) ∧ SH w [] [] w' := by
  refine calls_of_wc (args := [_, _, _, _]) Try.func3 rfl Try.ntmps3 rfl ?_
  unfold laws_FnExactHasShift at t0
  refine wcr ?_
  refine wl_eff (eo_box rfl rfl) rfl fun b1 => ?_
  refine asg rfl rfl ?_
  refine wnt ?_
  refine wcr ?_
  refine asg rfl rfl ?_
  refine wnt ?_
  refine wcr ?_
  refine wl_pure (v := .agg #[.int .i64 a_aQ.Width, .int .i64 a_aQ.Height, (sl v0a)]) (po_load_boxs tk_24 pick0 rfl rfl rfl) rfl ?_
  refine mv rfl rfl ?_
  refine bdO t0 fun v1 hv1 t0 => ?_
  refine wl_call (co_c0 fa_4 rfl fun w hw => c_laws_szQuilt w a_aQ v0a (Rg.on (rds_arg r0) hw) 1048576 hv1) rfl fun _ => ?_
  refine asg rfl rfl ?_
  refine wnt ?_
  refine wc_seq ?_
  refine wcr ?_
  refine mv rfl rfl ?_
  refine wl_pure (po_lss rfl rfl) rfl ?_
  refine wnt ?_
  refine wcO t0 rfl (fun h1 t0 => ?_) fun h1 t0 => ?_
  · skip
    refine wcr ?_
    refine asg rfl rfl ?_
    refine wnt ?_
    refine wc_ret ?_
    refine wq_then_ret ?_
    obtain rfl := Option.some.inj t0
    exact wq_ret1 rfl rfl fun w hw => ⟨rfl, hw.weak some_nil⟩
  refine wc_skip ?_
  refine wq_then ?_
  refine wcr ?_
  refine mv rfl rfl ?_
  refine mv rfl rfl ?_
  refine bdO t0 fun v2 hv2 t0 => ?_
  refine wl_call (co_c0 fa_5 rfl fun w hw => c_laws_szBlockS w a_aBlocks v1a u1a (Rg.on (rds_arg r1) hw) v1 hv2) rfl fun _ => ?_
  refine asg rfl rfl ?_
  refine wnt ?_
  refine wc_seq ?_
  refine wcr ?_
  refine mv rfl rfl ?_
  refine wl_pure (po_lss rfl rfl) rfl ?_
  refine wnt ?_
  refine wcO t0 rfl (fun h2 t0 => ?_) fun h2 t0 => ?_
  · skip
    refine wcr ?_
    refine asg rfl rfl ?_
    refine wnt ?_
    refine wc_ret ?_
    refine wq_then_ret ?_
    obtain rfl := Option.some.inj t0
    exact wq_ret1 rfl rfl fun w hw => ⟨rfl, hw.weak some_nil⟩
  refine wc_skip ?_
  refine wq_then ?_
  refine wcr ?_
  refine wl_pure (v := .agg #[.int .i64 a_aQ.Width, .int .i64 a_aQ.Height, (sl v0a)]) (po_load_boxs tk_24 pick0 rfl rfl rfl) rfl ?_
  refine bdO t0 fun v3 hv3 t0 => ?_
  refine wl_call (co_c1 fa_7 rfl fun w hw => c_laws_toQuilt w a_aQ v0a (Rg.on (rds_arg r0) hw) hv3) rfl fun x1 => ?_
  refine mv rfl rfl ?_
  refine bdO t0 fun v4 hv4 t0 => ?_
  refine wl_call (co_c1 fa_8 rfl fun w hw => c_laws_toBlockS w a_aBlocks v1a u1a (Rg.on (rds_arg r1) hw) hv4) rfl fun x2 => ?_
  refine mv rfl rfl ?_
  refine mv rfl rfl ?_
  refine bdO t0 fun v5 hv5 t0 => ?_
  refine wl_call (co_c0 fa_6 rfl fun w hw => c_spec_HasShift w v3 x1 (Rg.on (rds_own (pickS pick0)) hw) v4 x2.1 x2.2 (Rg.on (rds_own pick0) hw) a_aDx a_aDy hv5) rfl fun _ => ?_
  refine asg rfl rfl ?_
  refine wnt ?_
  refine wcr ?_
  refine wl_pure (v := .agg #[.int .i64 a_aQ.Width, .int .i64 a_aQ.Height, (sl v0a)]) (po_load_boxs tk_24 (pickS (pickS pick0)) rfl rfl rfl) rfl ?_
  refine bdO t0 fun v6 hv6 t0 => ?_
  refine wl_call (co_c1 fa_7 rfl fun w hw => c_laws_toQuilt w a_aQ v0a (Rg.on (rds_arg r0) hw) hv6) rfl fun x3 => ?_
  refine wl_eff (eo_alloc (cs := [.int .i64 0, .int .i64 0, (sl (⟨none, 0, 0⟩ : Hd))]) za_31) rfl fun b2 => ?_
  refine wl_skipop (so_box (cs' := [.int .i64 v6.Width, .int .i64 v6.Height, (sl x3)]) tk_31 pick0 rfl rfl rfl rfl rfl rfl rfl) ?_
  refine wnt ?_
  refine wcr ?_
  refine mv rfl rfl ?_
  refine bdO t0 fun v7 hv7 t0 => ?_
  refine wl_call (co_c1 fa_8 rfl fun w hw => c_laws_toBlockS w a_aBlocks v1a u1a (Rg.on (rds_arg r1) hw) hv7) rfl fun x4 => ?_
  refine asg rfl rfl ?_
  refine wnt ?_
  refine wcr ?_
  refine wl_pure (v := .agg #[.int .i64 v6.Width, .int .i64 v6.Height, (sl x3)]) (po_load_boxs tk_31 (pickS pick0) rfl rfl rfl) rfl ?_
  refine mv rfl rfl ?_
  refine mv rfl rfl ?_
  refine mv rfl rfl ?_
  refine bdO t0 fun v8 hv8 t0 => ?_
  refine wl_call (co_c0 fa_9 rfl fun w hw => c_impl_HasShift w v6 x3 (Rg.on (rds_own (pickS (pickS pick0))) hw) v7 x4.1 x4.2 (Rg.on (rds_own pick0) hw) a_aDx a_aDy hv8) rfl fun _ => ?_
  refine asg rfl rfl ?_
  refine wnt ?_
  refine wc_seq ?_
  refine wcr ?_
  refine mv rfl rfl ?_
  refine mv rfl rfl ?_
  refine wl_pure (po_neq_bool ub_4 rfl rfl) rfl ?_
  refine wnt ?_
  refine wcO t0 rfl (fun h3 t0 => ?_) fun h3 t0 => ?_
  · skip
    refine wcr ?_
    refine asg rfl rfl ?_
    refine wnt ?_
    refine wc_ret ?_
    refine wq_then_ret ?_
    obtain rfl := Option.some.inj t0
    exact wq_ret1 rfl rfl fun w hw => ⟨rfl, hw.weak some_nil⟩
  refine wc_skip ?_
  refine wq_then ?_
  refine wc_seq ?_
  refine wc_seq ?_
  refine wc_draw [own (sl x4.1) x4.2 v7, box b2 [.int .i64 v6.Width, .int .i64 v6.Height, (sl x3)], ownF (sl x3) v6.Spots, own (sl x2.1) x2.2 v4, ownF (sl x1) v3.Spots, box b1 [.int .i64 a_aQ.Width, .int .i64 a_aQ.Height, (sl v0a)]] 5 mixed ?_
  refine wa_pure (v := .agg #[.int .i64 v6.Width, .int .i64 v6.Height, (sl x3)]) 0 rfl (po_load_boxs tk_31 (pickS pick0) rfl rfl rfl) (some_cons pick0 (some_cons pick0 (some_cons pick0 (some_cons pick0 (some_cons pick0 (some_cons pick0 some_nil)))))) rfl (by kernel_rfl) (fun _ _ _ h => h) ?_
  refine wa_pure (v := .agg #[.int .i64 a_aQ.Width, .int .i64 a_aQ.Height, (sl v0a)]) 1 rfl (po_load_boxs tk_24 (pickS (pickS (pickS (pickS (pickS pick0))))) rfl rfl rfl) (some_cons pick0 (some_cons pick0 (some_cons pick0 (some_cons pick0 (some_cons pick0 (some_cons pick0 some_nil)))))) rfl (by kernel_rfl) (fun _ _ _ h => h) ?_
  refine wa_1 (i := 2) (by kernel_rfl) ?_
  refine bdO t0 fun v9 hv9 t0 => ?_
  refine ws_call rfl (co_c1 fa_7 rfl fun w hw => c_laws_toQuilt w a_aQ v0a (Rg.on (rds_arg r0) hw) hv9) (fun _ => (sts_some (some_cons (pickS pick0) (some_cons (pickS pick0) (some_cons (pickS pick0) (some_cons (pickS pick0) (some_cons (pickS pick0) (some_cons (pickS pick0) some_nil)))))))) rfl fun x5 => ?_
  refine wa_1 (i := 3) (by kernel_rfl) ?_
  refine bdO t0 fun v10 hv10 t0 => ?_
  refine ws_call rfl (co_c0 fa_10 rfl fun w hw => c_laws_eqQuilt w v6 x3 (Rg.on (rds_own (pickS (pickS (pickS pick0)))) hw) v9 x5 (Rg.on (rds_own pick0) hw) hv10) (fun _ => (sts_some (some_cons (pickS pick0) (some_cons (pickS pick0) (some_cons (pickS pick0) (some_cons (pickS pick0) (some_cons (pickS pick0) (some_cons (pickS pick0) some_nil)))))))) rfl fun _ => ?_
  refine wa_pure 4 rfl (po_not rfl) (some_cons (pickS pick0) (some_cons (pickS pick0) (some_cons (pickS pick0) (some_cons (pickS pick0) (some_cons (pickS pick0) (some_cons (pickS pick0) some_nil)))))) rfl (by kernel_rfl) (fun _ _ _ h => h) ?_
  refine wa_done (by kernel_rfl) ?_
  refine wq_then ?_
  refine wcO t0 rfl (fun h4 t0 => ?_) fun h4 t0 => ?_
  · skip
    refine wcr ?_
    refine asg rfl rfl ?_
    refine wnt ?_
    refine wc_ret ?_
    refine wq_then_ret ?_
    obtain rfl := Option.some.inj t0
    exact wq_ret1 rfl rfl fun w hw => ⟨rfl, hw.weak some_nil⟩
  refine wc_skip ?_
  refine wq_then ?_
  refine wc_seq ?_
  refine wcr ?_
  refine mv rfl rfl ?_
  refine mv rfl rfl ?_
  refine bdO t0 fun v11 hv11 t0 => ?_
  refine wl_call (co_c1 fa_8 rfl fun w hw => c_laws_toBlockS w a_aBlocks v1a u1a (Rg.on (rds_arg r1) hw) hv11) rfl fun x6 => ?_
  refine bdO t0 fun v12 hv12 t0 => ?_
  refine wl_call (co_c0 fa_11 rfl fun w hw => c_laws_eqBlockS w v7 x4.1 x4.2 (Rg.on (rds_own (pickS (pickS pick0))) hw) v11 x6.1 x6.2 (Rg.on (rds_own pick0) hw) hv12) rfl fun _ => ?_
  refine wl_pure (po_not rfl) rfl ?_
  refine wnt ?_
  refine wcO t0 rfl (fun h5 t0 => ?_) fun h5 t0 => ?_
  · skip
    refine wcr ?_
    refine asg rfl rfl ?_
    refine wnt ?_
    refine wc_ret ?_
    refine wq_then_ret ?_
    obtain rfl := Option.some.inj t0
    exact wq_ret1 rfl rfl fun w hw => ⟨rfl, hw.weak some_nil⟩
  refine wc_skip ?_
  refine wq_then ?_
  refine wcr ?_
  refine asg rfl rfl ?_
  refine wnt ?_
  refine wc_ret ?_
  obtain rfl := Option.some.inj t0
  exact wq_ret1 rfl rfl fun w hw => ⟨rfl, hw.weak some_nil⟩

end Go.Proofs.Ytgimnmlcdidcdag
