/-
  Each Go function computes its Lean function (part 2).
-/
import Derived.Test.YtlfhlajpdmcnaaaDoorWalks1
namespace Go.Proofs.YtlfhlajpdmcnaaaDoor
open Go Go.RowKit Go.Proofs
set_option maxRecDepth 100000

theorem c_impl_isStrict (w : World) (a_list : List Int) (v0a : Hd) (r0 : rdF w (dm w []) (sl v0a) a_list) (a_a : Int) (a_b : Int) {r : Bool} (t0 : impl_isStrict a_list a_a a_b = some r) : Calls Tryd.prog 82 #[(sl v0a), .int .i64 a_a, .int .i64 a_b] w fun e w' => e = .returned (.bool r) ∧ SH w [] [] w' := by
  refine calls_of_wc (args := [_, _, _]) Tryd.func82 rfl Tryd.ntmps82 rfl ?_
  unfold impl_isStrict at t0
  refine wcr ?_
  refine asg rfl rfl ?_
  refine wnt ?_
  refine wc_seq ?_
  refine wcr ?_
  refine mv rfl rfl ?_
  refine wl_pure (po_lenr (rds_arg r0) el_55 rfl) rfl ?_
  refine mv rfl rfl ?_
  refine wnt ?_
  refine gdO t0 fun g1 t0 => ?_
  refine sqO t0 fun y1 l1 t0 => ?_
  refine wj (J := Unit) (X := Unit) (fun z => y1 = .inl z) (fun _ _ => [(0, (sl v0a)), (1, .int .i64 a_a), (2, .int .i64 a_b)]) (fun _ _ => []) ?_ ?_
  · skip
    refine wc_block ?_
    refine wc_forO (X := Unit) l1 (fun k1 s1 x1l => [(0, (sl v0a)), (1, .int .i64 a_a), (2, .int .i64 a_b), (9, .int .i64 ((a_list.length : Nat) : Int)), (10, .int .i64 ((k1 : Nat) : Int))]) (fun k1 s1 x1l => []) () (sub_cons rfl (sub_cons rfl (sub_cons rfl (sub_cons rfl (sub_cons rfl sub_nil))))) some_nil fun k1 s1 x1l hN1 l1 => ?_
    by_cases hk1 : k1 < a_list.length
    · skip
      refine forO_step l1 hk1 fun _ t1 l1 => ?_
      unfold impl_isStrict_L1 at t1
      have c1 : (decide (((k1 : Nat) : Int) < ((a_list.length : Nat) : Int))) = true := decide_eq_true (by omega)
      refine wcr ?_
      refine wl_pure (po_lss rfl rfl) rfl ?_
      refine wnt ?_
      refine wc_seq ?_
      refine wc_cond_t rfl c1 ?_
      refine wc_skip ?_
      refine wq_then ?_
      refine wc_seq ?_
      refine wc_block ?_
      refine wcr ?_
      refine mv rfl rfl ?_
      refine asg rfl rfl ?_
      refine wnt ?_
      refine wc_seq ?_
      refine bdO t1 fun y2 t2 t1 => ?_
      refine wj (J := Bool) (X := Unit) (fun z => y2 = z) (fun z _ => [(0, (sl v0a)), (1, .int .i64 a_a), (2, .int .i64 a_b), (9, .int .i64 ((a_list.length : Nat) : Int)), (10, .int .i64 ((k1 : Nat) : Int)), (26, .bool z)]) (fun _ _ => []) ?_ ?_
      · skip
        refine wc_draw [] 14 mixed ?_
        refine wa_pure 0 rfl (po_move rfl) some_nil rfl (by kernel_rfl) (fun _ _ _ h => h) ?_
        refine wa_pure 1 rfl (po_gtr rfl rfl) some_nil rfl (by kernel_rfl) (fun _ _ _ h => h) ?_
        refine wa_pure 2 rfl (po_move rfl) some_nil rfl (by kernel_rfl) (fun _ _ _ h => h) ?_
        refine waO_ (t := 15) t2 rfl (fun h1 t2 => ?_) fun h1 t2 => ?_
        · skip
          refine wa_pure_on 3 (j := 2) rfl rfl rfl rfl (po_move rfl) some_nil rfl (by kernel_rfl) (fun _ _ _ h => h) ?_
          refine wa_pure_on 4 (j := 2) rfl rfl rfl rfl (po_move rfl) some_nil rfl (by kernel_rfl) (fun _ _ _ h => h) ?_
          refine wa_pure_on 5 (j := 2) rfl rfl rfl rfl (po_ixn (k := k1) (rds_arg r0) el_55 rfl rfl hk1) some_nil rfl (by kernel_rfl) (fun _ _ _ h => h) ?_
          refine wa_pure_on (v := .int .i64 (gx a_list k1)) 6 (j := 2) rfl rfl rfl rfl (po_ldf (rds_arg r0) tk_3 rfl hk1 rfl) some_nil rfl (by kernel_rfl) (fun _ _ _ h => h) ?_
          refine wa_pure_on 7 (j := 2) rfl rfl rfl rfl (po_move rfl) some_nil rfl (by kernel_rfl) (fun _ _ _ h => h) ?_
          refine wa_pure_on 8 (j := 2) rfl rfl rfl rfl (po_move rfl) some_nil rfl (by kernel_rfl) (fun _ _ _ h => h) ?_
          refine wa_pure_on 9 (j := 2) rfl rfl rfl rfl (po_sub rfl rfl) some_nil rfl (by kernel_rfl) (fun _ _ _ h => h) ?_
          refine gdO t2 fun g2 t2 => ?_
          refine wa_pure_on 10 (j := 2) rfl rfl rfl rfl (po_ixr (rds_arg r0) el_55 rfl rfl g2.1 g2.2) some_nil rfl (by kernel_rfl) (fun _ _ _ h => h) ?_
          refine wa_pure_on (v := .int .i64 (gx a_list (((wr (((k1 : Nat) : Int) - 1))).toNat))) 11 (j := 2) rfl rfl rfl rfl (po_ldf (rds_arg r0) tk_3 rfl (ix_lt g2) rfl) some_nil rfl (by kernel_rfl) (fun _ _ _ h => h) ?_
          refine wa_pure_on 12 (j := 2) rfl rfl rfl rfl (po_leq rfl rfl) some_nil rfl (by kernel_rfl) (fun _ _ _ h => h) ?_
          refine wa_pure 13 rfl (po_pick_t rfl rfl) some_nil rfl (by kernel_rfl) (fun _ _ _ h => h) ?_
          refine wa_done (by kernel_rfl) ?_
          exact wj_meet _ () (mtE t2) (sub_cons rfl (sub_cons rfl (sub_cons rfl (sub_cons rfl (sub_cons rfl (sub_cons rfl sub_nil)))))) some_nil
        refine wa_off 3 (j := 2) rfl rfl rfl rfl rfl some_nil rfl (by kernel_rfl) (fun _ _ _ h => h) ?_
        refine wa_off 4 (j := 2) rfl rfl rfl rfl rfl some_nil rfl (by kernel_rfl) (fun _ _ _ h => h) ?_
        refine wa_off 5 (j := 2) rfl rfl rfl rfl rfl some_nil rfl (by kernel_rfl) (fun _ _ _ h => h) ?_
        refine wa_off 6 (j := 2) rfl rfl rfl rfl rfl some_nil rfl (by kernel_rfl) (fun _ _ _ h => h) ?_
        refine wa_off 7 (j := 2) rfl rfl rfl rfl rfl some_nil rfl (by kernel_rfl) (fun _ _ _ h => h) ?_
        refine wa_off 8 (j := 2) rfl rfl rfl rfl rfl some_nil rfl (by kernel_rfl) (fun _ _ _ h => h) ?_
        refine wa_off 9 (j := 2) rfl rfl rfl rfl rfl some_nil rfl (by kernel_rfl) (fun _ _ _ h => h) ?_
        refine wa_off 10 (j := 2) rfl rfl rfl rfl rfl some_nil rfl (by kernel_rfl) (fun _ _ _ h => h) ?_
        refine wa_off 11 (j := 2) rfl rfl rfl rfl rfl some_nil rfl (by kernel_rfl) (fun _ _ _ h => h) ?_
        refine wa_off 12 (j := 2) rfl rfl rfl rfl rfl some_nil rfl (by kernel_rfl) (fun _ _ _ h => h) ?_
        refine wa_pure 13 rfl (po_pick_f rfl rfl) some_nil rfl (by kernel_rfl) (fun _ _ _ h => h) ?_
        refine wa_done (by kernel_rfl) ?_
        exact wj_meet _ () (mtE t2) (sub_cons rfl (sub_cons rfl (sub_cons rfl (sub_cons rfl (sub_cons rfl (sub_cons rfl sub_nil)))))) some_nil
      intro j1 _ hp
      obtain rfl : j1 = y2 := hp.symm
      refine wq_then ?_
      refine wcO t1 rfl (fun h2 t1 => ?_) fun h2 t1 => ?_
      · skip
        refine wcr ?_
        refine asg rfl rfl ?_
        refine wnt ?_
        refine wc_ret ?_
        refine wq_block_ret ?_
        refine wq_then_ret ?_
        refine wq_then_ret ?_
        refine wq_block_ret ?_
        refine wq_then_ret ?_
        refine wq_then_ret ?_
        replace t0 := lpR t0 l1 t1
        obtain rfl := Option.some.inj t0
        exact wq_ret1 rfl rfl fun w hw => ⟨rfl, hw.weak some_nil⟩
      refine wc_skip ?_
      refine wq_block ?_
      refine wq_then ?_
      refine wc_region ?_
      refine wl_pure (po_inc rfl rfl (by omega)) rfl ?_
      refine mv rfl rfl ?_
      refine wl_nil ?_
      exact wq_rnd hk1 (stpN l1 t1) () (sub_cons rfl (sub_cons rfl (sub_cons rfl (sub_cons rfl (sub_cons rfl sub_nil))))) some_nil
    have c1 : (decide (((k1 : Nat) : Int) < ((a_list.length : Nat) : Int))) = false := decide_eq_false (by omega)
    have en1 := forO_end l1 hk1
    refine wcr ?_
    refine wl_pure (po_lss rfl rfl) rfl ?_
    refine wnt ?_
    refine wc_seq ?_
    refine wc_cond_f rfl c1 ?_
    refine wc_exit ?_
    refine wq_then_exit ?_
    refine wq_then_exit ?_
    refine wq_block_exit ?_
    exact wj_meet _ () en1 (sub_cons rfl (sub_cons rfl (sub_cons rfl sub_nil))) some_nil
  intro e1 _ hp
  replace t0 := sqE (j := e1) t0 hp
  refine wq_then ?_
  refine wcr ?_
  refine mv rfl rfl ?_
  refine mv rfl rfl ?_
  refine mv rfl rfl ?_
  refine bdO t0 fun v1 hv1 t0 => ?_
  refine wl_call (co_c0 fa_75 rfl fun w hw => c_impl_allWithin w a_list v0a (Rg.on (rds_arg r0) hw) a_a a_b hv1) rfl fun _ => ?_
  refine asg rfl rfl ?_
  refine wnt ?_
  refine wc_ret ?_
  obtain rfl := Option.some.inj t0
  exact wq_ret1 rfl rfl fun w hw => ⟨rfl, hw.weak some_nil⟩

theorem c_impl_IsExchange (w : World) (a_l : List Int) (v0a : Hd) (r0 : rdF w (dm w []) (sl v0a) a_l) {r : Bool} (t0 : impl_IsExchange a_l = some r) : Calls Tryd.prog 78 #[(sl v0a)] w fun e w' => e = .returned (.bool r) ∧ SH w [] [] w' := by
  refine calls_of_wc (args := [_]) Tryd.func78 rfl Tryd.ntmps78 rfl ?_
  unfold impl_IsExchange at t0
  refine wcr ?_
  refine asg rfl rfl ?_
  refine wnt ?_
  refine wc_seq ?_
  refine bdO t0 fun y1 t1 t0 => ?_
  refine wj (J := Bool) (X := Unit) (fun z => y1 = z) (fun z _ => [(2, .bool z)]) (fun _ _ => []) ?_ ?_
  · skip
    refine wc_region ?_
    refine mv rfl rfl ?_
    refine wl_pure (po_lenr (rds_arg r0) el_55 rfl) rfl ?_
    refine wl_pure (po_eql rfl rfl) rfl ?_
    refine mv rfl rfl ?_
    refine wlO_ (t := 6) t1 rfl (fun h1 t1 => ?_) fun h1 t1 => ?_
    · skip
      refine wl_guard_on (j := 3) rfl rfl rfl (mv rfl rfl ?_)
      refine bdO t1 fun v1 hv1 t1 => ?_
      refine wl_guard_on (j := 3) rfl rfl rfl (wl_call (co_c1 fa_83 rfl fun w hw => c_impl_sorted w a_l v0a (Rg.on (rds_arg r0) hw) hv1) rfl (fun x2 => ?_))
      refine bdO t1 fun v2 hv2 t1 => ?_
      refine wl_guard_on (j := 3) rfl rfl rfl (wl_call (co_c0 fa_82 rfl fun w hw => c_impl_isStrict w v1 x2 (Rg.on (rds_own pick0) hw) 0 5 hv2) rfl (fun _ => ?_))
      refine wl_pure (po_pick_t rfl rfl) rfl ?_
      refine asg rfl rfl ?_
      refine wl_nil ?_
      exact wj_meet _ () (mtE t1) (sub_cons rfl sub_nil) some_nil
    refine wl_guard_off (j := 3) rfl rfl rfl rfl rfl ?_
    refine wl_guard_off (j := 3) rfl rfl rfl rfl rfl ?_
    refine wl_guard_off (j := 3) rfl rfl rfl rfl rfl ?_
    refine wl_pure (po_pick_f rfl rfl) rfl ?_
    refine asg rfl rfl ?_
    refine wl_nil ?_
    exact wj_meet _ () (mtE t1) (sub_cons rfl sub_nil) some_nil
  intro j1 _ hp
  obtain rfl : j1 = y1 := hp.symm
  refine wq_then ?_
  refine wc_ret ?_
  obtain rfl := Option.some.inj t0
  exact wq_ret1 rfl rfl fun w hw => ⟨rfl, hw.weak some_nil⟩

theorem c_impl_UndoList (w : World) (a_l : List Int) (v0a : Hd) (r0 : rdF w (dm w []) (sl v0a) a_l) {r : List Int} (t0 : impl_UndoList a_l = some r) : Calls Tryd.prog 67 #[(sl v0a)] w fun e w' => ∃ x : Hd, e = .returned ((sl x)) ∧ SH w [] [ownF (sl x) r] w' := by
  refine calls_of_wc (args := [_]) Tryd.func67 rfl Tryd.ntmps67 rfl ?_
  unfold impl_UndoList at t0
  refine wcr ?_
  refine asg rfl rfl ?_
  refine wnt ?_
  refine wc_seq ?_
  refine wcr ?_
  refine mv rfl rfl ?_
  refine bdO t0 fun v1 hv1 t0 => ?_
  refine wl_call (co_c0 fa_78 rfl fun w hw => c_impl_IsExchange w a_l v0a (Rg.on (rds_arg r0) hw) hv1) rfl fun _ => ?_
  refine wl_pure (po_not rfl) rfl ?_
  refine wnt ?_
  refine wcO t0 rfl (fun h1 t0 => ?_) fun h1 t0 => ?_
  · skip
    refine wcr ?_
    refine asg rfl rfl ?_
    refine wnt ?_
    refine wc_ret ?_
    refine wq_then_ret ?_
    obtain rfl := Option.some.inj t0
    exact wq_ret1 rfl rfl fun w hw => ⟨(⟨none, 0, 0⟩ : Hd), rfl, hw.weak (some_cons pick_nil some_nil)⟩
  refine wc_skip ?_
  refine wq_then ?_
  refine wcr ?_
  refine wl_eff (eo_make_ (n := 6) (0 : Int) mk_55 rfl rfl rfl (by omega) rfl) rfl fun x1 => ?_
  refine asg rfl rfl ?_
  refine wnt ?_
  refine wc_seq ?_
  refine wcr ?_
  refine mv rfl rfl ?_
  refine wl_pure (po_lenr (rds_arg r0) el_55 rfl) rfl ?_
  refine mv rfl rfl ?_
  refine wnt ?_
  refine gdO t0 fun g1 t0 => ?_
  refine lpO_inv t0 fun y1 l1 t0 => ?_
  refine wj (J := List Int) (X := Unit) (fun z => y1 = z) (fun _ _ => [(3, (sl x1))]) (fun z _ => [ownF (sl x1) z]) ?_ ?_
  · skip
    refine wc_block ?_
    refine wc_forO (X := Unit) l1 (fun k1 s1 x1l => [(3, (sl x1)), (10, (sl v0a)), (11, .int .i64 ((a_l.length : Nat) : Int)), (12, .int .i64 ((k1 : Nat) : Int))]) (fun k1 s1 x1l => [ownF (sl x1) s1]) () (sub_cons rfl (sub_cons rfl (sub_cons rfl (sub_cons rfl sub_nil)))) (some_cons pick0 some_nil) fun k1 s1 x1l hN1 l1 => ?_
    by_cases hk1 : k1 < a_l.length
    · skip
      refine forO_step l1 hk1 fun _ t1 l1 => ?_
      unfold impl_UndoList_L1 at t1
      have c1 : (decide (((k1 : Nat) : Int) < ((a_l.length : Nat) : Int))) = true := decide_eq_true (by omega)
      refine wcr ?_
      refine wl_pure (po_lss rfl rfl) rfl ?_
      refine wnt ?_
      refine wc_seq ?_
      refine wc_cond_t rfl c1 ?_
      refine wc_skip ?_
      refine wq_then ?_
      refine wc_seq ?_
      refine wc_block ?_
      refine wcr ?_
      refine mv rfl rfl ?_
      refine wl_pure (po_ixn (k := k1) (rds_arg r0) el_55 rfl rfl hk1) rfl ?_
      refine wl_pure (v := .int .i64 (gx a_l k1)) (po_ldf (rds_arg r0) tk_3 rfl hk1 rfl) rfl ?_
      refine asg rfl rfl ?_
      refine asg rfl rfl ?_
      refine wnt ?_
      refine wc_region ?_
      refine mv rfl rfl ?_
      refine mv rfl rfl ?_
      refine mv rfl rfl ?_
      refine gdO t1 fun g2 t1 => ?_
      refine wl_pure (po_ixr (rds_own pick0) el_55 rfl rfl g2.1 g2.2) rfl ?_
      refine wl_skipop (so_own (x' := ((k1 : Nat) : Int)) tk_3 pick0 rfl rfl rfl rfl rfl rfl (ix_lt g2) rfl) ?_
      refine wl_nil ?_
      refine wq_block ?_
      refine wq_then ?_
      refine wc_region ?_
      refine wl_pure (po_inc rfl rfl (by omega)) rfl ?_
      refine mv rfl rfl ?_
      refine wl_nil ?_
      exact wq_rnd hk1 (stpN l1 t1) () (sub_cons rfl (sub_cons rfl (sub_cons rfl (sub_cons rfl sub_nil)))) (some_cons pick0 some_nil)
    have c1 : (decide (((k1 : Nat) : Int) < ((a_l.length : Nat) : Int))) = false := decide_eq_false (by omega)
    have en1 := forO_end l1 hk1
    refine wcr ?_
    refine wl_pure (po_lss rfl rfl) rfl ?_
    refine wnt ?_
    refine wc_seq ?_
    refine wc_cond_f rfl c1 ?_
    refine wc_exit ?_
    refine wq_then_exit ?_
    refine wq_then_exit ?_
    refine wq_block_exit ?_
    exact wj_meet _ () (Sum.inl.inj en1) (sub_cons rfl sub_nil) (some_cons pick0 some_nil)
  intro e1 _ hp
  obtain rfl : e1 = y1 := hp.symm
  refine wq_then ?_
  refine wcr ?_
  refine mv rfl rfl ?_
  refine asg rfl rfl ?_
  refine wnt ?_
  refine wc_ret ?_
  obtain rfl := Option.some.inj t0
  exact wq_ret1 rfl rfl fun w hw => ⟨x1, rfl, hw.weak (some_cons pick0 some_nil)⟩

theorem c_impl_FirstUse (w : World) (a_b : GBlock) (v0a : Hd) (r0 : rdF w (dm w []) (sl v0a) a_b.Cells) {r : List Int} (t0 : impl_FirstUse a_b = some r) : Calls Tryd.prog 50 #[.agg #[.int .i64 a_b.Size, (sl v0a)]] w fun e w' => ∃ x : Hd, e = .returned ((sl x)) ∧ SH w [] [ownF (sl x) r] w' := by
  refine calls_of_wc (args := [_]) Tryd.func50 rfl Tryd.ntmps50 rfl ?_
  unfold impl_FirstUse at t0
  refine wcr ?_
  refine wl_eff (eo_box rfl rfl) rfl fun b1 => ?_
  refine asg rfl rfl ?_
  refine wnt ?_
  refine wc_seq ?_
  refine wcr ?_
  refine wl_pure (v := .agg #[.int .i64 a_b.Size, (sl v0a)]) (po_load_boxs tk_29 pick0 rfl rfl rfl) rfl ?_
  refine bdO t0 fun v1 hv1 t0 => ?_
  refine wl_call (co_c0 fa_24 rfl fun w hw => c_impl_BlockOk w a_b v0a (Rg.on (rds_arg r0) hw) hv1) rfl fun _ => ?_
  refine wl_pure (po_not rfl) rfl ?_
  refine wnt ?_
  refine wcO t0 rfl (fun h1 t0 => ?_) fun h1 t0 => ?_
  · skip
    refine wcr ?_
    refine asg rfl rfl ?_
    refine wnt ?_
    refine wc_ret ?_
    refine wq_then_ret ?_
    obtain rfl := Option.some.inj t0
    exact wq_ret1 rfl rfl fun w hw => ⟨(⟨none, 0, 0⟩ : Hd), rfl, hw.weak (some_cons pick_nil some_nil)⟩
  refine wc_skip ?_
  refine wq_then ?_
  refine wcr ?_
  refine wl_eff (eo_buildSlice rfl sb_55_0) rfl fun b2 => ?_
  refine asg rfl rfl ?_
  refine wnt ?_
  refine wc_seq ?_
  refine wcr ?_
  refine wl_pure (po_fld fo_29_1 rfl) rfl ?_
  refine wl_pure (v := (sl v0a)) (po_load_box tk_27 (pickS pick0) rfl rfl) rfl ?_
  refine wl_pure (po_lenr (rds_arg r0) el_27 rfl) rfl ?_
  refine mv rfl rfl ?_
  refine wnt ?_
  refine gdO t0 fun g1 t0 => ?_
  refine lpO_inv t0 fun y1 l1 t0 => ?_
  refine wj (J := List Int) (X := Hd) (fun z => y1 = z) (fun _ x => [(3, (sl x))]) (fun z x => [ownF (sl x) z]) ?_ ?_
  · skip
    refine wc_block ?_
    refine wc_forO (X := Hd) l1 (fun k1 s1 x1l => [(3, (sl x1l)), (14, (sl v0a)), (15, .int .i64 ((a_b.Cells.length : Nat) : Int)), (16, .int .i64 ((k1 : Nat) : Int))]) (fun k1 s1 x1l => [ownF (sl x1l) s1]) (⟨some ⟨b2, 0, none⟩, 0, 0⟩ : Hd) (sub_cons rfl (sub_cons rfl (sub_cons rfl (sub_cons rfl sub_nil)))) (some_cons (pick_box_own pick0 (n := 0) (xs := ([] : List Int)) rfl rfl (by unfold maxLen; omega)) some_nil) fun k1 s1 x1l hN1 l1 => ?_
    by_cases hk1 : k1 < a_b.Cells.length
    · skip
      refine forO_step l1 hk1 fun _ t1 l1 => ?_
      unfold impl_FirstUse_L1 at t1
      have c1 : (decide (((k1 : Nat) : Int) < ((a_b.Cells.length : Nat) : Int))) = true := decide_eq_true (by omega)
      refine wcr ?_
      refine wl_pure (po_lss rfl rfl) rfl ?_
      refine wnt ?_
      refine wc_seq ?_
      refine wc_cond_t rfl c1 ?_
      refine wc_skip ?_
      refine wq_then ?_
      refine wc_seq ?_
      refine wc_block ?_
      refine wcr ?_
      refine wl_pure (po_ixn (k := k1) (rds_arg r0) el_27 rfl rfl hk1) rfl ?_
      refine wl_pure (v := .agg #[.int .i64 ((gx a_b.Cells k1).Split), .int .i64 ((gx a_b.Cells k1).A), .int .i64 ((gx a_b.Cells k1).B)]) (po_ldfs (rds_arg r0) tk_48 rfl hk1 rfl rfl rfl) rfl ?_
      refine wl_eff (eo_alloc (cs := [.int .i64 0, .int .i64 0, .int .i64 0]) za_48) rfl fun b3 => ?_
      refine wl_skipop (so_box (cs' := [.int .i64 ((gx a_b.Cells k1).Split), .int .i64 ((gx a_b.Cells k1).A), .int .i64 ((gx a_b.Cells k1).B)]) tk_48 pick0 rfl rfl rfl rfl rfl rfl rfl) ?_
      refine wnt ?_
      refine wcr ?_
      refine wl_pure (po_fld fo_48_1 rfl) rfl ?_
      refine wl_pure (v := .int .i64 ((gx a_b.Cells k1).A)) (po_load_box tk_3 pick0 rfl rfl) rfl ?_
      refine wl_pure (po_fld fo_48_2 rfl) rfl ?_
      refine wl_pure (v := .int .i64 ((gx a_b.Cells k1).B)) (po_load_box tk_3 pick0 rfl rfl) rfl ?_
      refine wl_eff (eo_buildSlice rfl (sb_55_2 ((gx a_b.Cells k1).A) ((gx a_b.Cells k1).B))) rfl fun b4 => ?_
      refine wl_pure (po_lenr (rds_own (pick_box_own pick0 (n := 2) (xs := ([(gx a_b.Cells k1).A, (gx a_b.Cells k1).B] : List Int)) rfl rfl (by unfold maxLen; omega))) el_55 rfl) rfl ?_
      refine mv rfl rfl ?_
      refine wnt ?_
      refine gdO t1 fun g2 t1 => ?_
      refine lpO_inv t1 fun y2 l2 t1 => ?_
      refine wj (J := List Int) (X := Hd) (fun z => y2 = z) (fun _ x => [(3, (sl x)), (14, (sl v0a)), (15, .int .i64 ((a_b.Cells.length : Nat) : Int)), (16, .int .i64 ((k1 : Nat) : Int))]) (fun z x => [ownF (sl x) z]) ?_ ?_
      · skip
        refine wc_block ?_
        refine wc_forO (X := Hd) l2 (fun k2 s2 x2l => [(3, (sl x2l)), (14, (sl v0a)), (15, .int .i64 ((a_b.Cells.length : Nat) : Int)), (16, .int .i64 ((k1 : Nat) : Int)), (24, (sl (⟨some ⟨b4, 0, none⟩, 2, 2⟩ : Hd))), (25, .int .i64 ((([(gx a_b.Cells k1).A, (gx a_b.Cells k1).B] : List Int).length : Nat) : Int)), (26, .int .i64 ((k2 : Nat) : Int))]) (fun k2 s2 x2l => [box b4 [.int .i64 ((gx a_b.Cells k1).A), .int .i64 ((gx a_b.Cells k1).B)], ownF (sl x2l) s2]) x1l (sub_cons rfl (sub_cons rfl (sub_cons rfl (sub_cons rfl (sub_cons rfl (sub_cons rfl (sub_cons rfl sub_nil))))))) (some_cons pick0 (some_cons (pickS pick0) some_nil)) fun k2 s2 x2l hN2 l2 => ?_
        by_cases hk2 : k2 < ([(gx a_b.Cells k1).A, (gx a_b.Cells k1).B] : List Int).length
        · skip
          refine forO_step l2 hk2 fun _ t2 l2 => ?_
          unfold impl_FirstUse_L2 at t2
          have c2 : (decide (((k2 : Nat) : Int) < ((([(gx a_b.Cells k1).A, (gx a_b.Cells k1).B] : List Int).length : Nat) : Int))) = true := decide_eq_true (by omega)
          refine wcr ?_
          refine wl_pure (po_lss rfl rfl) rfl ?_
          refine wnt ?_
          refine wc_seq ?_
          refine wc_cond_t rfl c2 ?_
          refine wc_skip ?_
          refine wq_then ?_
          refine wc_seq ?_
          refine wc_block ?_
          refine wcr ?_
          refine wl_pure (po_ixn (k := k2) (rds_own (pick_box_own pick0 (n := 2) (xs := ([(gx a_b.Cells k1).A, (gx a_b.Cells k1).B] : List Int)) rfl rfl (by unfold maxLen; omega))) el_55 rfl rfl hk2) rfl ?_
          refine wl_pure (v := .int .i64 (gx ([(gx a_b.Cells k1).A, (gx a_b.Cells k1).B] : List Int) k2)) (po_ldf (rds_own (pick_box_own pick0 (n := 2) (xs := ([(gx a_b.Cells k1).A, (gx a_b.Cells k1).B] : List Int)) rfl rfl (by unfold maxLen; omega))) tk_3 rfl hk2 rfl) rfl ?_
          refine asg rfl rfl ?_
          refine wnt ?_
          refine wcr ?_
          refine mv rfl rfl ?_
          refine mv rfl rfl ?_
          refine bdO t2 fun v2 hv2 t2 => ?_
          refine wl_call (co_c0 fa_66 rfl fun w hw => c_impl_indexOf w s2 x2l (Rg.on (rds_own (pickS pick0)) hw) (gx ([(gx a_b.Cells k1).A, (gx a_b.Cells k1).B] : List Int) k2) hv2) rfl fun _ => ?_
          refine wl_pure (po_lss rfl rfl) rfl ?_
          refine wnt ?_
          refine bdO t2 fun y3 t3 t2 => ?_
          refine wj (J := List Int) (X := Hd) (fun z => y3 = z) (fun _ x => [(3, (sl x)), (14, (sl v0a)), (15, .int .i64 ((a_b.Cells.length : Nat) : Int)), (16, .int .i64 ((k1 : Nat) : Int)), (24, (sl (⟨some ⟨b4, 0, none⟩, 2, 2⟩ : Hd))), (25, .int .i64 ((([(gx a_b.Cells k1).A, (gx a_b.Cells k1).B] : List Int).length : Nat) : Int)), (26, .int .i64 ((k2 : Nat) : Int))]) (fun z x => [box b4 [.int .i64 ((gx a_b.Cells k1).A), .int .i64 ((gx a_b.Cells k1).B)], ownF (sl x) z]) ?_ ?_
          · skip
            refine wcO t3 rfl (fun h2 t3 => ?_) fun h2 t3 => ?_
            · skip
              refine wc_region ?_
              refine mv rfl rfl ?_
              refine mv rfl rfl ?_
              refine wl_eff (eo_buildSlice rfl (sb_55_1 (gx ([(gx a_b.Cells k1).A, (gx a_b.Cells k1).B] : List Int) k2))) rfl fun b5 => ?_
              refine gdO t3 fun g3 t3 => ?_
              refine wl_eff (eo_append (xs := s2) (ys := ([(gx ([(gx a_b.Cells k1).A, (gx a_b.Cells k1).B] : List Int) k2)] : List Int)) ak_55 (pickS (pickS pick0)) rfl rfl (slin_rd fun _ g => Rg.on (rds_own (pick_box_own pick0 (n := 1) (xs := ([(gx ([(gx a_b.Cells k1).A, (gx a_b.Cells k1).B] : List Int) k2)] : List Int)) rfl rfl (by unfold maxLen; omega))) g) g3) rfl fun x4 => ?_
              refine asg rfl rfl ?_
              refine wl_nil ?_
              exact wj_meet _ x4 (mtE t3) (sub_cons rfl (sub_cons rfl (sub_cons rfl (sub_cons rfl (sub_cons rfl (sub_cons rfl (sub_cons rfl sub_nil))))))) (some_cons (pickS (pickS pick0)) (some_cons pick0 some_nil))
            refine wc_skip ?_
            exact wj_meet _ x2l (mtE t3) (sub_cons rfl (sub_cons rfl (sub_cons rfl (sub_cons rfl (sub_cons rfl (sub_cons rfl (sub_cons rfl sub_nil))))))) (some_cons pick0 (some_cons pick0 some_nil))
          intro j1 x3 hp
          obtain rfl : j1 = y3 := hp.symm
          refine wq_block ?_
          refine wq_then ?_
          refine wc_region ?_
          refine wl_pure (po_inc rfl rfl (by omega)) rfl ?_
          refine mv rfl rfl ?_
          refine wl_nil ?_
          exact wq_rnd hk2 (stpN l2 t2) x3 (sub_cons rfl (sub_cons rfl (sub_cons rfl (sub_cons rfl (sub_cons rfl (sub_cons rfl (sub_cons rfl sub_nil))))))) (some_cons pick0 (some_cons pick0 some_nil))
        have c2 : (decide (((k2 : Nat) : Int) < ((([(gx a_b.Cells k1).A, (gx a_b.Cells k1).B] : List Int).length : Nat) : Int))) = false := decide_eq_false (by omega)
        have en1 := forO_end l2 hk2
        refine wcr ?_
        refine wl_pure (po_lss rfl rfl) rfl ?_
        refine wnt ?_
        refine wc_seq ?_
        refine wc_cond_f rfl c2 ?_
        refine wc_exit ?_
        refine wq_then_exit ?_
        refine wq_then_exit ?_
        refine wq_block_exit ?_
        exact wj_meet _ x2l (Sum.inl.inj en1) (sub_cons rfl (sub_cons rfl (sub_cons rfl (sub_cons rfl sub_nil)))) (some_cons (pickS pick0) some_nil)
      intro e2 x2 hp
      obtain rfl : e2 = y2 := hp.symm
      refine wq_block ?_
      refine wq_then ?_
      refine wc_region ?_
      refine wl_pure (po_inc rfl rfl (by omega)) rfl ?_
      refine mv rfl rfl ?_
      refine wl_nil ?_
      exact wq_rnd hk1 (stpN l1 t1) x2 (sub_cons rfl (sub_cons rfl (sub_cons rfl (sub_cons rfl sub_nil)))) (some_cons pick0 some_nil)
    have c1 : (decide (((k1 : Nat) : Int) < ((a_b.Cells.length : Nat) : Int))) = false := decide_eq_false (by omega)
    have en2 := forO_end l1 hk1
    refine wcr ?_
    refine wl_pure (po_lss rfl rfl) rfl ?_
    refine wnt ?_
    refine wc_seq ?_
    refine wc_cond_f rfl c1 ?_
    refine wc_exit ?_
    refine wq_then_exit ?_
    refine wq_then_exit ?_
    refine wq_block_exit ?_
    exact wj_meet _ x1l (Sum.inl.inj en2) (sub_cons rfl sub_nil) (some_cons pick0 some_nil)
  intro e1 x1 hp
  obtain rfl : e1 = y1 := hp.symm
  refine wq_then ?_
  refine wc_seq ?_
  refine wcr ?_
  refine mv rfl rfl ?_
  refine wnt ?_
  refine lpO_inv t0 fun y1 l1 t0 => ?_
  refine wj (J := List Int) (X := Hd) (fun z => y1 = z) (fun _ x => [(3, (sl x))]) (fun z x => [ownF (sl x) z]) ?_ ?_
  · skip
    refine wc_block ?_
    refine wc_forO (X := Hd) l1 (fun k3 s3 x3l => [(3, (sl x3l)), (40, .int .i64 ((k3 : Nat) : Int))]) (fun k3 s3 x3l => [ownF (sl x3l) s3]) x1 (sub_cons rfl (sub_cons rfl sub_nil)) (some_cons pick0 some_nil) fun k3 s3 x3l hN3 l1 => ?_
    by_cases hk3 : k3 < 6
    · skip
      refine forO_step l1 hk3 fun _ t1 l1 => ?_
      unfold impl_FirstUse_L3 at t1
      have c3 : (decide (((k3 : Nat) : Int) < 6)) = true := decide_eq_true (by omega)
      refine wcr ?_
      refine wl_pure (po_lss rfl rfl) rfl ?_
      refine wnt ?_
      refine wc_seq ?_
      refine wc_cond_t rfl c3 ?_
      refine wc_skip ?_
      refine wq_then ?_
      refine wc_seq ?_
      refine wc_block ?_
      refine wcr ?_
      refine mv rfl rfl ?_
      refine asg rfl rfl ?_
      refine wnt ?_
      refine wcr ?_
      refine mv rfl rfl ?_
      refine mv rfl rfl ?_
      refine bdO t1 fun v3 hv3 t1 => ?_
      refine wl_call (co_c0 fa_66 rfl fun w hw => c_impl_indexOf w s3 x3l (Rg.on (rds_own pick0) hw) ((k3 : Nat) : Int) hv3) rfl fun _ => ?_
      refine wl_pure (po_lss rfl rfl) rfl ?_
      refine wnt ?_
      refine bdO t1 fun y2 t2 t1 => ?_
      refine wj (J := List Int) (X := Hd) (fun z => y2 = z) (fun _ x => [(3, (sl x)), (40, .int .i64 ((k3 : Nat) : Int))]) (fun z x => [ownF (sl x) z]) ?_ ?_
      · skip
        refine wcO t2 rfl (fun h3 t2 => ?_) fun h3 t2 => ?_
        · skip
          refine wc_region ?_
          refine mv rfl rfl ?_
          refine mv rfl rfl ?_
          refine wl_eff (eo_buildSlice rfl (sb_55_1 ((k3 : Nat) : Int))) rfl fun b6 => ?_
          refine gdO t2 fun g4 t2 => ?_
          refine wl_eff (eo_append (xs := s3) (ys := ([((k3 : Nat) : Int)] : List Int)) ak_55 (pickS pick0) rfl rfl (slin_rd fun _ g => Rg.on (rds_own (pick_box_own pick0 (n := 1) (xs := ([((k3 : Nat) : Int)] : List Int)) rfl rfl (by unfold maxLen; omega))) g) g4) rfl fun x7 => ?_
          refine asg rfl rfl ?_
          refine wl_nil ?_
          exact wj_meet _ x7 (mtE t2) (sub_cons rfl (sub_cons rfl sub_nil)) (some_cons pick0 some_nil)
        refine wc_skip ?_
        exact wj_meet _ x3l (mtE t2) (sub_cons rfl (sub_cons rfl sub_nil)) (some_cons pick0 some_nil)
      intro j2 x6 hp
      obtain rfl : j2 = y2 := hp.symm
      refine wq_block ?_
      refine wq_then ?_
      refine wc_region ?_
      refine wl_pure (po_inc rfl rfl (by omega)) rfl ?_
      refine mv rfl rfl ?_
      refine wl_nil ?_
      exact wq_rnd hk3 (stpN l1 t1) x6 (sub_cons rfl (sub_cons rfl sub_nil)) (some_cons pick0 some_nil)
    have c3 : (decide (((k3 : Nat) : Int) < 6)) = false := decide_eq_false (by omega)
    have en3 := forO_end l1 hk3
    refine wcr ?_
    refine wl_pure (po_lss rfl rfl) rfl ?_
    refine wnt ?_
    refine wc_seq ?_
    refine wc_cond_f rfl c3 ?_
    refine wc_exit ?_
    refine wq_then_exit ?_
    refine wq_then_exit ?_
    refine wq_block_exit ?_
    exact wj_meet _ x3l (Sum.inl.inj en3) (sub_cons rfl sub_nil) (some_cons pick0 some_nil)
  intro e3 x5 hp
  obtain rfl : e3 = y1 := hp.symm
  refine wq_then ?_
  refine wcr ?_
  refine mv rfl rfl ?_
  refine bdO t0 fun v4 hv4 t0 => ?_
  refine wl_call (co_c1 fa_67 rfl fun w hw => c_impl_UndoList w e3 x5 (Rg.on (rds_own pick0) hw) hv4) rfl fun x8 => ?_
  refine asg rfl rfl ?_
  refine wnt ?_
  refine wc_ret ?_
  obtain rfl := Option.some.inj t0
  exact wq_ret1 rfl rfl fun w hw => ⟨x8, rfl, hw.weak (some_cons pick0 some_nil)⟩

theorem c_impl_ListOk (w : World) (a_l : List Int) (v0a : Hd) (r0 : rdF w (dm w []) (sl v0a) a_l) {r : Bool} (t0 : impl_ListOk a_l = some r) : Calls Tryd.prog 61 #[(sl v0a)] w fun e w' => e = .returned (.bool r) ∧ SH w [] [] w' := by
  refine calls_of_wc (args := [_]) Tryd.func61 rfl Tryd.ntmps61 rfl ?_
  unfold impl_ListOk at t0
  refine wcr ?_
  refine asg rfl rfl ?_
  refine wnt ?_
  refine wc_seq ?_
  refine bdO t0 fun y1 t1 t0 => ?_
  refine wj (J := Bool) (X := Unit) (fun z => y1 = z) (fun z _ => [(2, .bool z)]) (fun _ _ => []) ?_ ?_
  · skip
    refine wc_region ?_
    refine mv rfl rfl ?_
    refine wl_pure (po_lenr (rds_arg r0) el_55 rfl) rfl ?_
    refine wl_pure (po_eql rfl rfl) rfl ?_
    refine mv rfl rfl ?_
    refine wlO_ (t := 6) t1 rfl (fun h1 t1 => ?_) fun h1 t1 => ?_
    · skip
      refine wl_guard_on (j := 3) rfl rfl rfl (mv rfl rfl ?_)
      refine bdO t1 fun v1 hv1 t1 => ?_
      refine wl_guard_on (j := 3) rfl rfl rfl (wl_call (co_c0 fa_75 rfl fun w hw => c_impl_allWithin w a_l v0a (Rg.on (rds_arg r0) hw) 0 5 hv1) rfl (fun _ => ?_))
      refine wl_pure (po_pick_t rfl rfl) rfl ?_
      refine asg rfl rfl ?_
      refine wl_nil ?_
      exact wj_meet _ () (mtE t1) (sub_cons rfl sub_nil) some_nil
    refine wl_guard_off (j := 3) rfl rfl rfl rfl rfl ?_
    refine wl_guard_off (j := 3) rfl rfl rfl rfl rfl ?_
    refine wl_pure (po_pick_f rfl rfl) rfl ?_
    refine asg rfl rfl ?_
    refine wl_nil ?_
    exact wj_meet _ () (mtE t1) (sub_cons rfl sub_nil) some_nil
  intro j1 _ hp
  obtain rfl : j1 = y1 := hp.symm
  refine wq_then ?_
  refine wc_ret ?_
  obtain rfl := Option.some.inj t0
  exact wq_ret1 rfl rfl fun w hw => ⟨rfl, hw.weak some_nil⟩

theorem c_impl_WholeCell (w : World) (a_a : Int) {r : GCell} (t0 : impl_WholeCell a_a = some r) : Calls Tryd.prog 81 #[.int .i64 a_a] w fun e w' => e = .returned (.agg #[.int .i64 r.Split, .int .i64 r.A, .int .i64 r.B]) ∧ SH w [] [] w' := by
  refine calls_of_wc (args := [_]) Tryd.func81 rfl Tryd.ntmps81 rfl ?_
  unfold impl_WholeCell at t0
  refine wcr ?_
  refine wl_eff (eo_alloc (cs := [.int .i64 0, .int .i64 0, .int .i64 0]) za_48) rfl fun b1 => ?_
  refine wnt ?_
  refine wc_seq ?_
  refine wcr ?_
  refine mv rfl rfl ?_
  refine bdO t0 fun v1 hv1 t0 => ?_
  refine wl_call (co_c0 fa_51 rfl fun w hw => c_impl_isColor w a_a hv1) rfl fun _ => ?_
  refine wl_pure (po_not rfl) rfl ?_
  refine wnt ?_
  refine wcO t0 rfl (fun h1 t0 => ?_) fun h1 t0 => ?_
  · skip
    refine wcr ?_
    refine wl_pure (po_build rfl bd_48) rfl ?_
    refine wl_skipop (so_box (cs' := [.int .i64 0, .int .i64 0, .int .i64 0]) tk_48 pick0 rfl rfl rfl rfl rfl rfl rfl) ?_
    refine wnt ?_
    refine wc_ret ?_
    refine wq_then_ret ?_
    obtain rfl := Option.some.inj t0
    exact wq_retc rfl tk_48 rfl pick0 rfl fun w hw => ⟨rfl, hw.weak some_nil⟩
  refine wc_skip ?_
  refine wq_then ?_
  refine wcr ?_
  refine mv rfl rfl ?_
  refine mv rfl rfl ?_
  refine wl_pure (po_build rfl (bd_48_1_2 a_a a_a)) rfl ?_
  refine wl_skipop (so_box (cs' := [.int .i64 0, .int .i64 a_a, .int .i64 a_a]) tk_48 pick0 rfl rfl rfl rfl rfl rfl rfl) ?_
  refine wnt ?_
  refine wc_ret ?_
  obtain rfl := Option.some.inj t0
  exact wq_retc rfl tk_48 rfl pick0 rfl fun w hw => ⟨rfl, hw.weak some_nil⟩

theorem c_impl_SplitCell (w : World) (a_split : Int) (a_a : Int) (a_b : Int) {r : GCell} (t0 : impl_SplitCell a_split a_a a_b = some r) : Calls Tryd.prog 76 #[.int .i64 a_split, .int .i64 a_a, .int .i64 a_b] w fun e w' => e = .returned (.agg #[.int .i64 r.Split, .int .i64 r.A, .int .i64 r.B]) ∧ SH w [] [] w' := by
  refine calls_of_wc (args := [_, _, _]) Tryd.func76 rfl Tryd.ntmps76 rfl ?_
  unfold impl_SplitCell at t0
  refine wcr ?_
  refine wl_eff (eo_alloc (cs := [.int .i64 0, .int .i64 0, .int .i64 0]) za_48) rfl fun b1 => ?_
  refine wnt ?_
  refine wc_seq ?_
  refine wcr ?_
  refine mv rfl rfl ?_
  refine mv rfl rfl ?_
  refine wl_pure (po_eql rfl rfl) rfl ?_
  refine wnt ?_
  refine wcO t0 rfl (fun h1 t0 => ?_) fun h1 t0 => ?_
  · skip
    refine wcr ?_
    refine mv rfl rfl ?_
    refine bdO t0 fun v1 hv1 t0 => ?_
    refine wl_call (co_c0 fa_81 rfl fun w hw => c_impl_WholeCell w a_a hv1) rfl fun _ => ?_
    refine wl_skipop (so_box (cs' := [.int .i64 v1.Split, .int .i64 v1.A, .int .i64 v1.B]) tk_48 pick0 rfl rfl rfl rfl rfl rfl rfl) ?_
    refine wnt ?_
    refine wc_ret ?_
    refine wq_then_ret ?_
    obtain rfl := Option.some.inj t0
    exact wq_retc rfl tk_48 rfl pick0 rfl fun w hw => ⟨rfl, hw.weak some_nil⟩
  refine wc_skip ?_
  refine wq_then ?_
  refine wcr ?_
  refine mv rfl rfl ?_
  refine mv rfl rfl ?_
  refine mv rfl rfl ?_
  refine wl_pure (po_build rfl (bd_48_0_1_2 a_split a_a a_b)) rfl ?_
  refine wl_eff (eo_alloc (cs := [.int .i64 0, .int .i64 0, .int .i64 0]) za_48) rfl fun b2 => ?_
  refine wl_skipop (so_box (cs' := [.int .i64 a_split, .int .i64 a_a, .int .i64 a_b]) tk_48 pick0 rfl rfl rfl rfl rfl rfl rfl) ?_
  refine wnt ?_
  refine wc_seq ?_
  refine wcr ?_
  refine wl_pure (v := .agg #[.int .i64 a_split, .int .i64 a_a, .int .i64 a_b]) (po_load_boxs tk_48 pick0 rfl rfl rfl) rfl ?_
  refine bdO t0 fun v2 hv2 t0 => ?_
  refine wl_call (co_c0 fa_40 rfl fun w hw => c_impl_CellOk w (GCell.mk a_split a_a a_b) hv2) rfl fun _ => ?_
  refine wl_pure (po_not rfl) rfl ?_
  refine wnt ?_
  refine wcO t0 rfl (fun h2 t0 => ?_) fun h2 t0 => ?_
  · skip
    refine wcr ?_
    refine wl_pure (po_build rfl bd_48) rfl ?_
    refine wl_skipop (so_box (cs' := [.int .i64 0, .int .i64 0, .int .i64 0]) tk_48 (pickS pick0) rfl rfl rfl rfl rfl rfl rfl) ?_
    refine wnt ?_
    refine wc_ret ?_
    refine wq_then_ret ?_
    obtain rfl := Option.some.inj t0
    exact wq_retc rfl tk_48 rfl pick0 rfl fun w hw => ⟨rfl, hw.weak some_nil⟩
  refine wc_skip ?_
  refine wq_then ?_
  refine wcr ?_
  refine wl_pure (v := .agg #[.int .i64 a_split, .int .i64 a_a, .int .i64 a_b]) (po_load_boxs tk_48 pick0 rfl rfl rfl) rfl ?_
  refine wl_skipop (so_box (cs' := [.int .i64 a_split, .int .i64 a_a, .int .i64 a_b]) tk_48 (pickS pick0) rfl rfl rfl rfl rfl rfl rfl) ?_
  refine wnt ?_
  refine wc_ret ?_
  obtain rfl := Option.some.inj t0
  exact wq_retc rfl tk_48 rfl pick0 rfl fun w hw => ⟨rfl, hw.weak some_nil⟩

theorem c_impl_ExchangeCell (w : World) (a_c : GCell) (a_l : List Int) (v0a : Hd) (r0 : rdF w (dm w []) (sl v0a) a_l) {r : GCell} (t0 : impl_ExchangeCell a_c a_l = some r) : Calls Tryd.prog 64 #[.agg #[.int .i64 a_c.Split, .int .i64 a_c.A, .int .i64 a_c.B], (sl v0a)] w fun e w' => e = .returned (.agg #[.int .i64 r.Split, .int .i64 r.A, .int .i64 r.B]) ∧ SH w [] [] w' := by
  refine calls_of_wc (args := [_, _]) Tryd.func64 rfl Tryd.ntmps64 rfl ?_
  unfold impl_ExchangeCell at t0
  refine wcr ?_
  refine wl_eff (eo_box rfl rfl) rfl fun b1 => ?_
  refine wl_eff (eo_alloc (cs := [.int .i64 0, .int .i64 0, .int .i64 0]) za_48) rfl fun b2 => ?_
  refine wnt ?_
  refine wc_seq ?_
  refine wc_seq ?_
  refine bdO t0 fun y1 t1 t0 => ?_
  refine wj (J := Bool) (X := Unit) (fun z => y1 = z) (fun z _ => [(1, (sl v0a)), (2, ptr b1 0), (4, ptr b2 0), (12, .bool z)]) (fun _ _ => [box b2 [.int .i64 0, .int .i64 0, .int .i64 0], box b1 [.int .i64 a_c.Split, .int .i64 a_c.A, .int .i64 a_c.B]]) ?_ ?_
  · skip
    refine wc_region ?_
    refine wl_pure (v := .agg #[.int .i64 a_c.Split, .int .i64 a_c.A, .int .i64 a_c.B]) (po_load_boxs tk_48 (pickS pick0) rfl rfl rfl) rfl ?_
    refine bdO t1 fun v1 hv1 t1 => ?_
    refine wl_call (co_c0 fa_40 rfl fun w hw => c_impl_CellOk w a_c hv1) rfl fun _ => ?_
    refine wl_pure (po_not rfl) rfl ?_
    refine mv rfl rfl ?_
    refine wlO_ (t := 8) t1 rfl (fun h1 t1 => ?_) fun h1 t1 => ?_
    · skip
      refine wl_guard_off (j := 3) rfl rfl rfl rfl rfl ?_
      refine wl_guard_off (j := 3) rfl rfl rfl rfl rfl ?_
      refine wl_guard_off (j := 3) rfl rfl rfl rfl rfl ?_
      refine wl_pure (po_pick_t rfl rfl) rfl ?_
      refine wl_nil ?_
      exact wj_meet _ () (mtE t1) (sub_cons rfl (sub_cons rfl (sub_cons rfl (sub_cons rfl sub_nil)))) (some_cons pick0 (some_cons pick0 some_nil))
    refine wl_guard_on (j := 3) rfl rfl rfl (mv rfl rfl ?_)
    refine bdO t1 fun v2 hv2 t1 => ?_
    refine wl_guard_on (j := 3) rfl rfl rfl (wl_call (co_c0 fa_61 rfl fun w hw => c_impl_ListOk w a_l v0a (Rg.on (rds_arg r0) hw) hv2) rfl (fun _ => ?_))
    refine wl_guard_on (j := 3) rfl rfl rfl (wl_pure (po_not rfl) rfl ?_)
    refine wl_pure (po_pick_f rfl rfl) rfl ?_
    refine wl_nil ?_
    exact wj_meet _ () (mtE t1) (sub_cons rfl (sub_cons rfl (sub_cons rfl (sub_cons rfl sub_nil)))) (some_cons pick0 (some_cons pick0 some_nil))
  intro j1 _ hp
  obtain rfl : j1 = y1 := hp.symm
  refine wq_then ?_
  refine wcO t0 rfl (fun h2 t0 => ?_) fun h2 t0 => ?_
  · skip
    refine wcr ?_
    refine wl_pure (po_build rfl bd_48) rfl ?_
    refine wl_skipop (so_box (cs' := [.int .i64 0, .int .i64 0, .int .i64 0]) tk_48 pick0 rfl rfl rfl rfl rfl rfl rfl) ?_
    refine wnt ?_
    refine wc_ret ?_
    refine wq_then_ret ?_
    obtain rfl := Option.some.inj t0
    exact wq_retc rfl tk_48 rfl pick0 rfl fun w hw => ⟨rfl, hw.weak some_nil⟩
  refine wc_skip ?_
  refine wq_then ?_
  refine wc_seq ?_
  refine wc_draw [box b2 [.int .i64 0, .int .i64 0, .int .i64 0], box b1 [.int .i64 a_c.Split, .int .i64 a_c.A, .int .i64 a_c.B]] 13 mixed ?_
  refine wa_pure 0 rfl (po_fld fo_48_0 rfl) (some_cons pick0 (some_cons pick0 some_nil)) rfl (by kernel_rfl) (fun _ _ _ h => h) ?_
  refine wa_pure (v := .int .i64 a_c.Split) 1 rfl (po_load_box tk_3 (pickS pick0) rfl rfl) (some_cons pick0 (some_cons pick0 some_nil)) rfl (by kernel_rfl) (fun _ _ _ h => h) ?_
  refine wa_pure 2 rfl (po_move rfl) (some_cons pick0 (some_cons pick0 some_nil)) rfl (by kernel_rfl) (fun _ _ _ h => h) ?_
  refine wa_pure 3 rfl (po_fld fo_48_1 rfl) (some_cons pick0 (some_cons pick0 some_nil)) rfl (by kernel_rfl) (fun _ _ _ h => h) ?_
  refine wa_pure (v := .int .i64 a_c.A) 4 rfl (po_load_box tk_3 (pickS pick0) rfl rfl) (some_cons pick0 (some_cons pick0 some_nil)) rfl (by kernel_rfl) (fun _ _ _ h => h) ?_
  refine gdO t0 fun g1 t0 => ?_
  refine wa_pure 5 rfl (po_ixr (rds_arg r0) el_55 rfl rfl g1.1 g1.2) (some_cons pick0 (some_cons pick0 some_nil)) rfl (by kernel_rfl) (fun _ _ _ h => h) ?_
  refine wa_pure (v := .int .i64 (gx a_l ((a_c.A).toNat))) 6 rfl (po_ldf (rds_arg r0) tk_3 rfl (ix_lt g1) rfl) (some_cons pick0 (some_cons pick0 some_nil)) rfl (by kernel_rfl) (fun _ _ _ h => h) ?_
  refine wa_pure 7 rfl (po_move rfl) (some_cons pick0 (some_cons pick0 some_nil)) rfl (by kernel_rfl) (fun _ _ _ h => h) ?_
  refine wa_pure 8 rfl (po_fld fo_48_2 rfl) (some_cons pick0 (some_cons pick0 some_nil)) rfl (by kernel_rfl) (fun _ _ _ h => h) ?_
  refine wa_pure (v := .int .i64 a_c.B) 9 rfl (po_load_box tk_3 (pickS pick0) rfl rfl) (some_cons pick0 (some_cons pick0 some_nil)) rfl (by kernel_rfl) (fun _ _ _ h => h) ?_
  refine gdO t0 fun g2 t0 => ?_
  refine wa_pure 10 rfl (po_ixr (rds_arg r0) el_55 rfl rfl g2.1 g2.2) (some_cons pick0 (some_cons pick0 some_nil)) rfl (by kernel_rfl) (fun _ _ _ h => h) ?_
  refine wa_pure (v := .int .i64 (gx a_l ((a_c.B).toNat))) 11 rfl (po_ldf (rds_arg r0) tk_3 rfl (ix_lt g2) rfl) (some_cons pick0 (some_cons pick0 some_nil)) rfl (by kernel_rfl) (fun _ _ _ h => h) ?_
  refine wa_1 (i := 12) (by kernel_rfl) ?_
  refine bdO t0 fun v3 hv3 t0 => ?_
  refine ws_call rfl (co_c0 fa_76 rfl fun w hw => c_impl_SplitCell w a_c.Split (gx a_l ((a_c.A).toNat)) (gx a_l ((a_c.B).toNat)) hv3) (fun _ => (sts_some (some_cons pick0 (some_cons pick0 some_nil)))) rfl fun _ => ?_
  refine wa_1 (i := 13) (by kernel_rfl) ?_
  refine ws_skipop rfl (so_box (cs' := [.int .i64 v3.Split, .int .i64 v3.A, .int .i64 v3.B]) tk_48 pick0 rfl rfl rfl rfl rfl rfl rfl) (sts_past (by kernel_rfl)) ?_
  refine wa_done (by kernel_rfl) ?_
  refine wq_then ?_
  refine wc_ret ?_
  obtain rfl := Option.some.inj t0
  exact wq_retc rfl tk_48 rfl pick0 rfl fun w hw => ⟨rfl, hw.weak some_nil⟩

theorem c_impl_ExchangeBlock_c1 (w : World) (a_x : Int) (a_y : Int) (c_p2 : GBlock) (v0a : Hd) (r0 : rdF w (dm w []) (sl v0a) c_p2.Cells) (b2c : Nat) (q2 : Bx w b2c [.int .i64 c_p2.Size, (sl v0a)]) (c_p3 : List Int) (v1a : Hd) (r1 : rdF w (dm w []) (sl v1a) c_p3) (b3c : Nat) (q3 : Bx w b3c [(sl v1a)]) {r : GCell} (t0 : impl_ExchangeBlock_c1 a_x a_y c_p2 c_p3 = some r) : Calls Tryd.prog 63 #[.int .i64 a_x, .int .i64 a_y, ptr b2c 0, ptr b3c 0] w fun e w' => e = .returned (.agg #[.int .i64 r.Split, .int .i64 r.A, .int .i64 r.B]) ∧ SH w [] [] w' := by
  refine calls_of_wc (args := [_, _, _, _]) Tryd.func63 rfl Tryd.ntmps63 rfl ?_
  unfold impl_ExchangeBlock_c1 at t0
  refine wcr ?_
  refine wl_eff (eo_alloc (cs := [.int .i64 0, .int .i64 0, .int .i64 0]) za_48) rfl fun b1 => ?_
  refine wnt ?_
  refine wc_seq ?_
  refine wc_draw [box b1 [.int .i64 0, .int .i64 0, .int .i64 0]] 6 mixed ?_
  refine wa_pure (v := .agg #[.int .i64 c_p2.Size, (sl v0a)]) 0 rfl (po_load_aboxs q2 tk_29 rfl rfl rfl) (some_cons pick0 some_nil) rfl (by kernel_rfl) (fun _ _ _ h => h) ?_
  refine wa_pure 1 rfl (po_move rfl) (some_cons pick0 some_nil) rfl (by kernel_rfl) (fun _ _ _ h => h) ?_
  refine wa_pure 2 rfl (po_move rfl) (some_cons pick0 some_nil) rfl (by kernel_rfl) (fun _ _ _ h => h) ?_
  refine wa_pure (v := (sl v1a)) 4 rfl (po_load_abox q3 tk_55 rfl rfl) (some_cons pick0 some_nil) rfl (by kernel_rfl) (fun _ _ _ h => h) ?_
  refine wa_1 (i := 3) (by kernel_rfl) ?_
  refine bdO t0 fun v1 hv1 t0 => ?_
  refine ws_call rfl (co_c0 fa_65 rfl fun w hw => c_impl_CellAt w c_p2 v0a (Rg.on (rds_arg r0) hw) a_x a_y hv1) (fun _ => (sts_some (some_cons pick0 some_nil))) rfl fun _ => ?_
  refine wa_1 (i := 5) (by kernel_rfl) ?_
  refine bdO t0 fun v2 hv2 t0 => ?_
  refine ws_call rfl (co_c0 fa_64 rfl fun w hw => c_impl_ExchangeCell w v1 c_p3 v1a (Rg.on (rds_arg r1) hw) hv2) (fun _ => (sts_some (some_cons pick0 some_nil))) rfl fun _ => ?_
  refine wa_1 (i := 6) (by kernel_rfl) ?_
  refine ws_skipop rfl (so_box (cs' := [.int .i64 v2.Split, .int .i64 v2.A, .int .i64 v2.B]) tk_48 pick0 rfl rfl rfl rfl rfl rfl rfl) (sts_past (by kernel_rfl)) ?_
  refine wa_done (by kernel_rfl) ?_
  refine wq_then ?_
  refine wc_ret ?_
  obtain rfl := Option.some.inj t0
  exact wq_retc rfl tk_48 rfl pick0 rfl fun w hw => ⟨rfl, hw.weak some_nil⟩

theorem c_impl_ExchangeBlock (w : World) (a_b : GBlock) (v0a : Hd) (r0 : rdF w (dm w []) (sl v0a) a_b.Cells) (a_l : List Int) (v1a : Hd) (r1 : rdF w (dm w []) (sl v1a) a_l) {r : GBlock × Bool} (t0 : impl_ExchangeBlock a_b a_l = some r) : Calls Tryd.prog 49 #[.agg #[.int .i64 a_b.Size, (sl v0a)], (sl v1a)] w fun e w' => ∃ x : Hd, e = .returned (.tuple #[.agg #[.int .i64 r.1.Size, (sl x)], .bool r.2]) ∧ SH w [] [ownF (sl x) r.1.Cells] w' := by
  refine calls_of_wc (args := [_, _]) Tryd.func49 rfl Tryd.ntmps49 rfl ?_
  unfold impl_ExchangeBlock at t0
  refine wcr ?_
  refine wl_eff (eo_box rfl rfl) rfl fun b1 => ?_
  refine wl_eff (eo_box rfl rfl) rfl fun b2 => ?_
  refine wl_eff (eo_alloc (cs := [.int .i64 0, (sl (⟨none, 0, 0⟩ : Hd))]) za_29) rfl fun b3 => ?_
  refine asg rfl rfl ?_
  refine wnt ?_
  refine wc_seq ?_
  refine wc_seq ?_
  refine bdO t0 fun y1 t1 t0 => ?_
  refine wj (J := Bool) (X := Unit) (fun z => y1 = z) (fun z _ => [(2, ptr b1 0), (3, ptr b2 0), (4, ptr b3 0), (13, .bool z)]) (fun _ _ => [box b3 [.int .i64 0, (sl (⟨none, 0, 0⟩ : Hd))], box b2 [(sl v1a)], box b1 [.int .i64 a_b.Size, (sl v0a)]]) ?_ ?_
  · skip
    refine wc_region ?_
    refine wl_pure (v := .agg #[.int .i64 a_b.Size, (sl v0a)]) (po_load_boxs tk_29 (pickS (pickS pick0)) rfl rfl rfl) rfl ?_
    refine bdO t1 fun v1 hv1 t1 => ?_
    refine wl_call (co_c0 fa_24 rfl fun w hw => c_impl_BlockOk w a_b v0a (Rg.on (rds_arg r0) hw) hv1) rfl fun _ => ?_
    refine wl_pure (po_not rfl) rfl ?_
    refine mv rfl rfl ?_
    refine wlO_ (t := 9) t1 rfl (fun h1 t1 => ?_) fun h1 t1 => ?_
    · skip
      refine wl_guard_off (j := 3) rfl rfl rfl rfl rfl ?_
      refine wl_guard_off (j := 3) rfl rfl rfl rfl rfl ?_
      refine wl_guard_off (j := 3) rfl rfl rfl rfl rfl ?_
      refine wl_pure (po_pick_t rfl rfl) rfl ?_
      refine wl_nil ?_
      exact wj_meet _ () (mtE t1) (sub_cons rfl (sub_cons rfl (sub_cons rfl (sub_cons rfl sub_nil)))) (some_cons pick0 (some_cons pick0 (some_cons pick0 some_nil)))
    refine wl_guard_on (j := 3) rfl rfl rfl (wl_pure (v := (sl v1a)) (po_load_box tk_55 (pickS pick0) rfl rfl) rfl ?_)
    refine bdO t1 fun v2 hv2 t1 => ?_
    refine wl_guard_on (j := 3) rfl rfl rfl (wl_call (co_c0 fa_61 rfl fun w hw => c_impl_ListOk w a_l v1a (Rg.on (rds_arg r1) hw) hv2) rfl (fun _ => ?_))
    refine wl_guard_on (j := 3) rfl rfl rfl (wl_pure (po_not rfl) rfl ?_)
    refine wl_pure (po_pick_f rfl rfl) rfl ?_
    refine wl_nil ?_
    exact wj_meet _ () (mtE t1) (sub_cons rfl (sub_cons rfl (sub_cons rfl (sub_cons rfl sub_nil)))) (some_cons pick0 (some_cons pick0 (some_cons pick0 some_nil)))
  intro j1 _ hp
  obtain rfl : j1 = y1 := hp.symm
  refine wq_then ?_
  refine wcO t0 rfl (fun h2 t0 => ?_) fun h2 t0 => ?_
  · skip
    refine wcr ?_
    refine wl_pure (v := .agg #[.int .i64 a_b.Size, (sl v0a)]) (po_load_boxs tk_29 (pickS (pickS pick0)) rfl rfl rfl) rfl ?_
    refine bdO t0 fun v3 hv3 t0 => ?_
    refine wl_call (co_c1 fa_56 rfl fun w hw => c_impl_Block_copied w a_b v0a (Rg.on (rds_arg r0) hw) hv3) rfl fun x2 => ?_
    refine wl_skipop (so_box (cs' := [.int .i64 v3.Size, (sl x2)]) tk_29 (pickS pick0) rfl rfl rfl rfl rfl rfl rfl) ?_
    refine asg rfl rfl ?_
    refine wnt ?_
    refine wc_ret ?_
    refine wq_then_ret ?_
    obtain rfl := Option.some.inj t0
    exact wq_retc1 rfl tk_29 rfl rfl pick0 rfl fun w hw => ⟨x2, rfl, hw.weak (some_cons (pickS pick0) some_nil)⟩
  refine wc_skip ?_
  refine wq_then ?_
  refine wcr ?_
  refine wl_pure (po_fld fo_29_0 rfl) rfl ?_
  refine wl_pure (v := .int .i64 a_b.Size) (po_load_box tk_3 (pickS (pickS pick0)) rfl rfl) rfl ?_
  refine wl_pure (po_makeFunc rfl) rfl ?_
  refine bdO t0 fun v4 hv4 t0 => ?_
  refine wl_call (co_c1 fa_62 rfl fun w hw => c_impl_made w a_b.Size (fun z0 z1 => impl_ExchangeBlock_c1 z0 z1 a_b a_l) 63 [ptr b1 0, ptr b2 0] fa_63 (fun w2 z0 z1  hk _ hz => c_impl_ExchangeBlock_c1 w2 z0 z1 a_b v0a (RdL.later (Rg.on (rds_arg r0) hw) hk) b1 (Bx.keep (hw.at_box (pickS (pickS pick0))) hk) a_l v1a (RdL.later (Rg.on (rds_arg r1) hw) hk) b2 (Bx.keep (hw.at_box (pickS pick0)) hk) hz) hv4) rfl fun x3 => ?_
  refine wl_skipop (so_box (cs' := [.int .i64 v4.Size, (sl x3)]) tk_29 (pickS pick0) rfl rfl rfl rfl rfl rfl rfl) ?_
  refine asg rfl rfl ?_
  refine wnt ?_
  refine wc_ret ?_
  obtain rfl := Option.some.inj t0
  exact wq_retc1 rfl tk_29 rfl rfl pick0 rfl fun w hw => ⟨x3, rfl, hw.weak (some_cons (pickS pick0) some_nil)⟩

theorem c_impl_plain (w : World) (a_b : GBlock) (v0a : Hd) (r0 : rdF w (dm w []) (sl v0a) a_b.Cells) {r : GBlock} (t0 : impl_plain a_b = some r) : Calls Tryd.prog 35 #[.agg #[.int .i64 a_b.Size, (sl v0a)]] w fun e w' => ∃ x : Hd, e = .returned (.agg #[.int .i64 r.Size, (sl x)]) ∧ SH w [] [ownF (sl x) r.Cells] w' := by
  refine calls_of_wc (args := [_]) Tryd.func35 rfl Tryd.ntmps35 rfl ?_
  unfold impl_plain at t0
  refine wcr ?_
  refine wl_eff (eo_box rfl rfl) rfl fun b1 => ?_
  refine wl_eff (eo_alloc (cs := [.int .i64 0, (sl (⟨none, 0, 0⟩ : Hd))]) za_29) rfl fun b2 => ?_
  refine wnt ?_
  refine wc_seq ?_
  refine bdO t0 fun v1 hv1 t0 => ?_
  refine bdO t0 fun v2 hv2 t0 => ?_
  refine wc_join (X := Nat × Hd) (fun _ => True) (fun z => [(2, ptr b2 0), (3, ptr z.1 0)]) (fun z => [box z.1 [.int .i64 v2.1.Size, (sl z.2)], ownF (sl z.2) v2.1.Cells, box b2 [.int .i64 0, (sl (⟨none, 0, 0⟩ : Hd))]]) ?_ ?_
  · skip
    refine wc_draw [box b2 [.int .i64 0, (sl (⟨none, 0, 0⟩ : Hd))], box b1 [.int .i64 a_b.Size, (sl v0a)]] 10 mixed ?_
    refine wa_pure (v := .agg #[.int .i64 a_b.Size, (sl v0a)]) 0 rfl (po_load_boxs tk_29 (pickS pick0) rfl rfl rfl) (some_cons pick0 (some_cons pick0 some_nil)) rfl (by kernel_rfl) (fun _ _ _ h => h) ?_
    refine wa_pure (v := .agg #[.int .i64 a_b.Size, (sl v0a)]) 1 rfl (po_load_boxs tk_29 (pickS pick0) rfl rfl rfl) (some_cons pick0 (some_cons pick0 some_nil)) rfl (by kernel_rfl) (fun _ _ _ h => h) ?_
    refine wa_2 (i := 2) (j := 7) (by kernel_rfl) ?_ ?_
    · skip
      refine ws_call rfl (co_c1 fa_50 rfl fun w hw => c_impl_FirstUse w a_b v0a (Rg.on (rds_arg r0) hw) hv1) (fun _ => (sts_some (some_cons (pickS pick0) (some_cons (pickS pick0) some_nil)))) rfl fun x1 => ?_
      refine wa_2 (i := 3) (j := 7) (by kernel_rfl) ?_ ?_
      · skip
        refine ws_call rfl (co_c1 fa_49 rfl fun w hw => c_impl_ExchangeBlock w a_b v0a (Rg.on (rds_arg r0) hw) v1 x1 (Rg.on (rds_own pick0) hw) hv2) (fun _ => (sts_some (some_cons (pickS (pickS pick0)) (some_cons (pickS (pickS pick0)) some_nil)))) rfl fun x2 => ?_
        refine wa_pure 4 rfl (po_move rfl) (some_cons (pickS (pickS pick0)) (some_cons (pickS (pickS pick0)) some_nil)) rfl (by kernel_rfl) (fun _ _ _ h => h) ?_
        refine wa_pure 5 rfl (po_extract rfl rfl) (some_cons (pickS (pickS pick0)) (some_cons (pickS (pickS pick0)) some_nil)) rfl (by kernel_rfl) (fun _ _ _ h => h) ?_
        refine wa_pure 6 rfl (po_extract rfl rfl) (some_cons (pickS (pickS pick0)) (some_cons (pickS (pickS pick0)) some_nil)) rfl (by kernel_rfl) (fun _ _ _ h => h) ?_
        refine wa_1 (i := 7) (by kernel_rfl) ?_
        refine ws_eff rfl (eo_alloc (cs := [.int .i64 0, (sl (⟨none, 0, 0⟩ : Hd))]) za_29) (fun _ => (sts_some (some_cons (pickS (pickS (pickS pick0))) (some_cons (pickS (pickS (pickS pick0))) some_nil)))) rfl fun b3 => ?_
        refine wa_1 (i := 8) (by kernel_rfl) ?_
        refine ws_skipop rfl (so_box (cs' := [.int .i64 v2.1.Size, (sl x2)]) tk_29 pick0 rfl rfl rfl rfl rfl rfl rfl) (sts_some (some_cons (pickS (pickS (pickS pick0))) (some_cons (pickS (pickS (pickS pick0))) some_nil))) ?_
        refine wa_pure 9 rfl (po_assign rfl) (some_cons (pickS (pickS (pickS pick0))) (some_cons (pickS (pickS (pickS pick0))) some_nil)) rfl (by kernel_rfl) (fun _ _ _ h => h) ?_
        refine wa_done (by kernel_rfl) ?_
        exact wq_meet (b3, x2) trivial (sub_cons rfl (sub_cons rfl sub_nil)) (some_cons pick0 (some_cons pick0 (some_cons (pickS pick0) some_nil)))
      refine ws_eff rfl (eo_alloc (cs := [.int .i64 0, (sl (⟨none, 0, 0⟩ : Hd))]) za_29) (fun _ => (sts_some (some_cons (pickS (pickS pick0)) (some_cons (pickS (pickS pick0)) some_nil)))) rfl fun b4 => ?_
      refine wa_1 (i := 3) (by kernel_rfl) ?_
      refine ws_call rfl (co_c1 fa_49 rfl fun w hw => c_impl_ExchangeBlock w a_b v0a (Rg.on (rds_arg r0) hw) v1 x1 (Rg.on (rds_own (pickS pick0)) hw) hv2) (fun _ => (sts_some (some_cons (pickS (pickS (pickS pick0))) (some_cons (pickS (pickS (pickS pick0))) some_nil)))) rfl fun x3 => ?_
      refine wa_pure 4 rfl (po_move rfl) (some_cons (pickS (pickS (pickS pick0))) (some_cons (pickS (pickS (pickS pick0))) some_nil)) rfl (by kernel_rfl) (fun _ _ _ h => h) ?_
      refine wa_pure 5 rfl (po_extract rfl rfl) (some_cons (pickS (pickS (pickS pick0))) (some_cons (pickS (pickS (pickS pick0))) some_nil)) rfl (by kernel_rfl) (fun _ _ _ h => h) ?_
      refine wa_pure 6 rfl (po_extract rfl rfl) (some_cons (pickS (pickS (pickS pick0))) (some_cons (pickS (pickS (pickS pick0))) some_nil)) rfl (by kernel_rfl) (fun _ _ _ h => h) ?_
      refine wa_1 (i := 8) (by kernel_rfl) ?_
      refine ws_skipop rfl (so_box (cs' := [.int .i64 v2.1.Size, (sl x3)]) tk_29 (pickS pick0) rfl rfl rfl rfl rfl rfl rfl) (sts_some (some_cons (pickS (pickS (pickS pick0))) (some_cons (pickS (pickS (pickS pick0))) some_nil))) ?_
      refine wa_pure 9 rfl (po_assign rfl) (some_cons (pickS (pickS (pickS pick0))) (some_cons (pickS (pickS (pickS pick0))) some_nil)) rfl (by kernel_rfl) (fun _ _ _ h => h) ?_
      refine wa_done (by kernel_rfl) ?_
      exact wq_meet (b4, x3) trivial (sub_cons rfl (sub_cons rfl sub_nil)) (some_cons pick0 (some_cons pick0 (some_cons (pickS pick0) some_nil)))
    refine ws_eff rfl (eo_alloc (cs := [.int .i64 0, (sl (⟨none, 0, 0⟩ : Hd))]) za_29) (fun _ => (sts_some (some_cons (pickS pick0) (some_cons (pickS pick0) some_nil)))) rfl fun b5 => ?_
    refine wa_1 (i := 2) (by kernel_rfl) ?_
    refine ws_call rfl (co_c1 fa_50 rfl fun w hw => c_impl_FirstUse w a_b v0a (Rg.on (rds_arg r0) hw) hv1) (fun _ => (sts_some (some_cons (pickS (pickS pick0)) (some_cons (pickS (pickS pick0)) some_nil)))) rfl fun x4 => ?_
    refine wa_1 (i := 3) (by kernel_rfl) ?_
    refine ws_call rfl (co_c1 fa_49 rfl fun w hw => c_impl_ExchangeBlock w a_b v0a (Rg.on (rds_arg r0) hw) v1 x4 (Rg.on (rds_own pick0) hw) hv2) (fun _ => (sts_some (some_cons (pickS (pickS (pickS pick0))) (some_cons (pickS (pickS (pickS pick0))) some_nil)))) rfl fun x5 => ?_
    refine wa_pure 4 rfl (po_move rfl) (some_cons (pickS (pickS (pickS pick0))) (some_cons (pickS (pickS (pickS pick0))) some_nil)) rfl (by kernel_rfl) (fun _ _ _ h => h) ?_
    refine wa_pure 5 rfl (po_extract rfl rfl) (some_cons (pickS (pickS (pickS pick0))) (some_cons (pickS (pickS (pickS pick0))) some_nil)) rfl (by kernel_rfl) (fun _ _ _ h => h) ?_
    refine wa_pure 6 rfl (po_extract rfl rfl) (some_cons (pickS (pickS (pickS pick0))) (some_cons (pickS (pickS (pickS pick0))) some_nil)) rfl (by kernel_rfl) (fun _ _ _ h => h) ?_
    refine wa_1 (i := 8) (by kernel_rfl) ?_
    refine ws_skipop rfl (so_box (cs' := [.int .i64 v2.1.Size, (sl x5)]) tk_29 (pickS (pickS pick0)) rfl rfl rfl rfl rfl rfl rfl) (sts_some (some_cons (pickS (pickS (pickS pick0))) (some_cons (pickS (pickS (pickS pick0))) some_nil))) ?_
    refine wa_pure 9 rfl (po_assign rfl) (some_cons (pickS (pickS (pickS pick0))) (some_cons (pickS (pickS (pickS pick0))) some_nil)) rfl (by kernel_rfl) (fun _ _ _ h => h) ?_
    refine wa_done (by kernel_rfl) ?_
    exact wq_meet (b5, x5) trivial (sub_cons rfl (sub_cons rfl sub_nil)) (some_cons pick0 (some_cons pick0 (some_cons (pickS pick0) some_nil)))
  intro x6 _
  refine wq_then ?_
  refine wcr ?_
  refine wl_pure (v := .agg #[.int .i64 v2.1.Size, (sl x6.2)]) (po_load_boxs tk_29 pick0 rfl rfl rfl) rfl ?_
  refine wl_skipop (so_box (cs' := [.int .i64 v2.1.Size, (sl x6.2)]) tk_29 (pickS (pickS pick0)) rfl rfl rfl rfl rfl rfl rfl) ?_
  refine wnt ?_
  refine wc_ret ?_
  obtain rfl := Option.some.inj t0
  exact wq_retc rfl tk_29 rfl pick0 rfl fun w hw => ⟨x6.2, rfl, hw.weak (some_cons (pickS (pickS pick0)) some_nil)⟩


theorem c_impl_FormatInt (w : World) (a_n : Int) {r : Str} (t0 : impl_FormatInt a_n = some r) : Calls Tryd.prog 69 #[.int .i64 a_n] w fun e w' => e = .returned (bs r) ∧ SH w [] [] w' := by
  refine calls_of_wc (args := [_]) Tryd.func69 rfl Tryd.ntmps69 rfl ?_
  unfold impl_FormatInt at t0
  refine wcr ?_
  refine asg rfl rfl ?_
  refine wnt ?_
  refine wcr ?_
  refine mv rfl rfl ?_
  refine bdO t0 fun v1 hv1 t0 => ?_
  refine wl_call (co_c0 fa_79 rfl fun w hw => c_strconv_Itoa w a_n hv1) rfl fun _ => ?_
  refine asg rfl rfl ?_
  refine wnt ?_
  refine wc_ret ?_
  obtain rfl := Option.some.inj t0
  exact wq_ret1 rfl rfl fun w hw => ⟨rfl, hw.weak some_nil⟩

theorem c_impl_CellText (w : World) (a_c : GCell) {r : Str} (t0 : impl_CellText a_c = some r) : Calls Tryd.prog 55 #[.agg #[.int .i64 a_c.Split, .int .i64 a_c.A, .int .i64 a_c.B]] w fun e w' => e = .returned (bs r) ∧ SH w [] [] w' := by
  refine calls_of_wc (args := [_]) Tryd.func55 rfl Tryd.ntmps55 rfl ?_
  unfold impl_CellText at t0
  refine wcr ?_
  refine wl_eff (eo_box rfl rfl) rfl fun b1 => ?_
  refine asg rfl rfl ?_
  refine wnt ?_
  refine wc_seq ?_
  refine wcr ?_
  refine wl_pure (v := .agg #[.int .i64 a_c.Split, .int .i64 a_c.A, .int .i64 a_c.B]) (po_load_boxs tk_48 pick0 rfl rfl rfl) rfl ?_
  refine bdO t0 fun v1 hv1 t0 => ?_
  refine wl_call (co_c0 fa_40 rfl fun w hw => c_impl_CellOk w a_c hv1) rfl fun _ => ?_
  refine wl_pure (po_not rfl) rfl ?_
  refine wnt ?_
  refine wcO t0 rfl (fun h1 t0 => ?_) fun h1 t0 => ?_
  · skip
    refine wcr ?_
    refine asg rfl rfl ?_
    refine wnt ?_
    refine wc_ret ?_
    refine wq_then_ret ?_
    obtain rfl := Option.some.inj t0
    exact wq_ret1 rfl rfl fun w hw => ⟨rfl, hw.weak some_nil⟩
  refine wc_skip ?_
  refine wq_then ?_
  refine wcr ?_
  refine wl_eff (eo_buildSlice rfl (sb_70_3 (⟨[]⟩ : Str) (⟨[47]⟩ : Str) (⟨[92]⟩ : Str))) rfl fun b2 => ?_
  refine wl_pure (po_fld fo_48_0 rfl) rfl ?_
  refine wl_pure (v := .int .i64 a_c.Split) (po_load_box tk_3 (pickS pick0) rfl rfl) rfl ?_
  refine gdO t0 fun g1 t0 => ?_
  refine wl_pure (po_ixr (rds_own (pick_box_own pick0 (n := 3) (xs := ([(⟨[]⟩ : Str), (⟨[47]⟩ : Str), (⟨[92]⟩ : Str)] : List Str)) rfl rfl (by unfold maxLen; omega))) el_70 rfl rfl g1.1 g1.2) rfl ?_
  refine wl_pure (v := bs (gx ([(⟨[]⟩ : Str), (⟨[47]⟩ : Str), (⟨[92]⟩ : Str)] : List Str) ((a_c.Split).toNat))) (po_ldf (rds_own (pick_box_own pick0 (n := 3) (xs := ([(⟨[]⟩ : Str), (⟨[47]⟩ : Str), (⟨[92]⟩ : Str)] : List Str)) rfl rfl (by unfold maxLen; omega))) tk_9 rfl (ix_lt g1) rfl) rfl ?_
  refine asg rfl rfl ?_
  refine wnt ?_
  refine wc_seq ?_
  refine wcr ?_
  refine mv rfl rfl ?_
  refine wl_pure (po_seql rfl rfl) rfl ?_
  refine wnt ?_
  refine wcO t0 rfl (fun h2 t0 => ?_) fun h2 t0 => ?_
  · skip
    refine wcr ?_
    refine wl_pure (po_fld fo_48_1 rfl) rfl ?_
    refine wl_pure (v := .int .i64 a_c.A) (po_load_box tk_3 (pickS pick0) rfl rfl) rfl ?_
    refine bdO t0 fun v2 hv2 t0 => ?_
    refine wl_call (co_c0 fa_69 rfl fun w hw => c_impl_FormatInt w a_c.A hv2) rfl fun _ => ?_
    refine asg rfl rfl ?_
    refine wnt ?_
    refine wc_ret ?_
    refine wq_then_ret ?_
    obtain rfl := Option.some.inj t0
    exact wq_ret1 rfl rfl fun w hw => ⟨rfl, hw.weak some_nil⟩
  refine wc_skip ?_
  refine wq_then ?_
  refine wc_seq ?_
  refine wc_draw [box b2 [bs (⟨[]⟩ : Str), bs (⟨[47]⟩ : Str), bs (⟨[92]⟩ : Str)], box b1 [.int .i64 a_c.Split, .int .i64 a_c.A, .int .i64 a_c.B]] 10 mixed ?_
  refine wa_pure 0 rfl (po_fld fo_48_1 rfl) (some_cons pick0 (some_cons pick0 some_nil)) rfl (by kernel_rfl) (fun _ _ _ h => h) ?_
  refine wa_pure (v := .int .i64 a_c.A) 1 rfl (po_load_box tk_3 (pickS pick0) rfl rfl) (some_cons pick0 (some_cons pick0 some_nil)) rfl (by kernel_rfl) (fun _ _ _ h => h) ?_
  refine wa_pure 3 rfl (po_move rfl) (some_cons pick0 (some_cons pick0 some_nil)) rfl (by kernel_rfl) (fun _ _ _ h => h) ?_
  refine wa_pure 5 rfl (po_fld fo_48_2 rfl) (some_cons pick0 (some_cons pick0 some_nil)) rfl (by kernel_rfl) (fun _ _ _ h => h) ?_
  refine wa_pure (v := .int .i64 a_c.B) 6 rfl (po_load_box tk_3 (pickS pick0) rfl rfl) (some_cons pick0 (some_cons pick0 some_nil)) rfl (by kernel_rfl) (fun _ _ _ h => h) ?_
  refine wa_1 (i := 2) (by kernel_rfl) ?_
  refine bdO t0 fun v3 hv3 t0 => ?_
  refine ws_call rfl (co_c0 fa_69 rfl fun w hw => c_impl_FormatInt w a_c.A hv3) (fun _ => (sts_some (some_cons pick0 (some_cons pick0 some_nil)))) rfl fun _ => ?_
  refine gdO t0 fun g2 t0 => ?_
  refine wa_pure 4 rfl (po_sadd rfl rfl g2) (some_cons pick0 (some_cons pick0 some_nil)) rfl (by kernel_rfl) (fun _ _ _ h => h) ?_
  refine wa_1 (i := 7) (by kernel_rfl) ?_
  refine bdO t0 fun v4 hv4 t0 => ?_
  refine ws_call rfl (co_c0 fa_69 rfl fun w hw => c_impl_FormatInt w a_c.B hv4) (fun _ => (sts_some (some_cons pick0 (some_cons pick0 some_nil)))) rfl fun _ => ?_
  refine gdO t0 fun g3 t0 => ?_
  refine wa_pure 8 rfl (po_sadd rfl rfl g3) (some_cons pick0 (some_cons pick0 some_nil)) rfl (by kernel_rfl) (fun _ _ _ h => h) ?_
  refine wa_pure 9 rfl (po_assign rfl) (some_cons pick0 (some_cons pick0 some_nil)) rfl (by kernel_rfl) (fun _ _ _ h => h) ?_
  refine wa_done (by kernel_rfl) ?_
  refine wq_then ?_
  refine wc_ret ?_
  obtain rfl := Option.some.inj t0
  exact wq_ret1 rfl rfl fun w hw => ⟨rfl, hw.weak some_nil⟩

theorem c_impl_TextOf (w : World) (a_b : GBlock) (v0a : Hd) (r0 : rdF w (dm w []) (sl v0a) a_b.Cells) {r : Str} (t0 : impl_TextOf a_b = some r) : Calls Tryd.prog 45 #[.agg #[.int .i64 a_b.Size, (sl v0a)]] w fun e w' => e = .returned (bs r) ∧ SH w [] [] w' := by
  refine calls_of_wc (args := [_]) Tryd.func45 rfl Tryd.ntmps45 rfl ?_
  unfold impl_TextOf at t0
  refine wcr ?_
  refine wl_eff (eo_box rfl rfl) rfl fun b1 => ?_
  refine asg rfl rfl ?_
  refine wnt ?_
  refine wc_seq ?_
  refine wcr ?_
  refine wl_pure (v := .agg #[.int .i64 a_b.Size, (sl v0a)]) (po_load_boxs tk_29 pick0 rfl rfl rfl) rfl ?_
  refine bdO t0 fun v1 hv1 t0 => ?_
  refine wl_call (co_c0 fa_24 rfl fun w hw => c_impl_BlockOk w a_b v0a (Rg.on (rds_arg r0) hw) hv1) rfl fun _ => ?_
  refine wl_pure (po_not rfl) rfl ?_
  refine wnt ?_
  refine wcO t0 rfl (fun h1 t0 => ?_) fun h1 t0 => ?_
  · skip
    refine wcr ?_
    refine asg rfl rfl ?_
    refine wnt ?_
    refine wc_ret ?_
    refine wq_then_ret ?_
    obtain rfl := Option.some.inj t0
    exact wq_ret1 rfl rfl fun w hw => ⟨rfl, hw.weak some_nil⟩
  refine wc_skip ?_
  refine wq_then ?_
  refine wcr ?_
  refine asg rfl rfl ?_
  refine wnt ?_
  refine wc_seq ?_
  refine wcr ?_
  refine wl_pure (po_fld fo_29_1 rfl) rfl ?_
  refine wl_pure (v := (sl v0a)) (po_load_box tk_27 pick0 rfl rfl) rfl ?_
  refine wl_pure (po_lenr (rds_arg r0) el_27 rfl) rfl ?_
  refine mv rfl rfl ?_
  refine wnt ?_
  refine gdO t0 fun g1 t0 => ?_
  refine lpO_inv t0 fun y1 l1 t0 => ?_
  refine wj (J := Str) (X := Unit) (fun z => y1 = z) (fun z _ => [(3, bs z)]) (fun _ _ => []) ?_ ?_
  · skip
    refine wc_block ?_
    refine wc_forO (X := Unit) l1 (fun k1 s1 x1l => [(3, bs s1), (10, (sl v0a)), (11, .int .i64 ((a_b.Cells.length : Nat) : Int)), (12, .int .i64 ((k1 : Nat) : Int))]) (fun k1 s1 x1l => []) () (sub_cons rfl (sub_cons rfl (sub_cons rfl (sub_cons rfl sub_nil)))) some_nil fun k1 s1 x1l hN1 l1 => ?_
    by_cases hk1 : k1 < a_b.Cells.length
    · skip
      refine forO_step l1 hk1 fun _ t1 l1 => ?_
      unfold impl_TextOf_L1 at t1
      have c1 : (decide (((k1 : Nat) : Int) < ((a_b.Cells.length : Nat) : Int))) = true := decide_eq_true (by omega)
      refine wcr ?_
      refine wl_pure (po_lss rfl rfl) rfl ?_
      refine wnt ?_
      refine wc_seq ?_
      refine wc_cond_t rfl c1 ?_
      refine wc_skip ?_
      refine wq_then ?_
      refine wc_seq ?_
      refine wc_block ?_
      refine wcr ?_
      refine wl_pure (po_ixn (k := k1) (rds_arg r0) el_27 rfl rfl hk1) rfl ?_
      refine wl_pure (v := .agg #[.int .i64 ((gx a_b.Cells k1).Split), .int .i64 ((gx a_b.Cells k1).A), .int .i64 ((gx a_b.Cells k1).B)]) (po_ldfs (rds_arg r0) tk_48 rfl hk1 rfl rfl rfl) rfl ?_
      refine wl_eff (eo_alloc (cs := [.int .i64 0, .int .i64 0, .int .i64 0]) za_48) rfl fun b2 => ?_
      refine wl_skipop (so_box (cs' := [.int .i64 ((gx a_b.Cells k1).Split), .int .i64 ((gx a_b.Cells k1).A), .int .i64 ((gx a_b.Cells k1).B)]) tk_48 pick0 rfl rfl rfl rfl rfl rfl rfl) ?_
      refine wnt ?_
      refine wc_region ?_
      refine mv rfl rfl ?_
      refine wl_pure (v := .agg #[.int .i64 ((gx a_b.Cells k1).Split), .int .i64 ((gx a_b.Cells k1).A), .int .i64 ((gx a_b.Cells k1).B)]) (po_load_boxs tk_48 pick0 rfl rfl rfl) rfl ?_
      refine bdO t1 fun v2 hv2 t1 => ?_
      refine wl_call (co_c0 fa_55 rfl fun w hw => c_impl_CellText w (gx a_b.Cells k1) hv2) rfl fun _ => ?_
      refine gdO t1 fun g2 t1 => ?_
      refine wl_pure (po_sadd rfl rfl g2) rfl ?_
      refine gdO t1 fun g3 t1 => ?_
      refine wl_pure (po_sadd rfl rfl g3) rfl ?_
      refine asg rfl rfl ?_
      refine wl_nil ?_
      refine wq_block ?_
      refine wq_then ?_
      refine wc_region ?_
      refine wl_pure (po_inc rfl rfl (by omega)) rfl ?_
      refine mv rfl rfl ?_
      refine wl_nil ?_
      exact wq_rnd hk1 (stpN l1 t1) () (sub_cons rfl (sub_cons rfl (sub_cons rfl (sub_cons rfl sub_nil)))) some_nil
    have c1 : (decide (((k1 : Nat) : Int) < ((a_b.Cells.length : Nat) : Int))) = false := decide_eq_false (by omega)
    have en1 := forO_end l1 hk1
    refine wcr ?_
    refine wl_pure (po_lss rfl rfl) rfl ?_
    refine wnt ?_
    refine wc_seq ?_
    refine wc_cond_f rfl c1 ?_
    refine wc_exit ?_
    refine wq_then_exit ?_
    refine wq_then_exit ?_
    refine wq_block_exit ?_
    exact wj_meet _ () (Sum.inl.inj en1) (sub_cons rfl sub_nil) some_nil
  intro e1 _ hp
  obtain rfl : e1 = y1 := hp.symm
  refine wq_then ?_
  refine wcr ?_
  refine mv rfl rfl ?_
  refine asg rfl rfl ?_
  refine wnt ?_
  refine wc_ret ?_
  obtain rfl := Option.some.inj t0
  exact wq_ret1 rfl rfl fun w hw => ⟨rfl, hw.weak some_nil⟩

theorem c_impl_least (w : World) (fp : List Nat) (a_list : List GBlock) (v0a : Hd) (u0a : List Value) (o : Ow w [own (sl v0a) u0a a_list] fp) {r : GBlock} (t0 : impl_least a_list = some r) : Calls Tryd.prog 30 #[(sl v0a)] w fun e w' => ∃ x : Hd, e = .returned (.agg #[.int .i64 r.Size, (sl x)]) ∧ SH w fp [ownF (sl x) r.Cells] w' := by
  have hf0 : ∀ k, k < a_list.length → ∃ h : Hd, chunk u0a k (Rep.sz GBlock) = [.int .i64 (gx a_list k).Size, sl h] := fun k hk => by
    obtain ⟨⟨f1, f2, _, hown, _⟩, _⟩ := o
    have hr : RdL w (fun _ => True) (sl v0a) u0a a_list := OwL.rd hown (fun _ _ => trivial)
    have hx : a_list[k]? = some (gx a_list k) := by simp [gx, List.getD, hk]
    obtain ⟨h0, e, _⟩ := rd_GBlock.1 (hr.2.2 k _ hx)
    exact ⟨h0, e⟩
  obtain ⟨f, hf⟩ : ∃ f : Nat → Hd, ∀ k, k < a_list.length → chunk u0a k (Rep.sz GBlock) = [.int .i64 (gx a_list k).Size, sl (f k)] :=
    ⟨fun k => if h : k < a_list.length then (hf0 k h).choose else ⟨none, 0, 0⟩, fun k hk => by
      simp only [hk, dite_true]
      exact (hf0 k hk).choose_spec⟩
  refine calls_of_wc_own (args := [_]) o Tryd.func30 rfl Tryd.ntmps30 rfl ?_
  unfold impl_least at t0
  refine wcr ?_
  refine wl_eff (eo_alloc (cs := [.int .i64 0, (sl (⟨none, 0, 0⟩ : Hd))]) za_29) rfl fun b1 => ?_
  refine wnt ?_
  refine wcr ?_
  refine mv rfl rfl ?_
  refine gdO t0 fun g1 t0 => ?_
  refine wl_pure (po_ixn (k := 0) (rds_own (pickS pick0)) el_42 rfl rfl g1) rfl ?_
  refine wl_pure (v := .agg #[.int .i64 ((gx a_list 0).Size), (sl (f 0))]) (po_ldns (rds_own (pickS pick0)) tk_29 rfl (hf 0 g1) rfl rfl rfl) rfl ?_
  refine wl_eff (eo_alloc (cs := [.int .i64 0, (sl (⟨none, 0, 0⟩ : Hd))]) za_29) rfl fun b2 => ?_
  refine wl_skipop (so_box (cs' := [.int .i64 ((gx a_list 0).Size), (sl (f 0))]) tk_29 pick0 rfl rfl rfl rfl rfl rfl rfl) ?_
  refine wnt ?_
  refine wc_seq ?_
  refine wcr ?_
  refine mv rfl rfl ?_
  refine wl_pure (po_lenr (rds_own (pickS (pickS pick0))) el_42 rfl) rfl ?_
  refine mv rfl rfl ?_
  refine wnt ?_
  refine gdO t0 fun g2 t0 => ?_
  refine lpO_inv t0 fun y1 l1 t0 => ?_
  refine wj (J := Nat) (X := Unit) (fun z => y1 = z) (fun _ _ => [(2, ptr b1 0), (3, ptr b2 0)]) (fun z _ => [box b2 [.int .i64 ((gx a_list z).Size), (sl (f z))], box b1 [.int .i64 0, (sl (⟨none, 0, 0⟩ : Hd))], own (sl v0a) u0a a_list]) ?_ ?_
  · skip
    refine wc_block ?_
    refine wc_forO (X := Unit) l1 (fun k1 s1 x1l => [(2, ptr b1 0), (3, ptr b2 0), (9, (sl v0a)), (10, .int .i64 ((a_list.length : Nat) : Int)), (11, .int .i64 ((k1 : Nat) : Int))]) (fun k1 s1 x1l => [box b2 [.int .i64 ((gx a_list s1).Size), (sl (f s1))], box b1 [.int .i64 0, (sl (⟨none, 0, 0⟩ : Hd))], own (sl v0a) u0a a_list]) () (sub_cons rfl (sub_cons rfl (sub_cons rfl (sub_cons rfl (sub_cons rfl sub_nil))))) (some_cons pick0 (some_cons pick0 (some_cons pick0 some_nil))) fun k1 s1 x1l hN1 l1 => ?_
    by_cases hk1 : k1 < a_list.length
    · skip
      refine forO_step l1 hk1 fun _ t1 l1 => ?_
      unfold impl_least_L1 at t1
      have c1 : (decide (((k1 : Nat) : Int) < ((a_list.length : Nat) : Int))) = true := decide_eq_true (by omega)
      refine wcr ?_
      refine wl_pure (po_lss rfl rfl) rfl ?_
      refine wnt ?_
      refine wc_seq ?_
      refine wc_cond_t rfl c1 ?_
      refine wc_skip ?_
      refine wq_then ?_
      refine wc_seq ?_
      refine wc_block ?_
      refine gdO t1 fun g3 t1 => ?_
      refine wcr ?_
      refine wl_pure (po_ixn (k := k1) (rds_own (pickS (pickS pick0))) el_42 rfl rfl hk1) rfl ?_
      refine wl_pure (v := .agg #[.int .i64 ((gx a_list k1).Size), (sl (f k1))]) (po_ldns (rds_own (pickS (pickS pick0))) tk_29 rfl (hf k1 hk1) rfl rfl rfl) rfl ?_
      refine wl_eff (eo_alloc (cs := [.int .i64 0, (sl (⟨none, 0, 0⟩ : Hd))]) za_29) rfl fun b3 => ?_
      refine wl_skipop (so_box (cs' := [.int .i64 ((gx a_list k1).Size), (sl (f k1))]) tk_29 pick0 rfl rfl rfl rfl rfl rfl rfl) ?_
      refine wnt ?_
      refine wc_seq ?_
      refine wc_draw [box b3 [.int .i64 ((gx a_list k1).Size), (sl (f k1))], box b2 [.int .i64 ((gx a_list s1).Size), (sl (f s1))], box b1 [.int .i64 0, (sl (⟨none, 0, 0⟩ : Hd))], own (sl v0a) u0a a_list] 5 mixed ?_
      refine wa_pure (v := .agg #[.int .i64 ((gx a_list k1).Size), (sl (f k1))]) 0 rfl (po_load_boxs tk_29 pick0 rfl rfl rfl) (some_cons pick0 (some_cons pick0 (some_cons pick0 (some_cons pick0 some_nil)))) rfl (by kernel_rfl) (fun _ _ _ h => h) ?_
      refine wa_pure (v := .agg #[.int .i64 ((gx a_list s1).Size), (sl (f s1))]) 2 rfl (po_load_boxs tk_29 (pickS pick0) rfl rfl rfl) (some_cons pick0 (some_cons pick0 (some_cons pick0 (some_cons pick0 some_nil)))) rfl (by kernel_rfl) (fun _ _ _ h => h) ?_
      refine wa_1 (i := 1) (by kernel_rfl) ?_
      refine bdO t1 fun v1 hv1 t1 => ?_
      refine ws_call rfl (co_c0 fa_45 rfl fun w hw => c_impl_TextOf w (gx a_list k1) (f k1) (Rg.on (er_GBlock_0 (hf k1 hk1) (rds_own (pickS (pickS (pickS pick0)))) hk1) hw) hv1) (fun _ => (sts_some (some_cons pick0 (some_cons pick0 (some_cons pick0 (some_cons pick0 some_nil)))))) rfl fun _ => ?_
      refine wa_1 (i := 3) (by kernel_rfl) ?_
      refine bdO t1 fun v2 hv2 t1 => ?_
      refine ws_call rfl (co_c0 fa_45 rfl fun w hw => c_impl_TextOf w (gx a_list s1) (f s1) (Rg.on (er_GBlock_0 (hf s1 g3) (rds_own (pickS (pickS (pickS pick0)))) g3) hw) hv2) (fun _ => (sts_some (some_cons pick0 (some_cons pick0 (some_cons pick0 (some_cons pick0 some_nil)))))) rfl fun _ => ?_
      refine wa_pure 4 rfl (po_slss rfl rfl) (some_cons pick0 (some_cons pick0 (some_cons pick0 (some_cons pick0 some_nil)))) rfl (by kernel_rfl) (fun _ _ _ h => h) ?_
      refine wa_done (by kernel_rfl) ?_
      refine wq_then ?_
      refine wc_join (X := Unit) (fun _ => True) (fun _ => [(2, ptr b1 0), (3, ptr b2 0), (9, (sl v0a)), (10, .int .i64 ((a_list.length : Nat) : Int)), (11, .int .i64 ((k1 : Nat) : Int))]) (fun _ => [box b2 [.int .i64 ((gx a_list (bif slt v1 v2 then k1 else s1)).Size), (sl (f (bif slt v1 v2 then k1 else s1)))], box b1 [.int .i64 0, (sl (⟨none, 0, 0⟩ : Hd))], own (sl v0a) u0a a_list]) ?_ ?_
      · skip
        refine wc_cond rfl (fun h2 => ?_) fun h2 => ?_
        · skip
          refine wc_region ?_
          refine wl_pure (v := .agg #[.int .i64 ((gx a_list k1).Size), (sl (f k1))]) (po_load_boxs tk_29 pick0 rfl rfl rfl) rfl ?_
          refine wl_skipop (so_box (cs' := [.int .i64 ((gx a_list k1).Size), (sl (f k1))]) tk_29 (pickS pick0) rfl rfl rfl rfl rfl rfl rfl) ?_
          refine wl_nil ?_
          rw [h2]
          exact wq_meet () trivial (sub_cons rfl (sub_cons rfl (sub_cons rfl (sub_cons rfl (sub_cons rfl sub_nil))))) (some_cons pick0 (some_cons (pickS pick0) (some_cons (pickS pick0) some_nil)))
        refine wc_skip ?_
        rw [h2]
        exact wq_meet () trivial (sub_cons rfl (sub_cons rfl (sub_cons rfl (sub_cons rfl (sub_cons rfl sub_nil))))) (some_cons (pickS pick0) (some_cons (pickS pick0) (some_cons (pickS pick0) some_nil)))
      intro x4 _
      refine wq_block ?_
      refine wq_then ?_
      refine wc_region ?_
      refine wl_pure (po_inc rfl rfl (by omega)) rfl ?_
      refine mv rfl rfl ?_
      refine wl_nil ?_
      exact wq_rnd hk1 (stpN l1 t1) () (sub_cons rfl (sub_cons rfl (sub_cons rfl (sub_cons rfl (sub_cons rfl sub_nil))))) (some_cons pick0 (some_cons pick0 (some_cons pick0 some_nil)))
    have c1 : (decide (((k1 : Nat) : Int) < ((a_list.length : Nat) : Int))) = false := decide_eq_false (by omega)
    have en1 := forO_end l1 hk1
    refine wcr ?_
    refine wl_pure (po_lss rfl rfl) rfl ?_
    refine wnt ?_
    refine wc_seq ?_
    refine wc_cond_f rfl c1 ?_
    refine wc_exit ?_
    refine wq_then_exit ?_
    refine wq_then_exit ?_
    refine wq_block_exit ?_
    exact wj_meet _ () (Sum.inl.inj en1) (sub_cons rfl (sub_cons rfl sub_nil)) (some_cons pick0 (some_cons pick0 (some_cons pick0 some_nil)))
  intro e1 x2 hp
  obtain rfl : e1 = y1 := hp.symm
  refine gdO t0 fun g4 t0 => ?_
  refine wq_then ?_
  refine wcr ?_
  refine wl_pure (v := .agg #[.int .i64 ((gx a_list e1).Size), (sl (f e1))]) (po_load_boxs tk_29 pick0 rfl rfl rfl) rfl ?_
  refine wl_skipop (so_box (cs' := [.int .i64 ((gx a_list e1).Size), (sl (f e1))]) tk_29 (pickS pick0) rfl rfl rfl rfl rfl rfl rfl) ?_
  refine wnt ?_
  refine wc_ret ?_
  obtain rfl := Option.some.inj t0
  exact wq_retc rfl tk_29 rfl pick0 rfl fun w hw => ⟨f e1, rfl, ((hw.ent (take_elem (pickS (pickS pick0)) g4 (hf e1 g4))).ent un_GBlock).weak (some_cons pick0 some_nil)⟩

theorem c_impl_LeastPattern (w : World) (a_b : GBlock) (v0a : Hd) (r0 : rdF w (dm w []) (sl v0a) a_b.Cells) {r : GBlock} (t0 : impl_LeastPattern a_b = some r) : Calls Tryd.prog 19 #[.agg #[.int .i64 a_b.Size, (sl v0a)]] w fun e w' => ∃ x : Hd, e = .returned (.agg #[.int .i64 r.Size, (sl x)]) ∧ SH w [] [ownF (sl x) r.Cells] w' := by
  refine calls_of_wc (args := [_]) Tryd.func19 rfl Tryd.ntmps19 rfl ?_
  unfold impl_LeastPattern at t0
  refine wcr ?_
  refine wl_eff (eo_box rfl rfl) rfl fun b1 => ?_
  refine wl_eff (eo_alloc (cs := [.int .i64 0, (sl (⟨none, 0, 0⟩ : Hd))]) za_29) rfl fun b2 => ?_
  refine wnt ?_
  refine wc_seq ?_
  refine wcr ?_
  refine wl_pure (v := .agg #[.int .i64 a_b.Size, (sl v0a)]) (po_load_boxs tk_29 (pickS pick0) rfl rfl rfl) rfl ?_
  refine bdO t0 fun v1 hv1 t0 => ?_
  refine wl_call (co_c0 fa_24 rfl fun w hw => c_impl_BlockOk w a_b v0a (Rg.on (rds_arg r0) hw) hv1) rfl fun _ => ?_
  refine wl_pure (po_not rfl) rfl ?_
  refine wnt ?_
  refine wcO t0 rfl (fun h1 t0 => ?_) fun h1 t0 => ?_
  · skip
    refine wcr ?_
    refine wl_pure (po_build rfl bd_29) rfl ?_
    refine wl_skipop (so_box (cs' := [.int .i64 0, (sl (⟨none, 0, 0⟩ : Hd))]) tk_29 pick0 rfl rfl rfl rfl rfl rfl rfl) ?_
    refine wnt ?_
    refine wc_ret ?_
    refine wq_then_ret ?_
    obtain rfl := Option.some.inj t0
    exact wq_retc rfl tk_29 rfl pick0 rfl fun w hw => ⟨(⟨none, 0, 0⟩ : Hd), rfl, hw.weak (some_cons pick_nil some_nil)⟩
  refine wc_skip ?_
  refine wq_then ?_
  refine wcr ?_
  refine wl_eff (eo_buildSlice rfl sb_42_0) rfl fun b3 => ?_
  refine asg rfl rfl ?_
  refine wnt ?_
  refine wc_seq ?_
  refine wcr ?_
  refine wl_pure (v := .agg #[.int .i64 a_b.Size, (sl v0a)]) (po_load_boxs tk_29 (pickS (pickS pick0)) rfl rfl rfl) rfl ?_
  refine bdO t0 fun v2 hv2 t0 => ?_
  refine wl_call (co_c1 fa_31 rfl fun w hw => c_impl_views w a_b v0a (Rg.on (rds_arg r0) hw) hv2) rfl fun x1 => ?_
  refine wl_pure (po_lenr (rds_own pick0) el_42 rfl) rfl ?_
  refine mv rfl rfl ?_
  refine wnt ?_
  refine gdO t0 fun g1 t0 => ?_
  refine lpO_inv t0 fun y1 l1 t0 => ?_
  refine wj (J := List GBlock) (X := Hd × (List Value)) (fun z => y1 = z) (fun _ x => [(2, ptr b2 0), (3, (sl x.1))]) (fun z x => [box b2 [.int .i64 0, (sl (⟨none, 0, 0⟩ : Hd))], own (sl x.1) x.2 z]) ?_ ?_
  · skip
    refine wc_block ?_
    refine wc_forO (X := Hd × (List Value)) l1 (fun k1 s1 x1l => [(2, ptr b2 0), (3, (sl x1l.1)), (12, (sl x1.1)), (13, .int .i64 ((v2.length : Nat) : Int)), (14, .int .i64 ((k1 : Nat) : Int))]) (fun k1 s1 x1l => [own (sl x1.1) x1.2 v2, box b2 [.int .i64 0, (sl (⟨none, 0, 0⟩ : Hd))], own (sl x1l.1) x1l.2 s1]) ((⟨some ⟨b3, 0, none⟩, 0, 0⟩ : Hd), []) (sub_cons rfl (sub_cons rfl (sub_cons rfl (sub_cons rfl (sub_cons rfl sub_nil))))) (some_cons pick0 (some_cons (pickS pick0) (some_cons (pick_box_nil pick0) some_nil))) fun k1 s1 x1l hN1 l1 => ?_
    by_cases hk1 : k1 < v2.length
    · skip
      refine forO_step l1 hk1 fun _ t1 l1 => ?_
      unfold impl_LeastPattern_L1 at t1
      have c1 : (decide (((k1 : Nat) : Int) < ((v2.length : Nat) : Int))) = true := decide_eq_true (by omega)
      refine wcr ?_
      refine wl_pure (po_lss rfl rfl) rfl ?_
      refine wnt ?_
      refine wc_seq ?_
      refine wc_cond_t rfl c1 ?_
      refine wc_skip ?_
      refine wq_then ?_
      refine wc_seq ?_
      refine wc_block ?_
      refine wcr ?_
      refine wl_pure (po_ixn (k := k1) (rds_own pick0) el_42 rfl rfl hk1) rfl ?_
      refine wl_elem (rds_own pick0) hk1 ?_
      rintro ⟨_, _, he1⟩
      obtain ⟨w1, hc1, _⟩ := rd_GBlock.1 he1
      refine wl_pure (v := .agg #[.int .i64 ((gx v2 k1).Size), (sl w1)]) (po_ldns (rds_own pick0) tk_29 rfl hc1 rfl rfl rfl) rfl ?_
      refine wl_eff (eo_alloc (cs := [.int .i64 0, (sl (⟨none, 0, 0⟩ : Hd))]) za_29) rfl fun b4 => ?_
      refine wl_skipop (so_box (cs' := [.int .i64 ((gx v2 k1).Size), (sl w1)]) tk_29 pick0 rfl rfl rfl rfl rfl rfl rfl) ?_
      refine wnt ?_
      refine wc_region ?_
      refine mv rfl rfl ?_
      refine wl_pure (v := .agg #[.int .i64 ((gx v2 k1).Size), (sl w1)]) (po_load_boxs tk_29 pick0 rfl rfl rfl) rfl ?_
      refine bdO t1 fun v3 hv3 t1 => ?_
      refine wl_call (co_c1 fa_35 rfl fun w hw => c_impl_plain w (gx v2 k1) w1 (Rg.on (er_GBlock_0 hc1 (rds_own (pickS pick0)) hk1) hw) hv3) rfl fun x3 => ?_
      refine wl_eff (eo_buildSlice rfl (sb_42_1 v3.Size x3)) rfl fun b5 => ?_
      refine gdO t1 fun g2 t1 => ?_
      refine wl_eff (eo_append_one (us := x1l.2) (xs := s1) ak_42 (pickS (pickS (pickS (pickS (pickS pick0))))) (pow_GBlock (x := v3) (pickS pick0)) pick0 rfl rfl rfl g2) rfl fun x4 => ?_
      refine asg rfl rfl ?_
      refine wl_nil ?_
      refine wq_block ?_
      refine wq_then ?_
      refine wc_region ?_
      refine wl_pure (po_inc rfl rfl (by omega)) rfl ?_
      refine mv rfl rfl ?_
      refine wl_nil ?_
      exact wq_rnd hk1 (stpN l1 t1) (x4, (x1l.2 ++ [.int .i64 v3.Size, (sl x3)])) (sub_cons rfl (sub_cons rfl (sub_cons rfl (sub_cons rfl (sub_cons rfl sub_nil))))) (some_cons (pickS (pickS (pickS pick0))) (some_cons (pickS (pickS (pickS pick0))) (some_cons pick0 some_nil)))
    have c1 : (decide (((k1 : Nat) : Int) < ((v2.length : Nat) : Int))) = false := decide_eq_false (by omega)
    have en1 := forO_end l1 hk1
    refine wcr ?_
    refine wl_pure (po_lss rfl rfl) rfl ?_
    refine wnt ?_
    refine wc_seq ?_
    refine wc_cond_f rfl c1 ?_
    refine wc_exit ?_
    refine wq_then_exit ?_
    refine wq_then_exit ?_
    refine wq_block_exit ?_
    exact wj_meet _ (x1l.1, x1l.2) (Sum.inl.inj en1) (sub_cons rfl (sub_cons rfl sub_nil)) (some_cons (pickS pick0) (some_cons (pickS pick0) some_nil))
  intro e1 x2 hp
  obtain rfl : e1 = y1 := hp.symm
  refine wq_then ?_
  refine wcr ?_
  refine mv rfl rfl ?_
  refine bdO t0 fun v4 hv4 t0 => ?_
  refine wl_call (co_o1 [own (sl x2.1) x2.2 e1] fa_30 (some_cons (pickS pick0) some_refl) rfl fun w fp hw => c_impl_least w fp e1 x2.1 x2.2 hw.ow hv4) rfl fun x5 => ?_
  refine wl_skipop (so_box (cs' := [.int .i64 v4.Size, (sl x5)]) tk_29 (pickS pick0) rfl rfl rfl rfl rfl rfl rfl) ?_
  refine wnt ?_
  refine wc_ret ?_
  obtain rfl := Option.some.inj t0
  exact wq_retc rfl tk_29 rfl pick0 rfl fun w hw => ⟨x5, rfl, hw.weak (some_cons (pickS pick0) some_nil)⟩

theorem c_impl_SameBlock (w : World) (a_b : GBlock) (v0a : Hd) (r0 : rdF w (dm w []) (sl v0a) a_b.Cells) (a_d : GBlock) (v1a : Hd) (r1 : rdF w (dm w []) (sl v1a) a_d.Cells) {r : Bool} (t0 : impl_SameBlock a_b a_d = some r) : Calls Tryd.prog 25 #[.agg #[.int .i64 a_b.Size, (sl v0a)], .agg #[.int .i64 a_d.Size, (sl v1a)]] w fun e w' => e = .returned (.bool r) ∧ SH w [] [] w' := by
  refine calls_of_wc (args := [_, _]) Tryd.func25 rfl Tryd.ntmps25 rfl ?_
  unfold impl_SameBlock at t0
  refine wcr ?_
  refine wl_eff (eo_box rfl rfl) rfl fun b1 => ?_
  refine wl_eff (eo_box rfl rfl) rfl fun b2 => ?_
  refine asg rfl rfl ?_
  refine wnt ?_
  refine wc_seq ?_
  refine wc_seq ?_
  refine wc_join (X := Unit) (fun _ => True) (fun _ => [(2, ptr b1 0), (3, ptr b2 0), (19, .bool ((a_b.Size != a_d.Size) || (((a_b.Cells.length : Nat) : Int) != ((a_d.Cells.length : Nat) : Int))))]) (fun _ => [box b2 [.int .i64 a_d.Size, (sl v1a)], box b1 [.int .i64 a_b.Size, (sl v0a)]]) ?_ ?_
  · skip
    refine wc_region ?_
    refine wl_pure (po_fld fo_29_0 rfl) rfl ?_
    refine wl_pure (v := .int .i64 a_b.Size) (po_load_box tk_3 (pickS pick0) rfl rfl) rfl ?_
    refine wl_pure (po_fld fo_29_0 rfl) rfl ?_
    refine wl_pure (v := .int .i64 a_d.Size) (po_load_box tk_3 pick0 rfl rfl) rfl ?_
    refine wl_pure (po_neq rfl rfl) rfl ?_
    refine mv rfl rfl ?_
    refine wl_fork (t := 11) rfl (fun h1 => ?_) fun h1 => ?_
    · skip
      refine wl_guard_off (j := 5) rfl rfl rfl rfl rfl ?_
      refine wl_guard_off (j := 5) rfl rfl rfl rfl rfl ?_
      refine wl_guard_off (j := 5) rfl rfl rfl rfl rfl ?_
      refine wl_guard_off (j := 5) rfl rfl rfl rfl rfl ?_
      refine wl_guard_off (j := 5) rfl rfl rfl rfl rfl ?_
      refine wl_guard_off (j := 5) rfl rfl rfl rfl rfl ?_
      refine wl_guard_off (j := 5) rfl rfl rfl rfl rfl ?_
      refine wl_pure (po_pick_t rfl rfl) rfl ?_
      refine wl_nil ?_
      exact wq_meet () trivial (sub_cons rfl (sub_cons rfl (sub_b rfl (by rw [h1]; rfl) sub_nil))) (some_cons pick0 (some_cons pick0 some_nil))
    refine wl_guard_on (j := 5) rfl rfl rfl (wl_pure (po_fld fo_29_1 rfl) rfl ?_)
    refine wl_guard_on (j := 5) rfl rfl rfl (wl_pure (v := (sl v0a)) (po_load_box tk_27 (pickS pick0) rfl rfl) rfl ?_)
    refine wl_guard_on (j := 5) rfl rfl rfl (wl_pure (po_lenr (rds_arg r0) el_27 rfl) rfl ?_)
    refine wl_guard_on (j := 5) rfl rfl rfl (wl_pure (po_fld fo_29_1 rfl) rfl ?_)
    refine wl_guard_on (j := 5) rfl rfl rfl (wl_pure (v := (sl v1a)) (po_load_box tk_27 pick0 rfl rfl) rfl ?_)
    refine wl_guard_on (j := 5) rfl rfl rfl (wl_pure (po_lenr (rds_arg r1) el_27 rfl) rfl ?_)
    refine wl_guard_on (j := 5) rfl rfl rfl (wl_pure (po_neq rfl rfl) rfl ?_)
    refine wl_pure (po_pick_f rfl rfl) rfl ?_
    refine wl_nil ?_
    exact wq_meet () trivial (sub_cons rfl (sub_cons rfl (sub_b rfl (by rw [h1]; rfl) sub_nil))) (some_cons pick0 (some_cons pick0 some_nil))
  intro _ _
  refine wq_then ?_
  refine wcO t0 rfl (fun h2 t0 => ?_) fun h2 t0 => ?_
  · skip
    refine wcr ?_
    refine asg rfl rfl ?_
    refine wnt ?_
    refine wc_ret ?_
    refine wq_then_ret ?_
    obtain rfl := Option.some.inj t0
    exact wq_ret1 rfl rfl fun w hw => ⟨rfl, hw.weak some_nil⟩
  refine wc_skip ?_
  refine wq_then ?_
  refine wc_seq ?_
  refine wcr ?_
  refine wl_pure (po_fld fo_29_1 rfl) rfl ?_
  refine wl_pure (v := (sl v0a)) (po_load_box tk_27 (pickS pick0) rfl rfl) rfl ?_
  refine wl_pure (po_lenr (rds_arg r0) el_27 rfl) rfl ?_
  refine mv rfl rfl ?_
  refine wnt ?_
  refine gdO t0 fun g1 t0 => ?_
  refine sqO t0 fun y1 l1 t0 => ?_
  refine wj (J := Unit) (X := Unit) (fun z => y1 = .inl z) (fun _ _ => []) (fun _ _ => []) ?_ ?_
  · skip
    refine wc_block ?_
    refine wc_forO (X := Unit) l1 (fun k1 s1 x1l => [(2, ptr b1 0), (3, ptr b2 0), (22, .int .i64 ((a_b.Cells.length : Nat) : Int)), (23, .int .i64 ((k1 : Nat) : Int))]) (fun k1 s1 x1l => [box b2 [.int .i64 a_d.Size, (sl v1a)], box b1 [.int .i64 a_b.Size, (sl v0a)]]) () (sub_cons rfl (sub_cons rfl (sub_cons rfl (sub_cons rfl sub_nil)))) (some_cons pick0 (some_cons pick0 some_nil)) fun k1 s1 x1l hN1 l1 => ?_
    by_cases hk1 : k1 < a_b.Cells.length
    · skip
      refine forO_step l1 hk1 fun _ t1 l1 => ?_
      unfold impl_SameBlock_L1 at t1
      have c1 : (decide (((k1 : Nat) : Int) < ((a_b.Cells.length : Nat) : Int))) = true := decide_eq_true (by omega)
      refine wcr ?_
      refine wl_pure (po_lss rfl rfl) rfl ?_
      refine wnt ?_
      refine wc_seq ?_
      refine wc_cond_t rfl c1 ?_
      refine wc_skip ?_
      refine wq_then ?_
      refine wc_seq ?_
      refine wc_block ?_
      refine wcr ?_
      refine mv rfl rfl ?_
      refine asg rfl rfl ?_
      refine wnt ?_
      refine wc_seq ?_
      refine wc_draw [box b2 [.int .i64 a_d.Size, (sl v1a)], box b1 [.int .i64 a_b.Size, (sl v0a)]] 11 mixed ?_
      refine wa_pure 0 rfl (po_fld fo_29_1 rfl) (some_cons pick0 (some_cons pick0 some_nil)) rfl (by kernel_rfl) (fun _ _ _ h => h) ?_
      refine wa_pure (v := (sl v0a)) 1 rfl (po_load_box tk_27 (pickS pick0) rfl rfl) (some_cons pick0 (some_cons pick0 some_nil)) rfl (by kernel_rfl) (fun _ _ _ h => h) ?_
      refine wa_pure 2 rfl (po_move rfl) (some_cons pick0 (some_cons pick0 some_nil)) rfl (by kernel_rfl) (fun _ _ _ h => h) ?_
      refine wa_pure 3 rfl (po_ixn (k := k1) (rds_arg r0) el_27 rfl rfl hk1) (some_cons pick0 (some_cons pick0 some_nil)) rfl (by kernel_rfl) (fun _ _ _ h => h) ?_
      refine wa_pure (v := .agg #[.int .i64 ((gx a_b.Cells k1).Split), .int .i64 ((gx a_b.Cells k1).A), .int .i64 ((gx a_b.Cells k1).B)]) 4 rfl (po_ldfs (rds_arg r0) tk_48 rfl hk1 rfl rfl rfl) (some_cons pick0 (some_cons pick0 some_nil)) rfl (by kernel_rfl) (fun _ _ _ h => h) ?_
      refine wa_pure 5 rfl (po_fld fo_29_1 rfl) (some_cons pick0 (some_cons pick0 some_nil)) rfl (by kernel_rfl) (fun _ _ _ h => h) ?_
      refine wa_pure (v := (sl v1a)) 6 rfl (po_load_box tk_27 pick0 rfl rfl) (some_cons pick0 (some_cons pick0 some_nil)) rfl (by kernel_rfl) (fun _ _ _ h => h) ?_
      refine wa_pure 7 rfl (po_move rfl) (some_cons pick0 (some_cons pick0 some_nil)) rfl (by kernel_rfl) (fun _ _ _ h => h) ?_
      refine gdO t1 fun g2 t1 => ?_
      refine wa_pure 8 rfl (po_ixn (k := k1) (rds_arg r1) el_27 rfl rfl g2) (some_cons pick0 (some_cons pick0 some_nil)) rfl (by kernel_rfl) (fun _ _ _ h => h) ?_
      refine wa_pure (v := .agg #[.int .i64 ((gx a_d.Cells k1).Split), .int .i64 ((gx a_d.Cells k1).A), .int .i64 ((gx a_d.Cells k1).B)]) 9 rfl (po_ldfs (rds_arg r1) tk_48 rfl g2 rfl rfl rfl) (some_cons pick0 (some_cons pick0 some_nil)) rfl (by kernel_rfl) (fun _ _ _ h => h) ?_
      refine wa_pure 10 rfl (po_neq_struct (ps := [(gx a_b.Cells k1).Split, (gx a_b.Cells k1).A, (gx a_b.Cells k1).B]) (qs := [(gx a_d.Cells k1).Split, (gx a_d.Cells k1).A, (gx a_d.Cells k1).B]) sq_48 rfl rfl rfl rfl) (some_cons pick0 (some_cons pick0 some_nil)) rfl (by kernel_rfl) (fun _ _ _ h => h) ?_
      refine wa_done (by kernel_rfl) ?_
      refine wq_then ?_
      refine wcO t1 rfl (fun h3 t1 => ?_) fun h3 t1 => ?_
      · skip
        refine wcr ?_
        refine asg rfl rfl ?_
        refine wnt ?_
        refine wc_ret ?_
        refine wq_block_ret ?_
        refine wq_then_ret ?_
        refine wq_then_ret ?_
        refine wq_block_ret ?_
        refine wq_then_ret ?_
        refine wq_then_ret ?_
        replace t0 := lpR t0 l1 t1
        obtain rfl := Option.some.inj t0
        exact wq_ret1 rfl rfl fun w hw => ⟨rfl, hw.weak some_nil⟩
      refine wc_skip ?_
      refine wq_block ?_
      refine wq_then ?_
      refine wc_region ?_
      refine wl_pure (po_inc rfl rfl (by omega)) rfl ?_
      refine mv rfl rfl ?_
      refine wl_nil ?_
      exact wq_rnd hk1 (stpN l1 t1) () (sub_cons rfl (sub_cons rfl (sub_cons rfl (sub_cons rfl sub_nil)))) (some_cons pick0 (some_cons pick0 some_nil))
    have c1 : (decide (((k1 : Nat) : Int) < ((a_b.Cells.length : Nat) : Int))) = false := decide_eq_false (by omega)
    have en1 := forO_end l1 hk1
    refine wcr ?_
    refine wl_pure (po_lss rfl rfl) rfl ?_
    refine wnt ?_
    refine wc_seq ?_
    refine wc_cond_f rfl c1 ?_
    refine wc_exit ?_
    refine wq_then_exit ?_
    refine wq_then_exit ?_
    refine wq_block_exit ?_
    exact wj_meet _ () en1 sub_nil some_nil
  intro e1 _ hp
  replace t0 := sqE (j := e1) t0 hp
  refine wq_then ?_
  refine wcr ?_
  refine asg rfl rfl ?_
  refine wnt ?_
  refine wc_ret ?_
  obtain rfl := Option.some.inj t0
  exact wq_ret1 rfl rfl fun w hw => ⟨rfl, hw.weak some_nil⟩

theorem c_impl_ArePatternsSame (w : World) (a_b : GBlock) (v0a : Hd) (r0 : rdF w (dm w []) (sl v0a) a_b.Cells) (a_d : GBlock) (v1a : Hd) (r1 : rdF w (dm w []) (sl v1a) a_d.Cells) {r : Bool} (t0 : impl_ArePatternsSame a_b a_d = some r) : Calls Tryd.prog 17 #[.agg #[.int .i64 a_b.Size, (sl v0a)], .agg #[.int .i64 a_d.Size, (sl v1a)]] w fun e w' => e = .returned (.bool r) ∧ SH w [] [] w' := by
  refine calls_of_wc (args := [_, _]) Tryd.func17 rfl Tryd.ntmps17 rfl ?_
  unfold impl_ArePatternsSame at t0
  refine wcr ?_
  refine wl_eff (eo_box rfl rfl) rfl fun b1 => ?_
  refine wl_eff (eo_box rfl rfl) rfl fun b2 => ?_
  refine asg rfl rfl ?_
  refine wnt ?_
  refine wc_seq ?_
  refine bdO t0 fun y1 t1 t0 => ?_
  refine wj (J := Bool) (X := Unit) (fun z => y1 = z) (fun z _ => [(4, .bool z)]) (fun _ _ => []) ?_ ?_
  · skip
    refine wc_draw [box b2 [.int .i64 a_d.Size, (sl v1a)], box b1 [.int .i64 a_b.Size, (sl v0a)]] 14 mixed ?_
    refine wa_pure (v := .agg #[.int .i64 a_b.Size, (sl v0a)]) 0 rfl (po_load_boxs tk_29 (pickS pick0) rfl rfl rfl) (some_cons pick0 (some_cons pick0 some_nil)) rfl (by kernel_rfl) (fun _ _ _ h => h) ?_
    refine wa_1 (i := 1) (by kernel_rfl) ?_
    refine bdO t1 fun v1 hv1 t1 => ?_
    refine ws_call rfl (co_c0 fa_24 rfl fun w hw => c_impl_BlockOk w a_b v0a (Rg.on (rds_arg r0) hw) hv1) (fun _ => (sts_some (some_cons pick0 (some_cons pick0 some_nil)))) rfl fun _ => ?_
    refine wa_pure 2 rfl (po_move rfl) (some_cons pick0 (some_cons pick0 some_nil)) rfl (by kernel_rfl) (fun _ _ _ h => h) ?_
    refine waO_ (t := 7) t1 rfl (fun h1 t1 => ?_) fun h1 t1 => ?_
    · skip
      refine wa_pure_on (v := .agg #[.int .i64 a_d.Size, (sl v1a)]) 3 (j := 2) rfl rfl rfl rfl (po_load_boxs tk_29 pick0 rfl rfl rfl) (some_cons pick0 (some_cons pick0 some_nil)) rfl (by kernel_rfl) (fun _ _ _ h => h) ?_
      refine wa_1 (i := 4) (by kernel_rfl) ?_
      refine bdO t1 fun v2 hv2 t1 => ?_
      refine ws_call_on (j := 2) rfl rfl rfl rfl (co_c0 fa_24 rfl fun w hw => c_impl_BlockOk w a_d v1a (Rg.on (rds_arg r1) hw) hv2) (fun _ => (sts_some (some_cons pick0 (some_cons pick0 some_nil)))) rfl fun _ => ?_
      refine wa_pure 5 rfl (po_pick_t rfl rfl) (some_cons pick0 (some_cons pick0 some_nil)) rfl (by kernel_rfl) (fun _ _ _ h => h) ?_
      refine wa_pure 6 rfl (po_move rfl) (some_cons pick0 (some_cons pick0 some_nil)) rfl (by kernel_rfl) (fun _ _ _ h => h) ?_
      refine waO_ (t := 11) t1 rfl (fun h2 t1 => ?_) fun h2 t1 => ?_
      · skip
        refine wa_pure_on (v := .agg #[.int .i64 a_b.Size, (sl v0a)]) 7 (j := 6) rfl rfl rfl rfl (po_load_boxs tk_29 (pickS pick0) rfl rfl rfl) (some_cons pick0 (some_cons pick0 some_nil)) rfl (by kernel_rfl) (fun _ _ _ h => h) ?_
        refine wa_pure_on (v := .agg #[.int .i64 a_d.Size, (sl v1a)]) 9 (j := 6) rfl rfl rfl rfl (po_load_boxs tk_29 pick0 rfl rfl rfl) (some_cons pick0 (some_cons pick0 some_nil)) rfl (by kernel_rfl) (fun _ _ _ h => h) ?_
        refine wa_1 (i := 8) (by kernel_rfl) ?_
        refine bdO t1 fun v3 hv3 t1 => ?_
        refine ws_call_on (j := 6) rfl rfl rfl rfl (co_c1 fa_19 rfl fun w hw => c_impl_LeastPattern w a_b v0a (Rg.on (rds_arg r0) hw) hv3) (fun _ => (sts_some (some_cons (pickS pick0) (some_cons (pickS pick0) some_nil)))) rfl fun x2 => ?_
        refine wa_1 (i := 10) (by kernel_rfl) ?_
        refine bdO t1 fun v4 hv4 t1 => ?_
        refine ws_call_on (j := 6) rfl rfl rfl rfl (co_c1 fa_19 rfl fun w hw => c_impl_LeastPattern w a_d v1a (Rg.on (rds_arg r1) hw) hv4) (fun _ => (sts_some (some_cons (pickS (pickS pick0)) (some_cons (pickS (pickS pick0)) some_nil)))) rfl fun x3 => ?_
        refine wa_1 (i := 11) (by kernel_rfl) ?_
        refine bdO t1 fun v5 hv5 t1 => ?_
        refine ws_call_on (j := 6) rfl rfl rfl rfl (co_c0 fa_25 rfl fun w hw => c_impl_SameBlock w v3 x2 (Rg.on (rds_own (pickS pick0)) hw) v4 x3 (Rg.on (rds_own pick0) hw) hv5) (fun _ => (sts_some (some_cons (pickS (pickS pick0)) (some_cons (pickS (pickS pick0)) some_nil)))) rfl fun _ => ?_
        refine wa_pure 12 rfl (po_pick_t rfl rfl) (some_cons (pickS (pickS pick0)) (some_cons (pickS (pickS pick0)) some_nil)) rfl (by kernel_rfl) (fun _ _ _ h => h) ?_
        refine wa_pure 13 rfl (po_assign rfl) (some_cons (pickS (pickS pick0)) (some_cons (pickS (pickS pick0)) some_nil)) rfl (by kernel_rfl) (fun _ _ _ h => h) ?_
        refine wa_done (by kernel_rfl) ?_
        exact wj_meet _ () (mtE t1) (sub_cons rfl sub_nil) some_nil
      refine wa_off 7 (j := 6) rfl rfl rfl rfl rfl (some_cons pick0 (some_cons pick0 some_nil)) rfl (by kernel_rfl) (fun _ _ _ h => h) ?_
      refine wa_off 8 (j := 6) rfl rfl rfl rfl rfl (some_cons pick0 (some_cons pick0 some_nil)) rfl (by kernel_rfl) (fun _ _ _ h => h) ?_
      refine wa_off 9 (j := 6) rfl rfl rfl rfl rfl (some_cons pick0 (some_cons pick0 some_nil)) rfl (by kernel_rfl) (fun _ _ _ h => h) ?_
      refine wa_off 10 (j := 6) rfl rfl rfl rfl rfl (some_cons pick0 (some_cons pick0 some_nil)) rfl (by kernel_rfl) (fun _ _ _ h => h) ?_
      refine wa_off 11 (j := 6) rfl rfl rfl rfl rfl (some_cons pick0 (some_cons pick0 some_nil)) rfl (by kernel_rfl) (fun _ _ _ h => h) ?_
      refine wa_pure 12 rfl (po_pick_f rfl rfl) (some_cons pick0 (some_cons pick0 some_nil)) rfl (by kernel_rfl) (fun _ _ _ h => h) ?_
      refine wa_pure 13 rfl (po_assign rfl) (some_cons pick0 (some_cons pick0 some_nil)) rfl (by kernel_rfl) (fun _ _ _ h => h) ?_
      refine wa_done (by kernel_rfl) ?_
      exact wj_meet _ () (mtE t1) (sub_cons rfl sub_nil) some_nil
    refine wa_off 3 (j := 2) rfl rfl rfl rfl rfl (some_cons pick0 (some_cons pick0 some_nil)) rfl (by kernel_rfl) (fun _ _ _ h => h) ?_
    refine wa_off 4 (j := 2) rfl rfl rfl rfl rfl (some_cons pick0 (some_cons pick0 some_nil)) rfl (by kernel_rfl) (fun _ _ _ h => h) ?_
    refine wa_pure 5 rfl (po_pick_f rfl rfl) (some_cons pick0 (some_cons pick0 some_nil)) rfl (by kernel_rfl) (fun _ _ _ h => h) ?_
    refine wa_pure 6 rfl (po_move rfl) (some_cons pick0 (some_cons pick0 some_nil)) rfl (by kernel_rfl) (fun _ _ _ h => h) ?_
    refine wa_off 7 (j := 6) rfl rfl rfl rfl rfl (some_cons pick0 (some_cons pick0 some_nil)) rfl (by kernel_rfl) (fun _ _ _ h => h) ?_
    refine wa_off 8 (j := 6) rfl rfl rfl rfl rfl (some_cons pick0 (some_cons pick0 some_nil)) rfl (by kernel_rfl) (fun _ _ _ h => h) ?_
    refine wa_off 9 (j := 6) rfl rfl rfl rfl rfl (some_cons pick0 (some_cons pick0 some_nil)) rfl (by kernel_rfl) (fun _ _ _ h => h) ?_
    refine wa_off 10 (j := 6) rfl rfl rfl rfl rfl (some_cons pick0 (some_cons pick0 some_nil)) rfl (by kernel_rfl) (fun _ _ _ h => h) ?_
    refine wa_off 11 (j := 6) rfl rfl rfl rfl rfl (some_cons pick0 (some_cons pick0 some_nil)) rfl (by kernel_rfl) (fun _ _ _ h => h) ?_
    refine wa_pure 12 rfl (po_pick_f rfl rfl) (some_cons pick0 (some_cons pick0 some_nil)) rfl (by kernel_rfl) (fun _ _ _ h => h) ?_
    refine wa_pure 13 rfl (po_assign rfl) (some_cons pick0 (some_cons pick0 some_nil)) rfl (by kernel_rfl) (fun _ _ _ h => h) ?_
    refine wa_done (by kernel_rfl) ?_
    exact wj_meet _ () (mtE t1) (sub_cons rfl sub_nil) some_nil
  intro j1 _ hp
  obtain rfl : j1 = y1 := hp.symm
  refine wq_then ?_
  refine wc_ret ?_
  obtain rfl := Option.some.inj t0
  exact wq_ret1 rfl rfl fun w hw => ⟨rfl, hw.weak some_nil⟩

theorem c_laws_eqCell (w : World) (a_a : GCell) (a_b : GCell) {r : Bool} (t0 : laws_eqCell a_a a_b = some r) : Calls Tryd.prog 41 #[.agg #[.int .i64 a_a.Split, .int .i64 a_a.A, .int .i64 a_a.B], .agg #[.int .i64 a_b.Split, .int .i64 a_b.A, .int .i64 a_b.B]] w fun e w' => e = .returned (.bool r) ∧ SH w [] [] w' := by
  refine calls_of_wc (args := [_, _]) Tryd.func41 rfl Tryd.ntmps41 rfl ?_
  unfold laws_eqCell at t0
  refine wcr ?_
  refine wl_eff (eo_box rfl rfl) rfl fun b1 => ?_
  refine wl_eff (eo_box rfl rfl) rfl fun b2 => ?_
  refine asg rfl rfl ?_
  refine wnt ?_
  refine wc_seq ?_
  refine wcr ?_
  refine wl_pure (po_fld fo_48_0 rfl) rfl ?_
  refine wl_pure (v := .int .i64 a_a.Split) (po_load_box tk_3 (pickS pick0) rfl rfl) rfl ?_
  refine wl_pure (po_fld fo_48_0 rfl) rfl ?_
  refine wl_pure (v := .int .i64 a_b.Split) (po_load_box tk_3 pick0 rfl rfl) rfl ?_
  refine wl_pure (po_neq rfl rfl) rfl ?_
  refine wnt ?_
  refine wcO t0 rfl (fun h1 t0 => ?_) fun h1 t0 => ?_
  · skip
    refine wcr ?_
    refine asg rfl rfl ?_
    refine wnt ?_
    refine wc_ret ?_
    refine wq_then_ret ?_
    obtain rfl := Option.some.inj t0
    exact wq_ret1 rfl rfl fun w hw => ⟨rfl, hw.weak some_nil⟩
  refine wc_skip ?_
  refine wq_then ?_
  refine wc_seq ?_
  refine wcr ?_
  refine wl_pure (po_fld fo_48_1 rfl) rfl ?_
  refine wl_pure (v := .int .i64 a_a.A) (po_load_box tk_3 (pickS pick0) rfl rfl) rfl ?_
  refine wl_pure (po_fld fo_48_1 rfl) rfl ?_
  refine wl_pure (v := .int .i64 a_b.A) (po_load_box tk_3 pick0 rfl rfl) rfl ?_
  refine wl_pure (po_neq rfl rfl) rfl ?_
  refine wnt ?_
  refine wcO t0 rfl (fun h2 t0 => ?_) fun h2 t0 => ?_
  · skip
    refine wcr ?_
    refine asg rfl rfl ?_
    refine wnt ?_
    refine wc_ret ?_
    refine wq_then_ret ?_
    obtain rfl := Option.some.inj t0
    exact wq_ret1 rfl rfl fun w hw => ⟨rfl, hw.weak some_nil⟩
  refine wc_skip ?_
  refine wq_then ?_
  refine wc_seq ?_
  refine wcr ?_
  refine wl_pure (po_fld fo_48_2 rfl) rfl ?_
  refine wl_pure (v := .int .i64 a_a.B) (po_load_box tk_3 (pickS pick0) rfl rfl) rfl ?_
  refine wl_pure (po_fld fo_48_2 rfl) rfl ?_
  refine wl_pure (v := .int .i64 a_b.B) (po_load_box tk_3 pick0 rfl rfl) rfl ?_
  refine wl_pure (po_neq rfl rfl) rfl ?_
  refine wnt ?_
  refine wcO t0 rfl (fun h3 t0 => ?_) fun h3 t0 => ?_
  · skip
    refine wcr ?_
    refine asg rfl rfl ?_
    refine wnt ?_
    refine wc_ret ?_
    refine wq_then_ret ?_
    obtain rfl := Option.some.inj t0
    exact wq_ret1 rfl rfl fun w hw => ⟨rfl, hw.weak some_nil⟩
  refine wc_skip ?_
  refine wq_then ?_
  refine wcr ?_
  refine asg rfl rfl ?_
  refine wnt ?_
  refine wc_ret ?_
  obtain rfl := Option.some.inj t0
  exact wq_ret1 rfl rfl fun w hw => ⟨rfl, hw.weak some_nil⟩

theorem c_laws_eqCellS (w : World) (a_a : List GCell) (v0a : Hd) (r0 : rdF w (dm w []) (sl v0a) a_a) (a_b : List GCell) (v1a : Hd) (r1 : rdF w (dm w []) (sl v1a) a_b) {r : Bool} (t0 : laws_eqCellS a_a a_b = some r) : Calls Tryd.prog 26 #[(sl v0a), (sl v1a)] w fun e w' => e = .returned (.bool r) ∧ SH w [] [] w' := by
  refine calls_of_wc (args := [_, _]) Tryd.func26 rfl Tryd.ntmps26 rfl ?_
  unfold laws_eqCellS at t0
  refine wcr ?_
  refine asg rfl rfl ?_
  refine wnt ?_
  refine wc_seq ?_
  refine wcr ?_
  refine mv rfl rfl ?_
  refine wl_pure (po_lenr (rds_arg r0) el_27 rfl) rfl ?_
  refine mv rfl rfl ?_
  refine wl_pure (po_lenr (rds_arg r1) el_27 rfl) rfl ?_
  refine wl_pure (po_neq rfl rfl) rfl ?_
  refine wnt ?_
  refine wcO t0 rfl (fun h1 t0 => ?_) fun h1 t0 => ?_
  · skip
    refine wcr ?_
    refine asg rfl rfl ?_
    refine wnt ?_
    refine wc_ret ?_
    refine wq_then_ret ?_
    obtain rfl := Option.some.inj t0
    exact wq_ret1 rfl rfl fun w hw => ⟨rfl, hw.weak some_nil⟩
  refine wc_skip ?_
  refine wq_then ?_
  refine wc_seq ?_
  refine wcr ?_
  refine asg rfl rfl ?_
  refine wnt ?_
  refine gdO t0 fun g1 t0 => ?_
  refine sqO t0 fun y1 l1 t0 => ?_
  refine wj (J := Unit) (X := Unit) (fun z => y1 = .inl z) (fun _ _ => []) (fun _ _ => []) ?_ ?_
  · skip
    refine wc_block ?_
    refine wc_forO (X := Unit) l1 (fun k1 s1 x1l => [(0, (sl v0a)), (1, (sl v1a)), (5, .int .i64 ((k1 : Nat) : Int))]) (fun k1 s1 x1l => []) () (sub_cons rfl (sub_cons rfl (sub_cons rfl sub_nil))) some_nil fun k1 s1 x1l hN1 l1 => ?_
    by_cases hk1 : k1 < a_a.length
    · skip
      refine forO_step l1 hk1 fun _ t1 l1 => ?_
      unfold laws_eqCellS_L1 at t1
      have c1 : (decide (((k1 : Nat) : Int) < ((a_a.length : Nat) : Int))) = true := decide_eq_true (by omega)
      refine wc_seq ?_
      refine wcr ?_
      refine mv rfl rfl ?_
      refine mv rfl rfl ?_
      refine wl_pure (po_lenr (rds_arg r0) el_27 rfl) rfl ?_
      refine wl_pure (po_lss rfl rfl) rfl ?_
      refine wnt ?_
      refine wc_cond_t rfl c1 ?_
      refine wc_skip ?_
      refine wq_then ?_
      refine wc_seq ?_
      refine wc_block ?_
      refine wc_seq ?_
      refine wc_draw [] 10 mixed ?_
      refine wa_pure 0 rfl (po_move rfl) some_nil rfl (by kernel_rfl) (fun _ _ _ h => h) ?_
      refine wa_pure 1 rfl (po_move rfl) some_nil rfl (by kernel_rfl) (fun _ _ _ h => h) ?_
      refine wa_pure 2 rfl (po_ixn (k := k1) (rds_arg r0) el_27 rfl rfl hk1) some_nil rfl (by kernel_rfl) (fun _ _ _ h => h) ?_
      refine wa_pure (v := .agg #[.int .i64 ((gx a_a k1).Split), .int .i64 ((gx a_a k1).A), .int .i64 ((gx a_a k1).B)]) 3 rfl (po_ldfs (rds_arg r0) tk_48 rfl hk1 rfl rfl rfl) some_nil rfl (by kernel_rfl) (fun _ _ _ h => h) ?_
      refine wa_pure 4 rfl (po_move rfl) some_nil rfl (by kernel_rfl) (fun _ _ _ h => h) ?_
      refine wa_pure 5 rfl (po_move rfl) some_nil rfl (by kernel_rfl) (fun _ _ _ h => h) ?_
      refine gdO t1 fun g2 t1 => ?_
      refine wa_pure 6 rfl (po_ixn (k := k1) (rds_arg r1) el_27 rfl rfl g2) some_nil rfl (by kernel_rfl) (fun _ _ _ h => h) ?_
      refine wa_pure (v := .agg #[.int .i64 ((gx a_b k1).Split), .int .i64 ((gx a_b k1).A), .int .i64 ((gx a_b k1).B)]) 7 rfl (po_ldfs (rds_arg r1) tk_48 rfl g2 rfl rfl rfl) some_nil rfl (by kernel_rfl) (fun _ _ _ h => h) ?_
      refine wa_1 (i := 8) (by kernel_rfl) ?_
      refine bdO t1 fun v1 hv1 t1 => ?_
      refine ws_call rfl (co_c0 fa_41 rfl fun w hw => c_laws_eqCell w (gx a_a k1) (gx a_b k1) hv1) (fun _ => (sts_some some_nil)) rfl fun _ => ?_
      refine wa_pure 9 rfl (po_not rfl) some_nil rfl (by kernel_rfl) (fun _ _ _ h => h) ?_
      refine wa_done (by kernel_rfl) ?_
      refine wq_then ?_
      refine wcO t1 rfl (fun h2 t1 => ?_) fun h2 t1 => ?_
      · skip
        refine wcr ?_
        refine asg rfl rfl ?_
        refine wnt ?_
        refine wc_ret ?_
        refine wq_block_ret ?_
        refine wq_then_ret ?_
        refine wq_then_ret ?_
        refine wq_block_ret ?_
        refine wq_then_ret ?_
        refine wq_then_ret ?_
        replace t0 := lpR t0 l1 t1
        obtain rfl := Option.some.inj t0
        exact wq_ret1 rfl rfl fun w hw => ⟨rfl, hw.weak some_nil⟩
      refine wc_skip ?_
      refine wq_block ?_
      refine wq_then ?_
      refine wc_region ?_
      refine mv rfl rfl ?_
      refine wl_pure (po_inc rfl rfl (by omega)) rfl ?_
      refine asg rfl rfl ?_
      refine wl_nil ?_
      exact wq_rnd hk1 (stpN l1 t1) () (sub_cons rfl (sub_cons rfl (sub_cons rfl sub_nil))) some_nil
    have c1 : (decide (((k1 : Nat) : Int) < ((a_a.length : Nat) : Int))) = false := decide_eq_false (by omega)
    have en1 := forO_end l1 hk1
    refine wc_seq ?_
    refine wcr ?_
    refine mv rfl rfl ?_
    refine mv rfl rfl ?_
    refine wl_pure (po_lenr (rds_arg r0) el_27 rfl) rfl ?_
    refine wl_pure (po_lss rfl rfl) rfl ?_
    refine wnt ?_
    refine wc_cond_f rfl c1 ?_
    refine wc_exit ?_
    refine wq_then_exit ?_
    refine wq_then_exit ?_
    refine wq_block_exit ?_
    exact wj_meet _ () en1 sub_nil some_nil
  intro e1 _ hp
  replace t0 := sqE (j := e1) t0 hp
  refine wq_then ?_
  refine wcr ?_
  refine asg rfl rfl ?_
  refine wnt ?_
  refine wc_ret ?_
  obtain rfl := Option.some.inj t0
  exact wq_ret1 rfl rfl fun w hw => ⟨rfl, hw.weak some_nil⟩

theorem c_laws_eqBlock (w : World) (a_a : GBlock) (v0a : Hd) (r0 : rdF w (dm w []) (sl v0a) a_a.Cells) (a_b : GBlock) (v1a : Hd) (r1 : rdF w (dm w []) (sl v1a) a_b.Cells) {r : Bool} (t0 : laws_eqBlock a_a a_b = some r) : Calls Tryd.prog 11 #[.agg #[.int .i64 a_a.Size, (sl v0a)], .agg #[.int .i64 a_b.Size, (sl v1a)]] w fun e w' => e = .returned (.bool r) ∧ SH w [] [] w' := by
  refine calls_of_wc (args := [_, _]) Tryd.func11 rfl Tryd.ntmps11 rfl ?_
  unfold laws_eqBlock at t0
  refine wcr ?_
  refine wl_eff (eo_box rfl rfl) rfl fun b1 => ?_
  refine wl_eff (eo_box rfl rfl) rfl fun b2 => ?_
  refine asg rfl rfl ?_
  refine wnt ?_
  refine wc_seq ?_
  refine wcr ?_
  refine wl_pure (po_fld fo_29_0 rfl) rfl ?_
  refine wl_pure (v := .int .i64 a_a.Size) (po_load_box tk_3 (pickS pick0) rfl rfl) rfl ?_
  refine wl_pure (po_fld fo_29_0 rfl) rfl ?_
  refine wl_pure (v := .int .i64 a_b.Size) (po_load_box tk_3 pick0 rfl rfl) rfl ?_
  refine wl_pure (po_neq rfl rfl) rfl ?_
  refine wnt ?_
  refine wcO t0 rfl (fun h1 t0 => ?_) fun h1 t0 => ?_
  · skip
    refine wcr ?_
    refine asg rfl rfl ?_
    refine wnt ?_
    refine wc_ret ?_
    refine wq_then_ret ?_
    obtain rfl := Option.some.inj t0
    exact wq_ret1 rfl rfl fun w hw => ⟨rfl, hw.weak some_nil⟩
  refine wc_skip ?_
  refine wq_then ?_
  refine wc_seq ?_
  refine wcr ?_
  refine wl_pure (po_fld fo_29_1 rfl) rfl ?_
  refine wl_pure (v := (sl v0a)) (po_load_box tk_27 (pickS pick0) rfl rfl) rfl ?_
  refine wl_pure (po_fld fo_29_1 rfl) rfl ?_
  refine wl_pure (v := (sl v1a)) (po_load_box tk_27 pick0 rfl rfl) rfl ?_
  refine bdO t0 fun v1 hv1 t0 => ?_
  refine wl_call (co_c0 fa_26 rfl fun w hw => c_laws_eqCellS w a_a.Cells v0a (Rg.on (rds_arg r0) hw) a_b.Cells v1a (Rg.on (rds_arg r1) hw) hv1) rfl fun _ => ?_
  refine wl_pure (po_not rfl) rfl ?_
  refine wnt ?_
  refine wcO t0 rfl (fun h2 t0 => ?_) fun h2 t0 => ?_
  · skip
    refine wcr ?_
    refine asg rfl rfl ?_
    refine wnt ?_
    refine wc_ret ?_
    refine wq_then_ret ?_
    obtain rfl := Option.some.inj t0
    exact wq_ret1 rfl rfl fun w hw => ⟨rfl, hw.weak some_nil⟩
  refine wc_skip ?_
  refine wq_then ?_
  refine wcr ?_
  refine asg rfl rfl ?_
  refine wnt ?_
  refine wc_ret ?_
  obtain rfl := Option.some.inj t0
  exact wq_ret1 rfl rfl fun w hw => ⟨rfl, hw.weak some_nil⟩

theorem c_laws_FnExactArePatternsSame (w : World) (a_aB : GBlock) (v0a : Hd) (r0 : rdF w (dm w []) (sl v0a) a_aB.Cells) (a_aD : GBlock) (v1a : Hd) (r1 : rdF w (dm w []) (sl v1a) a_aD.Cells) {r : Bool} (t0 : laws_FnExactArePatternsSame a_aB a_aD = some r) : Calls Tryd.prog 5 #[.agg #[.int .i64 a_aB.Size, (sl v0a)], .agg #[.int .i64 a_aD.Size, (sl v1a)]] w fun e w' => e = .returned (.bool r) ∧ SH w [] [] w' := by
  refine calls_of_wc (args := [_, _]) Tryd.func5 rfl Tryd.ntmps5 rfl ?_
  unfold laws_FnExactArePatternsSame at t0
  refine wcr ?_
  refine wl_eff (eo_box rfl rfl) rfl fun b1 => ?_
  refine wl_eff (eo_box rfl rfl) rfl fun b2 => ?_
  refine asg rfl rfl ?_
  refine wnt ?_
  refine wcr ?_
  refine asg rfl rfl ?_
  refine wnt ?_
  refine wcr ?_
  refine wl_pure (v := .agg #[.int .i64 a_aB.Size, (sl v0a)]) (po_load_boxs tk_24 (pickS pick0) rfl rfl rfl) rfl ?_
  refine mv rfl rfl ?_
  refine bdO t0 fun v1 hv1 t0 => ?_
  refine wl_call (co_c0 fa_7 rfl fun w hw => c_laws_szBlock w a_aB v0a (Rg.on (rds_arg r0) hw) 1048576 hv1) rfl fun _ => ?_
  refine asg rfl rfl ?_
  refine wnt ?_
  refine wc_seq ?_
  refine wcr ?_
  refine mv rfl rfl ?_
  refine wl_pure (po_lss rfl rfl) rfl ?_
  refine wnt ?_
  refine wcO t0 rfl (fun h1 t0 => ?_) fun h1 t0 => ?_
  · skip
    refine wcr ?_
    refine asg rfl rfl ?_
    refine wnt ?_
    refine wc_ret ?_
    refine wq_then_ret ?_
    obtain rfl := Option.some.inj t0
    exact wq_ret1 rfl rfl fun w hw => ⟨rfl, hw.weak some_nil⟩
  refine wc_skip ?_
  refine wq_then ?_
  refine wcr ?_
  refine wl_pure (v := .agg #[.int .i64 a_aD.Size, (sl v1a)]) (po_load_boxs tk_24 pick0 rfl rfl rfl) rfl ?_
  refine mv rfl rfl ?_
  refine bdO t0 fun v2 hv2 t0 => ?_
  refine wl_call (co_c0 fa_7 rfl fun w hw => c_laws_szBlock w a_aD v1a (Rg.on (rds_arg r1) hw) v1 hv2) rfl fun _ => ?_
  refine asg rfl rfl ?_
  refine wnt ?_
  refine wc_seq ?_
  refine wcr ?_
  refine mv rfl rfl ?_
  refine wl_pure (po_lss rfl rfl) rfl ?_
  refine wnt ?_
  refine wcO t0 rfl (fun h2 t0 => ?_) fun h2 t0 => ?_
  · skip
    refine wcr ?_
    refine asg rfl rfl ?_
    refine wnt ?_
    refine wc_ret ?_
    refine wq_then_ret ?_
    obtain rfl := Option.some.inj t0
    exact wq_ret1 rfl rfl fun w hw => ⟨rfl, hw.weak some_nil⟩
  refine wc_skip ?_
  refine wq_then ?_
  refine wc_seq ?_
  refine wc_draw [box b2 [.int .i64 a_aD.Size, (sl v1a)], box b1 [.int .i64 a_aB.Size, (sl v0a)]] 6 mixed ?_
  refine wa_pure (v := .agg #[.int .i64 a_aB.Size, (sl v0a)]) 0 rfl (po_load_boxs tk_24 (pickS pick0) rfl rfl rfl) (some_cons pick0 (some_cons pick0 some_nil)) rfl (by kernel_rfl) (fun _ _ _ h => h) ?_
  refine wa_pure (v := .agg #[.int .i64 a_aD.Size, (sl v1a)]) 2 rfl (po_load_boxs tk_24 pick0 rfl rfl rfl) (some_cons pick0 (some_cons pick0 some_nil)) rfl (by kernel_rfl) (fun _ _ _ h => h) ?_
  refine wa_1 (i := 1) (by kernel_rfl) ?_
  refine bdO t0 fun v3 hv3 t0 => ?_
  refine ws_call rfl (co_c1 fa_9 rfl fun w hw => c_laws_toBlock w a_aB v0a (Rg.on (rds_arg r0) hw) hv3) (fun _ => (sts_some (some_cons (pickS pick0) (some_cons (pickS pick0) some_nil)))) rfl fun x1 => ?_
  refine wa_1 (i := 3) (by kernel_rfl) ?_
  refine bdO t0 fun v4 hv4 t0 => ?_
  refine ws_call rfl (co_c1 fa_9 rfl fun w hw => c_laws_toBlock w a_aD v1a (Rg.on (rds_arg r1) hw) hv4) (fun _ => (sts_some (some_cons (pickS (pickS pick0)) (some_cons (pickS (pickS pick0)) some_nil)))) rfl fun x2 => ?_
  refine wa_1 (i := 4) (by kernel_rfl) ?_
  refine bdO t0 fun v5 hv5 t0 => ?_
  refine ws_call rfl (co_c0 fa_16 rfl fun w hw => c_spec_ArePatternsSame w v3 x1 (Rg.on (rds_own (pickS pick0)) hw) v4 x2 (Rg.on (rds_own pick0) hw) hv5) (fun _ => (sts_some (some_cons (pickS (pickS pick0)) (some_cons (pickS (pickS pick0)) some_nil)))) rfl fun _ => ?_
  refine wa_pure 5 rfl (po_assign rfl) (some_cons (pickS (pickS pick0)) (some_cons (pickS (pickS pick0)) some_nil)) rfl (by kernel_rfl) (fun _ _ _ h => h) ?_
  refine wa_done (by kernel_rfl) ?_
  refine wq_then ?_
  refine wcr ?_
  refine wl_pure (v := .agg #[.int .i64 a_aB.Size, (sl v0a)]) (po_load_boxs tk_24 (pickS (pickS (pickS pick0))) rfl rfl rfl) rfl ?_
  refine bdO t0 fun v6 hv6 t0 => ?_
  refine wl_call (co_c1 fa_9 rfl fun w hw => c_laws_toBlock w a_aB v0a (Rg.on (rds_arg r0) hw) hv6) rfl fun x3 => ?_
  refine wl_eff (eo_alloc (cs := [.int .i64 0, (sl (⟨none, 0, 0⟩ : Hd))]) za_29) rfl fun b3 => ?_
  refine wl_skipop (so_box (cs' := [.int .i64 v6.Size, (sl x3)]) tk_29 pick0 rfl rfl rfl rfl rfl rfl rfl) ?_
  refine wnt ?_
  refine wcr ?_
  refine wl_pure (v := .agg #[.int .i64 a_aD.Size, (sl v1a)]) (po_load_boxs tk_24 (pickS (pickS (pickS (pickS pick0)))) rfl rfl rfl) rfl ?_
  refine bdO t0 fun v7 hv7 t0 => ?_
  refine wl_call (co_c1 fa_9 rfl fun w hw => c_laws_toBlock w a_aD v1a (Rg.on (rds_arg r1) hw) hv7) rfl fun x4 => ?_
  refine wl_eff (eo_alloc (cs := [.int .i64 0, (sl (⟨none, 0, 0⟩ : Hd))]) za_29) rfl fun b4 => ?_
  refine wl_skipop (so_box (cs' := [.int .i64 v7.Size, (sl x4)]) tk_29 pick0 rfl rfl rfl rfl rfl rfl rfl) ?_
  refine wnt ?_
  refine wcr ?_
  refine wl_pure (v := .agg #[.int .i64 v6.Size, (sl x3)]) (po_load_boxs tk_29 (pickS (pickS pick0)) rfl rfl rfl) rfl ?_
  refine wl_pure (v := .agg #[.int .i64 v7.Size, (sl x4)]) (po_load_boxs tk_29 pick0 rfl rfl rfl) rfl ?_
  refine bdO t0 fun v8 hv8 t0 => ?_
  refine wl_call (co_c0 fa_17 rfl fun w hw => c_impl_ArePatternsSame w v6 x3 (Rg.on (rds_own (pickS (pickS (pickS pick0)))) hw) v7 x4 (Rg.on (rds_own (pickS pick0)) hw) hv8) rfl fun _ => ?_
  refine asg rfl rfl ?_
  refine wnt ?_
  refine wc_seq ?_
  refine wcr ?_
  refine mv rfl rfl ?_
  refine mv rfl rfl ?_
  refine wl_pure (po_neq_bool ub_4 rfl rfl) rfl ?_
  refine wnt ?_
  refine wcO t0 rfl (fun h3 t0 => ?_) fun h3 t0 => ?_
  · skip
    refine wcr ?_
    refine asg rfl rfl ?_
    refine wnt ?_
    refine wc_ret ?_
    refine wq_then_ret ?_
    obtain rfl := Option.some.inj t0
    exact wq_ret1 rfl rfl fun w hw => ⟨rfl, hw.weak some_nil⟩
  refine wc_skip ?_
  refine wq_then ?_
  refine wc_seq ?_
  refine wc_seq ?_
  refine wc_draw [box b4 [.int .i64 v7.Size, (sl x4)], ownF (sl x4) v7.Cells, box b3 [.int .i64 v6.Size, (sl x3)], ownF (sl x3) v6.Cells, ownF (sl x2) v4.Cells, ownF (sl x1) v3.Cells, box b2 [.int .i64 a_aD.Size, (sl v1a)], box b1 [.int .i64 a_aB.Size, (sl v0a)]] 5 mixed ?_
  refine wa_pure (v := .agg #[.int .i64 v6.Size, (sl x3)]) 0 rfl (po_load_boxs tk_29 (pickS (pickS pick0)) rfl rfl rfl) (some_cons pick0 (some_cons pick0 (some_cons pick0 (some_cons pick0 (some_cons pick0 (some_cons pick0 (some_cons pick0 (some_cons pick0 some_nil)))))))) rfl (by kernel_rfl) (fun _ _ _ h => h) ?_
  refine wa_pure (v := .agg #[.int .i64 a_aB.Size, (sl v0a)]) 1 rfl (po_load_boxs tk_24 (pickS (pickS (pickS (pickS (pickS (pickS (pickS pick0))))))) rfl rfl rfl) (some_cons pick0 (some_cons pick0 (some_cons pick0 (some_cons pick0 (some_cons pick0 (some_cons pick0 (some_cons pick0 (some_cons pick0 some_nil)))))))) rfl (by kernel_rfl) (fun _ _ _ h => h) ?_
  refine wa_1 (i := 2) (by kernel_rfl) ?_
  refine bdO t0 fun v9 hv9 t0 => ?_
  refine ws_call rfl (co_c1 fa_9 rfl fun w hw => c_laws_toBlock w a_aB v0a (Rg.on (rds_arg r0) hw) hv9) (fun _ => (sts_some (some_cons (pickS pick0) (some_cons (pickS pick0) (some_cons (pickS pick0) (some_cons (pickS pick0) (some_cons (pickS pick0) (some_cons (pickS pick0) (some_cons (pickS pick0) (some_cons (pickS pick0) some_nil)))))))))) rfl fun x5 => ?_
  refine wa_1 (i := 3) (by kernel_rfl) ?_
  refine bdO t0 fun v10 hv10 t0 => ?_
  refine ws_call rfl (co_c0 fa_11 rfl fun w hw => c_laws_eqBlock w v6 x3 (Rg.on (rds_own (pickS (pickS (pickS (pickS pick0))))) hw) v9 x5 (Rg.on (rds_own pick0) hw) hv10) (fun _ => (sts_some (some_cons (pickS pick0) (some_cons (pickS pick0) (some_cons (pickS pick0) (some_cons (pickS pick0) (some_cons (pickS pick0) (some_cons (pickS pick0) (some_cons (pickS pick0) (some_cons (pickS pick0) some_nil)))))))))) rfl fun _ => ?_
  refine wa_pure 4 rfl (po_not rfl) (some_cons (pickS pick0) (some_cons (pickS pick0) (some_cons (pickS pick0) (some_cons (pickS pick0) (some_cons (pickS pick0) (some_cons (pickS pick0) (some_cons (pickS pick0) (some_cons (pickS pick0) some_nil)))))))) rfl (by kernel_rfl) (fun _ _ _ h => h) ?_
  refine wa_done (by kernel_rfl) ?_
  refine wq_then ?_
  refine wcO t0 rfl (fun h4 t0 => ?_) fun h4 t0 => ?_
  · skip
    refine wcr ?_
    refine asg rfl rfl ?_
    refine wnt ?_
    refine wc_ret ?_
    refine wq_then_ret ?_
    obtain rfl := Option.some.inj t0
    exact wq_ret1 rfl rfl fun w hw => ⟨rfl, hw.weak some_nil⟩
  refine wc_skip ?_
  refine wq_then ?_
  refine wc_seq ?_
  refine wc_seq ?_
  refine wc_draw [ownF (sl x5) v9.Cells, box b4 [.int .i64 v7.Size, (sl x4)], ownF (sl x4) v7.Cells, box b3 [.int .i64 v6.Size, (sl x3)], ownF (sl x3) v6.Cells, ownF (sl x2) v4.Cells, ownF (sl x1) v3.Cells, box b2 [.int .i64 a_aD.Size, (sl v1a)], box b1 [.int .i64 a_aB.Size, (sl v0a)]] 5 mixed ?_
  refine wa_pure (v := .agg #[.int .i64 v7.Size, (sl x4)]) 0 rfl (po_load_boxs tk_29 (pickS pick0) rfl rfl rfl) (some_cons pick0 (some_cons pick0 (some_cons pick0 (some_cons pick0 (some_cons pick0 (some_cons pick0 (some_cons pick0 (some_cons pick0 (some_cons pick0 some_nil))))))))) rfl (by kernel_rfl) (fun _ _ _ h => h) ?_
  refine wa_pure (v := .agg #[.int .i64 a_aD.Size, (sl v1a)]) 1 rfl (po_load_boxs tk_24 (pickS (pickS (pickS (pickS (pickS (pickS (pickS pick0))))))) rfl rfl rfl) (some_cons pick0 (some_cons pick0 (some_cons pick0 (some_cons pick0 (some_cons pick0 (some_cons pick0 (some_cons pick0 (some_cons pick0 (some_cons pick0 some_nil))))))))) rfl (by kernel_rfl) (fun _ _ _ h => h) ?_
  refine wa_1 (i := 2) (by kernel_rfl) ?_
  refine bdO t0 fun v11 hv11 t0 => ?_
  refine ws_call rfl (co_c1 fa_9 rfl fun w hw => c_laws_toBlock w a_aD v1a (Rg.on (rds_arg r1) hw) hv11) (fun _ => (sts_some (some_cons (pickS pick0) (some_cons (pickS pick0) (some_cons (pickS pick0) (some_cons (pickS pick0) (some_cons (pickS pick0) (some_cons (pickS pick0) (some_cons (pickS pick0) (some_cons (pickS pick0) (some_cons (pickS pick0) some_nil))))))))))) rfl fun x6 => ?_
  refine wa_1 (i := 3) (by kernel_rfl) ?_
  refine bdO t0 fun v12 hv12 t0 => ?_
  refine ws_call rfl (co_c0 fa_11 rfl fun w hw => c_laws_eqBlock w v7 x4 (Rg.on (rds_own (pickS (pickS (pickS pick0)))) hw) v11 x6 (Rg.on (rds_own pick0) hw) hv12) (fun _ => (sts_some (some_cons (pickS pick0) (some_cons (pickS pick0) (some_cons (pickS pick0) (some_cons (pickS pick0) (some_cons (pickS pick0) (some_cons (pickS pick0) (some_cons (pickS pick0) (some_cons (pickS pick0) (some_cons (pickS pick0) some_nil))))))))))) rfl fun _ => ?_
  refine wa_pure 4 rfl (po_not rfl) (some_cons (pickS pick0) (some_cons (pickS pick0) (some_cons (pickS pick0) (some_cons (pickS pick0) (some_cons (pickS pick0) (some_cons (pickS pick0) (some_cons (pickS pick0) (some_cons (pickS pick0) (some_cons (pickS pick0) some_nil))))))))) rfl (by kernel_rfl) (fun _ _ _ h => h) ?_
  refine wa_done (by kernel_rfl) ?_
  refine wq_then ?_
  refine wcO t0 rfl (fun h5 t0 => ?_) fun h5 t0 => ?_
  · skip
    refine wcr ?_
    refine asg rfl rfl ?_
    refine wnt ?_
    refine wc_ret ?_
    refine wq_then_ret ?_
    obtain rfl := Option.some.inj t0
    exact wq_ret1 rfl rfl fun w hw => ⟨rfl, hw.weak some_nil⟩
  refine wc_skip ?_
  refine wq_then ?_
  refine wcr ?_
  refine asg rfl rfl ?_
  refine wnt ?_
  refine wc_ret ?_
  obtain rfl := Option.some.inj t0
  exact wq_ret1 rfl rfl fun w hw => ⟨rfl, hw.weak some_nil⟩

end Go.Proofs.YtlfhlajpdmcnaaaDoor
