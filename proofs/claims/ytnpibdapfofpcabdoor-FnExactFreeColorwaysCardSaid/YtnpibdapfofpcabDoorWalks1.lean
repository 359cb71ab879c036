/-
  Each Go function computes its Lean function (part 1).
-/
import Derived.Test.YtnpibdapfofpcabDoorLibs
namespace Go.Proofs.YtnpibdapfofpcabDoor
open Go Go.RowKit Go.Proofs
set_option maxRecDepth 100000

theorem c_laws_szCellS (w : World) (a_a : List GCell) (v0a : Hd) (r0 : rdF w (dm w []) (sl v0a) a_a) (a_left : Int) {r : Int} (t0 : laws_szCellS a_a a_left = some r) : Calls Tryd.prog 9 #[(sl v0a), .int .i64 a_left] w fun e w' => e = .returned (.int .i64 r) ∧ SH w [] [] w' := by
  refine calls_of_wc (args := [_, _]) Tryd.func9 rfl Tryd.ntmps9 rfl ?_
  unfold laws_szCellS at t0
  refine wcr ?_
  refine asg rfl rfl ?_
  refine wnt ?_
  refine wcr ?_
  refine mv rfl rfl ?_
  refine mv rfl rfl ?_
  refine wl_pure (po_lenr (rds_arg r0) el_22 rfl) rfl ?_
  refine wl_pure (po_sub rfl rfl) rfl ?_
  refine asg rfl rfl ?_
  refine wnt ?_
  refine wc_seq ?_
  refine wcr ?_
  refine mv rfl rfl ?_
  refine wl_pure (po_lss rfl rfl) rfl ?_
  refine wnt ?_
  refine wcO t0 rfl (fun h1 t0 => ?_) fun h1 t0 => ?_
  · skip
    refine wcr ?_
    refine asg rfl rfl ?_
    refine wnt ?_
    refine wc_ret ?_
    refine wq_then_ret ?_
    obtain rfl := Option.some.inj t0
    exact wq_ret1 rfl rfl fun w hw => ⟨rfl, hw.weak some_nil⟩
  refine wc_skip ?_
  refine wq_then ?_
  refine wcr ?_
  refine mv rfl rfl ?_
  refine asg rfl rfl ?_
  refine wnt ?_
  refine wc_ret ?_
  obtain rfl := Option.some.inj t0
  exact wq_ret1 rfl rfl fun w hw => ⟨rfl, hw.weak some_nil⟩

theorem c_laws_szBlock (w : World) (a_a : GBlock) (v0a : Hd) (r0 : rdF w (dm w []) (sl v0a) a_a.Cells) (a_left : Int) {r : Int} (t0 : laws_szBlock a_a a_left = some r) : Calls Tryd.prog 4 #[.agg #[.int .i64 a_a.Size, (sl v0a)], .int .i64 a_left] w fun e w' => e = .returned (.int .i64 r) ∧ SH w [] [] w' := by
  refine calls_of_wc (args := [_, _]) Tryd.func4 rfl Tryd.ntmps4 rfl ?_
  unfold laws_szBlock at t0
  refine wcr ?_
  refine wl_eff (eo_box rfl rfl) rfl fun b1 => ?_
  refine asg rfl rfl ?_
  refine wnt ?_
  refine wcr ?_
  refine wl_pure (po_fld fo_24_1 rfl) rfl ?_
  refine wl_pure (v := (sl v0a)) (po_load_box tk_22 pick0 rfl rfl) rfl ?_
  refine mv rfl rfl ?_
  refine bdO t0 fun v1 hv1 t0 => ?_
  refine wl_call (co_c0 fa_9 rfl fun w hw => c_laws_szCellS w a_a.Cells v0a (Rg.on (rds_arg r0) hw) a_left hv1) rfl fun _ => ?_
  refine asg rfl rfl ?_
  refine wnt ?_
  refine wc_seq ?_
  refine wcr ?_
  refine mv rfl rfl ?_
  refine wl_pure (po_lss rfl rfl) rfl ?_
  refine wnt ?_
  refine wcO t0 rfl (fun h1 t0 => ?_) fun h1 t0 => ?_
  · skip
    refine wcr ?_
    refine asg rfl rfl ?_
    refine wnt ?_
    refine wc_ret ?_
    refine wq_then_ret ?_
    obtain rfl := Option.some.inj t0
    exact wq_ret1 rfl rfl fun w hw => ⟨rfl, hw.weak some_nil⟩
  refine wc_skip ?_
  refine wq_then ?_
  refine wcr ?_
  refine mv rfl rfl ?_
  refine asg rfl rfl ?_
  refine wnt ?_
  refine wc_ret ?_
  obtain rfl := Option.some.inj t0
  exact wq_ret1 rfl rfl fun w hw => ⟨rfl, hw.weak some_nil⟩

theorem c_laws_toCell (w : World) (a_a : GCell) {r : GCell} (t0 : laws_toCell a_a = some r) : Calls Tryd.prog 31 #[.agg #[.int .i64 a_a.Split, .int .i64 a_a.A, .int .i64 a_a.B]] w fun e w' => e = .returned (.agg #[.int .i64 r.Split, .int .i64 r.A, .int .i64 r.B]) ∧ SH w [] [] w' := by
  refine calls_of_wc (args := [_]) Tryd.func31 rfl Tryd.ntmps31 rfl ?_
  unfold laws_toCell at t0
  refine wcr ?_
  refine wl_eff (eo_box rfl rfl) rfl fun b1 => ?_
  refine wl_eff (eo_alloc (cs := [.int .i64 0, .int .i64 0, .int .i64 0]) za_49) rfl fun b2 => ?_
  refine wnt ?_
  refine wcr ?_
  refine wl_eff (eo_alloc (cs := [.int .i64 0, .int .i64 0, .int .i64 0]) za_49) rfl fun b3 => ?_
  refine wnt ?_
  refine wcr ?_
  refine wl_pure (po_fld fo_56_0 rfl) rfl ?_
  refine wl_pure (v := .int .i64 a_a.Split) (po_load_box tk_3 (pickS (pickS pick0)) rfl rfl) rfl ?_
  refine wl_pure (po_fld fo_49_0 rfl) rfl ?_
  refine wl_skipop (so_box (cs' := [.int .i64 a_a.Split, .int .i64 0, .int .i64 0]) tk_3 pick0 rfl rfl rfl rfl rfl rfl rfl) ?_
  refine wnt ?_
  refine wcr ?_
  refine wl_pure (po_fld fo_56_1 rfl) rfl ?_
  refine wl_pure (v := .int .i64 a_a.A) (po_load_box tk_3 (pickS (pickS pick0)) rfl rfl) rfl ?_
  refine wl_pure (po_fld fo_49_1 rfl) rfl ?_
  refine wl_skipop (so_box (cs' := [.int .i64 a_a.Split, .int .i64 a_a.A, .int .i64 0]) tk_3 pick0 rfl rfl rfl rfl rfl rfl rfl) ?_
  refine wnt ?_
  refine wcr ?_
  refine wl_pure (po_fld fo_56_2 rfl) rfl ?_
  refine wl_pure (v := .int .i64 a_a.B) (po_load_box tk_3 (pickS (pickS pick0)) rfl rfl) rfl ?_
  refine wl_pure (po_fld fo_49_2 rfl) rfl ?_
  refine wl_skipop (so_box (cs' := [.int .i64 a_a.Split, .int .i64 a_a.A, .int .i64 a_a.B]) tk_3 pick0 rfl rfl rfl rfl rfl rfl rfl) ?_
  refine wnt ?_
  refine wcr ?_
  refine wl_pure (v := .agg #[.int .i64 a_a.Split, .int .i64 a_a.A, .int .i64 a_a.B]) (po_load_boxs tk_49 pick0 rfl rfl rfl) rfl ?_
  refine wl_skipop (so_box (cs' := [.int .i64 a_a.Split, .int .i64 a_a.A, .int .i64 a_a.B]) tk_49 (pickS pick0) rfl rfl rfl rfl rfl rfl rfl) ?_
  refine wnt ?_
  refine wc_ret ?_
  obtain rfl := Option.some.inj t0
  exact wq_retc rfl tk_49 rfl pick0 rfl fun w hw => ⟨rfl, hw.weak some_nil⟩

theorem c_laws_toCellS (w : World) (a_a : List GCell) (v0a : Hd) (r0 : rdF w (dm w []) (sl v0a) a_a) {r : List GCell} (t0 : laws_toCellS a_a = some r) : Calls Tryd.prog 16 #[(sl v0a)] w fun e w' => ∃ x : Hd, e = .returned ((sl x)) ∧ SH w [] [ownF (sl x) r] w' := by
  refine calls_of_wc (args := [_]) Tryd.func16 rfl Tryd.ntmps16 rfl ?_
  unfold laws_toCellS at t0
  refine wcr ?_
  refine asg rfl rfl ?_
  refine wnt ?_
  refine wcr ?_
  refine mv rfl rfl ?_
  refine wl_pure (po_lenr (rds_arg r0) el_22 rfl) rfl ?_
  refine gdO t0 fun g1 t0 => ?_
  refine wl_eff (eo_make_ (n := a_a.length) ((GCell.mk 0 0 0) : GCell) mk_27 rfl rfl rfl g1 rfl) rfl fun x1 => ?_
  refine asg rfl rfl ?_
  refine wnt ?_
  refine wc_seq ?_
  refine wcr ?_
  refine asg rfl rfl ?_
  refine wnt ?_
  refine gdO t0 fun g2 t0 => ?_
  refine lpO_inv t0 fun y1 l1 t0 => ?_
  refine wj (J := List GCell) (X := Unit) (fun z => y1 = z) (fun _ _ => [(3, (sl x1))]) (fun z _ => [ownF (sl x1) z]) ?_ ?_
  · skip
    refine wc_block ?_
    refine wc_forO (X := Unit) l1 (fun k1 s1 x1l => [(0, (sl v0a)), (3, (sl x1)), (4, .int .i64 ((k1 : Nat) : Int))]) (fun k1 s1 x1l => [ownF (sl x1) s1]) () (sub_cons rfl (sub_cons rfl (sub_cons rfl sub_nil))) (some_cons pick0 some_nil) fun k1 s1 x1l hN1 l1 => ?_
    by_cases hk1 : k1 < a_a.length
    · skip
      refine forO_step l1 hk1 fun _ t1 l1 => ?_
      unfold laws_toCellS_L1 at t1
      have c1 : (decide (((k1 : Nat) : Int) < ((a_a.length : Nat) : Int))) = true := decide_eq_true (by omega)
      refine wc_seq ?_
      refine wcr ?_
      refine mv rfl rfl ?_
      refine mv rfl rfl ?_
      refine wl_pure (po_lenr (rds_arg r0) el_22 rfl) rfl ?_
      refine wl_pure (po_lss rfl rfl) rfl ?_
      refine wnt ?_
      refine wc_cond_t rfl c1 ?_
      refine wc_skip ?_
      refine wq_then ?_
      refine wc_seq ?_
      refine wc_block ?_
      refine wc_region ?_
      refine mv rfl rfl ?_
      refine mv rfl rfl ?_
      refine mv rfl rfl ?_
      refine mv rfl rfl ?_
      refine wl_pure (po_ixn (k := k1) (rds_arg r0) el_22 rfl rfl hk1) rfl ?_
      refine wl_pure (v := .agg #[.int .i64 ((gx a_a k1).Split), .int .i64 ((gx a_a k1).A), .int .i64 ((gx a_a k1).B)]) (po_ldfs (rds_arg r0) tk_56 rfl hk1 rfl rfl rfl) rfl ?_
      refine bdO t1 fun v1 hv1 t1 => ?_
      refine wl_call (co_c0 fa_31 rfl fun w hw => c_laws_toCell w (gx a_a k1) hv1) rfl fun _ => ?_
      refine gdO t1 fun g3 t1 => ?_
      refine wl_pure (po_ixn (k := k1) (rds_own pick0) el_27 rfl rfl g3) rfl ?_
      refine wl_skipop (so_own (x' := v1) tk_49 pick0 rfl rfl rfl rfl rfl rfl g3 rfl) ?_
      refine wl_nil ?_
      refine wq_block ?_
      refine wq_then ?_
      refine wc_region ?_
      refine mv rfl rfl ?_
      refine wl_pure (po_inc rfl rfl (by omega)) rfl ?_
      refine asg rfl rfl ?_
      refine wl_nil ?_
      exact wq_rnd hk1 (stpN l1 t1) () (sub_cons rfl (sub_cons rfl (sub_cons rfl sub_nil))) (some_cons pick0 some_nil)
    have c1 : (decide (((k1 : Nat) : Int) < ((a_a.length : Nat) : Int))) = false := decide_eq_false (by omega)
    have en1 := forO_end l1 hk1
    refine wc_seq ?_
    refine wcr ?_
    refine mv rfl rfl ?_
    refine mv rfl rfl ?_
    refine wl_pure (po_lenr (rds_arg r0) el_22 rfl) rfl ?_
    refine wl_pure (po_lss rfl rfl) rfl ?_
    refine wnt ?_
    refine wc_cond_f rfl c1 ?_
    refine wc_exit ?_
    refine wq_then_exit ?_
    refine wq_then_exit ?_
    refine wq_block_exit ?_
    exact wj_meet _ () (Sum.inl.inj en1) (sub_cons rfl sub_nil) (some_cons pick0 some_nil)
  intro e1 _ hp
  obtain rfl : e1 = y1 := hp.symm
  refine wq_then ?_
  refine wcr ?_
  refine mv rfl rfl ?_
  refine asg rfl rfl ?_
  refine wnt ?_
  refine wc_ret ?_
  obtain rfl := Option.some.inj t0
  exact wq_ret1 rfl rfl fun w hw => ⟨x1, rfl, hw.weak (some_cons pick0 some_nil)⟩

theorem c_laws_toBlock (w : World) (a_a : GBlock) (v0a : Hd) (r0 : rdF w (dm w []) (sl v0a) a_a.Cells) {r : GBlock} (t0 : laws_toBlock a_a = some r) : Calls Tryd.prog 6 #[.agg #[.int .i64 a_a.Size, (sl v0a)]] w fun e w' => ∃ x : Hd, e = .returned (.agg #[.int .i64 r.Size, (sl x)]) ∧ SH w [] [ownF (sl x) r.Cells] w' := by
  refine calls_of_wc (args := [_]) Tryd.func6 rfl Tryd.ntmps6 rfl ?_
  unfold laws_toBlock at t0
  refine wcr ?_
  refine wl_eff (eo_box rfl rfl) rfl fun b1 => ?_
  refine wl_eff (eo_alloc (cs := [.int .i64 0, (sl (⟨none, 0, 0⟩ : Hd))]) za_29) rfl fun b2 => ?_
  refine wnt ?_
  refine wcr ?_
  refine wl_eff (eo_alloc (cs := [.int .i64 0, (sl (⟨none, 0, 0⟩ : Hd))]) za_29) rfl fun b3 => ?_
  refine wnt ?_
  refine wcr ?_
  refine wl_pure (po_fld fo_24_0 rfl) rfl ?_
  refine wl_pure (v := .int .i64 a_a.Size) (po_load_box tk_3 (pickS (pickS pick0)) rfl rfl) rfl ?_
  refine wl_pure (po_fld fo_29_0 rfl) rfl ?_
  refine wl_skipop (so_box (cs' := [.int .i64 a_a.Size, (sl (⟨none, 0, 0⟩ : Hd))]) tk_3 pick0 rfl rfl rfl rfl rfl rfl rfl) ?_
  refine wnt ?_
  refine wcr ?_
  refine wl_pure (po_fld fo_24_1 rfl) rfl ?_
  refine wl_pure (v := (sl v0a)) (po_load_box tk_22 (pickS (pickS pick0)) rfl rfl) rfl ?_
  refine bdO t0 fun v1 hv1 t0 => ?_
  refine wl_call (co_c1 fa_16 rfl fun w hw => c_laws_toCellS w a_a.Cells v0a (Rg.on (rds_arg r0) hw) hv1) rfl fun x1 => ?_
  refine wl_pure (po_fld fo_29_1 rfl) rfl ?_
  refine wl_skipop (so_box (cs' := [.int .i64 a_a.Size, (sl x1)]) tk_27 (pickS pick0) rfl rfl rfl rfl rfl rfl rfl) ?_
  refine wnt ?_
  refine wcr ?_
  refine wl_pure (v := .agg #[.int .i64 a_a.Size, (sl x1)]) (po_load_boxs tk_29 pick0 rfl rfl rfl) rfl ?_
  refine wl_skipop (so_box (cs' := [.int .i64 a_a.Size, (sl x1)]) tk_29 (pickS (pickS pick0)) rfl rfl rfl rfl rfl rfl rfl) ?_
  refine wnt ?_
  refine wc_ret ?_
  obtain rfl := Option.some.inj t0
  exact wq_retc rfl tk_29 rfl pick0 rfl fun w hw => ⟨x1, rfl, hw.weak (some_cons (pickS (pickS pick0)) some_nil)⟩

theorem c_spec_l01In (w : World) (a_x : Int) (a_least : Int) (a_most : Int) {r : Bool} (t0 : spec_l01In a_x a_least a_most = some r) : Calls Tryd.prog 24 #[.int .i64 a_x, .int .i64 a_least, .int .i64 a_most] w fun e w' => e = .returned (.bool r) ∧ SH w [] [] w' := by
  refine calls_of_wc (args := [_, _, _]) Tryd.func24 rfl Tryd.ntmps24 rfl ?_
  unfold spec_l01In at t0
  refine wcr ?_
  refine asg rfl rfl ?_
  refine wnt ?_
  refine wc_seq ?_
  refine wc_join (X := Unit) (fun _ => True) (fun _ => [(6, .bool ((decide (a_x ≥ a_least)) && (decide (a_x ≤ a_most))))]) (fun _ => []) ?_ ?_
  · skip
    refine wc_region ?_
    refine mv rfl rfl ?_
    refine mv rfl rfl ?_
    refine wl_pure (po_geq rfl rfl) rfl ?_
    refine mv rfl rfl ?_
    refine wl_fork (t := 10) rfl (fun h1 => ?_) fun h1 => ?_
    · skip
      refine wl_guard_on (j := 3) rfl rfl rfl (mv rfl rfl ?_)
      refine wl_guard_on (j := 3) rfl rfl rfl (mv rfl rfl ?_)
      refine wl_guard_on (j := 3) rfl rfl rfl (wl_pure (po_leq rfl rfl) rfl ?_)
      refine wl_pure (po_pick_t rfl rfl) rfl ?_
      refine asg rfl rfl ?_
      refine wl_nil ?_
      exact wq_meet () trivial (sub_b rfl (by rw [h1]; rfl) sub_nil) some_nil
    refine wl_guard_off (j := 3) rfl rfl rfl rfl rfl ?_
    refine wl_guard_off (j := 3) rfl rfl rfl rfl rfl ?_
    refine wl_guard_off (j := 3) rfl rfl rfl rfl rfl ?_
    refine wl_pure (po_pick_f rfl rfl) rfl ?_
    refine asg rfl rfl ?_
    refine wl_nil ?_
    exact wq_meet () trivial (sub_b rfl (by rw [h1]; rfl) sub_nil) some_nil
  intro _ _
  refine wq_then ?_
  refine wc_ret ?_
  obtain rfl := Option.some.inj t0
  exact wq_ret1 rfl rfl fun w hw => ⟨rfl, hw.weak some_nil⟩

theorem c_spec_CellOk (w : World) (a_c : GCell) {r : Bool} (t0 : spec_CellOk a_c = some r) : Calls Tryd.prog 25 #[.agg #[.int .i64 a_c.Split, .int .i64 a_c.A, .int .i64 a_c.B]] w fun e w' => e = .returned (.bool r) ∧ SH w [] [] w' := by
  refine calls_of_wc (args := [_]) Tryd.func25 rfl Tryd.ntmps25 rfl ?_
  unfold spec_CellOk at t0
  refine wcr ?_
  refine wl_eff (eo_box rfl rfl) rfl fun b1 => ?_
  refine asg rfl rfl ?_
  refine wnt ?_
  refine wc_seq ?_
  refine wc_seq ?_
  refine bdO t0 fun y1 t1 t0 => ?_
  refine wj (J := Bool) (X := Unit) (fun z => y1 = z) (fun z _ => [(1, ptr b1 0), (18, .bool z)]) (fun _ _ => [box b1 [.int .i64 a_c.Split, .int .i64 a_c.A, .int .i64 a_c.B]]) ?_ ?_
  · skip
    refine wc_region ?_
    refine wl_pure (po_fld fo_49_0 rfl) rfl ?_
    refine wl_pure (v := .int .i64 a_c.Split) (po_load_box tk_3 pick0 rfl rfl) rfl ?_
    refine bdO t1 fun v1 hv1 t1 => ?_
    refine wl_call (co_c0 fa_24 rfl fun w hw => c_spec_l01In w a_c.Split 0 2 hv1) rfl fun _ => ?_
    refine wl_pure (po_not rfl) rfl ?_
    refine mv rfl rfl ?_
    refine wlO_ (t := 7) t1 rfl (fun h1 t1 => ?_) fun h1 t1 => ?_
    · skip
      refine wl_guard_off (j := 4) rfl rfl rfl rfl rfl ?_
      refine wl_guard_off (j := 4) rfl rfl rfl rfl rfl ?_
      refine wl_guard_off (j := 4) rfl rfl rfl rfl rfl ?_
      refine wl_guard_off (j := 4) rfl rfl rfl rfl rfl ?_
      refine wl_pure (po_pick_t rfl rfl) rfl ?_
      refine mv rfl rfl ?_
      refine wl_guard_off (j := 10) rfl rfl rfl rfl rfl ?_
      refine wl_guard_off (j := 10) rfl rfl rfl rfl rfl ?_
      refine wl_guard_off (j := 10) rfl rfl rfl rfl rfl ?_
      refine wl_guard_off (j := 10) rfl rfl rfl rfl rfl ?_
      refine wl_pure (po_pick_t rfl rfl) rfl ?_
      refine wl_nil ?_
      exact wj_meet _ () (mtE t1) (sub_cons rfl (sub_cons rfl sub_nil)) (some_cons pick0 some_nil)
    refine wl_guard_on (j := 4) rfl rfl rfl (wl_pure (po_fld fo_49_1 rfl) rfl ?_)
    refine wl_guard_on (j := 4) rfl rfl rfl (wl_pure (v := .int .i64 a_c.A) (po_load_box tk_3 pick0 rfl rfl) rfl ?_)
    refine bdO t1 fun v2 hv2 t1 => ?_
    refine wl_guard_on (j := 4) rfl rfl rfl (wl_call (co_c0 fa_24 rfl fun w hw => c_spec_l01In w a_c.A 0 5 hv2) rfl (fun _ => ?_))
    refine wl_guard_on (j := 4) rfl rfl rfl (wl_pure (po_not rfl) rfl ?_)
    refine wl_pure (po_pick_f rfl rfl) rfl ?_
    refine mv rfl rfl ?_
    refine wlO_ (t := 13) t1 rfl (fun h2 t1 => ?_) fun h2 t1 => ?_
    · skip
      refine wl_guard_off (j := 10) rfl rfl rfl rfl rfl ?_
      refine wl_guard_off (j := 10) rfl rfl rfl rfl rfl ?_
      refine wl_guard_off (j := 10) rfl rfl rfl rfl rfl ?_
      refine wl_guard_off (j := 10) rfl rfl rfl rfl rfl ?_
      refine wl_pure (po_pick_t rfl rfl) rfl ?_
      refine wl_nil ?_
      exact wj_meet _ () (mtE t1) (sub_cons rfl (sub_cons rfl sub_nil)) (some_cons pick0 some_nil)
    refine wl_guard_on (j := 10) rfl rfl rfl (wl_pure (po_fld fo_49_2 rfl) rfl ?_)
    refine wl_guard_on (j := 10) rfl rfl rfl (wl_pure (v := .int .i64 a_c.B) (po_load_box tk_3 pick0 rfl rfl) rfl ?_)
    refine bdO t1 fun v3 hv3 t1 => ?_
    refine wl_guard_on (j := 10) rfl rfl rfl (wl_call (co_c0 fa_24 rfl fun w hw => c_spec_l01In w a_c.B 0 5 hv3) rfl (fun _ => ?_))
    refine wl_guard_on (j := 10) rfl rfl rfl (wl_pure (po_not rfl) rfl ?_)
    refine wl_pure (po_pick_f rfl rfl) rfl ?_
    refine wl_nil ?_
    exact wj_meet _ () (mtE t1) (sub_cons rfl (sub_cons rfl sub_nil)) (some_cons pick0 some_nil)
  intro j1 _ hp
  obtain rfl : j1 = y1 := hp.symm
  refine wq_then ?_
  refine wcO t0 rfl (fun h3 t0 => ?_) fun h3 t0 => ?_
  · skip
    refine wcr ?_
    refine asg rfl rfl ?_
    refine wnt ?_
    refine wc_ret ?_
    refine wq_then_ret ?_
    obtain rfl := Option.some.inj t0
    exact wq_ret1 rfl rfl fun w hw => ⟨rfl, hw.weak some_nil⟩
  refine wc_skip ?_
  refine wq_then ?_
  refine wcr ?_
  refine wl_pure (po_fld fo_49_0 rfl) rfl ?_
  refine wl_pure (v := .int .i64 a_c.Split) (po_load_box tk_3 pick0 rfl rfl) rfl ?_
  refine wl_pure (po_eql rfl rfl) rfl ?_
  refine wl_pure (po_fld fo_49_1 rfl) rfl ?_
  refine wl_pure (v := .int .i64 a_c.A) (po_load_box tk_3 pick0 rfl rfl) rfl ?_
  refine wl_pure (po_fld fo_49_2 rfl) rfl ?_
  refine wl_pure (v := .int .i64 a_c.B) (po_load_box tk_3 pick0 rfl rfl) rfl ?_
  refine wl_pure (po_eql rfl rfl) rfl ?_
  refine wl_pure (po_eql_bool ub_4 rfl rfl) rfl ?_
  refine asg rfl rfl ?_
  refine wnt ?_
  refine wc_ret ?_
  obtain rfl := Option.some.inj t0
  exact wq_ret1 rfl rfl fun w hw => ⟨rfl, hw.weak some_nil⟩

theorem c_spec_BlockOk (w : World) (a_b : GBlock) (v0a : Hd) (r0 : rdF w (dm w []) (sl v0a) a_b.Cells) {r : Bool} (t0 : spec_BlockOk a_b = some r) : Calls Tryd.prog 10 #[.agg #[.int .i64 a_b.Size, (sl v0a)]] w fun e w' => e = .returned (.bool r) ∧ SH w [] [] w' := by
  refine calls_of_wc (args := [_]) Tryd.func10 rfl Tryd.ntmps10 rfl ?_
  unfold spec_BlockOk at t0
  refine wcr ?_
  refine wl_eff (eo_box rfl rfl) rfl fun b1 => ?_
  refine asg rfl rfl ?_
  refine wnt ?_
  refine wc_seq ?_
  refine wc_seq ?_
  refine bdO t0 fun y1 t1 t0 => ?_
  refine wj (J := Bool) (X := Unit) (fun z => y1 = z) (fun z _ => [(1, ptr b1 0), (18, .bool z)]) (fun _ _ => [box b1 [.int .i64 a_b.Size, (sl v0a)]]) ?_ ?_
  · skip
    refine wc_region ?_
    refine wl_pure (po_fld fo_29_0 rfl) rfl ?_
    refine wl_pure (v := .int .i64 a_b.Size) (po_load_box tk_3 pick0 rfl rfl) rfl ?_
    refine bdO t1 fun v1 hv1 t1 => ?_
    refine wl_call (co_c0 fa_24 rfl fun w hw => c_spec_l01In w a_b.Size 1 4 hv1) rfl fun _ => ?_
    refine wl_pure (po_not rfl) rfl ?_
    refine mv rfl rfl ?_
    refine wlO_ (t := 8) t1 rfl (fun h1 t1 => ?_) fun h1 t1 => ?_
    · skip
      refine wl_guard_off (j := 4) rfl rfl rfl rfl rfl ?_
      refine wl_guard_off (j := 4) rfl rfl rfl rfl rfl ?_
      refine wl_guard_off (j := 4) rfl rfl rfl rfl rfl ?_
      refine wl_guard_off (j := 4) rfl rfl rfl rfl rfl ?_
      refine wl_guard_off (j := 4) rfl rfl rfl rfl rfl ?_
      refine wl_guard_off (j := 4) rfl rfl rfl rfl rfl ?_
      refine wl_guard_off (j := 4) rfl rfl rfl rfl rfl ?_
      refine wl_guard_off (j := 4) rfl rfl rfl rfl rfl ?_
      refine wl_guard_off (j := 4) rfl rfl rfl rfl rfl ?_
      refine wl_pure (po_pick_t rfl rfl) rfl ?_
      refine wl_nil ?_
      exact wj_meet _ () (mtE t1) (sub_cons rfl (sub_cons rfl sub_nil)) (some_cons pick0 some_nil)
    refine wl_guard_on (j := 4) rfl rfl rfl (wl_pure (po_fld fo_29_1 rfl) rfl ?_)
    refine wl_guard_on (j := 4) rfl rfl rfl (wl_pure (v := (sl v0a)) (po_load_box tk_27 pick0 rfl rfl) rfl ?_)
    refine wl_guard_on (j := 4) rfl rfl rfl (wl_pure (po_lenr (rds_arg r0) el_27 rfl) rfl ?_)
    refine wl_guard_on (j := 4) rfl rfl rfl (wl_pure (po_fld fo_29_0 rfl) rfl ?_)
    refine wl_guard_on (j := 4) rfl rfl rfl (wl_pure (v := .int .i64 a_b.Size) (po_load_box tk_3 pick0 rfl rfl) rfl ?_)
    refine wl_guard_on (j := 4) rfl rfl rfl (wl_pure (po_fld fo_29_0 rfl) rfl ?_)
    refine wl_guard_on (j := 4) rfl rfl rfl (wl_pure (v := .int .i64 a_b.Size) (po_load_box tk_3 pick0 rfl rfl) rfl ?_)
    refine wl_guard_on (j := 4) rfl rfl rfl (wl_pure (po_mul rfl rfl) rfl ?_)
    refine wl_guard_on (j := 4) rfl rfl rfl (wl_pure (po_neq rfl rfl) rfl ?_)
    refine wl_pure (po_pick_f rfl rfl) rfl ?_
    refine wl_nil ?_
    exact wj_meet _ () (mtE t1) (sub_cons rfl (sub_cons rfl sub_nil)) (some_cons pick0 some_nil)
  intro j1 _ hp
  obtain rfl : j1 = y1 := hp.symm
  refine wq_then ?_
  refine wcO t0 rfl (fun h2 t0 => ?_) fun h2 t0 => ?_
  · skip
    refine wcr ?_
    refine asg rfl rfl ?_
    refine wnt ?_
    refine wc_ret ?_
    refine wq_then_ret ?_
    obtain rfl := Option.some.inj t0
    exact wq_ret1 rfl rfl fun w hw => ⟨rfl, hw.weak some_nil⟩
  refine wc_skip ?_
  refine wq_then ?_
  refine wc_seq ?_
  refine wcr ?_
  refine asg rfl rfl ?_
  refine wnt ?_
  refine gdO t0 fun g1 t0 => ?_
  refine sqO t0 fun y1 l1 t0 => ?_
  refine wj (J := Unit) (X := Unit) (fun z => y1 = .inl z) (fun _ _ => []) (fun _ _ => []) ?_ ?_
  · skip
    refine wc_block ?_
    refine wc_forO (X := Unit) l1 (fun k1 s1 x1l => [(1, ptr b1 0), (3, .int .i64 ((k1 : Nat) : Int))]) (fun k1 s1 x1l => [box b1 [.int .i64 a_b.Size, (sl v0a)]]) () (sub_cons rfl (sub_cons rfl sub_nil)) (some_cons pick0 some_nil) fun k1 s1 x1l hN1 l1 => ?_
    by_cases hk1 : k1 < a_b.Cells.length
    · skip
      refine forO_step l1 hk1 fun _ t1 l1 => ?_
      unfold spec_BlockOk_L1 at t1
      have c1 : (decide (((k1 : Nat) : Int) < ((a_b.Cells.length : Nat) : Int))) = true := decide_eq_true (by omega)
      refine wc_seq ?_
      refine wcr ?_
      refine mv rfl rfl ?_
      refine wl_pure (po_fld fo_29_1 rfl) rfl ?_
      refine wl_pure (v := (sl v0a)) (po_load_box tk_27 pick0 rfl rfl) rfl ?_
      refine wl_pure (po_lenr (rds_arg r0) el_27 rfl) rfl ?_
      refine wl_pure (po_lss rfl rfl) rfl ?_
      refine wnt ?_
      refine wc_cond_t rfl c1 ?_
      refine wc_skip ?_
      refine wq_then ?_
      refine wc_seq ?_
      refine wc_block ?_
      refine wcr ?_
      refine wl_pure (po_fld fo_29_1 rfl) rfl ?_
      refine wl_pure (v := (sl v0a)) (po_load_box tk_27 pick0 rfl rfl) rfl ?_
      refine mv rfl rfl ?_
      refine wl_pure (po_ixn (k := k1) (rds_arg r0) el_27 rfl rfl hk1) rfl ?_
      refine wl_pure (v := .agg #[.int .i64 ((gx a_b.Cells k1).Split), .int .i64 ((gx a_b.Cells k1).A), .int .i64 ((gx a_b.Cells k1).B)]) (po_ldfs (rds_arg r0) tk_49 rfl hk1 rfl rfl rfl) rfl ?_
      refine bdO t1 fun v2 hv2 t1 => ?_
      refine wl_call (co_c0 fa_25 rfl fun w hw => c_spec_CellOk w (gx a_b.Cells k1) hv2) rfl fun _ => ?_
      refine wl_pure (po_not rfl) rfl ?_
      refine wnt ?_
      refine wcO t1 rfl (fun h3 t1 => ?_) fun h3 t1 => ?_
      · skip
        refine wcr ?_
        refine asg rfl rfl ?_
        refine wnt ?_
        refine wc_ret ?_
        refine wq_block_ret ?_
        refine wq_then_ret ?_
        refine wq_then_ret ?_
        refine wq_block_ret ?_
        refine wq_then_ret ?_
        refine wq_then_ret ?_
        replace t0 := lpR t0 l1 t1
        obtain rfl := Option.some.inj t0
        exact wq_ret1 rfl rfl fun w hw => ⟨rfl, hw.weak some_nil⟩
      refine wc_skip ?_
      refine wq_block ?_
      refine wq_then ?_
      refine wc_region ?_
      refine mv rfl rfl ?_
      refine wl_pure (po_inc rfl rfl (by omega)) rfl ?_
      refine asg rfl rfl ?_
      refine wl_nil ?_
      exact wq_rnd hk1 (stpN l1 t1) () (sub_cons rfl (sub_cons rfl sub_nil)) (some_cons pick0 some_nil)
    have c1 : (decide (((k1 : Nat) : Int) < ((a_b.Cells.length : Nat) : Int))) = false := decide_eq_false (by omega)
    have en1 := forO_end l1 hk1
    refine wc_seq ?_
    refine wcr ?_
    refine mv rfl rfl ?_
    refine wl_pure (po_fld fo_29_1 rfl) rfl ?_
    refine wl_pure (v := (sl v0a)) (po_load_box tk_27 pick0 rfl rfl) rfl ?_
    refine wl_pure (po_lenr (rds_arg r0) el_27 rfl) rfl ?_
    refine wl_pure (po_lss rfl rfl) rfl ?_
    refine wnt ?_
    refine wc_cond_f rfl c1 ?_
    refine wc_exit ?_
    refine wq_then_exit ?_
    refine wq_then_exit ?_
    refine wq_block_exit ?_
    exact wj_meet _ () en1 sub_nil some_nil
  intro e1 _ hp
  replace t0 := sqE (j := e1) t0 hp
  refine wq_then ?_
  refine wcr ?_
  refine asg rfl rfl ?_
  refine wnt ?_
  refine wc_ret ?_
  obtain rfl := Option.some.inj t0
  exact wq_ret1 rfl rfl fun w hw => ⟨rfl, hw.weak some_nil⟩

theorem c_spec_ColorsOf (w : World) (a_b : GBlock) (v0a : Hd) (r0 : rdF w (dm w []) (sl v0a) a_b.Cells) {r : List Int} (t0 : spec_ColorsOf a_b = some r) : Calls Tryd.prog 11 #[.agg #[.int .i64 a_b.Size, (sl v0a)]] w fun e w' => ∃ x : Hd, e = .returned ((sl x)) ∧ SH w [] [ownF (sl x) r] w' := by
  refine calls_of_wc (args := [_]) Tryd.func11 rfl Tryd.ntmps11 rfl ?_
  unfold spec_ColorsOf at t0
  refine wcr ?_
  refine wl_eff (eo_box rfl rfl) rfl fun b1 => ?_
  refine asg rfl rfl ?_
  refine wnt ?_
  refine wcr ?_
  refine wl_eff (eo_buildSlice rfl sb_35_0) rfl fun b2 => ?_
  refine asg rfl rfl ?_
  refine wnt ?_
  refine wc_seq ?_
  refine wcr ?_
  refine wl_pure (v := .agg #[.int .i64 a_b.Size, (sl v0a)]) (po_load_boxs tk_29 (pickS pick0) rfl rfl rfl) rfl ?_
  refine bdO t0 fun v1 hv1 t0 => ?_
  refine wl_call (co_c0 fa_10 rfl fun w hw => c_spec_BlockOk w a_b v0a (Rg.on (rds_arg r0) hw) hv1) rfl fun _ => ?_
  refine wl_pure (po_not rfl) rfl ?_
  refine wnt ?_
  refine wcO t0 rfl (fun h1 t0 => ?_) fun h1 t0 => ?_
  · skip
    refine wcr ?_
    refine mv rfl rfl ?_
    refine asg rfl rfl ?_
    refine wnt ?_
    refine wc_ret ?_
    refine wq_then_ret ?_
    obtain rfl := Option.some.inj t0
    exact wq_ret1 rfl rfl fun w hw => ⟨(⟨some ⟨b2, 0, none⟩, 0, 0⟩ : Hd), rfl, hw.weak (some_cons (pick_box_own pick0 (n := 0) (xs := ([] : List Int)) rfl rfl (by unfold maxLen; omega)) some_nil)⟩
  refine wc_skip ?_
  refine wq_then ?_
  refine wc_seq ?_
  refine wcr ?_
  refine asg rfl rfl ?_
  refine wnt ?_
  refine lpO_inv t0 fun y1 l1 t0 => ?_
  refine wj (J := List Int) (X := Hd) (fun z => y1 = z) (fun _ x => [(3, (sl x))]) (fun z x => [ownF (sl x) z]) ?_ ?_
  · skip
    refine wc_block ?_
    refine wc_forO (X := Hd) l1 (fun k1 s1 x1l => [(1, ptr b1 0), (3, (sl x1l)), (4, .int .i64 ((k1 : Nat) : Int))]) (fun k1 s1 x1l => [box b1 [.int .i64 a_b.Size, (sl v0a)], ownF (sl x1l) s1]) (⟨some ⟨b2, 0, none⟩, 0, 0⟩ : Hd) (sub_cons rfl (sub_cons rfl (sub_cons rfl sub_nil))) (some_cons (pickS pick0) (some_cons (pick_box_own pick0 (n := 0) (xs := ([] : List Int)) rfl rfl (by unfold maxLen; omega)) some_nil)) fun k1 s1 x1l hN1 l1 => ?_
    by_cases hk1 : k1 < 6
    · skip
      refine forO_step l1 hk1 fun _ t1 l1 => ?_
      unfold spec_ColorsOf_L1 at t1
      have c1 : (decide (((k1 : Nat) : Int) < 6)) = true := decide_eq_true (by omega)
      refine wc_seq ?_
      refine wcr ?_
      refine mv rfl rfl ?_
      refine wl_pure (po_lss rfl rfl) rfl ?_
      refine wnt ?_
      refine wc_cond_t rfl c1 ?_
      refine wc_skip ?_
      refine wq_then ?_
      refine wc_seq ?_
      refine wc_block ?_
      refine wcr ?_
      refine asg rfl rfl ?_
      refine wnt ?_
      refine wc_seq ?_
      refine wcr ?_
      refine asg rfl rfl ?_
      refine wnt ?_
      refine gdO t1 fun g1 t1 => ?_
      refine lpO_inv t1 fun y2 l2 t1 => ?_
      refine wj (J := Bool) (X := Unit) (fun z => y2 = z) (fun z _ => [(1, ptr b1 0), (3, (sl x1l)), (4, .int .i64 ((k1 : Nat) : Int)), (5, .bool z)]) (fun _ _ => [box b1 [.int .i64 a_b.Size, (sl v0a)], ownF (sl x1l) s1]) ?_ ?_
      · skip
        refine wc_block ?_
        refine wc_forO (X := Unit) l2 (fun k2 s2 x2l => [(1, ptr b1 0), (3, (sl x1l)), (4, .int .i64 ((k1 : Nat) : Int)), (5, .bool s2), (6, .int .i64 ((k2 : Nat) : Int))]) (fun k2 s2 x2l => [box b1 [.int .i64 a_b.Size, (sl v0a)], ownF (sl x1l) s1]) () (sub_cons rfl (sub_cons rfl (sub_cons rfl (sub_cons rfl (sub_cons rfl sub_nil))))) (some_cons pick0 (some_cons pick0 some_nil)) fun k2 s2 x2l hN2 l2 => ?_
        by_cases hk2 : k2 < a_b.Cells.length
        · skip
          refine forO_step l2 hk2 fun _ t2 l2 => ?_
          unfold spec_ColorsOf_L2 at t2
          have c2 : (decide (((k2 : Nat) : Int) < ((a_b.Cells.length : Nat) : Int))) = true := decide_eq_true (by omega)
          refine wc_seq ?_
          refine wcr ?_
          refine mv rfl rfl ?_
          refine wl_pure (po_fld fo_29_1 rfl) rfl ?_
          refine wl_pure (v := (sl v0a)) (po_load_box tk_27 pick0 rfl rfl) rfl ?_
          refine wl_pure (po_lenr (rds_arg r0) el_27 rfl) rfl ?_
          refine wl_pure (po_lss rfl rfl) rfl ?_
          refine wnt ?_
          refine wc_cond_t rfl c2 ?_
          refine wc_skip ?_
          refine wq_then ?_
          refine wc_seq ?_
          refine wc_block ?_
          refine wc_join (X := Unit) (fun _ => True) (fun _ => [(1, ptr b1 0), (3, (sl x1l)), (4, .int .i64 ((k1 : Nat) : Int)), (5, .bool (s2 || (((gx a_b.Cells k2).A == ((k1 : Nat) : Int)) || ((gx a_b.Cells k2).B == ((k1 : Nat) : Int))))), (6, .int .i64 ((k2 : Nat) : Int))]) (fun _ => [box b1 [.int .i64 a_b.Size, (sl v0a)], ownF (sl x1l) s1]) ?_ ?_
          · skip
            refine wc_region ?_
            refine mv rfl rfl ?_
            refine mv rfl rfl ?_
            refine wl_fork (t := 24) rfl (fun h2 => ?_) fun h2 => ?_
            · skip
              refine wl_guard_off (j := 1) rfl rfl rfl rfl rfl ?_
              refine wl_guard_off (j := 1) rfl rfl rfl rfl rfl ?_
              refine wl_guard_off (j := 1) rfl rfl rfl rfl rfl ?_
              refine wl_guard_off (j := 1) rfl rfl rfl rfl rfl ?_
              refine wl_guard_off (j := 1) rfl rfl rfl rfl rfl ?_
              refine wl_guard_off (j := 1) rfl rfl rfl rfl rfl ?_
              refine wl_guard_off (j := 1) rfl rfl rfl rfl rfl ?_
              refine wl_guard_off (j := 1) rfl rfl rfl rfl rfl ?_
              refine wl_pure (po_pick_t rfl rfl) rfl ?_
              refine mv rfl rfl ?_
              refine wl_guard_off (j := 11) rfl rfl rfl rfl rfl ?_
              refine wl_guard_off (j := 11) rfl rfl rfl rfl rfl ?_
              refine wl_guard_off (j := 11) rfl rfl rfl rfl rfl ?_
              refine wl_guard_off (j := 11) rfl rfl rfl rfl rfl ?_
              refine wl_guard_off (j := 11) rfl rfl rfl rfl rfl ?_
              refine wl_guard_off (j := 11) rfl rfl rfl rfl rfl ?_
              refine wl_guard_off (j := 11) rfl rfl rfl rfl rfl ?_
              refine wl_guard_off (j := 11) rfl rfl rfl rfl rfl ?_
              refine wl_pure (po_pick_t rfl rfl) rfl ?_
              refine asg rfl rfl ?_
              refine wl_nil ?_
              exact wq_meet () trivial (sub_cons rfl (sub_cons rfl (sub_cons rfl (sub_b rfl (by rw [h2]; rfl) (sub_cons rfl sub_nil))))) (some_cons pick0 (some_cons pick0 some_nil))
            refine wl_guard_on (j := 1) rfl rfl rfl (wl_pure (po_fld fo_29_1 rfl) rfl ?_)
            refine wl_guard_on (j := 1) rfl rfl rfl (wl_pure (v := (sl v0a)) (po_load_box tk_27 pick0 rfl rfl) rfl ?_)
            refine wl_guard_on (j := 1) rfl rfl rfl (mv rfl rfl ?_)
            refine wl_guard_on (j := 1) rfl rfl rfl (wl_pure (po_ixn (k := k2) (rds_arg r0) el_27 rfl rfl hk2) rfl ?_)
            refine wl_guard_on (j := 1) rfl rfl rfl (wl_pure (po_sfldr (rds_arg r0) hk2 fo_49_1 rfl) rfl ?_)
            refine wl_guard_on (j := 1) rfl rfl rfl (wl_pure (v := .int .i64 ((gx a_b.Cells k2).A)) (po_ldf (rds_arg r0) tk_3 rfl hk2 rfl) rfl ?_)
            refine wl_guard_on (j := 1) rfl rfl rfl (mv rfl rfl ?_)
            refine wl_guard_on (j := 1) rfl rfl rfl (wl_pure (po_eql rfl rfl) rfl ?_)
            refine wl_pure (po_pick_f rfl rfl) rfl ?_
            refine mv rfl rfl ?_
            refine wl_fork (t := 34) rfl (fun h3 => ?_) fun h3 => ?_
            · skip
              refine wl_guard_off (j := 11) rfl rfl rfl rfl rfl ?_
              refine wl_guard_off (j := 11) rfl rfl rfl rfl rfl ?_
              refine wl_guard_off (j := 11) rfl rfl rfl rfl rfl ?_
              refine wl_guard_off (j := 11) rfl rfl rfl rfl rfl ?_
              refine wl_guard_off (j := 11) rfl rfl rfl rfl rfl ?_
              refine wl_guard_off (j := 11) rfl rfl rfl rfl rfl ?_
              refine wl_guard_off (j := 11) rfl rfl rfl rfl rfl ?_
              refine wl_guard_off (j := 11) rfl rfl rfl rfl rfl ?_
              refine wl_pure (po_pick_t rfl rfl) rfl ?_
              refine asg rfl rfl ?_
              refine wl_nil ?_
              exact wq_meet () trivial (sub_cons rfl (sub_cons rfl (sub_cons rfl (sub_b rfl (by rw [h2, h3]; rfl) (sub_cons rfl sub_nil))))) (some_cons pick0 (some_cons pick0 some_nil))
            refine wl_guard_on (j := 11) rfl rfl rfl (wl_pure (po_fld fo_29_1 rfl) rfl ?_)
            refine wl_guard_on (j := 11) rfl rfl rfl (wl_pure (v := (sl v0a)) (po_load_box tk_27 pick0 rfl rfl) rfl ?_)
            refine wl_guard_on (j := 11) rfl rfl rfl (mv rfl rfl ?_)
            refine wl_guard_on (j := 11) rfl rfl rfl (wl_pure (po_ixn (k := k2) (rds_arg r0) el_27 rfl rfl hk2) rfl ?_)
            refine wl_guard_on (j := 11) rfl rfl rfl (wl_pure (po_sfldr (rds_arg r0) hk2 fo_49_2 rfl) rfl ?_)
            refine wl_guard_on (j := 11) rfl rfl rfl (wl_pure (v := .int .i64 ((gx a_b.Cells k2).B)) (po_ldf (rds_arg r0) tk_3 rfl hk2 rfl) rfl ?_)
            refine wl_guard_on (j := 11) rfl rfl rfl (mv rfl rfl ?_)
            refine wl_guard_on (j := 11) rfl rfl rfl (wl_pure (po_eql rfl rfl) rfl ?_)
            refine wl_pure (po_pick_f rfl rfl) rfl ?_
            refine asg rfl rfl ?_
            refine wl_nil ?_
            exact wq_meet () trivial (sub_cons rfl (sub_cons rfl (sub_cons rfl (sub_b rfl (by rw [h2, h3]; rfl) (sub_cons rfl sub_nil))))) (some_cons pick0 (some_cons pick0 some_nil))
          intro _ _
          refine wq_block ?_
          refine wq_then ?_
          refine wc_region ?_
          refine mv rfl rfl ?_
          refine wl_pure (po_inc rfl rfl (by omega)) rfl ?_
          refine asg rfl rfl ?_
          refine wl_nil ?_
          exact wq_rnd hk2 (stpN l2 t2) () (sub_cons rfl (sub_cons rfl (sub_cons rfl (sub_cons rfl (sub_cons rfl sub_nil))))) (some_cons pick0 (some_cons pick0 some_nil))
        have c2 : (decide (((k2 : Nat) : Int) < ((a_b.Cells.length : Nat) : Int))) = false := decide_eq_false (by omega)
        have en1 := forO_end l2 hk2
        refine wc_seq ?_
        refine wcr ?_
        refine mv rfl rfl ?_
        refine wl_pure (po_fld fo_29_1 rfl) rfl ?_
        refine wl_pure (v := (sl v0a)) (po_load_box tk_27 pick0 rfl rfl) rfl ?_
        refine wl_pure (po_lenr (rds_arg r0) el_27 rfl) rfl ?_
        refine wl_pure (po_lss rfl rfl) rfl ?_
        refine wnt ?_
        refine wc_cond_f rfl c2 ?_
        refine wc_exit ?_
        refine wq_then_exit ?_
        refine wq_then_exit ?_
        refine wq_block_exit ?_
        exact wj_meet _ () (Sum.inl.inj en1) (sub_cons rfl (sub_cons rfl (sub_cons rfl (sub_cons rfl sub_nil)))) (some_cons pick0 (some_cons pick0 some_nil))
      intro e2 _ hp
      obtain rfl : e2 = y2 := hp.symm
      refine wq_then ?_
      refine wcr ?_
      refine mv rfl rfl ?_
      refine wnt ?_
      refine bdO t1 fun y2 t2 t1 => ?_
      refine wj (J := List Int) (X := Hd) (fun z => y2 = z) (fun _ x => [(1, ptr b1 0), (3, (sl x)), (4, .int .i64 ((k1 : Nat) : Int))]) (fun z x => [box b1 [.int .i64 a_b.Size, (sl v0a)], ownF (sl x) z]) ?_ ?_
      · skip
        refine wcO t2 rfl (fun h4 t2 => ?_) fun h4 t2 => ?_
        · skip
          refine wc_region ?_
          refine mv rfl rfl ?_
          refine mv rfl rfl ?_
          refine wl_eff (eo_buildSlice rfl (sb_35_1 ((k1 : Nat) : Int))) rfl fun b3 => ?_
          refine gdO t2 fun g2 t2 => ?_
          refine wl_eff (eo_append (xs := s1) (ys := ([((k1 : Nat) : Int)] : List Int)) ak_35 (pickS (pickS pick0)) rfl rfl (slin_rd fun _ g => Rg.on (rds_own (pick_box_own pick0 (n := 1) (xs := ([((k1 : Nat) : Int)] : List Int)) rfl rfl (by unfold maxLen; omega))) g) g2) rfl fun x5 => ?_
          refine asg rfl rfl ?_
          refine wl_nil ?_
          exact wj_meet _ x5 (mtE t2) (sub_cons rfl (sub_cons rfl (sub_cons rfl sub_nil))) (some_cons (pickS (pickS pick0)) (some_cons pick0 some_nil))
        refine wc_skip ?_
        exact wj_meet _ x1l (mtE t2) (sub_cons rfl (sub_cons rfl (sub_cons rfl sub_nil))) (some_cons pick0 (some_cons pick0 some_nil))
      intro j2 x4 hp
      obtain rfl : j2 = y2 := hp.symm
      refine wq_block ?_
      refine wq_then ?_
      refine wc_region ?_
      refine mv rfl rfl ?_
      refine wl_pure (po_inc rfl rfl (by omega)) rfl ?_
      refine asg rfl rfl ?_
      refine wl_nil ?_
      exact wq_rnd hk1 (stpN l1 t1) x4 (sub_cons rfl (sub_cons rfl (sub_cons rfl sub_nil))) (some_cons pick0 (some_cons pick0 some_nil))
    have c1 : (decide (((k1 : Nat) : Int) < 6)) = false := decide_eq_false (by omega)
    have en2 := forO_end l1 hk1
    refine wc_seq ?_
    refine wcr ?_
    refine mv rfl rfl ?_
    refine wl_pure (po_lss rfl rfl) rfl ?_
    refine wnt ?_
    refine wc_cond_f rfl c1 ?_
    refine wc_exit ?_
    refine wq_then_exit ?_
    refine wq_then_exit ?_
    refine wq_block_exit ?_
    exact wj_meet _ x1l (Sum.inl.inj en2) (sub_cons rfl sub_nil) (some_cons (pickS pick0) some_nil)
  intro e1 x1 hp
  obtain rfl : e1 = y1 := hp.symm
  refine wq_then ?_
  refine wcr ?_
  refine mv rfl rfl ?_
  refine asg rfl rfl ?_
  refine wnt ?_
  refine wc_ret ?_
  obtain rfl := Option.some.inj t0
  exact wq_ret1 rfl rfl fun w hw => ⟨x1, rfl, hw.weak (some_cons pick0 some_nil)⟩

theorem c_spec_ColorwayCount (w : World) (a_b : GBlock) (v0a : Hd) (r0 : rdF w (dm w []) (sl v0a) a_b.Cells) {r : Int} (t0 : spec_ColorwayCount a_b = some r) : Calls Tryd.prog 12 #[.agg #[.int .i64 a_b.Size, (sl v0a)]] w fun e w' => e = .returned (.int .i64 r) ∧ SH w [] [] w' := by
  refine calls_of_wc (args := [_]) Tryd.func12 rfl Tryd.ntmps12 rfl ?_
  unfold spec_ColorwayCount at t0
  refine wcr ?_
  refine wl_eff (eo_box rfl rfl) rfl fun b1 => ?_
  refine asg rfl rfl ?_
  refine wnt ?_
  refine wc_seq ?_
  refine wcr ?_
  refine wl_pure (v := .agg #[.int .i64 a_b.Size, (sl v0a)]) (po_load_boxs tk_29 pick0 rfl rfl rfl) rfl ?_
  refine bdO t0 fun v1 hv1 t0 => ?_
  refine wl_call (co_c0 fa_10 rfl fun w hw => c_spec_BlockOk w a_b v0a (Rg.on (rds_arg r0) hw) hv1) rfl fun _ => ?_
  refine wl_pure (po_not rfl) rfl ?_
  refine wnt ?_
  refine wcO t0 rfl (fun h1 t0 => ?_) fun h1 t0 => ?_
  · skip
    refine wcr ?_
    refine asg rfl rfl ?_
    refine wnt ?_
    refine wc_ret ?_
    refine wq_then_ret ?_
    obtain rfl := Option.some.inj t0
    exact wq_ret1 rfl rfl fun w hw => ⟨rfl, hw.weak some_nil⟩
  refine wc_skip ?_
  refine wq_then ?_
  refine wcr ?_
  refine wl_pure (v := .agg #[.int .i64 a_b.Size, (sl v0a)]) (po_load_boxs tk_29 pick0 rfl rfl rfl) rfl ?_
  refine bdO t0 fun v2 hv2 t0 => ?_
  refine wl_call (co_c1 fa_11 rfl fun w hw => c_spec_ColorsOf w a_b v0a (Rg.on (rds_arg r0) hw) hv2) rfl fun x1 => ?_
  refine wl_pure (po_lenr (rds_own pick0) el_35 rfl) rfl ?_
  refine asg rfl rfl ?_
  refine wnt ?_
  refine wcr ?_
  refine asg rfl rfl ?_
  refine wnt ?_
  refine wc_seq ?_
  refine wcr ?_
  refine asg rfl rfl ?_
  refine wnt ?_
  refine gdO t0 fun g1 t0 => ?_
  refine lpO_inv t0 fun y1 l1 t0 => ?_
  refine wj (J := Int) (X := Unit) (fun z => y1 = z) (fun z _ => [(4, .int .i64 z)]) (fun _ _ => []) ?_ ?_
  · skip
    refine wc_block ?_
    refine wc_forO (X := Unit) l1 (fun k1 s1 x1l => [(3, .int .i64 ((v2.length : Nat) : Int)), (4, .int .i64 s1), (5, .int .i64 ((k1 : Nat) : Int))]) (fun k1 s1 x1l => []) () (sub_cons rfl (sub_cons rfl (sub_cons rfl sub_nil))) some_nil fun k1 s1 x1l hN1 l1 => ?_
    by_cases hk1 : k1 < v2.length
    · skip
      refine forO_step l1 hk1 fun _ t1 l1 => ?_
      unfold spec_ColorwayCount_L1 at t1
      have c1 : (decide (((k1 : Nat) : Int) < ((v2.length : Nat) : Int))) = true := decide_eq_true (by omega)
      refine wc_seq ?_
      refine wcr ?_
      refine mv rfl rfl ?_
      refine mv rfl rfl ?_
      refine wl_pure (po_lss rfl rfl) rfl ?_
      refine wnt ?_
      refine wc_cond_t rfl c1 ?_
      refine wc_skip ?_
      refine wq_then ?_
      refine wc_seq ?_
      refine wc_block ?_
      refine wc_region ?_
      refine mv rfl rfl ?_
      refine mv rfl rfl ?_
      refine wl_pure (po_sub rfl rfl) rfl ?_
      refine wl_pure (po_mul rfl rfl) rfl ?_
      refine asg rfl rfl ?_
      refine wl_nil ?_
      refine wq_block ?_
      refine wq_then ?_
      refine wc_region ?_
      refine mv rfl rfl ?_
      refine wl_pure (po_inc rfl rfl (by omega)) rfl ?_
      refine asg rfl rfl ?_
      refine wl_nil ?_
      exact wq_rnd hk1 (stpN l1 t1) () (sub_cons rfl (sub_cons rfl (sub_cons rfl sub_nil))) some_nil
    have c1 : (decide (((k1 : Nat) : Int) < ((v2.length : Nat) : Int))) = false := decide_eq_false (by omega)
    have en1 := forO_end l1 hk1
    refine wc_seq ?_
    refine wcr ?_
    refine mv rfl rfl ?_
    refine mv rfl rfl ?_
    refine wl_pure (po_lss rfl rfl) rfl ?_
    refine wnt ?_
    refine wc_cond_f rfl c1 ?_
    refine wc_exit ?_
    refine wq_then_exit ?_
    refine wq_then_exit ?_
    refine wq_block_exit ?_
    exact wj_meet _ () (Sum.inl.inj en1) (sub_cons rfl sub_nil) some_nil
  intro e1 _ hp
  obtain rfl : e1 = y1 := hp.symm
  refine wq_then ?_
  refine wcr ?_
  refine mv rfl rfl ?_
  refine asg rfl rfl ?_
  refine wnt ?_
  refine wc_ret ?_
  obtain rfl := Option.some.inj t0
  exact wq_ret1 rfl rfl fun w hw => ⟨rfl, hw.weak some_nil⟩

theorem c_spec_l06Same (w : World)  {r : List Int} (t0 : spec_l06Same = some r) : Calls Tryd.prog 26 #[] w fun e w' => ∃ x : Hd, e = .returned ((sl x)) ∧ SH w [] [ownF (sl x) r] w' := by
  refine calls_of_wc (args := []) Tryd.func26 rfl Tryd.ntmps26 rfl ?_
  unfold spec_l06Same at t0
  refine wcr ?_
  refine asg rfl rfl ?_
  refine wnt ?_
  refine wcr ?_
  refine wl_eff (eo_buildSlice rfl sb_35_0) rfl fun b1 => ?_
  refine asg rfl rfl ?_
  refine wnt ?_
  refine wc_seq ?_
  refine wcr ?_
  refine asg rfl rfl ?_
  refine wnt ?_
  refine lpO_inv t0 fun y1 l1 t0 => ?_
  refine wj (J := List Int) (X := Hd) (fun z => y1 = z) (fun _ x => [(1, (sl x))]) (fun z x => [ownF (sl x) z]) ?_ ?_
  · skip
    refine wc_block ?_
    refine wc_forO (X := Hd) l1 (fun k1 s1 x1l => [(1, (sl x1l)), (2, .int .i64 ((k1 : Nat) : Int))]) (fun k1 s1 x1l => [ownF (sl x1l) s1]) (⟨some ⟨b1, 0, none⟩, 0, 0⟩ : Hd) (sub_cons rfl (sub_cons rfl sub_nil)) (some_cons (pick_box_own pick0 (n := 0) (xs := ([] : List Int)) rfl rfl (by unfold maxLen; omega)) some_nil) fun k1 s1 x1l hN1 l1 => ?_
    by_cases hk1 : k1 < 6
    · skip
      refine forO_step l1 hk1 fun _ t1 l1 => ?_
      unfold spec_l06Same_L1 at t1
      have c1 : (decide (((k1 : Nat) : Int) < 6)) = true := decide_eq_true (by omega)
      refine wc_seq ?_
      refine wcr ?_
      refine mv rfl rfl ?_
      refine wl_pure (po_lss rfl rfl) rfl ?_
      refine wnt ?_
      refine wc_cond_t rfl c1 ?_
      refine wc_skip ?_
      refine wq_then ?_
      refine wc_seq ?_
      refine wc_block ?_
      refine wc_region ?_
      refine mv rfl rfl ?_
      refine mv rfl rfl ?_
      refine wl_eff (eo_buildSlice rfl (sb_35_1 ((k1 : Nat) : Int))) rfl fun b2 => ?_
      refine gdO t1 fun g1 t1 => ?_
      refine wl_eff (eo_append (xs := s1) (ys := ([((k1 : Nat) : Int)] : List Int)) ak_35 (pickS pick0) rfl rfl (slin_rd fun _ g => Rg.on (rds_own (pick_box_own pick0 (n := 1) (xs := ([((k1 : Nat) : Int)] : List Int)) rfl rfl (by unfold maxLen; omega))) g) g1) rfl fun x2 => ?_
      refine asg rfl rfl ?_
      refine wl_nil ?_
      refine wq_block ?_
      refine wq_then ?_
      refine wc_region ?_
      refine mv rfl rfl ?_
      refine wl_pure (po_inc rfl rfl (by omega)) rfl ?_
      refine asg rfl rfl ?_
      refine wl_nil ?_
      exact wq_rnd hk1 (stpN l1 t1) x2 (sub_cons rfl (sub_cons rfl sub_nil)) (some_cons pick0 some_nil)
    have c1 : (decide (((k1 : Nat) : Int) < 6)) = false := decide_eq_false (by omega)
    have en1 := forO_end l1 hk1
    refine wc_seq ?_
    refine wcr ?_
    refine mv rfl rfl ?_
    refine wl_pure (po_lss rfl rfl) rfl ?_
    refine wnt ?_
    refine wc_cond_f rfl c1 ?_
    refine wc_exit ?_
    refine wq_then_exit ?_
    refine wq_then_exit ?_
    refine wq_block_exit ?_
    exact wj_meet _ x1l (Sum.inl.inj en1) (sub_cons rfl sub_nil) (some_cons pick0 some_nil)
  intro e1 x1 hp
  obtain rfl : e1 = y1 := hp.symm
  refine wq_then ?_
  refine wcr ?_
  refine mv rfl rfl ?_
  refine asg rfl rfl ?_
  refine wnt ?_
  refine wc_ret ?_
  obtain rfl := Option.some.inj t0
  exact wq_ret1 rfl rfl fun w hw => ⟨x1, rfl, hw.weak (some_cons pick0 some_nil)⟩

theorem c_spec_ListOk (w : World) (a_l : List Int) (v0a : Hd) (r0 : rdF w (dm w []) (sl v0a) a_l) {r : Bool} (t0 : spec_ListOk a_l = some r) : Calls Tryd.prog 42 #[(sl v0a)] w fun e w' => e = .returned (.bool r) ∧ SH w [] [] w' := by
  refine calls_of_wc (args := [_]) Tryd.func42 rfl Tryd.ntmps42 rfl ?_
  unfold spec_ListOk at t0
  refine wcr ?_
  refine asg rfl rfl ?_
  refine wnt ?_
  refine wc_seq ?_
  refine wcr ?_
  refine asg rfl rfl ?_
  refine wnt ?_
  refine gdO t0 fun g1 t0 => ?_
  refine sqO t0 fun y1 l1 t0 => ?_
  refine wj (J := Unit) (X := Unit) (fun z => y1 = .inl z) (fun _ _ => [(0, (sl v0a))]) (fun _ _ => []) ?_ ?_
  · skip
    refine wc_block ?_
    refine wc_forO (X := Unit) l1 (fun k1 s1 x1l => [(0, (sl v0a)), (3, .int .i64 ((k1 : Nat) : Int))]) (fun k1 s1 x1l => []) () (sub_cons rfl (sub_cons rfl sub_nil)) some_nil fun k1 s1 x1l hN1 l1 => ?_
    by_cases hk1 : k1 < a_l.length
    · skip
      refine forO_step l1 hk1 fun _ t1 l1 => ?_
      unfold spec_ListOk_L1 at t1
      have c1 : (decide (((k1 : Nat) : Int) < ((a_l.length : Nat) : Int))) = true := decide_eq_true (by omega)
      refine wc_seq ?_
      refine wcr ?_
      refine mv rfl rfl ?_
      refine mv rfl rfl ?_
      refine wl_pure (po_lenr (rds_arg r0) el_35 rfl) rfl ?_
      refine wl_pure (po_lss rfl rfl) rfl ?_
      refine wnt ?_
      refine wc_cond_t rfl c1 ?_
      refine wc_skip ?_
      refine wq_then ?_
      refine wc_seq ?_
      refine wc_block ?_
      refine wcr ?_
      refine mv rfl rfl ?_
      refine mv rfl rfl ?_
      refine wl_pure (po_ixn (k := k1) (rds_arg r0) el_35 rfl rfl hk1) rfl ?_
      refine wl_pure (v := .int .i64 (gx a_l k1)) (po_ldf (rds_arg r0) tk_3 rfl hk1 rfl) rfl ?_
      refine bdO t1 fun v1 hv1 t1 => ?_
      refine wl_call (co_c0 fa_24 rfl fun w hw => c_spec_l01In w (gx a_l k1) 0 5 hv1) rfl fun _ => ?_
      refine wl_pure (po_not rfl) rfl ?_
      refine wnt ?_
      refine wcO t1 rfl (fun h1 t1 => ?_) fun h1 t1 => ?_
      · skip
        refine wcr ?_
        refine asg rfl rfl ?_
        refine wnt ?_
        refine wc_ret ?_
        refine wq_block_ret ?_
        refine wq_then_ret ?_
        refine wq_then_ret ?_
        refine wq_block_ret ?_
        refine wq_then_ret ?_
        refine wq_then_ret ?_
        replace t0 := lpR t0 l1 t1
        obtain rfl := Option.some.inj t0
        exact wq_ret1 rfl rfl fun w hw => ⟨rfl, hw.weak some_nil⟩
      refine wc_skip ?_
      refine wq_block ?_
      refine wq_then ?_
      refine wc_region ?_
      refine mv rfl rfl ?_
      refine wl_pure (po_inc rfl rfl (by omega)) rfl ?_
      refine asg rfl rfl ?_
      refine wl_nil ?_
      exact wq_rnd hk1 (stpN l1 t1) () (sub_cons rfl (sub_cons rfl sub_nil)) some_nil
    have c1 : (decide (((k1 : Nat) : Int) < ((a_l.length : Nat) : Int))) = false := decide_eq_false (by omega)
    have en1 := forO_end l1 hk1
    refine wc_seq ?_
    refine wcr ?_
    refine mv rfl rfl ?_
    refine mv rfl rfl ?_
    refine wl_pure (po_lenr (rds_arg r0) el_35 rfl) rfl ?_
    refine wl_pure (po_lss rfl rfl) rfl ?_
    refine wnt ?_
    refine wc_cond_f rfl c1 ?_
    refine wc_exit ?_
    refine wq_then_exit ?_
    refine wq_then_exit ?_
    refine wq_block_exit ?_
    exact wj_meet _ () en1 (sub_cons rfl sub_nil) some_nil
  intro e1 _ hp
  replace t0 := sqE (j := e1) t0 hp
  refine wq_then ?_
  refine wcr ?_
  refine mv rfl rfl ?_
  refine wl_pure (po_lenr (rds_arg r0) el_35 rfl) rfl ?_
  refine wl_pure (po_eql rfl rfl) rfl ?_
  refine asg rfl rfl ?_
  refine wnt ?_
  refine wc_ret ?_
  obtain rfl := Option.some.inj t0
  exact wq_ret1 rfl rfl fun w hw => ⟨rfl, hw.weak some_nil⟩

theorem c_spec_l03Copy (w : World) (a_b : GBlock) (v0a : Hd) (r0 : rdF w (dm w []) (sl v0a) a_b.Cells) {r : GBlock} (t0 : spec_l03Copy a_b = some r) : Calls Tryd.prog 29 #[.agg #[.int .i64 a_b.Size, (sl v0a)]] w fun e w' => ∃ x : Hd, e = .returned (.agg #[.int .i64 r.Size, (sl x)]) ∧ SH w [] [ownF (sl x) r.Cells] w' := by
  refine calls_of_wc (args := [_]) Tryd.func29 rfl Tryd.ntmps29 rfl ?_
  unfold spec_l03Copy at t0
  refine wcr ?_
  refine wl_eff (eo_box rfl rfl) rfl fun b1 => ?_
  refine wl_eff (eo_alloc (cs := [.int .i64 0, (sl (⟨none, 0, 0⟩ : Hd))]) za_29) rfl fun b2 => ?_
  refine wnt ?_
  refine wc_seq ?_
  refine wc_draw [box b2 [.int .i64 0, (sl (⟨none, 0, 0⟩ : Hd))], box b1 [.int .i64 a_b.Size, (sl v0a)]] 7 mixed ?_
  refine wa_pure 0 rfl (po_fld fo_29_0 rfl) (some_cons pick0 (some_cons pick0 some_nil)) rfl (by kernel_rfl) (fun _ _ _ h => h) ?_
  refine wa_pure (v := .int .i64 a_b.Size) 1 rfl (po_load_box tk_3 (pickS pick0) rfl rfl) (some_cons pick0 (some_cons pick0 some_nil)) rfl (by kernel_rfl) (fun _ _ _ h => h) ?_
  refine wa_pure 3 rfl (po_fld fo_29_1 rfl) (some_cons pick0 (some_cons pick0 some_nil)) rfl (by kernel_rfl) (fun _ _ _ h => h) ?_
  refine wa_pure (v := (sl v0a)) 4 rfl (po_load_box tk_27 (pickS pick0) rfl rfl) (some_cons pick0 (some_cons pick0 some_nil)) rfl (by kernel_rfl) (fun _ _ _ h => h) ?_
  refine wa_1 (i := 2) (by kernel_rfl) ?_
  refine ws_eff rfl (eo_buildSlice rfl sb_27_0) (fun _ => (sts_some (some_cons (pickS pick0) (some_cons (pickS pick0) some_nil)))) rfl fun b3 => ?_
  refine wa_1 (i := 5) (by kernel_rfl) ?_
  refine gdO t0 fun g1 t0 => ?_
  refine ws_eff rfl (eo_append (xs := ([] : List GCell)) (ys := a_b.Cells) ak_27 (pick_box_own pick0 (n := 0) (xs := ([] : List GCell)) rfl rfl (by unfold maxLen; omega)) rfl rfl (slin_rd fun _ g => Rg.on (rds_arg r0) g) g1) (fun _ => (sts_some (some_cons (pickS pick0) (some_cons (pickS pick0) some_nil)))) rfl fun x1 => ?_
  refine wa_pure 6 rfl (po_build rfl (bd_29_0_1 a_b.Size x1)) (some_cons (pickS pick0) (some_cons (pickS pick0) some_nil)) rfl (by kernel_rfl) (fun _ _ _ h => h) ?_
  refine wa_1 (i := 7) (by kernel_rfl) ?_
  refine ws_skipop rfl (so_box (cs' := [.int .i64 a_b.Size, (sl x1)]) tk_29 (pickS pick0) rfl rfl rfl rfl rfl rfl rfl) (sts_past (by kernel_rfl)) ?_
  refine wa_done (by kernel_rfl) ?_
  refine wq_then ?_
  refine wc_ret ?_
  obtain rfl := Option.some.inj t0
  exact wq_retc rfl tk_29 rfl pick0 rfl fun w hw => ⟨x1, rfl, hw.weak (some_cons (pickS pick0) some_nil)⟩

theorem c_spec_WholeCell (w : World) (a_a : Int) {r : GCell} (t0 : spec_WholeCell a_a = some r) : Calls Tryd.prog 67 #[.int .i64 a_a] w fun e w' => e = .returned (.agg #[.int .i64 r.Split, .int .i64 r.A, .int .i64 r.B]) ∧ SH w [] [] w' := by
  refine calls_of_wc (args := [_]) Tryd.func67 rfl Tryd.ntmps67 rfl ?_
  unfold spec_WholeCell at t0
  refine wcr ?_
  refine wl_eff (eo_alloc (cs := [.int .i64 0, .int .i64 0, .int .i64 0]) za_49) rfl fun b1 => ?_
  refine wnt ?_
  refine wc_seq ?_
  refine wcr ?_
  refine mv rfl rfl ?_
  refine bdO t0 fun v1 hv1 t0 => ?_
  refine wl_call (co_c0 fa_24 rfl fun w hw => c_spec_l01In w a_a 0 5 hv1) rfl fun _ => ?_
  refine wl_pure (po_not rfl) rfl ?_
  refine wnt ?_
  refine wcO t0 rfl (fun h1 t0 => ?_) fun h1 t0 => ?_
  · skip
    refine wcr ?_
    refine wl_pure (po_build rfl bd_49) rfl ?_
    refine wl_skipop (so_box (cs' := [.int .i64 0, .int .i64 0, .int .i64 0]) tk_49 pick0 rfl rfl rfl rfl rfl rfl rfl) ?_
    refine wnt ?_
    refine wc_ret ?_
    refine wq_then_ret ?_
    obtain rfl := Option.some.inj t0
    exact wq_retc rfl tk_49 rfl pick0 rfl fun w hw => ⟨rfl, hw.weak some_nil⟩
  refine wc_skip ?_
  refine wq_then ?_
  refine wcr ?_
  refine mv rfl rfl ?_
  refine mv rfl rfl ?_
  refine wl_pure (po_build rfl (bd_49_1_2 a_a a_a)) rfl ?_
  refine wl_skipop (so_box (cs' := [.int .i64 0, .int .i64 a_a, .int .i64 a_a]) tk_49 pick0 rfl rfl rfl rfl rfl rfl rfl) ?_
  refine wnt ?_
  refine wc_ret ?_
  obtain rfl := Option.some.inj t0
  exact wq_retc rfl tk_49 rfl pick0 rfl fun w hw => ⟨rfl, hw.weak some_nil⟩

theorem c_spec_SplitCell (w : World) (a_split : Int) (a_a : Int) (a_b : Int) {r : GCell} (t0 : spec_SplitCell a_split a_a a_b = some r) : Calls Tryd.prog 57 #[.int .i64 a_split, .int .i64 a_a, .int .i64 a_b] w fun e w' => e = .returned (.agg #[.int .i64 r.Split, .int .i64 r.A, .int .i64 r.B]) ∧ SH w [] [] w' := by
  refine calls_of_wc (args := [_, _, _]) Tryd.func57 rfl Tryd.ntmps57 rfl ?_
  unfold spec_SplitCell at t0
  refine wcr ?_
  refine wl_eff (eo_alloc (cs := [.int .i64 0, .int .i64 0, .int .i64 0]) za_49) rfl fun b1 => ?_
  refine wnt ?_
  refine wc_seq ?_
  refine wcr ?_
  refine mv rfl rfl ?_
  refine mv rfl rfl ?_
  refine wl_pure (po_eql rfl rfl) rfl ?_
  refine wnt ?_
  refine wcO t0 rfl (fun h1 t0 => ?_) fun h1 t0 => ?_
  · skip
    refine wcr ?_
    refine mv rfl rfl ?_
    refine bdO t0 fun v1 hv1 t0 => ?_
    refine wl_call (co_c0 fa_67 rfl fun w hw => c_spec_WholeCell w a_a hv1) rfl fun _ => ?_
    refine wl_skipop (so_box (cs' := [.int .i64 v1.Split, .int .i64 v1.A, .int .i64 v1.B]) tk_49 pick0 rfl rfl rfl rfl rfl rfl rfl) ?_
    refine wnt ?_
    refine wc_ret ?_
    refine wq_then_ret ?_
    obtain rfl := Option.some.inj t0
    exact wq_retc rfl tk_49 rfl pick0 rfl fun w hw => ⟨rfl, hw.weak some_nil⟩
  refine wc_skip ?_
  refine wq_then ?_
  refine wcr ?_
  refine mv rfl rfl ?_
  refine mv rfl rfl ?_
  refine mv rfl rfl ?_
  refine wl_pure (po_build rfl (bd_49_0_1_2 a_split a_a a_b)) rfl ?_
  refine wl_eff (eo_alloc (cs := [.int .i64 0, .int .i64 0, .int .i64 0]) za_49) rfl fun b2 => ?_
  refine wl_skipop (so_box (cs' := [.int .i64 a_split, .int .i64 a_a, .int .i64 a_b]) tk_49 pick0 rfl rfl rfl rfl rfl rfl rfl) ?_
  refine wnt ?_
  refine wc_seq ?_
  refine wcr ?_
  refine wl_pure (v := .agg #[.int .i64 a_split, .int .i64 a_a, .int .i64 a_b]) (po_load_boxs tk_49 pick0 rfl rfl rfl) rfl ?_
  refine bdO t0 fun v2 hv2 t0 => ?_
  refine wl_call (co_c0 fa_25 rfl fun w hw => c_spec_CellOk w (GCell.mk a_split a_a a_b) hv2) rfl fun _ => ?_
  refine wl_pure (po_not rfl) rfl ?_
  refine wnt ?_
  refine wcO t0 rfl (fun h2 t0 => ?_) fun h2 t0 => ?_
  · skip
    refine wcr ?_
    refine wl_pure (po_build rfl bd_49) rfl ?_
    refine wl_skipop (so_box (cs' := [.int .i64 0, .int .i64 0, .int .i64 0]) tk_49 (pickS pick0) rfl rfl rfl rfl rfl rfl rfl) ?_
    refine wnt ?_
    refine wc_ret ?_
    refine wq_then_ret ?_
    obtain rfl := Option.some.inj t0
    exact wq_retc rfl tk_49 rfl pick0 rfl fun w hw => ⟨rfl, hw.weak some_nil⟩
  refine wc_skip ?_
  refine wq_then ?_
  refine wcr ?_
  refine wl_pure (v := .agg #[.int .i64 a_split, .int .i64 a_a, .int .i64 a_b]) (po_load_boxs tk_49 pick0 rfl rfl rfl) rfl ?_
  refine wl_skipop (so_box (cs' := [.int .i64 a_split, .int .i64 a_a, .int .i64 a_b]) tk_49 (pickS pick0) rfl rfl rfl rfl rfl rfl rfl) ?_
  refine wnt ?_
  refine wc_ret ?_
  obtain rfl := Option.some.inj t0
  exact wq_retc rfl tk_49 rfl pick0 rfl fun w hw => ⟨rfl, hw.weak some_nil⟩

theorem c_spec_ExchangeCell (w : World) (a_c : GCell) (a_l : List Int) (v0a : Hd) (r0 : rdF w (dm w []) (sl v0a) a_l) {r : GCell} (t0 : spec_ExchangeCell a_c a_l = some r) : Calls Tryd.prog 43 #[.agg #[.int .i64 a_c.Split, .int .i64 a_c.A, .int .i64 a_c.B], (sl v0a)] w fun e w' => e = .returned (.agg #[.int .i64 r.Split, .int .i64 r.A, .int .i64 r.B]) ∧ SH w [] [] w' := by
  refine calls_of_wc (args := [_, _]) Tryd.func43 rfl Tryd.ntmps43 rfl ?_
  unfold spec_ExchangeCell at t0
  refine wcr ?_
  refine wl_eff (eo_box rfl rfl) rfl fun b1 => ?_
  refine wl_eff (eo_alloc (cs := [.int .i64 0, .int .i64 0, .int .i64 0]) za_49) rfl fun b2 => ?_
  refine wnt ?_
  refine wc_seq ?_
  refine wc_seq ?_
  refine bdO t0 fun y1 t1 t0 => ?_
  refine wj (J := Bool) (X := Unit) (fun z => y1 = z) (fun z _ => [(1, (sl v0a)), (2, ptr b1 0), (4, ptr b2 0), (12, .bool z)]) (fun _ _ => [box b2 [.int .i64 0, .int .i64 0, .int .i64 0], box b1 [.int .i64 a_c.Split, .int .i64 a_c.A, .int .i64 a_c.B]]) ?_ ?_
  · skip
    refine wc_region ?_
    refine wl_pure (v := .agg #[.int .i64 a_c.Split, .int .i64 a_c.A, .int .i64 a_c.B]) (po_load_boxs tk_49 (pickS pick0) rfl rfl rfl) rfl ?_
    refine bdO t1 fun v1 hv1 t1 => ?_
    refine wl_call (co_c0 fa_25 rfl fun w hw => c_spec_CellOk w a_c hv1) rfl fun _ => ?_
    refine wl_pure (po_not rfl) rfl ?_
    refine mv rfl rfl ?_
    refine wlO_ (t := 8) t1 rfl (fun h1 t1 => ?_) fun h1 t1 => ?_
    · skip
      refine wl_guard_off (j := 3) rfl rfl rfl rfl rfl ?_
      refine wl_guard_off (j := 3) rfl rfl rfl rfl rfl ?_
      refine wl_guard_off (j := 3) rfl rfl rfl rfl rfl ?_
      refine wl_pure (po_pick_t rfl rfl) rfl ?_
      refine wl_nil ?_
      exact wj_meet _ () (mtE t1) (sub_cons rfl (sub_cons rfl (sub_cons rfl (sub_cons rfl sub_nil)))) (some_cons pick0 (some_cons pick0 some_nil))
    refine wl_guard_on (j := 3) rfl rfl rfl (mv rfl rfl ?_)
    refine bdO t1 fun v2 hv2 t1 => ?_
    refine wl_guard_on (j := 3) rfl rfl rfl (wl_call (co_c0 fa_42 rfl fun w hw => c_spec_ListOk w a_l v0a (Rg.on (rds_arg r0) hw) hv2) rfl (fun _ => ?_))
    refine wl_guard_on (j := 3) rfl rfl rfl (wl_pure (po_not rfl) rfl ?_)
    refine wl_pure (po_pick_f rfl rfl) rfl ?_
    refine wl_nil ?_
    exact wj_meet _ () (mtE t1) (sub_cons rfl (sub_cons rfl (sub_cons rfl (sub_cons rfl sub_nil)))) (some_cons pick0 (some_cons pick0 some_nil))
  intro j1 _ hp
  obtain rfl : j1 = y1 := hp.symm
  refine wq_then ?_
  refine wcO t0 rfl (fun h2 t0 => ?_) fun h2 t0 => ?_
  · skip
    refine wcr ?_
    refine wl_pure (po_build rfl bd_49) rfl ?_
    refine wl_skipop (so_box (cs' := [.int .i64 0, .int .i64 0, .int .i64 0]) tk_49 pick0 rfl rfl rfl rfl rfl rfl rfl) ?_
    refine wnt ?_
    refine wc_ret ?_
    refine wq_then_ret ?_
    obtain rfl := Option.some.inj t0
    exact wq_retc rfl tk_49 rfl pick0 rfl fun w hw => ⟨rfl, hw.weak some_nil⟩
  refine wc_skip ?_
  refine wq_then ?_
  refine wc_seq ?_
  refine wc_draw [box b2 [.int .i64 0, .int .i64 0, .int .i64 0], box b1 [.int .i64 a_c.Split, .int .i64 a_c.A, .int .i64 a_c.B]] 13 mixed ?_
  refine wa_pure 0 rfl (po_fld fo_49_0 rfl) (some_cons pick0 (some_cons pick0 some_nil)) rfl (by kernel_rfl) (fun _ _ _ h => h) ?_
  refine wa_pure (v := .int .i64 a_c.Split) 1 rfl (po_load_box tk_3 (pickS pick0) rfl rfl) (some_cons pick0 (some_cons pick0 some_nil)) rfl (by kernel_rfl) (fun _ _ _ h => h) ?_
  refine wa_pure 2 rfl (po_move rfl) (some_cons pick0 (some_cons pick0 some_nil)) rfl (by kernel_rfl) (fun _ _ _ h => h) ?_
  refine wa_pure 3 rfl (po_fld fo_49_1 rfl) (some_cons pick0 (some_cons pick0 some_nil)) rfl (by kernel_rfl) (fun _ _ _ h => h) ?_
  refine wa_pure (v := .int .i64 a_c.A) 4 rfl (po_load_box tk_3 (pickS pick0) rfl rfl) (some_cons pick0 (some_cons pick0 some_nil)) rfl (by kernel_rfl) (fun _ _ _ h => h) ?_
  refine gdO t0 fun g1 t0 => ?_
  refine wa_pure 5 rfl (po_ixr (rds_arg r0) el_35 rfl rfl g1.1 g1.2) (some_cons pick0 (some_cons pick0 some_nil)) rfl (by kernel_rfl) (fun _ _ _ h => h) ?_
  refine wa_pure (v := .int .i64 (gx a_l ((a_c.A).toNat))) 6 rfl (po_ldf (rds_arg r0) tk_3 rfl (ix_lt g1) rfl) (some_cons pick0 (some_cons pick0 some_nil)) rfl (by kernel_rfl) (fun _ _ _ h => h) ?_
  refine wa_pure 7 rfl (po_move rfl) (some_cons pick0 (some_cons pick0 some_nil)) rfl (by kernel_rfl) (fun _ _ _ h => h) ?_
  refine wa_pure 8 rfl (po_fld fo_49_2 rfl) (some_cons pick0 (some_cons pick0 some_nil)) rfl (by kernel_rfl) (fun _ _ _ h => h) ?_
  refine wa_pure (v := .int .i64 a_c.B) 9 rfl (po_load_box tk_3 (pickS pick0) rfl rfl) (some_cons pick0 (some_cons pick0 some_nil)) rfl (by kernel_rfl) (fun _ _ _ h => h) ?_
  refine gdO t0 fun g2 t0 => ?_
  refine wa_pure 10 rfl (po_ixr (rds_arg r0) el_35 rfl rfl g2.1 g2.2) (some_cons pick0 (some_cons pick0 some_nil)) rfl (by kernel_rfl) (fun _ _ _ h => h) ?_
  refine wa_pure (v := .int .i64 (gx a_l ((a_c.B).toNat))) 11 rfl (po_ldf (rds_arg r0) tk_3 rfl (ix_lt g2) rfl) (some_cons pick0 (some_cons pick0 some_nil)) rfl (by kernel_rfl) (fun _ _ _ h => h) ?_
  refine wa_1 (i := 12) (by kernel_rfl) ?_
  refine bdO t0 fun v3 hv3 t0 => ?_
  refine ws_call rfl (co_c0 fa_57 rfl fun w hw => c_spec_SplitCell w a_c.Split (gx a_l ((a_c.A).toNat)) (gx a_l ((a_c.B).toNat)) hv3) (fun _ => (sts_some (some_cons pick0 (some_cons pick0 some_nil)))) rfl fun _ => ?_
  refine wa_1 (i := 13) (by kernel_rfl) ?_
  refine ws_skipop rfl (so_box (cs' := [.int .i64 v3.Split, .int .i64 v3.A, .int .i64 v3.B]) tk_49 pick0 rfl rfl rfl rfl rfl rfl rfl) (sts_past (by kernel_rfl)) ?_
  refine wa_done (by kernel_rfl) ?_
  refine wq_then ?_
  refine wc_ret ?_
  obtain rfl := Option.some.inj t0
  exact wq_retc rfl tk_49 rfl pick0 rfl fun w hw => ⟨rfl, hw.weak some_nil⟩

theorem c_spec_ExchangeBlock (w : World) (a_b : GBlock) (v0a : Hd) (r0 : rdF w (dm w []) (sl v0a) a_b.Cells) (a_l : List Int) (v1a : Hd) (r1 : rdF w (dm w []) (sl v1a) a_l) {r : GBlock × Bool} (t0 : spec_ExchangeBlock a_b a_l = some r) : Calls Tryd.prog 27 #[.agg #[.int .i64 a_b.Size, (sl v0a)], (sl v1a)] w fun e w' => ∃ x : Hd, e = .returned (.tuple #[.agg #[.int .i64 r.1.Size, (sl x)], .bool r.2]) ∧ SH w [] [ownF (sl x) r.1.Cells] w' := by
  refine calls_of_wc (args := [_, _]) Tryd.func27 rfl Tryd.ntmps27 rfl ?_
  unfold spec_ExchangeBlock at t0
  refine wcr ?_
  refine wl_eff (eo_box rfl rfl) rfl fun b1 => ?_
  refine wl_eff (eo_alloc (cs := [.int .i64 0, (sl (⟨none, 0, 0⟩ : Hd))]) za_29) rfl fun b2 => ?_
  refine asg rfl rfl ?_
  refine wnt ?_
  refine wc_seq ?_
  refine wc_seq ?_
  refine bdO t0 fun y1 t1 t0 => ?_
  refine wj (J := Bool) (X := Unit) (fun z => y1 = z) (fun z _ => [(1, (sl v1a)), (2, ptr b1 0), (4, ptr b2 0), (15, .bool z)]) (fun _ _ => [box b2 [.int .i64 0, (sl (⟨none, 0, 0⟩ : Hd))], box b1 [.int .i64 a_b.Size, (sl v0a)]]) ?_ ?_
  · skip
    refine wc_region ?_
    refine wl_pure (v := .agg #[.int .i64 a_b.Size, (sl v0a)]) (po_load_boxs tk_29 (pickS pick0) rfl rfl rfl) rfl ?_
    refine bdO t1 fun v1 hv1 t1 => ?_
    refine wl_call (co_c0 fa_10 rfl fun w hw => c_spec_BlockOk w a_b v0a (Rg.on (rds_arg r0) hw) hv1) rfl fun _ => ?_
    refine wl_pure (po_not rfl) rfl ?_
    refine mv rfl rfl ?_
    refine wlO_ (t := 11) t1 rfl (fun h1 t1 => ?_) fun h1 t1 => ?_
    · skip
      refine wl_guard_off (j := 3) rfl rfl rfl rfl rfl ?_
      refine wl_guard_off (j := 3) rfl rfl rfl rfl rfl ?_
      refine wl_guard_off (j := 3) rfl rfl rfl rfl rfl ?_
      refine wl_pure (po_pick_t rfl rfl) rfl ?_
      refine wl_nil ?_
      exact wj_meet _ () (mtE t1) (sub_cons rfl (sub_cons rfl (sub_cons rfl (sub_cons rfl sub_nil)))) (some_cons pick0 (some_cons pick0 some_nil))
    refine wl_guard_on (j := 3) rfl rfl rfl (mv rfl rfl ?_)
    refine bdO t1 fun v2 hv2 t1 => ?_
    refine wl_guard_on (j := 3) rfl rfl rfl (wl_call (co_c0 fa_42 rfl fun w hw => c_spec_ListOk w a_l v1a (Rg.on (rds_arg r1) hw) hv2) rfl (fun _ => ?_))
    refine wl_guard_on (j := 3) rfl rfl rfl (wl_pure (po_not rfl) rfl ?_)
    refine wl_pure (po_pick_f rfl rfl) rfl ?_
    refine wl_nil ?_
    exact wj_meet _ () (mtE t1) (sub_cons rfl (sub_cons rfl (sub_cons rfl (sub_cons rfl sub_nil)))) (some_cons pick0 (some_cons pick0 some_nil))
  intro j1 _ hp
  obtain rfl : j1 = y1 := hp.symm
  refine wq_then ?_
  refine wcO t0 rfl (fun h2 t0 => ?_) fun h2 t0 => ?_
  · skip
    refine wcr ?_
    refine wl_pure (v := .agg #[.int .i64 a_b.Size, (sl v0a)]) (po_load_boxs tk_29 (pickS pick0) rfl rfl rfl) rfl ?_
    refine bdO t0 fun v3 hv3 t0 => ?_
    refine wl_call (co_c1 fa_29 rfl fun w hw => c_spec_l03Copy w a_b v0a (Rg.on (rds_arg r0) hw) hv3) rfl fun x2 => ?_
    refine wl_skipop (so_box (cs' := [.int .i64 v3.Size, (sl x2)]) tk_29 (pickS pick0) rfl rfl rfl rfl rfl rfl rfl) ?_
    refine asg rfl rfl ?_
    refine wnt ?_
    refine wc_ret ?_
    refine wq_then_ret ?_
    obtain rfl := Option.some.inj t0
    exact wq_retc1 rfl tk_29 rfl rfl pick0 rfl fun w hw => ⟨x2, rfl, hw.weak (some_cons (pickS pick0) some_nil)⟩
  refine wc_skip ?_
  refine wq_then ?_
  refine wcr ?_
  refine wl_pure (po_fld fo_29_0 rfl) rfl ?_
  refine wl_pure (v := .int .i64 a_b.Size) (po_load_box tk_3 (pickS pick0) rfl rfl) rfl ?_
  refine wl_pure (po_build rfl (bd_29_0 a_b.Size)) rfl ?_
  refine wl_eff (eo_alloc (cs := [.int .i64 0, (sl (⟨none, 0, 0⟩ : Hd))]) za_29) rfl fun b3 => ?_
  refine wl_skipop (so_box (cs' := [.int .i64 a_b.Size, (sl (⟨none, 0, 0⟩ : Hd))]) tk_29 pick0 rfl rfl rfl rfl rfl rfl rfl) ?_
  refine wnt ?_
  refine wc_seq ?_
  refine wcr ?_
  refine asg rfl rfl ?_
  refine wnt ?_
  refine gdO t0 fun g1 t0 => ?_
  refine lpO_inv t0 fun y1 l1 t0 => ?_
  refine wj (J := List GCell) (X := Hd) (fun z => y1 = z) (fun _ _ => [(4, ptr b2 0), (6, ptr b3 0)]) (fun z x => [box b3 [.int .i64 a_b.Size, (sl x)], box b2 [.int .i64 0, (sl (⟨none, 0, 0⟩ : Hd))], ownF (sl x) z]) ?_ ?_
  · skip
    refine wc_block ?_
    refine wc_forO (X := Hd) l1 (fun k1 s1 x1l => [(1, (sl v1a)), (2, ptr b1 0), (4, ptr b2 0), (6, ptr b3 0), (7, .int .i64 ((k1 : Nat) : Int))]) (fun k1 s1 x1l => [box b3 [.int .i64 a_b.Size, (sl x1l)], box b2 [.int .i64 0, (sl (⟨none, 0, 0⟩ : Hd))], box b1 [.int .i64 a_b.Size, (sl v0a)], ownF (sl x1l) s1]) (⟨none, 0, 0⟩ : Hd) (sub_cons rfl (sub_cons rfl (sub_cons rfl (sub_cons rfl (sub_cons rfl sub_nil))))) (some_cons pick0 (some_cons pick0 (some_cons pick0 (some_cons pick_nil some_nil)))) fun k1 s1 x1l hN1 l1 => ?_
    by_cases hk1 : k1 < a_b.Cells.length
    · skip
      refine forO_step l1 hk1 fun _ t1 l1 => ?_
      unfold spec_ExchangeBlock_L1 at t1
      have c1 : (decide (((k1 : Nat) : Int) < ((a_b.Cells.length : Nat) : Int))) = true := decide_eq_true (by omega)
      refine wc_seq ?_
      refine wcr ?_
      refine mv rfl rfl ?_
      refine wl_pure (po_fld fo_29_1 rfl) rfl ?_
      refine wl_pure (v := (sl v0a)) (po_load_box tk_27 (pickS (pickS pick0)) rfl rfl) rfl ?_
      refine wl_pure (po_lenr (rds_arg r0) el_27 rfl) rfl ?_
      refine wl_pure (po_lss rfl rfl) rfl ?_
      refine wnt ?_
      refine wc_cond_t rfl c1 ?_
      refine wc_skip ?_
      refine wq_then ?_
      refine wc_seq ?_
      refine wc_block ?_
      refine wc_draw [box b3 [.int .i64 a_b.Size, (sl x1l)], box b2 [.int .i64 0, (sl (⟨none, 0, 0⟩ : Hd))], box b1 [.int .i64 a_b.Size, (sl v0a)]] 12 mixed ?_
      refine wa_pure 0 rfl (po_fld fo_29_1 rfl) (some_cons pick0 (some_cons pick0 (some_cons pick0 some_nil))) rfl (by kernel_rfl) (fun _ _ _ h => h) ?_
      refine wa_pure (v := (sl x1l)) 1 rfl (po_load_box tk_27 pick0 rfl rfl) (some_cons pick0 (some_cons pick0 (some_cons pick0 some_nil))) rfl (by kernel_rfl) (fun _ _ _ h => h) ?_
      refine wa_pure 2 rfl (po_fld fo_29_1 rfl) (some_cons pick0 (some_cons pick0 (some_cons pick0 some_nil))) rfl (by kernel_rfl) (fun _ _ _ h => h) ?_
      refine wa_pure (v := (sl v0a)) 3 rfl (po_load_box tk_27 (pickS (pickS pick0)) rfl rfl) (some_cons pick0 (some_cons pick0 (some_cons pick0 some_nil))) rfl (by kernel_rfl) (fun _ _ _ h => h) ?_
      refine wa_pure 4 rfl (po_move rfl) (some_cons pick0 (some_cons pick0 (some_cons pick0 some_nil))) rfl (by kernel_rfl) (fun _ _ _ h => h) ?_
      refine wa_pure 5 rfl (po_ixn (k := k1) (rds_arg r0) el_27 rfl rfl hk1) (some_cons pick0 (some_cons pick0 (some_cons pick0 some_nil))) rfl (by kernel_rfl) (fun _ _ _ h => h) ?_
      refine wa_pure (v := .agg #[.int .i64 ((gx a_b.Cells k1).Split), .int .i64 ((gx a_b.Cells k1).A), .int .i64 ((gx a_b.Cells k1).B)]) 6 rfl (po_ldfs (rds_arg r0) tk_49 rfl hk1 rfl rfl rfl) (some_cons pick0 (some_cons pick0 (some_cons pick0 some_nil))) rfl (by kernel_rfl) (fun _ _ _ h => h) ?_
      refine wa_pure 7 rfl (po_move rfl) (some_cons pick0 (some_cons pick0 (some_cons pick0 some_nil))) rfl (by kernel_rfl) (fun _ _ _ h => h) ?_
      refine wa_1 (i := 8) (by kernel_rfl) ?_
      refine bdO t1 fun v4 hv4 t1 => ?_
      refine ws_call rfl (co_c0 fa_43 rfl fun w hw => c_spec_ExchangeCell w (gx a_b.Cells k1) a_l v1a (Rg.on (rds_arg r1) hw) hv4) (fun _ => (sts_some (some_cons pick0 (some_cons pick0 (some_cons pick0 some_nil))))) rfl fun _ => ?_
      refine wa_1 (i := 9) (by kernel_rfl) ?_
      refine ws_eff rfl (eo_buildSlice rfl (sb_27_1 v4.Split v4.A v4.B)) (fun _ => (sts_some (some_cons (pickS pick0) (some_cons (pickS pick0) (some_cons (pickS pick0) some_nil))))) rfl fun b4 => ?_
      refine wa_1 (i := 10) (by kernel_rfl) ?_
      refine gdO t1 fun g2 t1 => ?_
      refine ws_eff rfl (eo_append (xs := s1) (ys := ([v4] : List GCell)) ak_27 (pickS (pickS (pickS (pickS pick0)))) rfl rfl (slin_rd fun _ g => Rg.on (rds_own (pick_box_own pick0 (n := 1) (xs := ([v4] : List GCell)) rfl rfl (by unfold maxLen; omega))) g) g2) (fun _ => (sts_some (some_cons (pickS (pickS pick0)) (some_cons (pickS (pickS pick0)) (some_cons (pickS (pickS pick0)) some_nil))))) rfl fun x4 => ?_
      refine wa_pure 11 rfl (po_fld fo_29_1 rfl) (some_cons (pickS (pickS pick0)) (some_cons (pickS (pickS pick0)) (some_cons (pickS (pickS pick0)) some_nil))) rfl (by kernel_rfl) (fun _ _ _ h => h) ?_
      refine wa_1 (i := 12) (by kernel_rfl) ?_
      refine ws_skipop rfl (so_box (cs' := [.int .i64 a_b.Size, (sl x4)]) tk_27 (pickS (pickS pick0)) rfl rfl rfl rfl rfl rfl rfl) (sts_past (by kernel_rfl)) ?_
      refine wa_done (by kernel_rfl) ?_
      refine wq_block ?_
      refine wq_then ?_
      refine wc_region ?_
      refine mv rfl rfl ?_
      refine wl_pure (po_inc rfl rfl (by omega)) rfl ?_
      refine asg rfl rfl ?_
      refine wl_nil ?_
      exact wq_rnd hk1 (stpN l1 t1) x4 (sub_cons rfl (sub_cons rfl (sub_cons rfl (sub_cons rfl (sub_cons rfl sub_nil))))) (some_cons pick0 (some_cons (pickS (pickS pick0)) (some_cons (pickS (pickS pick0)) (some_cons pick0 some_nil))))
    have c1 : (decide (((k1 : Nat) : Int) < ((a_b.Cells.length : Nat) : Int))) = false := decide_eq_false (by omega)
    have en1 := forO_end l1 hk1
    refine wc_seq ?_
    refine wcr ?_
    refine mv rfl rfl ?_
    refine wl_pure (po_fld fo_29_1 rfl) rfl ?_
    refine wl_pure (v := (sl v0a)) (po_load_box tk_27 (pickS (pickS pick0)) rfl rfl) rfl ?_
    refine wl_pure (po_lenr (rds_arg r0) el_27 rfl) rfl ?_
    refine wl_pure (po_lss rfl rfl) rfl ?_
    refine wnt ?_
    refine wc_cond_f rfl c1 ?_
    refine wc_exit ?_
    refine wq_then_exit ?_
    refine wq_then_exit ?_
    refine wq_block_exit ?_
    exact wj_meet _ x1l (Sum.inl.inj en1) (sub_cons rfl (sub_cons rfl sub_nil)) (some_cons pick0 (some_cons pick0 (some_cons (pickS pick0) some_nil)))
  intro e1 x3 hp
  obtain rfl : e1 = y1 := hp.symm
  refine wq_then ?_
  refine wcr ?_
  refine wl_pure (v := .agg #[.int .i64 a_b.Size, (sl x3)]) (po_load_boxs tk_29 pick0 rfl rfl rfl) rfl ?_
  refine wl_skipop (so_box (cs' := [.int .i64 a_b.Size, (sl x3)]) tk_29 (pickS pick0) rfl rfl rfl rfl rfl rfl rfl) ?_
  refine asg rfl rfl ?_
  refine wnt ?_
  refine wc_ret ?_
  obtain rfl := Option.some.inj t0
  exact wq_retc1 rfl tk_29 rfl rfl pick0 rfl fun w hw => ⟨x3, rfl, hw.weak (some_cons (pickS (pickS pick0)) some_nil)⟩

theorem c_spec_ColorwayAt (w : World) (a_b : GBlock) (v0a : Hd) (r0 : rdF w (dm w []) (sl v0a) a_b.Cells) (a_index : Int) {r : GBlock × Bool} (t0 : spec_ColorwayAt a_b a_index = some r) : Calls Tryd.prog 13 #[.agg #[.int .i64 a_b.Size, (sl v0a)], .int .i64 a_index] w fun e w' => ∃ x : Hd, e = .returned (.tuple #[.agg #[.int .i64 r.1.Size, (sl x)], .bool r.2]) ∧ SH w [] [ownF (sl x) r.1.Cells] w' := by
  refine calls_of_wc (args := [_, _]) Tryd.func13 rfl Tryd.ntmps13 rfl ?_
  unfold spec_ColorwayAt at t0
  refine wcr ?_
  refine wl_eff (eo_box rfl rfl) rfl fun b1 => ?_
  refine wl_eff (eo_alloc (cs := [.int .i64 0, (sl (⟨none, 0, 0⟩ : Hd))]) za_29) rfl fun b2 => ?_
  refine asg rfl rfl ?_
  refine wnt ?_
  refine wcr ?_
  refine wl_pure (v := .agg #[.int .i64 a_b.Size, (sl v0a)]) (po_load_boxs tk_29 (pickS pick0) rfl rfl rfl) rfl ?_
  refine bdO t0 fun v1 hv1 t0 => ?_
  refine wl_call (co_c0 fa_12 rfl fun w hw => c_spec_ColorwayCount w a_b v0a (Rg.on (rds_arg r0) hw) hv1) rfl fun _ => ?_
  refine asg rfl rfl ?_
  refine wnt ?_
  refine wc_seq ?_
  refine wcr ?_
  refine mv rfl rfl ?_
  refine mv rfl rfl ?_
  refine wl_pure (po_sub rfl rfl) rfl ?_
  refine bdO t0 fun v2 hv2 t0 => ?_
  refine wl_call (co_c0 fa_24 rfl fun w hw => c_spec_l01In w a_index 0 (wr (v1 - 1)) hv2) rfl fun _ => ?_
  refine wl_pure (po_not rfl) rfl ?_
  refine wnt ?_
  refine wcO t0 rfl (fun h1 t0 => ?_) fun h1 t0 => ?_
  · skip
    refine wcr ?_
    refine wl_pure (po_build rfl bd_29) rfl ?_
    refine wl_skipop (so_box (cs' := [.int .i64 0, (sl (⟨none, 0, 0⟩ : Hd))]) tk_29 pick0 rfl rfl rfl rfl rfl rfl rfl) ?_
    refine asg rfl rfl ?_
    refine wnt ?_
    refine wc_ret ?_
    refine wq_then_ret ?_
    obtain rfl := Option.some.inj t0
    exact wq_retc1 rfl tk_29 rfl rfl pick0 rfl fun w hw => ⟨(⟨none, 0, 0⟩ : Hd), rfl, hw.weak (some_cons pick_nil some_nil)⟩
  refine wc_skip ?_
  refine wq_then ?_
  refine wcr ?_
  refine wl_pure (v := .agg #[.int .i64 a_b.Size, (sl v0a)]) (po_load_boxs tk_29 (pickS pick0) rfl rfl rfl) rfl ?_
  refine bdO t0 fun v3 hv3 t0 => ?_
  refine wl_call (co_c1 fa_11 rfl fun w hw => c_spec_ColorsOf w a_b v0a (Rg.on (rds_arg r0) hw) hv3) rfl fun x1 => ?_
  refine asg rfl rfl ?_
  refine wnt ?_
  refine wcr ?_
  refine bdO t0 fun v4 hv4 t0 => ?_
  refine wl_call (co_c1 fa_26 rfl fun w hw => c_spec_l06Same w hv4) rfl fun x2 => ?_
  refine asg rfl rfl ?_
  refine wnt ?_
  refine wcr ?_
  refine wl_eff (eo_make_ (n := 6) (false : Bool) mk_51 rfl rfl rfl (by omega) rfl) rfl fun x3 => ?_
  refine asg rfl rfl ?_
  refine wnt ?_
  refine wc_seq ?_
  refine wcr ?_
  refine asg rfl rfl ?_
  refine wnt ?_
  refine gdO t0 fun g1 t0 => ?_
  refine lpO_inv t0 fun y1 l1 t0 => ?_
  refine wj (J := Int × Int × (List Int) × (List Bool)) (X := Unit) (fun z => y1 = z) (fun _ _ => [(2, ptr b1 0), (4, ptr b2 0), (8, (sl x2))]) (fun z _ => [ownF (sl x2) z.2.2.1, box b2 [.int .i64 0, (sl (⟨none, 0, 0⟩ : Hd))], box b1 [.int .i64 a_b.Size, (sl v0a)]]) ?_ ?_
  · skip
    refine wc_block ?_
    refine wc_forO (X := Unit) l1 (fun k1 s1 x1l => [(1, .int .i64 s1.1), (2, ptr b1 0), (4, ptr b2 0), (6, .int .i64 s1.2.1), (7, (sl x1)), (8, (sl x2)), (9, (sl x3)), (10, .int .i64 ((k1 : Nat) : Int))]) (fun k1 s1 x1l => [ownF (sl x3) s1.2.2.2, ownF (sl x2) s1.2.2.1, ownF (sl x1) v3, box b2 [.int .i64 0, (sl (⟨none, 0, 0⟩ : Hd))], box b1 [.int .i64 a_b.Size, (sl v0a)]]) () (sub_cons rfl (sub_cons rfl (sub_cons rfl (sub_cons rfl (sub_cons rfl (sub_cons rfl (sub_cons rfl (sub_cons rfl sub_nil)))))))) (some_cons pick0 (some_cons pick0 (some_cons pick0 (some_cons pick0 (some_cons pick0 some_nil))))) fun k1 s1 x1l hN1 l1 => ?_
    by_cases hk1 : k1 < v3.length
    · skip
      refine forO_step l1 hk1 fun _ t1 l1 => ?_
      unfold spec_ColorwayAt_L1 at t1
      have c1 : (decide (((k1 : Nat) : Int) < ((v3.length : Nat) : Int))) = true := decide_eq_true (by omega)
      refine wc_seq ?_
      refine wcr ?_
      refine mv rfl rfl ?_
      refine mv rfl rfl ?_
      refine wl_pure (po_lenr (rds_own (pickS (pickS pick0))) el_35 rfl) rfl ?_
      refine wl_pure (po_lss rfl rfl) rfl ?_
      refine wnt ?_
      refine wc_cond_t rfl c1 ?_
      refine wc_skip ?_
      refine wq_then ?_
      refine wc_seq ?_
      refine wc_block ?_
      refine wcr ?_
      refine mv rfl rfl ?_
      refine mv rfl rfl ?_
      refine wl_pure (po_sub rfl rfl) rfl ?_
      refine gdO t1 fun g2 t1 => ?_
      refine wl_pure (po_quo rfl rfl g2) rfl ?_
      refine asg rfl rfl ?_
      refine wnt ?_
      refine wcr ?_
      refine mv rfl rfl ?_
      refine mv rfl rfl ?_
      refine gdO t1 fun g3 t1 => ?_
      refine wl_pure (po_quo rfl rfl g3) rfl ?_
      refine asg rfl rfl ?_
      refine wnt ?_
      refine wcr ?_
      refine mv rfl rfl ?_
      refine mv rfl rfl ?_
      refine wl_pure (po_rem rfl rfl g3) rfl ?_
      refine asg rfl rfl ?_
      refine wnt ?_
      refine wcr ?_
      refine asg rfl rfl ?_
      refine wnt ?_
      refine lpO_inv t1 fun y2 l2 t1 => ?_
      refine wj (J := (List Int) × (List Bool) × Int) (X := Unit) (fun z => y2 = z) (fun _ _ => [(1, .int .i64 (s1.1.tmod (wr (s1.2.1.tdiv (wr (6 - ((k1 : Nat) : Int))))))), (2, ptr b1 0), (4, ptr b2 0), (6, .int .i64 (wr (s1.2.1.tdiv (wr (6 - ((k1 : Nat) : Int)))))), (7, (sl x1)), (8, (sl x2)), (9, (sl x3)), (10, .int .i64 ((k1 : Nat) : Int))]) (fun z _ => [ownF (sl x3) z.2.1, ownF (sl x2) z.1, ownF (sl x1) v3, box b2 [.int .i64 0, (sl (⟨none, 0, 0⟩ : Hd))], box b1 [.int .i64 a_b.Size, (sl v0a)]]) ?_ ?_
      · skip
        refine wc_block ?_
        refine wc_forO (X := Unit) l2 (fun k2 s2 x2l => [(1, .int .i64 (s1.1.tmod (wr (s1.2.1.tdiv (wr (6 - ((k1 : Nat) : Int))))))), (2, ptr b1 0), (4, ptr b2 0), (6, .int .i64 (wr (s1.2.1.tdiv (wr (6 - ((k1 : Nat) : Int)))))), (7, (sl x1)), (8, (sl x2)), (9, (sl x3)), (10, .int .i64 ((k1 : Nat) : Int)), (11, .int .i64 s2.2.2), (12, .int .i64 ((k2 : Nat) : Int))]) (fun k2 s2 x2l => [ownF (sl x3) s2.2.1, ownF (sl x2) s2.1, ownF (sl x1) v3, box b2 [.int .i64 0, (sl (⟨none, 0, 0⟩ : Hd))], box b1 [.int .i64 a_b.Size, (sl v0a)]]) () (sub_cons rfl (sub_cons rfl (sub_cons rfl (sub_cons rfl (sub_cons rfl (sub_cons rfl (sub_cons rfl (sub_cons rfl (sub_cons rfl (sub_cons rfl sub_nil)))))))))) (some_cons pick0 (some_cons pick0 (some_cons pick0 (some_cons pick0 (some_cons pick0 some_nil))))) fun k2 s2 x2l hN2 l2 => ?_
        by_cases hk2 : k2 < 6
        · skip
          refine forO_step l2 hk2 fun _ t2 l2 => ?_
          unfold spec_ColorwayAt_L2 at t2
          have c2 : (decide (((k2 : Nat) : Int) < 6)) = true := decide_eq_true (by omega)
          refine wc_seq ?_
          refine wcr ?_
          refine mv rfl rfl ?_
          refine wl_pure (po_lss rfl rfl) rfl ?_
          refine wnt ?_
          refine wc_cond_t rfl c2 ?_
          refine wc_skip ?_
          refine wq_then ?_
          refine wc_seq ?_
          refine wc_block ?_
          refine wc_seq ?_
          refine wcr ?_
          refine mv rfl rfl ?_
          refine mv rfl rfl ?_
          refine gdO t2 fun g4 t2 => ?_
          refine wl_pure (po_ixn (k := k2) (rds_own pick0) el_51 rfl rfl g4) rfl ?_
          refine wl_pure (v := .bool (gx s2.2.1 k2)) (po_ldf (rds_own pick0) tk_4 rfl g4 rfl) rfl ?_
          refine wnt ?_
          refine wcO t2 rfl (fun h2 t2 => ?_) fun h2 t2 => ?_
          · skip
            refine wc_exit ?_
            refine wq_then_exit ?_
            refine wq_block_exit ?_
            refine wq_then ?_
            refine wc_region ?_
            refine mv rfl rfl ?_
            refine wl_pure (po_inc rfl rfl (by omega)) rfl ?_
            refine asg rfl rfl ?_
            refine wl_nil ?_
            exact wq_rnd hk2 (stpN l2 t2) () (sub_cons rfl (sub_cons rfl (sub_cons rfl (sub_cons rfl (sub_cons rfl (sub_cons rfl (sub_cons rfl (sub_cons rfl (sub_cons rfl (sub_cons rfl sub_nil)))))))))) (some_cons pick0 (some_cons pick0 (some_cons pick0 (some_cons pick0 (some_cons pick0 some_nil)))))
          refine wc_skip ?_
          refine wq_then ?_
          refine wc_seq ?_
          refine wcr ?_
          refine mv rfl rfl ?_
          refine wl_pure (po_eql rfl rfl) rfl ?_
          refine wnt ?_
          refine wcO t2 rfl (fun h3 t2 => ?_) fun h3 t2 => ?_
          · skip
            refine wcr ?_
            refine mv rfl rfl ?_
            refine mv rfl rfl ?_
            refine mv rfl rfl ?_
            refine wl_pure (po_ixn (k := k1) (rds_own (pickS (pickS pick0))) el_35 rfl rfl hk1) rfl ?_
            refine wl_pure (v := .int .i64 (gx v3 k1)) (po_ldf (rds_own (pickS (pickS pick0))) tk_3 rfl hk1 rfl) rfl ?_
            refine mv rfl rfl ?_
            refine gdO t2 fun g5 t2 => ?_
            refine wl_pure (po_ixr (rds_own (pickS pick0)) el_35 rfl rfl g5.1 g5.2) rfl ?_
            refine wl_skipop (so_own (x' := ((k2 : Nat) : Int)) tk_3 (pickS pick0) rfl rfl rfl rfl rfl rfl (ix_lt g5) rfl) ?_
            refine wnt ?_
            refine wcr ?_
            refine mv rfl rfl ?_
            refine mv rfl rfl ?_
            refine wl_pure (po_ixn (k := k2) (rds_own (pickS pick0)) el_51 rfl rfl g4) rfl ?_
            refine wl_skipop (so_own (x' := true) tk_4 (pickS pick0) rfl rfl rfl rfl rfl rfl g4 rfl) ?_
            refine wnt ?_
            refine wc_exit ?_
            refine wq_then_exit ?_
            refine wq_block_far rfl ?_
            refine wq_then_exit ?_
            refine wq_then_exit ?_
            refine wq_block_exit ?_
            exact wj_meet _ () (Sum.inl.inj (stpB l2 t2)) (sub_cons rfl (sub_cons rfl (sub_cons rfl (sub_cons rfl (sub_cons rfl (sub_cons rfl (sub_cons rfl (sub_cons rfl sub_nil)))))))) (some_cons pick0 (some_cons pick0 (some_cons pick0 (some_cons pick0 (some_cons pick0 some_nil)))))
          refine wc_skip ?_
          refine wq_then ?_
          refine wc_region ?_
          refine mv rfl rfl ?_
          refine wl_pure (po_sub rfl rfl) rfl ?_
          refine asg rfl rfl ?_
          refine wl_nil ?_
          refine wq_block ?_
          refine wq_then ?_
          refine wc_region ?_
          refine mv rfl rfl ?_
          refine wl_pure (po_inc rfl rfl (by omega)) rfl ?_
          refine asg rfl rfl ?_
          refine wl_nil ?_
          exact wq_rnd hk2 (stpN l2 t2) () (sub_cons rfl (sub_cons rfl (sub_cons rfl (sub_cons rfl (sub_cons rfl (sub_cons rfl (sub_cons rfl (sub_cons rfl (sub_cons rfl (sub_cons rfl sub_nil)))))))))) (some_cons pick0 (some_cons pick0 (some_cons pick0 (some_cons pick0 (some_cons pick0 some_nil)))))
        have c2 : (decide (((k2 : Nat) : Int) < 6)) = false := decide_eq_false (by omega)
        have en1 := forO_end l2 hk2
        refine wc_seq ?_
        refine wcr ?_
        refine mv rfl rfl ?_
        refine wl_pure (po_lss rfl rfl) rfl ?_
        refine wnt ?_
        refine wc_cond_f rfl c2 ?_
        refine wc_exit ?_
        refine wq_then_exit ?_
        refine wq_then_exit ?_
        refine wq_block_exit ?_
        exact wj_meet _ () (Sum.inl.inj en1) (sub_cons rfl (sub_cons rfl (sub_cons rfl (sub_cons rfl (sub_cons rfl (sub_cons rfl (sub_cons rfl (sub_cons rfl sub_nil)))))))) (some_cons pick0 (some_cons pick0 (some_cons pick0 (some_cons pick0 (some_cons pick0 some_nil)))))
      intro e2 _ hp
      obtain rfl : e2 = y2 := hp.symm
      refine wq_block ?_
      refine wq_then ?_
      refine wc_region ?_
      refine mv rfl rfl ?_
      refine wl_pure (po_inc rfl rfl (by omega)) rfl ?_
      refine asg rfl rfl ?_
      refine wl_nil ?_
      exact wq_rnd hk1 (stpN l1 t1) () (sub_cons rfl (sub_cons rfl (sub_cons rfl (sub_cons rfl (sub_cons rfl (sub_cons rfl (sub_cons rfl (sub_cons rfl sub_nil)))))))) (some_cons pick0 (some_cons pick0 (some_cons pick0 (some_cons pick0 (some_cons pick0 some_nil)))))
    have c1 : (decide (((k1 : Nat) : Int) < ((v3.length : Nat) : Int))) = false := decide_eq_false (by omega)
    have en2 := forO_end l1 hk1
    refine wc_seq ?_
    refine wcr ?_
    refine mv rfl rfl ?_
    refine mv rfl rfl ?_
    refine wl_pure (po_lenr (rds_own (pickS (pickS pick0))) el_35 rfl) rfl ?_
    refine wl_pure (po_lss rfl rfl) rfl ?_
    refine wnt ?_
    refine wc_cond_f rfl c1 ?_
    refine wc_exit ?_
    refine wq_then_exit ?_
    refine wq_then_exit ?_
    refine wq_block_exit ?_
    exact wj_meet _ () (Sum.inl.inj en2) (sub_cons rfl (sub_cons rfl (sub_cons rfl sub_nil))) (some_cons (pickS pick0) (some_cons (pickS (pickS pick0)) (some_cons (pickS (pickS pick0)) some_nil)))
  intro e1 _ hp
  obtain rfl : e1 = y1 := hp.symm
  refine wq_then ?_
  refine wcr ?_
  refine wl_pure (v := .agg #[.int .i64 a_b.Size, (sl v0a)]) (po_load_boxs tk_29 (pickS (pickS pick0)) rfl rfl rfl) rfl ?_
  refine mv rfl rfl ?_
  refine bdO t0 fun v5 hv5 t0 => ?_
  refine wl_call (co_c1 fa_27 rfl fun w hw => c_spec_ExchangeBlock w a_b v0a (Rg.on (rds_arg r0) hw) e1.2.2.1 x2 (Rg.on (rds_own pick0) hw) hv5) rfl fun x6 => ?_
  refine wl_pure (po_extract rfl rfl) rfl ?_
  refine wl_pure (po_extract rfl rfl) rfl ?_
  refine wl_skipop (so_box (cs' := [.int .i64 v5.1.Size, (sl x6)]) tk_29 (pickS (pickS pick0)) rfl rfl rfl rfl rfl rfl rfl) ?_
  refine asg rfl rfl ?_
  refine wnt ?_
  refine wc_ret ?_
  obtain rfl := Option.some.inj t0
  exact wq_retc1 rfl tk_29 rfl rfl pick0 rfl fun w hw => ⟨x6, rfl, hw.weak (some_cons (pickS pick0) some_nil)⟩

theorem c_spec_MirrorCell (w : World) (a_c : GCell) {r : GCell} (t0 : spec_MirrorCell a_c = some r) : Calls Tryd.prog 59 #[.agg #[.int .i64 a_c.Split, .int .i64 a_c.A, .int .i64 a_c.B]] w fun e w' => e = .returned (.agg #[.int .i64 r.Split, .int .i64 r.A, .int .i64 r.B]) ∧ SH w [] [] w' := by
  refine calls_of_wc (args := [_]) Tryd.func59 rfl Tryd.ntmps59 rfl ?_
  unfold spec_MirrorCell at t0
  refine wcr ?_
  refine wl_eff (eo_box rfl rfl) rfl fun b1 => ?_
  refine wl_eff (eo_alloc (cs := [.int .i64 0, .int .i64 0, .int .i64 0]) za_49) rfl fun b2 => ?_
  refine wnt ?_
  refine wc_seq ?_
  refine wcr ?_
  refine wl_pure (v := .agg #[.int .i64 a_c.Split, .int .i64 a_c.A, .int .i64 a_c.B]) (po_load_boxs tk_49 (pickS pick0) rfl rfl rfl) rfl ?_
  refine bdO t0 fun v1 hv1 t0 => ?_
  refine wl_call (co_c0 fa_25 rfl fun w hw => c_spec_CellOk w a_c hv1) rfl fun _ => ?_
  refine wl_pure (po_not rfl) rfl ?_
  refine wnt ?_
  refine wcO t0 rfl (fun h1 t0 => ?_) fun h1 t0 => ?_
  · skip
    refine wcr ?_
    refine wl_pure (po_build rfl bd_49) rfl ?_
    refine wl_skipop (so_box (cs' := [.int .i64 0, .int .i64 0, .int .i64 0]) tk_49 pick0 rfl rfl rfl rfl rfl rfl rfl) ?_
    refine wnt ?_
    refine wc_ret ?_
    refine wq_then_ret ?_
    obtain rfl := Option.some.inj t0
    exact wq_retc rfl tk_49 rfl pick0 rfl fun w hw => ⟨rfl, hw.weak some_nil⟩
  refine wc_skip ?_
  refine wq_then ?_
  refine wc_seq ?_
  refine wcr ?_
  refine wl_pure (po_fld fo_49_0 rfl) rfl ?_
  refine wl_pure (v := .int .i64 a_c.Split) (po_load_box tk_3 (pickS pick0) rfl rfl) rfl ?_
  refine wl_pure (po_eql rfl rfl) rfl ?_
  refine wnt ?_
  refine wcO t0 rfl (fun h2 t0 => ?_) fun h2 t0 => ?_
  · skip
    refine wcr ?_
    refine wl_pure (v := .agg #[.int .i64 a_c.Split, .int .i64 a_c.A, .int .i64 a_c.B]) (po_load_boxs tk_49 (pickS pick0) rfl rfl rfl) rfl ?_
    refine wl_skipop (so_box (cs' := [.int .i64 a_c.Split, .int .i64 a_c.A, .int .i64 a_c.B]) tk_49 pick0 rfl rfl rfl rfl rfl rfl rfl) ?_
    refine wnt ?_
    refine wc_ret ?_
    refine wq_then_ret ?_
    obtain rfl := Option.some.inj t0
    exact wq_retc rfl tk_49 rfl pick0 rfl fun w hw => ⟨rfl, hw.weak some_nil⟩
  refine wc_skip ?_
  refine wq_then ?_
  refine wcr ?_
  refine wl_pure (po_fld fo_49_0 rfl) rfl ?_
  refine wl_pure (v := .int .i64 a_c.Split) (po_load_box tk_3 (pickS pick0) rfl rfl) rfl ?_
  refine wl_pure (po_sub rfl rfl) rfl ?_
  refine wl_pure (po_fld fo_49_2 rfl) rfl ?_
  refine wl_pure (v := .int .i64 a_c.B) (po_load_box tk_3 (pickS pick0) rfl rfl) rfl ?_
  refine wl_pure (po_fld fo_49_1 rfl) rfl ?_
  refine wl_pure (v := .int .i64 a_c.A) (po_load_box tk_3 (pickS pick0) rfl rfl) rfl ?_
  refine wl_pure (po_build rfl (bd_49_0_1_2 (wr (3 - a_c.Split)) a_c.B a_c.A)) rfl ?_
  refine wl_skipop (so_box (cs' := [.int .i64 (wr (3 - a_c.Split)), .int .i64 a_c.B, .int .i64 a_c.A]) tk_49 pick0 rfl rfl rfl rfl rfl rfl rfl) ?_
  refine wnt ?_
  refine wc_ret ?_
  obtain rfl := Option.some.inj t0
  exact wq_retc rfl tk_49 rfl pick0 rfl fun w hw => ⟨rfl, hw.weak some_nil⟩

theorem c_spec_MirrorBlock (w : World) (a_b : GBlock) (v0a : Hd) (r0 : rdF w (dm w []) (sl v0a) a_b.Cells) {r : GBlock} (t0 : spec_MirrorBlock a_b = some r) : Calls Tryd.prog 45 #[.agg #[.int .i64 a_b.Size, (sl v0a)]] w fun e w' => ∃ x : Hd, e = .returned (.agg #[.int .i64 r.Size, (sl x)]) ∧ SH w [] [ownF (sl x) r.Cells] w' := by
  refine calls_of_wc (args := [_]) Tryd.func45 rfl Tryd.ntmps45 rfl ?_
  unfold spec_MirrorBlock at t0
  refine wcr ?_
  refine wl_eff (eo_box rfl rfl) rfl fun b1 => ?_
  refine wl_eff (eo_alloc (cs := [.int .i64 0, (sl (⟨none, 0, 0⟩ : Hd))]) za_29) rfl fun b2 => ?_
  refine wnt ?_
  refine wc_seq ?_
  refine wcr ?_
  refine wl_pure (v := .agg #[.int .i64 a_b.Size, (sl v0a)]) (po_load_boxs tk_29 (pickS pick0) rfl rfl rfl) rfl ?_
  refine bdO t0 fun v1 hv1 t0 => ?_
  refine wl_call (co_c0 fa_10 rfl fun w hw => c_spec_BlockOk w a_b v0a (Rg.on (rds_arg r0) hw) hv1) rfl fun _ => ?_
  refine wl_pure (po_not rfl) rfl ?_
  refine wnt ?_
  refine wcO t0 rfl (fun h1 t0 => ?_) fun h1 t0 => ?_
  · skip
    refine wcr ?_
    refine wl_pure (po_build rfl bd_29) rfl ?_
    refine wl_skipop (so_box (cs' := [.int .i64 0, (sl (⟨none, 0, 0⟩ : Hd))]) tk_29 pick0 rfl rfl rfl rfl rfl rfl rfl) ?_
    refine wnt ?_
    refine wc_ret ?_
    refine wq_then_ret ?_
    obtain rfl := Option.some.inj t0
    exact wq_retc rfl tk_29 rfl pick0 rfl fun w hw => ⟨(⟨none, 0, 0⟩ : Hd), rfl, hw.weak (some_cons pick_nil some_nil)⟩
  refine wc_skip ?_
  refine wq_then ?_
  refine wcr ?_
  refine wl_pure (po_fld fo_29_0 rfl) rfl ?_
  refine wl_pure (v := .int .i64 a_b.Size) (po_load_box tk_3 (pickS pick0) rfl rfl) rfl ?_
  refine wl_pure (po_build rfl (bd_29_0 a_b.Size)) rfl ?_
  refine wl_eff (eo_alloc (cs := [.int .i64 0, (sl (⟨none, 0, 0⟩ : Hd))]) za_29) rfl fun b3 => ?_
  refine wl_skipop (so_box (cs' := [.int .i64 a_b.Size, (sl (⟨none, 0, 0⟩ : Hd))]) tk_29 pick0 rfl rfl rfl rfl rfl rfl rfl) ?_
  refine wnt ?_
  refine wc_seq ?_
  refine wcr ?_
  refine asg rfl rfl ?_
  refine wnt ?_
  refine gdO t0 fun g1 t0 => ?_
  refine lpO_inv t0 fun y1 l1 t0 => ?_
  refine wj (J := List GCell) (X := Hd) (fun z => y1 = z) (fun _ _ => [(2, ptr b2 0), (3, ptr b3 0)]) (fun z x => [box b3 [.int .i64 a_b.Size, (sl x)], box b2 [.int .i64 0, (sl (⟨none, 0, 0⟩ : Hd))], ownF (sl x) z]) ?_ ?_
  · skip
    refine wc_block ?_
    refine wc_forO (X := Hd) l1 (fun k1 s1 x1l => [(1, ptr b1 0), (2, ptr b2 0), (3, ptr b3 0), (4, .int .i64 ((k1 : Nat) : Int))]) (fun k1 s1 x1l => [box b3 [.int .i64 a_b.Size, (sl x1l)], box b2 [.int .i64 0, (sl (⟨none, 0, 0⟩ : Hd))], box b1 [.int .i64 a_b.Size, (sl v0a)], ownF (sl x1l) s1]) (⟨none, 0, 0⟩ : Hd) (sub_cons rfl (sub_cons rfl (sub_cons rfl (sub_cons rfl sub_nil)))) (some_cons pick0 (some_cons pick0 (some_cons pick0 (some_cons pick_nil some_nil)))) fun k1 s1 x1l hN1 l1 => ?_
    by_cases hk1 : k1 < (a_b.Size).toNat
    · skip
      refine forO_step l1 hk1 fun _ t1 l1 => ?_
      unfold spec_MirrorBlock_L1 at t1
      have c1 : (decide (((k1 : Nat) : Int) < a_b.Size)) = true := decide_eq_true (by omega)
      refine wc_seq ?_
      refine wcr ?_
      refine mv rfl rfl ?_
      refine wl_pure (po_fld fo_29_0 rfl) rfl ?_
      refine wl_pure (v := .int .i64 a_b.Size) (po_load_box tk_3 (pickS (pickS pick0)) rfl rfl) rfl ?_
      refine wl_pure (po_lss rfl rfl) rfl ?_
      refine wnt ?_
      refine wc_cond_t rfl c1 ?_
      refine wc_skip ?_
      refine wq_then ?_
      refine wc_seq ?_
      refine wc_block ?_
      refine wcr ?_
      refine asg rfl rfl ?_
      refine wnt ?_
      refine lpO_inv t1 fun y2 l2 t1 => ?_
      refine wj (J := List GCell) (X := Hd) (fun z => y2 = z) (fun _ _ => [(1, ptr b1 0), (2, ptr b2 0), (3, ptr b3 0), (4, .int .i64 ((k1 : Nat) : Int))]) (fun z x => [box b3 [.int .i64 a_b.Size, (sl x)], box b2 [.int .i64 0, (sl (⟨none, 0, 0⟩ : Hd))], box b1 [.int .i64 a_b.Size, (sl v0a)], ownF (sl x) z]) ?_ ?_
      · skip
        refine wc_block ?_
        refine wc_forO (X := Hd) l2 (fun k2 s2 x2l => [(1, ptr b1 0), (2, ptr b2 0), (3, ptr b3 0), (4, .int .i64 ((k1 : Nat) : Int)), (5, .int .i64 ((k2 : Nat) : Int))]) (fun k2 s2 x2l => [box b3 [.int .i64 a_b.Size, (sl x2l)], box b2 [.int .i64 0, (sl (⟨none, 0, 0⟩ : Hd))], box b1 [.int .i64 a_b.Size, (sl v0a)], ownF (sl x2l) s2]) x1l (sub_cons rfl (sub_cons rfl (sub_cons rfl (sub_cons rfl (sub_cons rfl sub_nil))))) (some_cons pick0 (some_cons pick0 (some_cons pick0 (some_cons pick0 some_nil)))) fun k2 s2 x2l hN2 l2 => ?_
        by_cases hk2 : k2 < (a_b.Size).toNat
        · skip
          refine forO_step l2 hk2 fun _ t2 l2 => ?_
          unfold spec_MirrorBlock_L2 at t2
          have c2 : (decide (((k2 : Nat) : Int) < a_b.Size)) = true := decide_eq_true (by omega)
          refine wc_seq ?_
          refine wcr ?_
          refine mv rfl rfl ?_
          refine wl_pure (po_fld fo_29_0 rfl) rfl ?_
          refine wl_pure (v := .int .i64 a_b.Size) (po_load_box tk_3 (pickS (pickS pick0)) rfl rfl) rfl ?_
          refine wl_pure (po_lss rfl rfl) rfl ?_
          refine wnt ?_
          refine wc_cond_t rfl c2 ?_
          refine wc_skip ?_
          refine wq_then ?_
          refine wc_seq ?_
          refine wc_block ?_
          refine wc_draw [box b3 [.int .i64 a_b.Size, (sl x2l)], box b2 [.int .i64 0, (sl (⟨none, 0, 0⟩ : Hd))], box b1 [.int .i64 a_b.Size, (sl v0a)]] 20 mixed ?_
          refine wa_pure 0 rfl (po_fld fo_29_1 rfl) (some_cons pick0 (some_cons pick0 (some_cons pick0 some_nil))) rfl (by kernel_rfl) (fun _ _ _ h => h) ?_
          refine wa_pure (v := (sl x2l)) 1 rfl (po_load_box tk_27 pick0 rfl rfl) (some_cons pick0 (some_cons pick0 (some_cons pick0 some_nil))) rfl (by kernel_rfl) (fun _ _ _ h => h) ?_
          refine wa_pure 2 rfl (po_fld fo_29_1 rfl) (some_cons pick0 (some_cons pick0 (some_cons pick0 some_nil))) rfl (by kernel_rfl) (fun _ _ _ h => h) ?_
          refine wa_pure (v := (sl v0a)) 3 rfl (po_load_box tk_27 (pickS (pickS pick0)) rfl rfl) (some_cons pick0 (some_cons pick0 (some_cons pick0 some_nil))) rfl (by kernel_rfl) (fun _ _ _ h => h) ?_
          refine wa_pure 4 rfl (po_move rfl) (some_cons pick0 (some_cons pick0 (some_cons pick0 some_nil))) rfl (by kernel_rfl) (fun _ _ _ h => h) ?_
          refine wa_pure 5 rfl (po_fld fo_29_0 rfl) (some_cons pick0 (some_cons pick0 (some_cons pick0 some_nil))) rfl (by kernel_rfl) (fun _ _ _ h => h) ?_
          refine wa_pure (v := .int .i64 a_b.Size) 6 rfl (po_load_box tk_3 (pickS (pickS pick0)) rfl rfl) (some_cons pick0 (some_cons pick0 (some_cons pick0 some_nil))) rfl (by kernel_rfl) (fun _ _ _ h => h) ?_
          refine wa_pure 7 rfl (po_mul rfl rfl) (some_cons pick0 (some_cons pick0 (some_cons pick0 some_nil))) rfl (by kernel_rfl) (fun _ _ _ h => h) ?_
          refine wa_pure 8 rfl (po_fld fo_29_0 rfl) (some_cons pick0 (some_cons pick0 (some_cons pick0 some_nil))) rfl (by kernel_rfl) (fun _ _ _ h => h) ?_
          refine wa_pure (v := .int .i64 a_b.Size) 9 rfl (po_load_box tk_3 (pickS (pickS pick0)) rfl rfl) (some_cons pick0 (some_cons pick0 (some_cons pick0 some_nil))) rfl (by kernel_rfl) (fun _ _ _ h => h) ?_
          refine wa_pure 10 rfl (po_add rfl rfl) (some_cons pick0 (some_cons pick0 (some_cons pick0 some_nil))) rfl (by kernel_rfl) (fun _ _ _ h => h) ?_
          refine wa_pure 11 rfl (po_sub rfl rfl) (some_cons pick0 (some_cons pick0 (some_cons pick0 some_nil))) rfl (by kernel_rfl) (fun _ _ _ h => h) ?_
          refine wa_pure 12 rfl (po_move rfl) (some_cons pick0 (some_cons pick0 (some_cons pick0 some_nil))) rfl (by kernel_rfl) (fun _ _ _ h => h) ?_
          refine wa_pure 13 rfl (po_sub rfl rfl) (some_cons pick0 (some_cons pick0 (some_cons pick0 some_nil))) rfl (by kernel_rfl) (fun _ _ _ h => h) ?_
          refine gdO t2 fun g2 t2 => ?_
          refine wa_pure 14 rfl (po_ixr (rds_arg r0) el_27 rfl rfl g2.1 g2.2) (some_cons pick0 (some_cons pick0 (some_cons pick0 some_nil))) rfl (by kernel_rfl) (fun _ _ _ h => h) ?_
          refine wa_pure (v := .agg #[.int .i64 ((gx a_b.Cells (((wr ((wr ((wr ((wr (((k1 : Nat) : Int) * a_b.Size)) + a_b.Size)) - 1)) - ((k2 : Nat) : Int)))).toNat)).Split), .int .i64 ((gx a_b.Cells (((wr ((wr ((wr ((wr (((k1 : Nat) : Int) * a_b.Size)) + a_b.Size)) - 1)) - ((k2 : Nat) : Int)))).toNat)).A), .int .i64 ((gx a_b.Cells (((wr ((wr ((wr ((wr (((k1 : Nat) : Int) * a_b.Size)) + a_b.Size)) - 1)) - ((k2 : Nat) : Int)))).toNat)).B)]) 15 rfl (po_ldfs (rds_arg r0) tk_49 rfl (ix_lt g2) rfl rfl rfl) (some_cons pick0 (some_cons pick0 (some_cons pick0 some_nil))) rfl (by kernel_rfl) (fun _ _ _ h => h) ?_
          refine wa_1 (i := 16) (by kernel_rfl) ?_
          refine bdO t2 fun v2 hv2 t2 => ?_
          refine ws_call rfl (co_c0 fa_59 rfl fun w hw => c_spec_MirrorCell w (gx a_b.Cells (((wr ((wr ((wr ((wr (((k1 : Nat) : Int) * a_b.Size)) + a_b.Size)) - 1)) - ((k2 : Nat) : Int)))).toNat)) hv2) (fun _ => (sts_some (some_cons pick0 (some_cons pick0 (some_cons pick0 some_nil))))) rfl fun _ => ?_
          refine wa_1 (i := 17) (by kernel_rfl) ?_
          refine ws_eff rfl (eo_buildSlice rfl (sb_27_1 v2.Split v2.A v2.B)) (fun _ => (sts_some (some_cons (pickS pick0) (some_cons (pickS pick0) (some_cons (pickS pick0) some_nil))))) rfl fun b4 => ?_
          refine wa_1 (i := 18) (by kernel_rfl) ?_
          refine gdO t2 fun g3 t2 => ?_
          refine ws_eff rfl (eo_append (xs := s2) (ys := ([v2] : List GCell)) ak_27 (pickS (pickS (pickS (pickS pick0)))) rfl rfl (slin_rd fun _ g => Rg.on (rds_own (pick_box_own pick0 (n := 1) (xs := ([v2] : List GCell)) rfl rfl (by unfold maxLen; omega))) g) g3) (fun _ => (sts_some (some_cons (pickS (pickS pick0)) (some_cons (pickS (pickS pick0)) (some_cons (pickS (pickS pick0)) some_nil))))) rfl fun x3 => ?_
          refine wa_pure 19 rfl (po_fld fo_29_1 rfl) (some_cons (pickS (pickS pick0)) (some_cons (pickS (pickS pick0)) (some_cons (pickS (pickS pick0)) some_nil))) rfl (by kernel_rfl) (fun _ _ _ h => h) ?_
          refine wa_1 (i := 20) (by kernel_rfl) ?_
          refine ws_skipop rfl (so_box (cs' := [.int .i64 a_b.Size, (sl x3)]) tk_27 (pickS (pickS pick0)) rfl rfl rfl rfl rfl rfl rfl) (sts_past (by kernel_rfl)) ?_
          refine wa_done (by kernel_rfl) ?_
          refine wq_block ?_
          refine wq_then ?_
          refine wc_region ?_
          refine mv rfl rfl ?_
          refine wl_pure (po_inc rfl rfl (by omega)) rfl ?_
          refine asg rfl rfl ?_
          refine wl_nil ?_
          exact wq_rnd hk2 (stpN l2 t2) x3 (sub_cons rfl (sub_cons rfl (sub_cons rfl (sub_cons rfl (sub_cons rfl sub_nil))))) (some_cons pick0 (some_cons (pickS (pickS pick0)) (some_cons (pickS (pickS pick0)) (some_cons pick0 some_nil))))
        have c2 : (decide (((k2 : Nat) : Int) < a_b.Size)) = false := decide_eq_false (by omega)
        have en1 := forO_end l2 hk2
        refine wc_seq ?_
        refine wcr ?_
        refine mv rfl rfl ?_
        refine wl_pure (po_fld fo_29_0 rfl) rfl ?_
        refine wl_pure (v := .int .i64 a_b.Size) (po_load_box tk_3 (pickS (pickS pick0)) rfl rfl) rfl ?_
        refine wl_pure (po_lss rfl rfl) rfl ?_
        refine wnt ?_
        refine wc_cond_f rfl c2 ?_
        refine wc_exit ?_
        refine wq_then_exit ?_
        refine wq_then_exit ?_
        refine wq_block_exit ?_
        exact wj_meet _ x2l (Sum.inl.inj en1) (sub_cons rfl (sub_cons rfl (sub_cons rfl (sub_cons rfl sub_nil)))) (some_cons pick0 (some_cons pick0 (some_cons pick0 (some_cons pick0 some_nil))))
      intro e2 x2 hp
      obtain rfl : e2 = y2 := hp.symm
      refine wq_block ?_
      refine wq_then ?_
      refine wc_region ?_
      refine mv rfl rfl ?_
      refine wl_pure (po_inc rfl rfl (by omega)) rfl ?_
      refine asg rfl rfl ?_
      refine wl_nil ?_
      exact wq_rnd hk1 (stpN l1 t1) x2 (sub_cons rfl (sub_cons rfl (sub_cons rfl (sub_cons rfl sub_nil)))) (some_cons pick0 (some_cons pick0 (some_cons pick0 (some_cons pick0 some_nil))))
    have c1 : (decide (((k1 : Nat) : Int) < a_b.Size)) = false := decide_eq_false (by omega)
    have en2 := forO_end l1 hk1
    refine wc_seq ?_
    refine wcr ?_
    refine mv rfl rfl ?_
    refine wl_pure (po_fld fo_29_0 rfl) rfl ?_
    refine wl_pure (v := .int .i64 a_b.Size) (po_load_box tk_3 (pickS (pickS pick0)) rfl rfl) rfl ?_
    refine wl_pure (po_lss rfl rfl) rfl ?_
    refine wnt ?_
    refine wc_cond_f rfl c1 ?_
    refine wc_exit ?_
    refine wq_then_exit ?_
    refine wq_then_exit ?_
    refine wq_block_exit ?_
    exact wj_meet _ x1l (Sum.inl.inj en2) (sub_cons rfl (sub_cons rfl sub_nil)) (some_cons pick0 (some_cons pick0 (some_cons (pickS pick0) some_nil)))
  intro e1 x1 hp
  obtain rfl : e1 = y1 := hp.symm
  refine wq_then ?_
  refine wcr ?_
  refine wl_pure (v := .agg #[.int .i64 a_b.Size, (sl x1)]) (po_load_boxs tk_29 pick0 rfl rfl rfl) rfl ?_
  refine wl_skipop (so_box (cs' := [.int .i64 a_b.Size, (sl x1)]) tk_29 (pickS pick0) rfl rfl rfl rfl rfl rfl rfl) ?_
  refine wnt ?_
  refine wc_ret ?_
  obtain rfl := Option.some.inj t0
  exact wq_retc rfl tk_29 rfl pick0 rfl fun w hw => ⟨x1, rfl, hw.weak (some_cons (pickS (pickS pick0)) some_nil)⟩

theorem c_spec_TurnCell (w : World) (a_c : GCell) {r : GCell} (t0 : spec_TurnCell a_c = some r) : Calls Tryd.prog 60 #[.agg #[.int .i64 a_c.Split, .int .i64 a_c.A, .int .i64 a_c.B]] w fun e w' => e = .returned (.agg #[.int .i64 r.Split, .int .i64 r.A, .int .i64 r.B]) ∧ SH w [] [] w' := by
  refine calls_of_wc (args := [_]) Tryd.func60 rfl Tryd.ntmps60 rfl ?_
  unfold spec_TurnCell at t0
  refine wcr ?_
  refine wl_eff (eo_box rfl rfl) rfl fun b1 => ?_
  refine wl_eff (eo_alloc (cs := [.int .i64 0, .int .i64 0, .int .i64 0]) za_49) rfl fun b2 => ?_
  refine wnt ?_
  refine wc_seq ?_
  refine wcr ?_
  refine wl_pure (v := .agg #[.int .i64 a_c.Split, .int .i64 a_c.A, .int .i64 a_c.B]) (po_load_boxs tk_49 (pickS pick0) rfl rfl rfl) rfl ?_
  refine bdO t0 fun v1 hv1 t0 => ?_
  refine wl_call (co_c0 fa_25 rfl fun w hw => c_spec_CellOk w a_c hv1) rfl fun _ => ?_
  refine wl_pure (po_not rfl) rfl ?_
  refine wnt ?_
  refine wcO t0 rfl (fun h1 t0 => ?_) fun h1 t0 => ?_
  · skip
    refine wcr ?_
    refine wl_pure (po_build rfl bd_49) rfl ?_
    refine wl_skipop (so_box (cs' := [.int .i64 0, .int .i64 0, .int .i64 0]) tk_49 pick0 rfl rfl rfl rfl rfl rfl rfl) ?_
    refine wnt ?_
    refine wc_ret ?_
    refine wq_then_ret ?_
    obtain rfl := Option.some.inj t0
    exact wq_retc rfl tk_49 rfl pick0 rfl fun w hw => ⟨rfl, hw.weak some_nil⟩
  refine wc_skip ?_
  refine wq_then ?_
  refine wc_seq ?_
  refine wcr ?_
  refine wl_pure (po_fld fo_49_0 rfl) rfl ?_
  refine wl_pure (v := .int .i64 a_c.Split) (po_load_box tk_3 (pickS pick0) rfl rfl) rfl ?_
  refine wnt ?_
  refine wc_block ?_
  refine wcr ?_
  refine wl_pure (po_eql rfl rfl) rfl ?_
  refine asg rfl rfl ?_
  refine wnt ?_
  refine wcO t0 rfl (fun h2 t0 => ?_) fun h2 t0 => ?_
  · skip
    refine wcr ?_
    refine wl_pure (po_fld fo_49_2 rfl) rfl ?_
    refine wl_pure (v := .int .i64 a_c.B) (po_load_box tk_3 (pickS pick0) rfl rfl) rfl ?_
    refine wl_pure (po_fld fo_49_1 rfl) rfl ?_
    refine wl_pure (v := .int .i64 a_c.A) (po_load_box tk_3 (pickS pick0) rfl rfl) rfl ?_
    refine wl_pure (po_build rfl (bd_49_0_1_2 2 a_c.B a_c.A)) rfl ?_
    refine wl_skipop (so_box (cs' := [.int .i64 2, .int .i64 a_c.B, .int .i64 a_c.A]) tk_49 pick0 rfl rfl rfl rfl rfl rfl rfl) ?_
    refine wnt ?_
    refine wc_ret ?_
    refine wq_block_ret ?_
    refine wq_then_ret ?_
    obtain rfl := Option.some.inj t0
    exact wq_retc rfl tk_49 rfl pick0 rfl fun w hw => ⟨rfl, hw.weak some_nil⟩
  refine wcr ?_
  refine wl_pure (po_eql rfl rfl) rfl ?_
  refine asg rfl rfl ?_
  refine wnt ?_
  refine wcO t0 rfl (fun h3 t0 => ?_) fun h3 t0 => ?_
  · skip
    refine wcr ?_
    refine wl_pure (po_fld fo_49_1 rfl) rfl ?_
    refine wl_pure (v := .int .i64 a_c.A) (po_load_box tk_3 (pickS pick0) rfl rfl) rfl ?_
    refine wl_pure (po_fld fo_49_2 rfl) rfl ?_
    refine wl_pure (v := .int .i64 a_c.B) (po_load_box tk_3 (pickS pick0) rfl rfl) rfl ?_
    refine wl_pure (po_build rfl (bd_49_0_1_2 1 a_c.A a_c.B)) rfl ?_
    refine wl_skipop (so_box (cs' := [.int .i64 1, .int .i64 a_c.A, .int .i64 a_c.B]) tk_49 pick0 rfl rfl rfl rfl rfl rfl rfl) ?_
    refine wnt ?_
    refine wc_ret ?_
    refine wq_block_ret ?_
    refine wq_then_ret ?_
    obtain rfl := Option.some.inj t0
    exact wq_retc rfl tk_49 rfl pick0 rfl fun w hw => ⟨rfl, hw.weak some_nil⟩
  refine wc_skip ?_
  refine wq_block ?_
  refine wq_then ?_
  refine wcr ?_
  refine wl_pure (v := .agg #[.int .i64 a_c.Split, .int .i64 a_c.A, .int .i64 a_c.B]) (po_load_boxs tk_49 (pickS pick0) rfl rfl rfl) rfl ?_
  refine wl_skipop (so_box (cs' := [.int .i64 a_c.Split, .int .i64 a_c.A, .int .i64 a_c.B]) tk_49 pick0 rfl rfl rfl rfl rfl rfl rfl) ?_
  refine wnt ?_
  refine wc_ret ?_
  obtain rfl := Option.some.inj t0
  exact wq_retc rfl tk_49 rfl pick0 rfl fun w hw => ⟨rfl, hw.weak some_nil⟩

theorem c_spec_TurnBlock (w : World) (a_b : GBlock) (v0a : Hd) (r0 : rdF w (dm w []) (sl v0a) a_b.Cells) {r : GBlock} (t0 : spec_TurnBlock a_b = some r) : Calls Tryd.prog 46 #[.agg #[.int .i64 a_b.Size, (sl v0a)]] w fun e w' => ∃ x : Hd, e = .returned (.agg #[.int .i64 r.Size, (sl x)]) ∧ SH w [] [ownF (sl x) r.Cells] w' := by
  refine calls_of_wc (args := [_]) Tryd.func46 rfl Tryd.ntmps46 rfl ?_
  unfold spec_TurnBlock at t0
  refine wcr ?_
  refine wl_eff (eo_box rfl rfl) rfl fun b1 => ?_
  refine wl_eff (eo_alloc (cs := [.int .i64 0, (sl (⟨none, 0, 0⟩ : Hd))]) za_29) rfl fun b2 => ?_
  refine wnt ?_
  refine wc_seq ?_
  refine wcr ?_
  refine wl_pure (v := .agg #[.int .i64 a_b.Size, (sl v0a)]) (po_load_boxs tk_29 (pickS pick0) rfl rfl rfl) rfl ?_
  refine bdO t0 fun v1 hv1 t0 => ?_
  refine wl_call (co_c0 fa_10 rfl fun w hw => c_spec_BlockOk w a_b v0a (Rg.on (rds_arg r0) hw) hv1) rfl fun _ => ?_
  refine wl_pure (po_not rfl) rfl ?_
  refine wnt ?_
  refine wcO t0 rfl (fun h1 t0 => ?_) fun h1 t0 => ?_
  · skip
    refine wcr ?_
    refine wl_pure (po_build rfl bd_29) rfl ?_
    refine wl_skipop (so_box (cs' := [.int .i64 0, (sl (⟨none, 0, 0⟩ : Hd))]) tk_29 pick0 rfl rfl rfl rfl rfl rfl rfl) ?_
    refine wnt ?_
    refine wc_ret ?_
    refine wq_then_ret ?_
    obtain rfl := Option.some.inj t0
    exact wq_retc rfl tk_29 rfl pick0 rfl fun w hw => ⟨(⟨none, 0, 0⟩ : Hd), rfl, hw.weak (some_cons pick_nil some_nil)⟩
  refine wc_skip ?_
  refine wq_then ?_
  refine wcr ?_
  refine wl_pure (po_fld fo_29_0 rfl) rfl ?_
  refine wl_pure (v := .int .i64 a_b.Size) (po_load_box tk_3 (pickS pick0) rfl rfl) rfl ?_
  refine wl_pure (po_build rfl (bd_29_0 a_b.Size)) rfl ?_
  refine wl_eff (eo_alloc (cs := [.int .i64 0, (sl (⟨none, 0, 0⟩ : Hd))]) za_29) rfl fun b3 => ?_
  refine wl_skipop (so_box (cs' := [.int .i64 a_b.Size, (sl (⟨none, 0, 0⟩ : Hd))]) tk_29 pick0 rfl rfl rfl rfl rfl rfl rfl) ?_
  refine wnt ?_
  refine wc_seq ?_
  refine wcr ?_
  refine asg rfl rfl ?_
  refine wnt ?_
  refine gdO t0 fun g1 t0 => ?_
  refine lpO_inv t0 fun y1 l1 t0 => ?_
  refine wj (J := List GCell) (X := Hd) (fun z => y1 = z) (fun _ _ => [(2, ptr b2 0), (3, ptr b3 0)]) (fun z x => [box b3 [.int .i64 a_b.Size, (sl x)], box b2 [.int .i64 0, (sl (⟨none, 0, 0⟩ : Hd))], ownF (sl x) z]) ?_ ?_
  · skip
    refine wc_block ?_
    refine wc_forO (X := Hd) l1 (fun k1 s1 x1l => [(1, ptr b1 0), (2, ptr b2 0), (3, ptr b3 0), (4, .int .i64 ((k1 : Nat) : Int))]) (fun k1 s1 x1l => [box b3 [.int .i64 a_b.Size, (sl x1l)], box b2 [.int .i64 0, (sl (⟨none, 0, 0⟩ : Hd))], box b1 [.int .i64 a_b.Size, (sl v0a)], ownF (sl x1l) s1]) (⟨none, 0, 0⟩ : Hd) (sub_cons rfl (sub_cons rfl (sub_cons rfl (sub_cons rfl sub_nil)))) (some_cons pick0 (some_cons pick0 (some_cons pick0 (some_cons pick_nil some_nil)))) fun k1 s1 x1l hN1 l1 => ?_
    by_cases hk1 : k1 < (a_b.Size).toNat
    · skip
      refine forO_step l1 hk1 fun _ t1 l1 => ?_
      unfold spec_TurnBlock_L1 at t1
      have c1 : (decide (((k1 : Nat) : Int) < a_b.Size)) = true := decide_eq_true (by omega)
      refine wc_seq ?_
      refine wcr ?_
      refine mv rfl rfl ?_
      refine wl_pure (po_fld fo_29_0 rfl) rfl ?_
      refine wl_pure (v := .int .i64 a_b.Size) (po_load_box tk_3 (pickS (pickS pick0)) rfl rfl) rfl ?_
      refine wl_pure (po_lss rfl rfl) rfl ?_
      refine wnt ?_
      refine wc_cond_t rfl c1 ?_
      refine wc_skip ?_
      refine wq_then ?_
      refine wc_seq ?_
      refine wc_block ?_
      refine wcr ?_
      refine asg rfl rfl ?_
      refine wnt ?_
      refine lpO_inv t1 fun y2 l2 t1 => ?_
      refine wj (J := List GCell) (X := Hd) (fun z => y2 = z) (fun _ _ => [(1, ptr b1 0), (2, ptr b2 0), (3, ptr b3 0), (4, .int .i64 ((k1 : Nat) : Int))]) (fun z x => [box b3 [.int .i64 a_b.Size, (sl x)], box b2 [.int .i64 0, (sl (⟨none, 0, 0⟩ : Hd))], box b1 [.int .i64 a_b.Size, (sl v0a)], ownF (sl x) z]) ?_ ?_
      · skip
        refine wc_block ?_
        refine wc_forO (X := Hd) l2 (fun k2 s2 x2l => [(1, ptr b1 0), (2, ptr b2 0), (3, ptr b3 0), (4, .int .i64 ((k1 : Nat) : Int)), (5, .int .i64 ((k2 : Nat) : Int))]) (fun k2 s2 x2l => [box b3 [.int .i64 a_b.Size, (sl x2l)], box b2 [.int .i64 0, (sl (⟨none, 0, 0⟩ : Hd))], box b1 [.int .i64 a_b.Size, (sl v0a)], ownF (sl x2l) s2]) x1l (sub_cons rfl (sub_cons rfl (sub_cons rfl (sub_cons rfl (sub_cons rfl sub_nil))))) (some_cons pick0 (some_cons pick0 (some_cons pick0 (some_cons pick0 some_nil)))) fun k2 s2 x2l hN2 l2 => ?_
        by_cases hk2 : k2 < (a_b.Size).toNat
        · skip
          refine forO_step l2 hk2 fun _ t2 l2 => ?_
          unfold spec_TurnBlock_L2 at t2
          have c2 : (decide (((k2 : Nat) : Int) < a_b.Size)) = true := decide_eq_true (by omega)
          refine wc_seq ?_
          refine wcr ?_
          refine mv rfl rfl ?_
          refine wl_pure (po_fld fo_29_0 rfl) rfl ?_
          refine wl_pure (v := .int .i64 a_b.Size) (po_load_box tk_3 (pickS (pickS pick0)) rfl rfl) rfl ?_
          refine wl_pure (po_lss rfl rfl) rfl ?_
          refine wnt ?_
          refine wc_cond_t rfl c2 ?_
          refine wc_skip ?_
          refine wq_then ?_
          refine wc_seq ?_
          refine wc_block ?_
          refine wc_draw [box b3 [.int .i64 a_b.Size, (sl x2l)], box b2 [.int .i64 0, (sl (⟨none, 0, 0⟩ : Hd))], box b1 [.int .i64 a_b.Size, (sl v0a)]] 20 mixed ?_
          refine wa_pure 0 rfl (po_fld fo_29_1 rfl) (some_cons pick0 (some_cons pick0 (some_cons pick0 some_nil))) rfl (by kernel_rfl) (fun _ _ _ h => h) ?_
          refine wa_pure (v := (sl x2l)) 1 rfl (po_load_box tk_27 pick0 rfl rfl) (some_cons pick0 (some_cons pick0 (some_cons pick0 some_nil))) rfl (by kernel_rfl) (fun _ _ _ h => h) ?_
          refine wa_pure 2 rfl (po_fld fo_29_1 rfl) (some_cons pick0 (some_cons pick0 (some_cons pick0 some_nil))) rfl (by kernel_rfl) (fun _ _ _ h => h) ?_
          refine wa_pure (v := (sl v0a)) 3 rfl (po_load_box tk_27 (pickS (pickS pick0)) rfl rfl) (some_cons pick0 (some_cons pick0 (some_cons pick0 some_nil))) rfl (by kernel_rfl) (fun _ _ _ h => h) ?_
          refine wa_pure 4 rfl (po_fld fo_29_0 rfl) (some_cons pick0 (some_cons pick0 (some_cons pick0 some_nil))) rfl (by kernel_rfl) (fun _ _ _ h => h) ?_
          refine wa_pure (v := .int .i64 a_b.Size) 5 rfl (po_load_box tk_3 (pickS (pickS pick0)) rfl rfl) (some_cons pick0 (some_cons pick0 (some_cons pick0 some_nil))) rfl (by kernel_rfl) (fun _ _ _ h => h) ?_
          refine wa_pure 6 rfl (po_sub rfl rfl) (some_cons pick0 (some_cons pick0 (some_cons pick0 some_nil))) rfl (by kernel_rfl) (fun _ _ _ h => h) ?_
          refine wa_pure 7 rfl (po_move rfl) (some_cons pick0 (some_cons pick0 (some_cons pick0 some_nil))) rfl (by kernel_rfl) (fun _ _ _ h => h) ?_
          refine wa_pure 8 rfl (po_sub rfl rfl) (some_cons pick0 (some_cons pick0 (some_cons pick0 some_nil))) rfl (by kernel_rfl) (fun _ _ _ h => h) ?_
          refine wa_pure 9 rfl (po_fld fo_29_0 rfl) (some_cons pick0 (some_cons pick0 (some_cons pick0 some_nil))) rfl (by kernel_rfl) (fun _ _ _ h => h) ?_
          refine wa_pure (v := .int .i64 a_b.Size) 10 rfl (po_load_box tk_3 (pickS (pickS pick0)) rfl rfl) (some_cons pick0 (some_cons pick0 (some_cons pick0 some_nil))) rfl (by kernel_rfl) (fun _ _ _ h => h) ?_
          refine wa_pure 11 rfl (po_mul rfl rfl) (some_cons pick0 (some_cons pick0 (some_cons pick0 some_nil))) rfl (by kernel_rfl) (fun _ _ _ h => h) ?_
          refine wa_pure 12 rfl (po_move rfl) (some_cons pick0 (some_cons pick0 (some_cons pick0 some_nil))) rfl (by kernel_rfl) (fun _ _ _ h => h) ?_
          refine wa_pure 13 rfl (po_add rfl rfl) (some_cons pick0 (some_cons pick0 (some_cons pick0 some_nil))) rfl (by kernel_rfl) (fun _ _ _ h => h) ?_
          refine gdO t2 fun g2 t2 => ?_
          refine wa_pure 14 rfl (po_ixr (rds_arg r0) el_27 rfl rfl g2.1 g2.2) (some_cons pick0 (some_cons pick0 (some_cons pick0 some_nil))) rfl (by kernel_rfl) (fun _ _ _ h => h) ?_
          refine wa_pure (v := .agg #[.int .i64 ((gx a_b.Cells (((wr ((wr ((wr ((wr (a_b.Size - 1)) - ((k2 : Nat) : Int))) * a_b.Size)) + ((k1 : Nat) : Int)))).toNat)).Split), .int .i64 ((gx a_b.Cells (((wr ((wr ((wr ((wr (a_b.Size - 1)) - ((k2 : Nat) : Int))) * a_b.Size)) + ((k1 : Nat) : Int)))).toNat)).A), .int .i64 ((gx a_b.Cells (((wr ((wr ((wr ((wr (a_b.Size - 1)) - ((k2 : Nat) : Int))) * a_b.Size)) + ((k1 : Nat) : Int)))).toNat)).B)]) 15 rfl (po_ldfs (rds_arg r0) tk_49 rfl (ix_lt g2) rfl rfl rfl) (some_cons pick0 (some_cons pick0 (some_cons pick0 some_nil))) rfl (by kernel_rfl) (fun _ _ _ h => h) ?_
          refine wa_1 (i := 16) (by kernel_rfl) ?_
          refine bdO t2 fun v2 hv2 t2 => ?_
          refine ws_call rfl (co_c0 fa_60 rfl fun w hw => c_spec_TurnCell w (gx a_b.Cells (((wr ((wr ((wr ((wr (a_b.Size - 1)) - ((k2 : Nat) : Int))) * a_b.Size)) + ((k1 : Nat) : Int)))).toNat)) hv2) (fun _ => (sts_some (some_cons pick0 (some_cons pick0 (some_cons pick0 some_nil))))) rfl fun _ => ?_
          refine wa_1 (i := 17) (by kernel_rfl) ?_
          refine ws_eff rfl (eo_buildSlice rfl (sb_27_1 v2.Split v2.A v2.B)) (fun _ => (sts_some (some_cons (pickS pick0) (some_cons (pickS pick0) (some_cons (pickS pick0) some_nil))))) rfl fun b4 => ?_
          refine wa_1 (i := 18) (by kernel_rfl) ?_
          refine gdO t2 fun g3 t2 => ?_
          refine ws_eff rfl (eo_append (xs := s2) (ys := ([v2] : List GCell)) ak_27 (pickS (pickS (pickS (pickS pick0)))) rfl rfl (slin_rd fun _ g => Rg.on (rds_own (pick_box_own pick0 (n := 1) (xs := ([v2] : List GCell)) rfl rfl (by unfold maxLen; omega))) g) g3) (fun _ => (sts_some (some_cons (pickS (pickS pick0)) (some_cons (pickS (pickS pick0)) (some_cons (pickS (pickS pick0)) some_nil))))) rfl fun x3 => ?_
          refine wa_pure 19 rfl (po_fld fo_29_1 rfl) (some_cons (pickS (pickS pick0)) (some_cons (pickS (pickS pick0)) (some_cons (pickS (pickS pick0)) some_nil))) rfl (by kernel_rfl) (fun _ _ _ h => h) ?_
          refine wa_1 (i := 20) (by kernel_rfl) ?_
          refine ws_skipop rfl (so_box (cs' := [.int .i64 a_b.Size, (sl x3)]) tk_27 (pickS (pickS pick0)) rfl rfl rfl rfl rfl rfl rfl) (sts_past (by kernel_rfl)) ?_
          refine wa_done (by kernel_rfl) ?_
          refine wq_block ?_
          refine wq_then ?_
          refine wc_region ?_
          refine mv rfl rfl ?_
          refine wl_pure (po_inc rfl rfl (by omega)) rfl ?_
          refine asg rfl rfl ?_
          refine wl_nil ?_
          exact wq_rnd hk2 (stpN l2 t2) x3 (sub_cons rfl (sub_cons rfl (sub_cons rfl (sub_cons rfl (sub_cons rfl sub_nil))))) (some_cons pick0 (some_cons (pickS (pickS pick0)) (some_cons (pickS (pickS pick0)) (some_cons pick0 some_nil))))
        have c2 : (decide (((k2 : Nat) : Int) < a_b.Size)) = false := decide_eq_false (by omega)
        have en1 := forO_end l2 hk2
        refine wc_seq ?_
        refine wcr ?_
        refine mv rfl rfl ?_
        refine wl_pure (po_fld fo_29_0 rfl) rfl ?_
        refine wl_pure (v := .int .i64 a_b.Size) (po_load_box tk_3 (pickS (pickS pick0)) rfl rfl) rfl ?_
        refine wl_pure (po_lss rfl rfl) rfl ?_
        refine wnt ?_
        refine wc_cond_f rfl c2 ?_
        refine wc_exit ?_
        refine wq_then_exit ?_
        refine wq_then_exit ?_
        refine wq_block_exit ?_
        exact wj_meet _ x2l (Sum.inl.inj en1) (sub_cons rfl (sub_cons rfl (sub_cons rfl (sub_cons rfl sub_nil)))) (some_cons pick0 (some_cons pick0 (some_cons pick0 (some_cons pick0 some_nil))))
      intro e2 x2 hp
      obtain rfl : e2 = y2 := hp.symm
      refine wq_block ?_
      refine wq_then ?_
      refine wc_region ?_
      refine mv rfl rfl ?_
      refine wl_pure (po_inc rfl rfl (by omega)) rfl ?_
      refine asg rfl rfl ?_
      refine wl_nil ?_
      exact wq_rnd hk1 (stpN l1 t1) x2 (sub_cons rfl (sub_cons rfl (sub_cons rfl (sub_cons rfl sub_nil)))) (some_cons pick0 (some_cons pick0 (some_cons pick0 (some_cons pick0 some_nil))))
    have c1 : (decide (((k1 : Nat) : Int) < a_b.Size)) = false := decide_eq_false (by omega)
    have en2 := forO_end l1 hk1
    refine wc_seq ?_
    refine wcr ?_
    refine mv rfl rfl ?_
    refine wl_pure (po_fld fo_29_0 rfl) rfl ?_
    refine wl_pure (v := .int .i64 a_b.Size) (po_load_box tk_3 (pickS (pickS pick0)) rfl rfl) rfl ?_
    refine wl_pure (po_lss rfl rfl) rfl ?_
    refine wnt ?_
    refine wc_cond_f rfl c1 ?_
    refine wc_exit ?_
    refine wq_then_exit ?_
    refine wq_then_exit ?_
    refine wq_block_exit ?_
    exact wj_meet _ x1l (Sum.inl.inj en2) (sub_cons rfl (sub_cons rfl sub_nil)) (some_cons pick0 (some_cons pick0 (some_cons (pickS pick0) some_nil)))
  intro e1 x1 hp
  obtain rfl : e1 = y1 := hp.symm
  refine wq_then ?_
  refine wcr ?_
  refine wl_pure (v := .agg #[.int .i64 a_b.Size, (sl x1)]) (po_load_boxs tk_29 pick0 rfl rfl rfl) rfl ?_
  refine wl_skipop (so_box (cs' := [.int .i64 a_b.Size, (sl x1)]) tk_29 (pickS pick0) rfl rfl rfl rfl rfl rfl rfl) ?_
  refine wnt ?_
  refine wc_ret ?_
  obtain rfl := Option.some.inj t0
  exact wq_retc rfl tk_29 rfl pick0 rfl fun w hw => ⟨x1, rfl, hw.weak (some_cons (pickS (pickS pick0)) some_nil)⟩

theorem c_spec_SeenFrom (w : World) (a_b : GBlock) (v0a : Hd) (r0 : rdF w (dm w []) (sl v0a) a_b.Cells) (a_k : Int) {r : GBlock} (t0 : spec_SeenFrom a_b a_k = some r) : Calls Tryd.prog 30 #[.agg #[.int .i64 a_b.Size, (sl v0a)], .int .i64 a_k] w fun e w' => ∃ x : Hd, e = .returned (.agg #[.int .i64 r.Size, (sl x)]) ∧ SH w [] [ownF (sl x) r.Cells] w' := by
  refine calls_of_wc (args := [_, _]) Tryd.func30 rfl Tryd.ntmps30 rfl ?_
  unfold spec_SeenFrom at t0
  refine wcr ?_
  refine wl_eff (eo_box rfl rfl) rfl fun b1 => ?_
  refine wl_eff (eo_alloc (cs := [.int .i64 0, (sl (⟨none, 0, 0⟩ : Hd))]) za_29) rfl fun b2 => ?_
  refine wnt ?_
  refine wc_seq ?_
  refine wc_seq ?_
  refine bdO t0 fun y1 t1 t0 => ?_
  refine wj (J := Bool) (X := Unit) (fun z => y1 = z) (fun z _ => [(1, .int .i64 a_k), (2, ptr b1 0), (4, ptr b2 0), (14, .bool z)]) (fun _ _ => [box b2 [.int .i64 0, (sl (⟨none, 0, 0⟩ : Hd))], box b1 [.int .i64 a_b.Size, (sl v0a)]]) ?_ ?_
  · skip
    refine wc_region ?_
    refine wl_pure (v := .agg #[.int .i64 a_b.Size, (sl v0a)]) (po_load_boxs tk_29 (pickS pick0) rfl rfl rfl) rfl ?_
    refine bdO t1 fun v1 hv1 t1 => ?_
    refine wl_call (co_c0 fa_10 rfl fun w hw => c_spec_BlockOk w a_b v0a (Rg.on (rds_arg r0) hw) hv1) rfl fun _ => ?_
    refine wl_pure (po_not rfl) rfl ?_
    refine mv rfl rfl ?_
    refine wlO_ (t := 10) t1 rfl (fun h1 t1 => ?_) fun h1 t1 => ?_
    · skip
      refine wl_guard_off (j := 3) rfl rfl rfl rfl rfl ?_
      refine wl_guard_off (j := 3) rfl rfl rfl rfl rfl ?_
      refine wl_guard_off (j := 3) rfl rfl rfl rfl rfl ?_
      refine wl_pure (po_pick_t rfl rfl) rfl ?_
      refine wl_nil ?_
      exact wj_meet _ () (mtE t1) (sub_cons rfl (sub_cons rfl (sub_cons rfl (sub_cons rfl sub_nil)))) (some_cons pick0 (some_cons pick0 some_nil))
    refine wl_guard_on (j := 3) rfl rfl rfl (mv rfl rfl ?_)
    refine bdO t1 fun v2 hv2 t1 => ?_
    refine wl_guard_on (j := 3) rfl rfl rfl (wl_call (co_c0 fa_24 rfl fun w hw => c_spec_l01In w a_k 0 7 hv2) rfl (fun _ => ?_))
    refine wl_guard_on (j := 3) rfl rfl rfl (wl_pure (po_not rfl) rfl ?_)
    refine wl_pure (po_pick_f rfl rfl) rfl ?_
    refine wl_nil ?_
    exact wj_meet _ () (mtE t1) (sub_cons rfl (sub_cons rfl (sub_cons rfl (sub_cons rfl sub_nil)))) (some_cons pick0 (some_cons pick0 some_nil))
  intro j1 _ hp
  obtain rfl : j1 = y1 := hp.symm
  refine wq_then ?_
  refine wcO t0 rfl (fun h2 t0 => ?_) fun h2 t0 => ?_
  · skip
    refine wcr ?_
    refine wl_pure (po_build rfl bd_29) rfl ?_
    refine wl_skipop (so_box (cs' := [.int .i64 0, (sl (⟨none, 0, 0⟩ : Hd))]) tk_29 pick0 rfl rfl rfl rfl rfl rfl rfl) ?_
    refine wnt ?_
    refine wc_ret ?_
    refine wq_then_ret ?_
    obtain rfl := Option.some.inj t0
    exact wq_retc rfl tk_29 rfl pick0 rfl fun w hw => ⟨(⟨none, 0, 0⟩ : Hd), rfl, hw.weak (some_cons pick_nil some_nil)⟩
  refine wc_skip ?_
  refine wq_then ?_
  refine wcr ?_
  refine wl_pure (v := .agg #[.int .i64 a_b.Size, (sl v0a)]) (po_load_boxs tk_29 (pickS pick0) rfl rfl rfl) rfl ?_
  refine bdO t0 fun v3 hv3 t0 => ?_
  refine wl_call (co_c1 fa_29 rfl fun w hw => c_spec_l03Copy w a_b v0a (Rg.on (rds_arg r0) hw) hv3) rfl fun x2 => ?_
  refine wl_eff (eo_alloc (cs := [.int .i64 0, (sl (⟨none, 0, 0⟩ : Hd))]) za_29) rfl fun b3 => ?_
  refine wl_skipop (so_box (cs' := [.int .i64 v3.Size, (sl x2)]) tk_29 pick0 rfl rfl rfl rfl rfl rfl rfl) ?_
  refine wnt ?_
  refine wc_seq ?_
  refine wcr ?_
  refine mv rfl rfl ?_
  refine wl_pure (po_geq rfl rfl) rfl ?_
  refine wnt ?_
  refine bdO t0 fun y1 t1 t0 => ?_
  refine wj (J := GBlock) (X := Hd) (fun z => y1 = z) (fun _ _ => [(1, .int .i64 a_k), (4, ptr b2 0), (5, ptr b3 0)]) (fun z x => [box b3 [.int .i64 ((z).Size), (sl x)], box b2 [.int .i64 0, (sl (⟨none, 0, 0⟩ : Hd))], ownF (sl x) ((z).Cells)]) ?_ ?_
  · skip
    refine wcO t1 rfl (fun h3 t1 => ?_) fun h3 t1 => ?_
    · skip
      refine wc_region ?_
      refine wl_pure (v := .agg #[.int .i64 a_b.Size, (sl v0a)]) (po_load_boxs tk_29 (pickS (pickS (pickS pick0))) rfl rfl rfl) rfl ?_
      refine bdO t1 fun v4 hv4 t1 => ?_
      refine wl_call (co_c1 fa_45 rfl fun w hw => c_spec_MirrorBlock w a_b v0a (Rg.on (rds_arg r0) hw) hv4) rfl fun x4 => ?_
      refine wl_skipop (so_box (cs' := [.int .i64 v4.Size, (sl x4)]) tk_29 (pickS pick0) rfl rfl rfl rfl rfl rfl rfl) ?_
      refine wl_nil ?_
      exact wj_meet _ x4 (mtE t1) (sub_cons rfl (sub_cons rfl (sub_cons rfl sub_nil))) (some_cons pick0 (some_cons (pickS (pickS pick0)) (some_cons pick0 some_nil)))
    refine wc_skip ?_
    exact wj_meet _ x2 (mtE t1) (sub_cons rfl (sub_cons rfl (sub_cons rfl sub_nil))) (some_cons pick0 (some_cons (pickS pick0) (some_cons pick0 some_nil)))
  intro j2 x3 hp
  obtain rfl : j2 = y1 := hp.symm
  refine wq_then ?_
  refine wc_seq ?_
  refine wcr ?_
  refine asg rfl rfl ?_
  refine wnt ?_
  refine gdO t0 fun g1 t0 => ?_
  refine lpO_inv t0 fun y1 l1 t0 => ?_
  refine wj (J := Int × (List GCell)) (X := Hd) (fun z => y1 = z) (fun _ _ => [(4, ptr b2 0), (5, ptr b3 0)]) (fun z x => [box b3 [.int .i64 z.1, (sl x)], box b2 [.int .i64 0, (sl (⟨none, 0, 0⟩ : Hd))], ownF (sl x) z.2]) ?_ ?_
  · skip
    refine wc_block ?_
    refine wc_forO (X := Hd) l1 (fun k1 s1 x1l => [(1, .int .i64 a_k), (4, ptr b2 0), (5, ptr b3 0), (6, .int .i64 ((k1 : Nat) : Int))]) (fun k1 s1 x1l => [box b3 [.int .i64 s1.1, (sl x1l)], box b2 [.int .i64 0, (sl (⟨none, 0, 0⟩ : Hd))], ownF (sl x1l) s1.2]) x3 (sub_cons rfl (sub_cons rfl (sub_cons rfl (sub_cons rfl sub_nil)))) (some_cons pick0 (some_cons pick0 (some_cons pick0 some_nil))) fun k1 s1 x1l hN1 l1 => ?_
    by_cases hk1 : k1 < ((a_k.tmod 4)).toNat
    · skip
      refine forO_step l1 hk1 fun _ t1 l1 => ?_
      unfold spec_SeenFrom_L1 at t1
      have c1 : (decide (((k1 : Nat) : Int) < (a_k.tmod 4))) = true := decide_eq_true (by omega)
      refine wc_seq ?_
      refine wcr ?_
      refine mv rfl rfl ?_
      refine mv rfl rfl ?_
      refine wl_pure (po_rem rfl rfl (by decide)) rfl ?_
      refine wl_pure (po_lss rfl rfl) rfl ?_
      refine wnt ?_
      refine wc_cond_t rfl c1 ?_
      refine wc_skip ?_
      refine wq_then ?_
      refine wc_seq ?_
      refine wc_block ?_
      refine wc_region ?_
      refine wl_pure (v := .agg #[.int .i64 s1.1, (sl x1l)]) (po_load_boxs tk_29 pick0 rfl rfl rfl) rfl ?_
      refine bdO t1 fun v5 hv5 t1 => ?_
      refine wl_call (co_c1 fa_46 rfl fun w hw => c_spec_TurnBlock w (GBlock.mk s1.1 s1.2) x1l (Rg.on (rds_own (pickS (pickS pick0))) hw) hv5) rfl fun x6 => ?_
      refine wl_skipop (so_box (cs' := [.int .i64 v5.Size, (sl x6)]) tk_29 (pickS pick0) rfl rfl rfl rfl rfl rfl rfl) ?_
      refine wl_nil ?_
      refine wq_block ?_
      refine wq_then ?_
      refine wc_region ?_
      refine mv rfl rfl ?_
      refine wl_pure (po_inc rfl rfl (by omega)) rfl ?_
      refine asg rfl rfl ?_
      refine wl_nil ?_
      exact wq_rnd hk1 (stpN l1 t1) x6 (sub_cons rfl (sub_cons rfl (sub_cons rfl (sub_cons rfl sub_nil)))) (some_cons pick0 (some_cons (pickS pick0) (some_cons pick0 some_nil)))
    have c1 : (decide (((k1 : Nat) : Int) < (a_k.tmod 4))) = false := decide_eq_false (by omega)
    have en1 := forO_end l1 hk1
    refine wc_seq ?_
    refine wcr ?_
    refine mv rfl rfl ?_
    refine mv rfl rfl ?_
    refine wl_pure (po_rem rfl rfl (by decide)) rfl ?_
    refine wl_pure (po_lss rfl rfl) rfl ?_
    refine wnt ?_
    refine wc_cond_f rfl c1 ?_
    refine wc_exit ?_
    refine wq_then_exit ?_
    refine wq_then_exit ?_
    refine wq_block_exit ?_
    exact wj_meet _ x1l (Sum.inl.inj en1) (sub_cons rfl (sub_cons rfl sub_nil)) (some_cons pick0 (some_cons pick0 (some_cons pick0 some_nil)))
  intro e1 x5 hp
  obtain rfl : e1 = y1 := hp.symm
  refine wq_then ?_
  refine wcr ?_
  refine wl_pure (v := .agg #[.int .i64 e1.1, (sl x5)]) (po_load_boxs tk_29 pick0 rfl rfl rfl) rfl ?_
  refine wl_skipop (so_box (cs' := [.int .i64 e1.1, (sl x5)]) tk_29 (pickS pick0) rfl rfl rfl rfl rfl rfl rfl) ?_
  refine wnt ?_
  refine wc_ret ?_
  obtain rfl := Option.some.inj t0
  exact wq_retc rfl tk_29 rfl pick0 rfl fun w hw => ⟨x5, rfl, hw.weak (some_cons (pickS (pickS pick0)) some_nil)⟩

theorem c_spec_l01Figure (w : World) (a_x : Int) {r : UInt8} (t0 : spec_l01Figure a_x = some r) : Calls Tryd.prog 58 #[.int .i64 a_x] w fun e w' => e = .returned (.int .u8 (r.toNat : Int)) ∧ SH w [] [] w' := by
  refine calls_of_wc (args := [_]) Tryd.func58 rfl Tryd.ntmps58 rfl ?_
  unfold spec_l01Figure at t0
  refine wcr ?_
  refine asg rfl rfl ?_
  refine wnt ?_
  refine wc_seq ?_
  refine wcr ?_
  refine mv rfl rfl ?_
  refine wl_pure (po_lss rfl rfl) rfl ?_
  refine wnt ?_
  refine wcO t0 rfl (fun h1 t0 => ?_) fun h1 t0 => ?_
  · skip
    refine wcr ?_
    refine mv rfl rfl ?_
    refine wl_pure (po_add rfl rfl) rfl ?_
    refine wl_pure (po_intu8 isInt_3 isU8_5 rfl) rfl ?_
    refine asg rfl rfl ?_
    refine wnt ?_
    refine wc_ret ?_
    refine wq_then_ret ?_
    obtain rfl := Option.some.inj t0
    exact wq_ret1 rfl rfl fun w hw => ⟨rfl, hw.weak some_nil⟩
  refine wc_skip ?_
  refine wq_then ?_
  refine wcr ?_
  refine mv rfl rfl ?_
  refine wl_pure (po_add rfl rfl) rfl ?_
  refine wl_pure (po_sub rfl rfl) rfl ?_
  refine wl_pure (po_intu8 isInt_3 isU8_5 rfl) rfl ?_
  refine asg rfl rfl ?_
  refine wnt ?_
  refine wc_ret ?_
  obtain rfl := Option.some.inj t0
  exact wq_ret1 rfl rfl fun w hw => ⟨rfl, hw.weak some_nil⟩

theorem c_spec_FormatInt (w : World) (a_n : Int) {r : Str} (t0 : spec_FormatInt a_n = some r) : Calls Tryd.prog 44 #[.int .i64 a_n] w fun e w' => e = .returned (bs r) ∧ SH w [] [] w' := by
  refine calls_of_wc (args := [_]) Tryd.func44 rfl Tryd.ntmps44 rfl ?_
  unfold spec_FormatInt at t0
  refine wcr ?_
  refine asg rfl rfl ?_
  refine wnt ?_
  refine wc_seq ?_
  refine wcr ?_
  refine mv rfl rfl ?_
  refine wl_pure (po_eql rfl rfl) rfl ?_
  refine wnt ?_
  refine wcO t0 rfl (fun h1 t0 => ?_) fun h1 t0 => ?_
  · skip
    refine wcr ?_
    refine asg rfl rfl ?_
    refine wnt ?_
    refine wc_ret ?_
    refine wq_then_ret ?_
    obtain rfl := Option.some.inj t0
    exact wq_ret1 rfl rfl fun w hw => ⟨rfl, hw.weak some_nil⟩
  refine wc_skip ?_
  refine wq_then ?_
  refine wcr ?_
  refine mv rfl rfl ?_
  refine wl_pure (po_lss rfl rfl) rfl ?_
  refine asg rfl rfl ?_
  refine wnt ?_
  refine wcr ?_
  refine asg rfl rfl ?_
  refine wnt ?_
  refine wc_seq ?_
  refine wlO_inv t0 fun y1 l1 t0 => ?_
  refine wj (J := Int × Str) (X := Unit) (fun z => y1 = z) (fun z _ => [(3, .bool (decide (a_n < 0))), (4, bs z.2)]) (fun _ _ => []) ?_ ?_
  · skip
    refine wc_block ?_
    refine wc_whO (X := Unit) l1 (fun s1 x1l => [(0, .int .i64 s1.1), (3, .bool (decide (a_n < 0))), (4, bs s1.2)]) (fun s1 x1l => []) () (sub_cons rfl (sub_cons rfl (sub_cons rfl sub_nil))) some_nil fun m1 s1 x1l l1 => ?_
    refine whO_step l1 fun _ t1 l1 => ?_
    unfold spec_FormatInt_L1 at t1
    refine wc_seq ?_
    refine wcr ?_
    refine mv rfl rfl ?_
    refine wl_pure (po_neq rfl rfl) rfl ?_
    refine wnt ?_
    refine wcO t1 rfl (fun h2 t1 => ?_) fun h2 t1 => ?_
    · skip
      refine wc_skip ?_
      refine wq_then ?_
      refine wc_block ?_
      refine wcr ?_
      refine mv rfl rfl ?_
      refine wl_pure (po_rem rfl rfl (by decide)) rfl ?_
      refine asg rfl rfl ?_
      refine wnt ?_
      refine wc_seq ?_
      refine wcr ?_
      refine mv rfl rfl ?_
      refine wl_pure (po_lss rfl rfl) rfl ?_
      refine wnt ?_
      refine wc_join (X := Unit) (fun _ => True) (fun _ => [(0, .int .i64 s1.1), (3, .bool (decide (a_n < 0))), (4, bs s1.2), (5, .int .i64 (bif (decide ((s1.1.tmod 10) < 0)) then (wr (0 - (s1.1.tmod 10))) else (s1.1.tmod 10)))]) (fun _ => []) ?_ ?_
      · skip
        refine wc_cond rfl (fun h3 => ?_) fun h3 => ?_
        · skip
          refine wc_region ?_
          refine mv rfl rfl ?_
          refine wl_pure (po_neg rfl) rfl ?_
          refine asg rfl rfl ?_
          refine wl_nil ?_
          exact wq_meet () trivial (sub_cons rfl (sub_cons rfl (sub_cons rfl (sub_i rfl (by simp only [h3, cond_true]) sub_nil)))) some_nil
        refine wc_skip ?_
        exact wq_meet () trivial (sub_cons rfl (sub_cons rfl (sub_cons rfl (sub_i rfl (by simp only [h3, cond_false]) sub_nil)))) some_nil
      intro _ _
      refine wq_then ?_
      refine wcr ?_
      refine mv rfl rfl ?_
      refine bdO t1 fun v1 hv1 t1 => ?_
      refine wl_call (co_c0 fa_58 rfl fun w hw => c_spec_l01Figure w (bif (decide ((s1.1.tmod 10) < 0)) then (wr (0 - (s1.1.tmod 10))) else (s1.1.tmod 10)) hv1) rfl fun _ => ?_
      refine wl_eff (eo_buildSlice rfl (sb_75_1 v1)) rfl fun b1 => ?_
      refine wl_pure (po_b2s (rds_own (pick_box_own pick0 (n := 1) (xs := ([v1] : List UInt8)) rfl rfl (by unfold maxLen; omega))) isBytes_75 isStr_9 rfl) rfl ?_
      refine mv rfl rfl ?_
      refine gdO t1 fun g1 t1 => ?_
      refine wl_pure (po_sadd rfl rfl g1) rfl ?_
      refine asg rfl rfl ?_
      refine wnt ?_
      refine wc_region ?_
      refine mv rfl rfl ?_
      refine wl_pure (po_quo rfl rfl (by decide)) rfl ?_
      refine asg rfl rfl ?_
      refine wl_nil ?_
      refine wq_block ?_
      exact wq_rndw (stwN l1 t1) () (sub_cons rfl (sub_cons rfl (sub_cons rfl sub_nil))) some_nil
    refine wc_exit ?_
    refine wq_then_exit ?_
    refine wq_then_exit ?_
    refine wq_block_exit ?_
    exact wj_meet _ () (Sum.inl.inj (stwB l1 t1)) (sub_cons rfl (sub_cons rfl sub_nil)) some_nil
  intro e1 _ hp
  obtain rfl : e1 = y1 := hp.symm
  refine wq_then ?_
  refine wc_seq ?_
  refine wcr ?_
  refine mv rfl rfl ?_
  refine wnt ?_
  refine wcO t0 rfl (fun h4 t0 => ?_) fun h4 t0 => ?_
  · skip
    refine wcr ?_
    refine mv rfl rfl ?_
    refine gdO t0 fun g2 t0 => ?_
    refine wl_pure (po_sadd rfl rfl g2) rfl ?_
    refine asg rfl rfl ?_
    refine wnt ?_
    refine wc_ret ?_
    refine wq_then_ret ?_
    obtain rfl := Option.some.inj t0
    exact wq_ret1 rfl rfl fun w hw => ⟨rfl, hw.weak some_nil⟩
  refine wc_skip ?_
  refine wq_then ?_
  refine wcr ?_
  refine mv rfl rfl ?_
  refine asg rfl rfl ?_
  refine wnt ?_
  refine wc_ret ?_
  obtain rfl := Option.some.inj t0
  exact wq_ret1 rfl rfl fun w hw => ⟨rfl, hw.weak some_nil⟩

theorem c_spec_CellText (w : World) (a_c : GCell) {r : Str} (t0 : spec_CellText a_c = some r) : Calls Tryd.prog 28 #[.agg #[.int .i64 a_c.Split, .int .i64 a_c.A, .int .i64 a_c.B]] w fun e w' => e = .returned (bs r) ∧ SH w [] [] w' := by
  refine calls_of_wc (args := [_]) Tryd.func28 rfl Tryd.ntmps28 rfl ?_
  unfold spec_CellText at t0
  refine wcr ?_
  refine wl_eff (eo_box rfl rfl) rfl fun b1 => ?_
  refine asg rfl rfl ?_
  refine wnt ?_
  refine wc_seq ?_
  refine wcr ?_
  refine wl_pure (v := .agg #[.int .i64 a_c.Split, .int .i64 a_c.A, .int .i64 a_c.B]) (po_load_boxs tk_49 pick0 rfl rfl rfl) rfl ?_
  refine bdO t0 fun v1 hv1 t0 => ?_
  refine wl_call (co_c0 fa_25 rfl fun w hw => c_spec_CellOk w a_c hv1) rfl fun _ => ?_
  refine wl_pure (po_not rfl) rfl ?_
  refine wnt ?_
  refine wcO t0 rfl (fun h1 t0 => ?_) fun h1 t0 => ?_
  · skip
    refine wcr ?_
    refine asg rfl rfl ?_
    refine wnt ?_
    refine wc_ret ?_
    refine wq_then_ret ?_
    obtain rfl := Option.some.inj t0
    exact wq_ret1 rfl rfl fun w hw => ⟨rfl, hw.weak some_nil⟩
  refine wc_skip ?_
  refine wq_then ?_
  refine wc_seq ?_
  refine wcr ?_
  refine wl_pure (po_fld fo_49_0 rfl) rfl ?_
  refine wl_pure (v := .int .i64 a_c.Split) (po_load_box tk_3 pick0 rfl rfl) rfl ?_
  refine wnt ?_
  refine wc_block ?_
  refine wcr ?_
  refine wl_pure (po_eql rfl rfl) rfl ?_
  refine asg rfl rfl ?_
  refine wnt ?_
  refine wcO t0 rfl (fun h2 t0 => ?_) fun h2 t0 => ?_
  · skip
    refine wc_seq ?_
    refine wc_draw [box b1 [.int .i64 a_c.Split, .int .i64 a_c.A, .int .i64 a_c.B]] 9 mixed ?_
    refine wa_pure 0 rfl (po_fld fo_49_1 rfl) (some_cons pick0 some_nil) rfl (by kernel_rfl) (fun _ _ _ h => h) ?_
    refine wa_pure (v := .int .i64 a_c.A) 1 rfl (po_load_box tk_3 pick0 rfl rfl) (some_cons pick0 some_nil) rfl (by kernel_rfl) (fun _ _ _ h => h) ?_
    refine wa_pure 4 rfl (po_fld fo_49_2 rfl) (some_cons pick0 some_nil) rfl (by kernel_rfl) (fun _ _ _ h => h) ?_
    refine wa_pure (v := .int .i64 a_c.B) 5 rfl (po_load_box tk_3 pick0 rfl rfl) (some_cons pick0 some_nil) rfl (by kernel_rfl) (fun _ _ _ h => h) ?_
    refine wa_1 (i := 2) (by kernel_rfl) ?_
    refine bdO t0 fun v2 hv2 t0 => ?_
    refine ws_call rfl (co_c0 fa_44 rfl fun w hw => c_spec_FormatInt w a_c.A hv2) (fun _ => (sts_some (some_cons pick0 some_nil))) rfl fun _ => ?_
    refine gdO t0 fun g1 t0 => ?_
    refine wa_pure 3 rfl (po_sadd rfl rfl g1) (some_cons pick0 some_nil) rfl (by kernel_rfl) (fun _ _ _ h => h) ?_
    refine wa_1 (i := 6) (by kernel_rfl) ?_
    refine bdO t0 fun v3 hv3 t0 => ?_
    refine ws_call rfl (co_c0 fa_44 rfl fun w hw => c_spec_FormatInt w a_c.B hv3) (fun _ => (sts_some (some_cons pick0 some_nil))) rfl fun _ => ?_
    refine gdO t0 fun g2 t0 => ?_
    refine wa_pure 7 rfl (po_sadd rfl rfl g2) (some_cons pick0 some_nil) rfl (by kernel_rfl) (fun _ _ _ h => h) ?_
    refine wa_pure 8 rfl (po_assign rfl) (some_cons pick0 some_nil) rfl (by kernel_rfl) (fun _ _ _ h => h) ?_
    refine wa_done (by kernel_rfl) ?_
    refine wq_then ?_
    refine wc_ret ?_
    refine wq_block_ret ?_
    refine wq_then_ret ?_
    obtain rfl := Option.some.inj t0
    exact wq_ret1 rfl rfl fun w hw => ⟨rfl, hw.weak some_nil⟩
  refine wcr ?_
  refine wl_pure (po_eql rfl rfl) rfl ?_
  refine asg rfl rfl ?_
  refine wnt ?_
  refine wcO t0 rfl (fun h3 t0 => ?_) fun h3 t0 => ?_
  · skip
    refine wc_seq ?_
    refine wc_draw [box b1 [.int .i64 a_c.Split, .int .i64 a_c.A, .int .i64 a_c.B]] 9 mixed ?_
    refine wa_pure 0 rfl (po_fld fo_49_1 rfl) (some_cons pick0 some_nil) rfl (by kernel_rfl) (fun _ _ _ h => h) ?_
    refine wa_pure (v := .int .i64 a_c.A) 1 rfl (po_load_box tk_3 pick0 rfl rfl) (some_cons pick0 some_nil) rfl (by kernel_rfl) (fun _ _ _ h => h) ?_
    refine wa_pure 4 rfl (po_fld fo_49_2 rfl) (some_cons pick0 some_nil) rfl (by kernel_rfl) (fun _ _ _ h => h) ?_
    refine wa_pure (v := .int .i64 a_c.B) 5 rfl (po_load_box tk_3 pick0 rfl rfl) (some_cons pick0 some_nil) rfl (by kernel_rfl) (fun _ _ _ h => h) ?_
    refine wa_1 (i := 2) (by kernel_rfl) ?_
    refine bdO t0 fun v4 hv4 t0 => ?_
    refine ws_call rfl (co_c0 fa_44 rfl fun w hw => c_spec_FormatInt w a_c.A hv4) (fun _ => (sts_some (some_cons pick0 some_nil))) rfl fun _ => ?_
    refine gdO t0 fun g3 t0 => ?_
    refine wa_pure 3 rfl (po_sadd rfl rfl g3) (some_cons pick0 some_nil) rfl (by kernel_rfl) (fun _ _ _ h => h) ?_
    refine wa_1 (i := 6) (by kernel_rfl) ?_
    refine bdO t0 fun v5 hv5 t0 => ?_
    refine ws_call rfl (co_c0 fa_44 rfl fun w hw => c_spec_FormatInt w a_c.B hv5) (fun _ => (sts_some (some_cons pick0 some_nil))) rfl fun _ => ?_
    refine gdO t0 fun g4 t0 => ?_
    refine wa_pure 7 rfl (po_sadd rfl rfl g4) (some_cons pick0 some_nil) rfl (by kernel_rfl) (fun _ _ _ h => h) ?_
    refine wa_pure 8 rfl (po_assign rfl) (some_cons pick0 some_nil) rfl (by kernel_rfl) (fun _ _ _ h => h) ?_
    refine wa_done (by kernel_rfl) ?_
    refine wq_then ?_
    refine wc_ret ?_
    refine wq_block_ret ?_
    refine wq_then_ret ?_
    obtain rfl := Option.some.inj t0
    exact wq_ret1 rfl rfl fun w hw => ⟨rfl, hw.weak some_nil⟩
  refine wc_skip ?_
  refine wq_block ?_
  refine wq_then ?_
  refine wcr ?_
  refine wl_pure (po_fld fo_49_1 rfl) rfl ?_
  refine wl_pure (v := .int .i64 a_c.A) (po_load_box tk_3 pick0 rfl rfl) rfl ?_
  refine bdO t0 fun v6 hv6 t0 => ?_
  refine wl_call (co_c0 fa_44 rfl fun w hw => c_spec_FormatInt w a_c.A hv6) rfl fun _ => ?_
  refine asg rfl rfl ?_
  refine wnt ?_
  refine wc_ret ?_
  obtain rfl := Option.some.inj t0
  exact wq_ret1 rfl rfl fun w hw => ⟨rfl, hw.weak some_nil⟩

theorem c_spec_TextOf (w : World) (a_b : GBlock) (v0a : Hd) (r0 : rdF w (dm w []) (sl v0a) a_b.Cells) {r : Str} (t0 : spec_TextOf a_b = some r) : Calls Tryd.prog 14 #[.agg #[.int .i64 a_b.Size, (sl v0a)]] w fun e w' => e = .returned (bs r) ∧ SH w [] [] w' := by
  refine calls_of_wc (args := [_]) Tryd.func14 rfl Tryd.ntmps14 rfl ?_
  unfold spec_TextOf at t0
  refine wcr ?_
  refine wl_eff (eo_box rfl rfl) rfl fun b1 => ?_
  refine asg rfl rfl ?_
  refine wnt ?_
  refine wcr ?_
  refine asg rfl rfl ?_
  refine wnt ?_
  refine wc_seq ?_
  refine wcr ?_
  refine asg rfl rfl ?_
  refine wnt ?_
  refine gdO t0 fun g1 t0 => ?_
  refine lpO_inv t0 fun y1 l1 t0 => ?_
  refine wj (J := Str) (X := Unit) (fun z => y1 = z) (fun z _ => [(3, bs z)]) (fun _ _ => []) ?_ ?_
  · skip
    refine wc_block ?_
    refine wc_forO (X := Unit) l1 (fun k1 s1 x1l => [(1, ptr b1 0), (3, bs s1), (4, .int .i64 ((k1 : Nat) : Int))]) (fun k1 s1 x1l => [box b1 [.int .i64 a_b.Size, (sl v0a)]]) () (sub_cons rfl (sub_cons rfl (sub_cons rfl sub_nil))) (some_cons pick0 some_nil) fun k1 s1 x1l hN1 l1 => ?_
    by_cases hk1 : k1 < a_b.Cells.length
    · skip
      refine forO_step l1 hk1 fun _ t1 l1 => ?_
      unfold spec_TextOf_L1 at t1
      have c1 : (decide (((k1 : Nat) : Int) < ((a_b.Cells.length : Nat) : Int))) = true := decide_eq_true (by omega)
      refine wc_seq ?_
      refine wcr ?_
      refine mv rfl rfl ?_
      refine wl_pure (po_fld fo_29_1 rfl) rfl ?_
      refine wl_pure (v := (sl v0a)) (po_load_box tk_27 pick0 rfl rfl) rfl ?_
      refine wl_pure (po_lenr (rds_arg r0) el_27 rfl) rfl ?_
      refine wl_pure (po_lss rfl rfl) rfl ?_
      refine mv rfl rfl ?_
      refine wl_know (t := 10) rfl c1 ?_
      refine wl_guard_on (j := 5) rfl rfl rfl (wl_pure (v := .agg #[.int .i64 a_b.Size, (sl v0a)]) (po_load_boxs tk_29 pick0 rfl rfl rfl) rfl ?_)
      refine bdO t1 fun v1 hv1 t1 => ?_
      refine wl_guard_on (j := 5) rfl rfl rfl (wl_call (co_c0 fa_10 rfl fun w hw => c_spec_BlockOk w a_b v0a (Rg.on (rds_arg r0) hw) hv1) rfl (fun _ => ?_))
      refine wl_pure (po_pick_t rfl rfl) rfl ?_
      refine wnt ?_
      refine wcO t1 rfl (fun h1 t1 => ?_) fun h1 t1 => ?_
      · skip
        refine wc_skip ?_
        refine wq_then ?_
        refine wc_seq ?_
        refine wc_block ?_
        refine wc_region ?_
        refine mv rfl rfl ?_
        refine wl_pure (po_fld fo_29_1 rfl) rfl ?_
        refine wl_pure (v := (sl v0a)) (po_load_box tk_27 pick0 rfl rfl) rfl ?_
        refine mv rfl rfl ?_
        refine wl_pure (po_ixn (k := k1) (rds_arg r0) el_27 rfl rfl hk1) rfl ?_
        refine wl_pure (v := .agg #[.int .i64 ((gx a_b.Cells k1).Split), .int .i64 ((gx a_b.Cells k1).A), .int .i64 ((gx a_b.Cells k1).B)]) (po_ldfs (rds_arg r0) tk_49 rfl hk1 rfl rfl rfl) rfl ?_
        refine bdO t1 fun v2 hv2 t1 => ?_
        refine wl_call (co_c0 fa_28 rfl fun w hw => c_spec_CellText w (gx a_b.Cells k1) hv2) rfl fun _ => ?_
        refine gdO t1 fun g2 t1 => ?_
        refine wl_pure (po_sadd rfl rfl g2) rfl ?_
        refine gdO t1 fun g3 t1 => ?_
        refine wl_pure (po_sadd rfl rfl g3) rfl ?_
        refine asg rfl rfl ?_
        refine wl_nil ?_
        refine wq_block ?_
        refine wq_then ?_
        refine wc_region ?_
        refine mv rfl rfl ?_
        refine wl_pure (po_inc rfl rfl (by omega)) rfl ?_
        refine asg rfl rfl ?_
        refine wl_nil ?_
        exact wq_rnd hk1 (stpN l1 t1) () (sub_cons rfl (sub_cons rfl (sub_cons rfl sub_nil))) (some_cons pick0 some_nil)
      refine wc_exit ?_
      refine wq_then_exit ?_
      refine wq_then_exit ?_
      refine wq_block_exit ?_
      exact wj_meet _ () (Sum.inl.inj (stpB l1 t1)) (sub_cons rfl sub_nil) some_nil
    have c1 : (decide (((k1 : Nat) : Int) < ((a_b.Cells.length : Nat) : Int))) = false := decide_eq_false (by omega)
    have en1 := forO_end l1 hk1
    refine wc_seq ?_
    refine wcr ?_
    refine mv rfl rfl ?_
    refine wl_pure (po_fld fo_29_1 rfl) rfl ?_
    refine wl_pure (v := (sl v0a)) (po_load_box tk_27 pick0 rfl rfl) rfl ?_
    refine wl_pure (po_lenr (rds_arg r0) el_27 rfl) rfl ?_
    refine wl_pure (po_lss rfl rfl) rfl ?_
    refine mv rfl rfl ?_
    refine wl_know (t := 10) rfl c1 ?_
    refine wl_guard_off (j := 5) rfl rfl rfl rfl rfl ?_
    refine wl_guard_off (j := 5) rfl rfl rfl rfl rfl ?_
    refine wl_pure (po_pick_f rfl rfl) rfl ?_
    refine wnt ?_
    refine wc_cond_f rfl rfl ?_
    refine wc_exit ?_
    refine wq_then_exit ?_
    refine wq_then_exit ?_
    refine wq_block_exit ?_
    exact wj_meet _ () (Sum.inl.inj en1) (sub_cons rfl sub_nil) some_nil
  intro e1 _ hp
  obtain rfl : e1 = y1 := hp.symm
  refine wq_then ?_
  refine wcr ?_
  refine mv rfl rfl ?_
  refine asg rfl rfl ?_
  refine wnt ?_
  refine wc_ret ?_
  obtain rfl := Option.some.inj t0
  exact wq_ret1 rfl rfl fun w hw => ⟨rfl, hw.weak some_nil⟩

theorem c_spec_LeastForm (w : World) (a_b : GBlock) (v0a : Hd) (r0 : rdF w (dm w []) (sl v0a) a_b.Cells) {r : GBlock} (t0 : spec_LeastForm a_b = some r) : Calls Tryd.prog 15 #[.agg #[.int .i64 a_b.Size, (sl v0a)]] w fun e w' => ∃ x : Hd, e = .returned (.agg #[.int .i64 r.Size, (sl x)]) ∧ SH w [] [ownF (sl x) r.Cells] w' := by
  refine calls_of_wc (args := [_]) Tryd.func15 rfl Tryd.ntmps15 rfl ?_
  unfold spec_LeastForm at t0
  refine wcr ?_
  refine wl_eff (eo_box rfl rfl) rfl fun b1 => ?_
  refine wl_eff (eo_alloc (cs := [.int .i64 0, (sl (⟨none, 0, 0⟩ : Hd))]) za_29) rfl fun b2 => ?_
  refine wnt ?_
  refine wc_seq ?_
  refine wcr ?_
  refine wl_pure (v := .agg #[.int .i64 a_b.Size, (sl v0a)]) (po_load_boxs tk_29 (pickS pick0) rfl rfl rfl) rfl ?_
  refine bdO t0 fun v1 hv1 t0 => ?_
  refine wl_call (co_c0 fa_10 rfl fun w hw => c_spec_BlockOk w a_b v0a (Rg.on (rds_arg r0) hw) hv1) rfl fun _ => ?_
  refine wl_pure (po_not rfl) rfl ?_
  refine wnt ?_
  refine wcO t0 rfl (fun h1 t0 => ?_) fun h1 t0 => ?_
  · skip
    refine wcr ?_
    refine wl_pure (po_build rfl bd_29) rfl ?_
    refine wl_skipop (so_box (cs' := [.int .i64 0, (sl (⟨none, 0, 0⟩ : Hd))]) tk_29 pick0 rfl rfl rfl rfl rfl rfl rfl) ?_
    refine wnt ?_
    refine wc_ret ?_
    refine wq_then_ret ?_
    obtain rfl := Option.some.inj t0
    exact wq_retc rfl tk_29 rfl pick0 rfl fun w hw => ⟨(⟨none, 0, 0⟩ : Hd), rfl, hw.weak (some_cons pick_nil some_nil)⟩
  refine wc_skip ?_
  refine wq_then ?_
  refine wcr ?_
  refine wl_pure (v := .agg #[.int .i64 a_b.Size, (sl v0a)]) (po_load_boxs tk_29 (pickS pick0) rfl rfl rfl) rfl ?_
  refine bdO t0 fun v2 hv2 t0 => ?_
  refine wl_call (co_c1 fa_29 rfl fun w hw => c_spec_l03Copy w a_b v0a (Rg.on (rds_arg r0) hw) hv2) rfl fun x1 => ?_
  refine wl_eff (eo_alloc (cs := [.int .i64 0, (sl (⟨none, 0, 0⟩ : Hd))]) za_29) rfl fun b3 => ?_
  refine wl_skipop (so_box (cs' := [.int .i64 v2.Size, (sl x1)]) tk_29 pick0 rfl rfl rfl rfl rfl rfl rfl) ?_
  refine wnt ?_
  refine wc_seq ?_
  refine wcr ?_
  refine asg rfl rfl ?_
  refine wnt ?_
  refine lpO_inv t0 fun y1 l1 t0 => ?_
  refine wj (J := Int × (List GCell)) (X := Hd) (fun z => y1 = z) (fun _ _ => [(2, ptr b2 0), (3, ptr b3 0)]) (fun z x => [box b3 [.int .i64 z.1, (sl x)], ownF (sl x) z.2, box b2 [.int .i64 0, (sl (⟨none, 0, 0⟩ : Hd))]]) ?_ ?_
  · skip
    refine wc_block ?_
    refine wc_forO (X := Hd) l1 (fun k1 s1 x1l => [(1, ptr b1 0), (2, ptr b2 0), (3, ptr b3 0), (4, .int .i64 (((k1 + 1) : Nat) : Int))]) (fun k1 s1 x1l => [box b3 [.int .i64 s1.1, (sl x1l)], ownF (sl x1l) s1.2, box b2 [.int .i64 0, (sl (⟨none, 0, 0⟩ : Hd))], box b1 [.int .i64 a_b.Size, (sl v0a)]]) x1 (sub_cons rfl (sub_cons rfl (sub_cons rfl (sub_cons rfl sub_nil)))) (some_cons pick0 (some_cons pick0 (some_cons pick0 (some_cons pick0 some_nil)))) fun k1 s1 x1l hN1 l1 => ?_
    by_cases hk1 : k1 < 7
    · skip
      refine forO_step l1 hk1 fun _ t1 l1 => ?_
      unfold spec_LeastForm_L1 at t1
      have c1 : (decide ((((k1 + 1) : Nat) : Int) < 8)) = true := decide_eq_true (by omega)
      refine wc_seq ?_
      refine wcr ?_
      refine mv rfl rfl ?_
      refine wl_pure (po_lss rfl rfl) rfl ?_
      refine wnt ?_
      refine wc_cond_t rfl c1 ?_
      refine wc_skip ?_
      refine wq_then ?_
      refine wc_seq ?_
      refine wc_block ?_
      refine wcr ?_
      refine wl_pure (v := .agg #[.int .i64 a_b.Size, (sl v0a)]) (po_load_boxs tk_29 (pickS (pickS (pickS pick0))) rfl rfl rfl) rfl ?_
      refine mv rfl rfl ?_
      refine bdO t1 fun v3 hv3 t1 => ?_
      refine wl_call (co_c1 fa_30 rfl fun w hw => c_spec_SeenFrom w a_b v0a (Rg.on (rds_arg r0) hw) (((k1 + 1) : Nat) : Int) hv3) rfl fun x3 => ?_
      refine wl_eff (eo_alloc (cs := [.int .i64 0, (sl (⟨none, 0, 0⟩ : Hd))]) za_29) rfl fun b4 => ?_
      refine wl_skipop (so_box (cs' := [.int .i64 v3.Size, (sl x3)]) tk_29 pick0 rfl rfl rfl rfl rfl rfl rfl) ?_
      refine wnt ?_
      refine wc_seq ?_
      refine wc_draw [box b4 [.int .i64 v3.Size, (sl x3)], ownF (sl x3) v3.Cells, box b3 [.int .i64 s1.1, (sl x1l)], ownF (sl x1l) s1.2, box b2 [.int .i64 0, (sl (⟨none, 0, 0⟩ : Hd))], box b1 [.int .i64 a_b.Size, (sl v0a)]] 5 mixed ?_
      refine wa_pure (v := .agg #[.int .i64 v3.Size, (sl x3)]) 0 rfl (po_load_boxs tk_29 pick0 rfl rfl rfl) (some_cons pick0 (some_cons pick0 (some_cons pick0 (some_cons pick0 (some_cons pick0 (some_cons pick0 some_nil)))))) rfl (by kernel_rfl) (fun _ _ _ h => h) ?_
      refine wa_pure (v := .agg #[.int .i64 s1.1, (sl x1l)]) 2 rfl (po_load_boxs tk_29 (pickS (pickS pick0)) rfl rfl rfl) (some_cons pick0 (some_cons pick0 (some_cons pick0 (some_cons pick0 (some_cons pick0 (some_cons pick0 some_nil)))))) rfl (by kernel_rfl) (fun _ _ _ h => h) ?_
      refine wa_1 (i := 1) (by kernel_rfl) ?_
      refine bdO t1 fun v4 hv4 t1 => ?_
      refine ws_call rfl (co_c0 fa_14 rfl fun w hw => c_spec_TextOf w v3 x3 (Rg.on (rds_own (pickS pick0)) hw) hv4) (fun _ => (sts_some (some_cons pick0 (some_cons pick0 (some_cons pick0 (some_cons pick0 (some_cons pick0 (some_cons pick0 some_nil)))))))) rfl fun _ => ?_
      refine wa_1 (i := 3) (by kernel_rfl) ?_
      refine bdO t1 fun v5 hv5 t1 => ?_
      refine ws_call rfl (co_c0 fa_14 rfl fun w hw => c_spec_TextOf w (GBlock.mk s1.1 s1.2) x1l (Rg.on (rds_own (pickS (pickS (pickS pick0)))) hw) hv5) (fun _ => (sts_some (some_cons pick0 (some_cons pick0 (some_cons pick0 (some_cons pick0 (some_cons pick0 (some_cons pick0 some_nil)))))))) rfl fun _ => ?_
      refine wa_pure 4 rfl (po_slss rfl rfl) (some_cons pick0 (some_cons pick0 (some_cons pick0 (some_cons pick0 (some_cons pick0 (some_cons pick0 some_nil)))))) rfl (by kernel_rfl) (fun _ _ _ h => h) ?_
      refine wa_done (by kernel_rfl) ?_
      refine wq_then ?_
      refine wc_join (X := Hd) (fun _ => True) (fun z => [(1, ptr b1 0), (2, ptr b2 0), (3, ptr b3 0), (4, .int .i64 (((k1 + 1) : Nat) : Int))]) (fun z => [box b3 [.int .i64 ((bif (slt v4 v5) then v3 else (GBlock.mk s1.1 s1.2)).Size), (sl z)], box b2 [.int .i64 0, (sl (⟨none, 0, 0⟩ : Hd))], box b1 [.int .i64 a_b.Size, (sl v0a)], ownF (sl z) ((bif (slt v4 v5) then v3 else (GBlock.mk s1.1 s1.2)).Cells)]) ?_ ?_
      · skip
        refine wc_cond rfl (fun h2 => ?_) fun h2 => ?_
        · skip
          refine wc_region ?_
          refine wl_pure (v := .agg #[.int .i64 v3.Size, (sl x3)]) (po_load_boxs tk_29 pick0 rfl rfl rfl) rfl ?_
          refine wl_skipop (so_box (cs' := [.int .i64 v3.Size, (sl x3)]) tk_29 (pickS (pickS pick0)) rfl rfl rfl rfl rfl rfl rfl) ?_
          refine wl_nil ?_
          exact wq_meet x3 trivial (sub_cons rfl (sub_cons rfl (sub_cons rfl (sub_cons rfl sub_nil)))) (some_cons (by simp only [h2, cond_true]; exact pick0) (some_cons (pickS (pickS (pickS pick0))) (some_cons (pickS (pickS (pickS pick0))) (some_cons (by simp only [h2, cond_true]; exact (pickS pick0)) some_nil))))
        refine wc_skip ?_
        exact wq_meet x1l trivial (sub_cons rfl (sub_cons rfl (sub_cons rfl (sub_cons rfl sub_nil)))) (some_cons (by simp only [h2, cond_false]; exact (pickS (pickS pick0))) (some_cons (pickS (pickS (pickS pick0))) (some_cons (pickS (pickS (pickS pick0))) (some_cons (by simp only [h2, cond_false]; exact (pickS (pickS pick0))) some_nil))))
      intro x4 _
      refine wq_block ?_
      refine wq_then ?_
      refine wc_region ?_
      refine mv rfl rfl ?_
      refine wl_pure (po_inc rfl rfl (by omega)) rfl ?_
      refine asg rfl rfl ?_
      refine wl_nil ?_
      exact wq_rnd hk1 (stpN l1 t1) x4 (sub_cons rfl (sub_cons rfl (sub_cons rfl (sub_cons rfl sub_nil)))) (some_cons pick0 (some_cons (pickS (pickS pick0)) (some_cons pick0 (some_cons pick0 some_nil))))
    have c1 : (decide ((((k1 + 1) : Nat) : Int) < 8)) = false := decide_eq_false (by omega)
    have en1 := forO_end l1 hk1
    refine wc_seq ?_
    refine wcr ?_
    refine mv rfl rfl ?_
    refine wl_pure (po_lss rfl rfl) rfl ?_
    refine wnt ?_
    refine wc_cond_f rfl c1 ?_
    refine wc_exit ?_
    refine wq_then_exit ?_
    refine wq_then_exit ?_
    refine wq_block_exit ?_
    exact wj_meet _ x1l (Sum.inl.inj en1) (sub_cons rfl (sub_cons rfl sub_nil)) (some_cons pick0 (some_cons pick0 (some_cons pick0 some_nil)))
  intro e1 x2 hp
  obtain rfl : e1 = y1 := hp.symm
  refine wq_then ?_
  refine wcr ?_
  refine wl_pure (v := .agg #[.int .i64 e1.1, (sl x2)]) (po_load_boxs tk_29 pick0 rfl rfl rfl) rfl ?_
  refine wl_skipop (so_box (cs' := [.int .i64 e1.1, (sl x2)]) tk_29 (pickS (pickS pick0)) rfl rfl rfl rfl rfl rfl rfl) ?_
  refine wnt ?_
  refine wc_ret ?_
  obtain rfl := Option.some.inj t0
  exact wq_retc rfl tk_29 rfl pick0 rfl fun w hw => ⟨x2, rfl, hw.weak (some_cons (pickS (pickS pick0)) some_nil)⟩

theorem c_spec_FreeColorways (w : World) (a_b : GBlock) (v0a : Hd) (r0 : rdF w (dm w []) (sl v0a) a_b.Cells) {r : Int} (t0 : spec_FreeColorways a_b = some r) : Calls Tryd.prog 5 #[.agg #[.int .i64 a_b.Size, (sl v0a)]] w fun e w' => e = .returned (.int .i64 r) ∧ SH w [] [] w' := by
  refine calls_of_wc (args := [_]) Tryd.func5 rfl Tryd.ntmps5 rfl ?_
  unfold spec_FreeColorways at t0
  refine wcr ?_
  refine wl_eff (eo_box rfl rfl) rfl fun b1 => ?_
  refine asg rfl rfl ?_
  refine wnt ?_
  refine wc_seq ?_
  refine wc_seq ?_
  refine bdO t0 fun y1 t1 t0 => ?_
  refine wj (J := Bool) (X := Unit) (fun z => y1 = z) (fun z _ => [(1, ptr b1 0), (19, .bool z)]) (fun _ _ => [box b1 [.int .i64 a_b.Size, (sl v0a)]]) ?_ ?_
  · skip
    refine wc_region ?_
    refine wl_pure (v := .agg #[.int .i64 a_b.Size, (sl v0a)]) (po_load_boxs tk_29 pick0 rfl rfl rfl) rfl ?_
    refine bdO t1 fun v1 hv1 t1 => ?_
    refine wl_call (co_c0 fa_10 rfl fun w hw => c_spec_BlockOk w a_b v0a (Rg.on (rds_arg r0) hw) hv1) rfl fun _ => ?_
    refine wl_pure (po_not rfl) rfl ?_
    refine mv rfl rfl ?_
    refine wlO_ (t := 14) t1 rfl (fun h1 t1 => ?_) fun h1 t1 => ?_
    · skip
      refine wl_guard_off (j := 3) rfl rfl rfl rfl rfl ?_
      refine wl_guard_off (j := 3) rfl rfl rfl rfl rfl ?_
      refine wl_guard_off (j := 3) rfl rfl rfl rfl rfl ?_
      refine wl_guard_off (j := 3) rfl rfl rfl rfl rfl ?_
      refine wl_pure (po_pick_t rfl rfl) rfl ?_
      refine wl_nil ?_
      exact wj_meet _ () (mtE t1) (sub_cons rfl (sub_cons rfl sub_nil)) (some_cons pick0 some_nil)
    refine wl_guard_on (j := 3) rfl rfl rfl (wl_pure (v := .agg #[.int .i64 a_b.Size, (sl v0a)]) (po_load_boxs tk_29 pick0 rfl rfl rfl) rfl ?_)
    refine bdO t1 fun v2 hv2 t1 => ?_
    refine wl_guard_on (j := 3) rfl rfl rfl (wl_call (co_c1 fa_11 rfl fun w hw => c_spec_ColorsOf w a_b v0a (Rg.on (rds_arg r0) hw) hv2) rfl (fun x2 => ?_))
    refine wl_guard_on (j := 3) rfl rfl rfl (wl_pure (po_lenr (rds_own pick0) el_35 rfl) rfl ?_)
    refine wl_guard_on (j := 3) rfl rfl rfl (wl_pure (po_gtr rfl rfl) rfl ?_)
    refine wl_pure (po_pick_f rfl rfl) rfl ?_
    refine wl_nil ?_
    exact wj_meet _ () (mtE t1) (sub_cons rfl (sub_cons rfl sub_nil)) (some_cons (pickS pick0) some_nil)
  intro j1 _ hp
  obtain rfl : j1 = y1 := hp.symm
  refine wq_then ?_
  refine wcO t0 rfl (fun h2 t0 => ?_) fun h2 t0 => ?_
  · skip
    refine wcr ?_
    refine asg rfl rfl ?_
    refine wnt ?_
    refine wc_ret ?_
    refine wq_then_ret ?_
    obtain rfl := Option.some.inj t0
    exact wq_ret1 rfl rfl fun w hw => ⟨rfl, hw.weak some_nil⟩
  refine wc_skip ?_
  refine wq_then ?_
  refine wcr ?_
  refine wl_pure (v := .agg #[.int .i64 a_b.Size, (sl v0a)]) (po_load_boxs tk_29 pick0 rfl rfl rfl) rfl ?_
  refine bdO t0 fun v3 hv3 t0 => ?_
  refine wl_call (co_c0 fa_12 rfl fun w hw => c_spec_ColorwayCount w a_b v0a (Rg.on (rds_arg r0) hw) hv3) rfl fun _ => ?_
  refine asg rfl rfl ?_
  refine wnt ?_
  refine wcr ?_
  refine wl_eff (eo_buildSlice rfl sb_37_0) rfl fun b2 => ?_
  refine asg rfl rfl ?_
  refine wnt ?_
  refine wc_seq ?_
  refine wcr ?_
  refine asg rfl rfl ?_
  refine wnt ?_
  refine gdO t0 fun g1 t0 => ?_
  refine lpO_inv t0 fun y1 l1 t0 => ?_
  refine wj (J := List Str) (X := Hd) (fun z => y1 = z) (fun _ x => [(4, (sl x))]) (fun z x => [ownF (sl x) z]) ?_ ?_
  · skip
    refine wc_block ?_
    refine wc_forO (X := Hd) l1 (fun k1 s1 x1l => [(1, ptr b1 0), (3, .int .i64 v3), (4, (sl x1l)), (5, .int .i64 ((k1 : Nat) : Int))]) (fun k1 s1 x1l => [box b1 [.int .i64 a_b.Size, (sl v0a)], ownF (sl x1l) s1]) (⟨some ⟨b2, 0, none⟩, 0, 0⟩ : Hd) (sub_cons rfl (sub_cons rfl (sub_cons rfl (sub_cons rfl sub_nil)))) (some_cons (pickS pick0) (some_cons (pick_box_own pick0 (n := 0) (xs := ([] : List Str)) rfl rfl (by unfold maxLen; omega)) some_nil)) fun k1 s1 x1l hN1 l1 => ?_
    by_cases hk1 : k1 < (v3).toNat
    · skip
      refine forO_step l1 hk1 fun _ t1 l1 => ?_
      unfold spec_FreeColorways_L1 at t1
      have c1 : (decide (((k1 : Nat) : Int) < v3)) = true := decide_eq_true (by omega)
      refine wc_seq ?_
      refine wcr ?_
      refine mv rfl rfl ?_
      refine mv rfl rfl ?_
      refine wl_pure (po_lss rfl rfl) rfl ?_
      refine wnt ?_
      refine wc_cond_t rfl c1 ?_
      refine wc_skip ?_
      refine wq_then ?_
      refine wc_seq ?_
      refine wc_block ?_
      refine wcr ?_
      refine wl_pure (v := .agg #[.int .i64 a_b.Size, (sl v0a)]) (po_load_boxs tk_29 pick0 rfl rfl rfl) rfl ?_
      refine mv rfl rfl ?_
      refine bdO t1 fun v4 hv4 t1 => ?_
      refine wl_call (co_c1 fa_13 rfl fun w hw => c_spec_ColorwayAt w a_b v0a (Rg.on (rds_arg r0) hw) ((k1 : Nat) : Int) hv4) rfl fun x4 => ?_
      refine mv rfl rfl ?_
      refine wl_pure (po_extract rfl rfl) rfl ?_
      refine wl_pure (po_extract rfl rfl) rfl ?_
      refine wl_eff (eo_alloc (cs := [.int .i64 0, (sl (⟨none, 0, 0⟩ : Hd))]) za_29) rfl fun b3 => ?_
      refine wl_skipop (so_box (cs' := [.int .i64 v4.1.Size, (sl x4)]) tk_29 pick0 rfl rfl rfl rfl rfl rfl rfl) ?_
      refine asg rfl rfl ?_
      refine wnt ?_
      refine wcr ?_
      refine wl_pure (v := .agg #[.int .i64 v4.1.Size, (sl x4)]) (po_load_boxs tk_29 pick0 rfl rfl rfl) rfl ?_
      refine bdO t1 fun v5 hv5 t1 => ?_
      refine wl_call (co_c1 fa_15 rfl fun w hw => c_spec_LeastForm w v4.1 x4 (Rg.on (rds_own (pickS pick0)) hw) hv5) rfl fun x5 => ?_
      refine bdO t1 fun v6 hv6 t1 => ?_
      refine wl_call (co_c0 fa_14 rfl fun w hw => c_spec_TextOf w v5 x5 (Rg.on (rds_own pick0) hw) hv6) rfl fun _ => ?_
      refine asg rfl rfl ?_
      refine wnt ?_
      refine wcr ?_
      refine asg rfl rfl ?_
      refine wnt ?_
      refine wc_seq ?_
      refine wcr ?_
      refine asg rfl rfl ?_
      refine wnt ?_
      refine gdO t1 fun g2 t1 => ?_
      refine lpO_inv t1 fun y2 l2 t1 => ?_
      refine wj (J := Bool) (X := Unit) (fun z => y2 = z) (fun z _ => [(1, ptr b1 0), (3, .int .i64 v3), (4, (sl x1l)), (5, .int .i64 ((k1 : Nat) : Int)), (8, bs v6), (9, .bool z)]) (fun _ _ => [box b1 [.int .i64 a_b.Size, (sl v0a)], ownF (sl x1l) s1]) ?_ ?_
      · skip
        refine wc_block ?_
        refine wc_forO (X := Unit) l2 (fun k2 s2 x2l => [(1, ptr b1 0), (3, .int .i64 v3), (4, (sl x1l)), (5, .int .i64 ((k1 : Nat) : Int)), (8, bs v6), (9, .bool s2), (10, .int .i64 ((k2 : Nat) : Int))]) (fun k2 s2 x2l => [box b1 [.int .i64 a_b.Size, (sl v0a)], ownF (sl x1l) s1]) () (sub_cons rfl (sub_cons rfl (sub_cons rfl (sub_cons rfl (sub_cons rfl (sub_cons rfl (sub_cons rfl sub_nil))))))) (some_cons (pickS (pickS (pickS pick0))) (some_cons (pickS (pickS (pickS pick0))) some_nil)) fun k2 s2 x2l hN2 l2 => ?_
        by_cases hk2 : k2 < s1.length
        · skip
          refine forO_step l2 hk2 fun _ t2 l2 => ?_
          unfold spec_FreeColorways_L2 at t2
          have c2 : (decide (((k2 : Nat) : Int) < ((s1.length : Nat) : Int))) = true := decide_eq_true (by omega)
          refine wc_seq ?_
          refine wcr ?_
          refine mv rfl rfl ?_
          refine mv rfl rfl ?_
          refine wl_pure (po_lenr (rds_own (pickS pick0)) el_37 rfl) rfl ?_
          refine wl_pure (po_lss rfl rfl) rfl ?_
          refine mv rfl rfl ?_
          refine wl_know (t := 41) rfl c2 ?_
          refine wl_guard_on (j := 4) rfl rfl rfl (mv rfl rfl ?_)
          refine wl_guard_on (j := 4) rfl rfl rfl (wl_pure (po_not rfl) rfl ?_)
          refine wl_pure (po_pick_t rfl rfl) rfl ?_
          refine wnt ?_
          refine wcO t2 rfl (fun h3 t2 => ?_) fun h3 t2 => ?_
          · skip
            refine wc_skip ?_
            refine wq_then ?_
            refine wc_seq ?_
            refine wc_block ?_
            refine wc_region ?_
            refine mv rfl rfl ?_
            refine mv rfl rfl ?_
            refine wl_pure (po_ixn (k := k2) (rds_own (pickS pick0)) el_37 rfl rfl hk2) rfl ?_
            refine wl_pure (v := bs (gx s1 k2)) (po_ldf (rds_own (pickS pick0)) tk_9 rfl hk2 rfl) rfl ?_
            refine mv rfl rfl ?_
            refine wl_pure (po_seql rfl rfl) rfl ?_
            refine asg rfl rfl ?_
            refine wl_nil ?_
            refine wq_block ?_
            refine wq_then ?_
            refine wc_region ?_
            refine mv rfl rfl ?_
            refine wl_pure (po_inc rfl rfl (by omega)) rfl ?_
            refine asg rfl rfl ?_
            refine wl_nil ?_
            exact wq_rnd hk2 (stpN l2 t2) () (sub_cons rfl (sub_cons rfl (sub_cons rfl (sub_cons rfl (sub_cons rfl (sub_cons rfl (sub_cons rfl sub_nil))))))) (some_cons pick0 (some_cons pick0 some_nil))
          refine wc_exit ?_
          refine wq_then_exit ?_
          refine wq_then_exit ?_
          refine wq_block_exit ?_
          exact wj_meet _ () (Sum.inl.inj (stpB l2 t2)) (sub_cons rfl (sub_cons rfl (sub_cons rfl (sub_cons rfl (sub_cons rfl (sub_cons rfl sub_nil)))))) (some_cons pick0 (some_cons pick0 some_nil))
        have c2 : (decide (((k2 : Nat) : Int) < ((s1.length : Nat) : Int))) = false := decide_eq_false (by omega)
        have en1 := forO_end l2 hk2
        refine wc_seq ?_
        refine wcr ?_
        refine mv rfl rfl ?_
        refine mv rfl rfl ?_
        refine wl_pure (po_lenr (rds_own (pickS pick0)) el_37 rfl) rfl ?_
        refine wl_pure (po_lss rfl rfl) rfl ?_
        refine mv rfl rfl ?_
        refine wl_know (t := 41) rfl c2 ?_
        refine wl_guard_off (j := 4) rfl rfl rfl rfl rfl ?_
        refine wl_guard_off (j := 4) rfl rfl rfl rfl rfl ?_
        refine wl_pure (po_pick_f rfl rfl) rfl ?_
        refine wnt ?_
        refine wc_cond_f rfl rfl ?_
        refine wc_exit ?_
        refine wq_then_exit ?_
        refine wq_then_exit ?_
        refine wq_block_exit ?_
        exact wj_meet _ () (Sum.inl.inj en1) (sub_cons rfl (sub_cons rfl (sub_cons rfl (sub_cons rfl (sub_cons rfl (sub_cons rfl sub_nil)))))) (some_cons pick0 (some_cons pick0 some_nil))
      intro e2 _ hp
      obtain rfl : e2 = y2 := hp.symm
      refine wq_then ?_
      refine wcr ?_
      refine mv rfl rfl ?_
      refine wl_pure (po_not rfl) rfl ?_
      refine wnt ?_
      refine bdO t1 fun y2 t2 t1 => ?_
      refine wj (J := List Str) (X := Hd) (fun z => y2 = z) (fun _ x => [(1, ptr b1 0), (3, .int .i64 v3), (4, (sl x)), (5, .int .i64 ((k1 : Nat) : Int))]) (fun z x => [box b1 [.int .i64 a_b.Size, (sl v0a)], ownF (sl x) z]) ?_ ?_
      · skip
        refine wcO t2 rfl (fun h4 t2 => ?_) fun h4 t2 => ?_
        · skip
          refine wc_region ?_
          refine mv rfl rfl ?_
          refine mv rfl rfl ?_
          refine wl_eff (eo_buildSlice rfl (sb_37_1 v6)) rfl fun b4 => ?_
          refine gdO t2 fun g3 t2 => ?_
          refine wl_eff (eo_append (xs := s1) (ys := ([v6] : List Str)) ak_37 (pickS (pickS pick0)) rfl rfl (slin_rd fun _ g => Rg.on (rds_own (pick_box_own pick0 (n := 1) (xs := ([v6] : List Str)) rfl rfl (by unfold maxLen; omega))) g) g3) rfl fun x8 => ?_
          refine asg rfl rfl ?_
          refine wl_nil ?_
          exact wj_meet _ x8 (mtE t2) (sub_cons rfl (sub_cons rfl (sub_cons rfl (sub_cons rfl sub_nil)))) (some_cons (pickS (pickS pick0)) (some_cons pick0 some_nil))
        refine wc_skip ?_
        exact wj_meet _ x1l (mtE t2) (sub_cons rfl (sub_cons rfl (sub_cons rfl (sub_cons rfl sub_nil)))) (some_cons pick0 (some_cons pick0 some_nil))
      intro j2 x7 hp
      obtain rfl : j2 = y2 := hp.symm
      refine wq_block ?_
      refine wq_then ?_
      refine wc_region ?_
      refine mv rfl rfl ?_
      refine wl_pure (po_inc rfl rfl (by omega)) rfl ?_
      refine asg rfl rfl ?_
      refine wl_nil ?_
      exact wq_rnd hk1 (stpN l1 t1) x7 (sub_cons rfl (sub_cons rfl (sub_cons rfl (sub_cons rfl sub_nil)))) (some_cons pick0 (some_cons pick0 some_nil))
    have c1 : (decide (((k1 : Nat) : Int) < v3)) = false := decide_eq_false (by omega)
    have en2 := forO_end l1 hk1
    refine wc_seq ?_
    refine wcr ?_
    refine mv rfl rfl ?_
    refine mv rfl rfl ?_
    refine wl_pure (po_lss rfl rfl) rfl ?_
    refine wnt ?_
    refine wc_cond_f rfl c1 ?_
    refine wc_exit ?_
    refine wq_then_exit ?_
    refine wq_then_exit ?_
    refine wq_block_exit ?_
    exact wj_meet _ x1l (Sum.inl.inj en2) (sub_cons rfl sub_nil) (some_cons (pickS pick0) some_nil)
  intro e1 x3 hp
  obtain rfl : e1 = y1 := hp.symm
  refine wq_then ?_
  refine wcr ?_
  refine mv rfl rfl ?_
  refine wl_pure (po_lenr (rds_own pick0) el_37 rfl) rfl ?_
  refine asg rfl rfl ?_
  refine wnt ?_
  refine wc_ret ?_
  obtain rfl := Option.some.inj t0
  exact wq_ret1 rfl rfl fun w hw => ⟨rfl, hw.weak some_nil⟩

theorem c_impl_within (w : World) (a_n : Int) (a_a : Int) (a_b : Int) {r : Bool} (t0 : impl_within a_n a_a a_b = some r) : Calls Tryd.prog 32 #[.int .i64 a_n, .int .i64 a_a, .int .i64 a_b] w fun e w' => e = .returned (.bool r) ∧ SH w [] [] w' := by
  refine calls_of_wc (args := [_, _, _]) Tryd.func32 rfl Tryd.ntmps32 rfl ?_
  unfold impl_within at t0
  refine wcr ?_
  refine asg rfl rfl ?_
  refine wnt ?_
  refine wc_seq ?_
  refine wc_join (X := Unit) (fun _ => True) (fun _ => [(6, .bool ((decide (a_n ≥ a_a)) && (decide (a_n ≤ a_b))))]) (fun _ => []) ?_ ?_
  · skip
    refine wc_region ?_
    refine mv rfl rfl ?_
    refine mv rfl rfl ?_
    refine wl_pure (po_geq rfl rfl) rfl ?_
    refine mv rfl rfl ?_
    refine wl_fork (t := 10) rfl (fun h1 => ?_) fun h1 => ?_
    · skip
      refine wl_guard_on (j := 3) rfl rfl rfl (mv rfl rfl ?_)
      refine wl_guard_on (j := 3) rfl rfl rfl (mv rfl rfl ?_)
      refine wl_guard_on (j := 3) rfl rfl rfl (wl_pure (po_leq rfl rfl) rfl ?_)
      refine wl_pure (po_pick_t rfl rfl) rfl ?_
      refine asg rfl rfl ?_
      refine wl_nil ?_
      exact wq_meet () trivial (sub_b rfl (by rw [h1]; rfl) sub_nil) some_nil
    refine wl_guard_off (j := 3) rfl rfl rfl rfl rfl ?_
    refine wl_guard_off (j := 3) rfl rfl rfl rfl rfl ?_
    refine wl_guard_off (j := 3) rfl rfl rfl rfl rfl ?_
    refine wl_pure (po_pick_f rfl rfl) rfl ?_
    refine asg rfl rfl ?_
    refine wl_nil ?_
    exact wq_meet () trivial (sub_b rfl (by rw [h1]; rfl) sub_nil) some_nil
  intro _ _
  refine wq_then ?_
  refine wc_ret ?_
  obtain rfl := Option.some.inj t0
  exact wq_ret1 rfl rfl fun w hw => ⟨rfl, hw.weak some_nil⟩

theorem c_impl_isColor (w : World) (a_a : Int) {r : Bool} (t0 : impl_isColor a_a = some r) : Calls Tryd.prog 47 #[.int .i64 a_a] w fun e w' => e = .returned (.bool r) ∧ SH w [] [] w' := by
  refine calls_of_wc (args := [_]) Tryd.func47 rfl Tryd.ntmps47 rfl ?_
  unfold impl_isColor at t0
  refine wcr ?_
  refine asg rfl rfl ?_
  refine wnt ?_
  refine wcr ?_
  refine mv rfl rfl ?_
  refine bdO t0 fun v1 hv1 t0 => ?_
  refine wl_call (co_c0 fa_32 rfl fun w hw => c_impl_within w a_a 0 5 hv1) rfl fun _ => ?_
  refine asg rfl rfl ?_
  refine wnt ?_
  refine wc_ret ?_
  obtain rfl := Option.some.inj t0
  exact wq_ret1 rfl rfl fun w hw => ⟨rfl, hw.weak some_nil⟩

theorem c_impl_CellOk (w : World) (a_c : GCell) {r : Bool} (t0 : impl_CellOk a_c = some r) : Calls Tryd.prog 33 #[.agg #[.int .i64 a_c.Split, .int .i64 a_c.A, .int .i64 a_c.B]] w fun e w' => e = .returned (.bool r) ∧ SH w [] [] w' := by
  refine calls_of_wc (args := [_]) Tryd.func33 rfl Tryd.ntmps33 rfl ?_
  unfold impl_CellOk at t0
  refine wcr ?_
  refine wl_eff (eo_box rfl rfl) rfl fun b1 => ?_
  refine asg rfl rfl ?_
  refine wnt ?_
  refine wc_seq ?_
  refine bdO t0 fun y1 t1 t0 => ?_
  refine wj (J := Bool) (X := Unit) (fun z => y1 = z) (fun z _ => [(2, .bool z)]) (fun _ _ => []) ?_ ?_
  · skip
    refine wc_region ?_
    refine wl_pure (po_fld fo_49_0 rfl) rfl ?_
    refine wl_pure (v := .int .i64 a_c.Split) (po_load_box tk_3 pick0 rfl rfl) rfl ?_
    refine bdO t1 fun v1 hv1 t1 => ?_
    refine wl_call (co_c0 fa_32 rfl fun w hw => c_impl_within w a_c.Split 0 2 hv1) rfl fun _ => ?_
    refine mv rfl rfl ?_
    refine wlO_ (t := 6) t1 rfl (fun h1 t1 => ?_) fun h1 t1 => ?_
    · skip
      refine wl_guard_on (j := 3) rfl rfl rfl (wl_pure (po_fld fo_49_1 rfl) rfl ?_)
      refine wl_guard_on (j := 3) rfl rfl rfl (wl_pure (v := .int .i64 a_c.A) (po_load_box tk_3 pick0 rfl rfl) rfl ?_)
      refine bdO t1 fun v2 hv2 t1 => ?_
      refine wl_guard_on (j := 3) rfl rfl rfl (wl_call (co_c0 fa_47 rfl fun w hw => c_impl_isColor w a_c.A hv2) rfl (fun _ => ?_))
      refine wl_pure (po_pick_t rfl rfl) rfl ?_
      refine mv rfl rfl ?_
      refine wlO_ (t := 11) t1 rfl (fun h2 t1 => ?_) fun h2 t1 => ?_
      · skip
        refine wl_guard_on (j := 8) rfl rfl rfl (wl_pure (po_fld fo_49_2 rfl) rfl ?_)
        refine wl_guard_on (j := 8) rfl rfl rfl (wl_pure (v := .int .i64 a_c.B) (po_load_box tk_3 pick0 rfl rfl) rfl ?_)
        refine bdO t1 fun v3 hv3 t1 => ?_
        refine wl_guard_on (j := 8) rfl rfl rfl (wl_call (co_c0 fa_47 rfl fun w hw => c_impl_isColor w a_c.B hv3) rfl (fun _ => ?_))
        refine wl_pure (po_pick_t rfl rfl) rfl ?_
        refine mv rfl rfl ?_
        refine wlO_ (t := 16) t1 rfl (fun h3 t1 => ?_) fun h3 t1 => ?_
        · skip
          refine wl_guard_on (j := 13) rfl rfl rfl (wl_pure (po_fld fo_49_0 rfl) rfl ?_)
          refine wl_guard_on (j := 13) rfl rfl rfl (wl_pure (v := .int .i64 a_c.Split) (po_load_box tk_3 pick0 rfl rfl) rfl ?_)
          refine wl_guard_on (j := 13) rfl rfl rfl (wl_pure (po_eql rfl rfl) rfl ?_)
          refine wl_guard_on (j := 13) rfl rfl rfl (wl_pure (po_fld fo_49_1 rfl) rfl ?_)
          refine wl_guard_on (j := 13) rfl rfl rfl (wl_pure (v := .int .i64 a_c.A) (po_load_box tk_3 pick0 rfl rfl) rfl ?_)
          refine wl_guard_on (j := 13) rfl rfl rfl (wl_pure (po_fld fo_49_2 rfl) rfl ?_)
          refine wl_guard_on (j := 13) rfl rfl rfl (wl_pure (v := .int .i64 a_c.B) (po_load_box tk_3 pick0 rfl rfl) rfl ?_)
          refine wl_guard_on (j := 13) rfl rfl rfl (wl_pure (po_eql rfl rfl) rfl ?_)
          refine wl_guard_on (j := 13) rfl rfl rfl (wl_pure (po_eql_bool ub_4 rfl rfl) rfl ?_)
          refine wl_pure (po_pick_t rfl rfl) rfl ?_
          refine asg rfl rfl ?_
          refine wl_nil ?_
          exact wj_meet _ () (mtE t1) (sub_cons rfl sub_nil) some_nil
        refine wl_guard_off (j := 13) rfl rfl rfl rfl rfl ?_
        refine wl_guard_off (j := 13) rfl rfl rfl rfl rfl ?_
        refine wl_guard_off (j := 13) rfl rfl rfl rfl rfl ?_
        refine wl_guard_off (j := 13) rfl rfl rfl rfl rfl ?_
        refine wl_guard_off (j := 13) rfl rfl rfl rfl rfl ?_
        refine wl_guard_off (j := 13) rfl rfl rfl rfl rfl ?_
        refine wl_guard_off (j := 13) rfl rfl rfl rfl rfl ?_
        refine wl_guard_off (j := 13) rfl rfl rfl rfl rfl ?_
        refine wl_guard_off (j := 13) rfl rfl rfl rfl rfl ?_
        refine wl_pure (po_pick_f rfl rfl) rfl ?_
        refine asg rfl rfl ?_
        refine wl_nil ?_
        exact wj_meet _ () (mtE t1) (sub_cons rfl sub_nil) some_nil
      refine wl_guard_off (j := 8) rfl rfl rfl rfl rfl ?_
      refine wl_guard_off (j := 8) rfl rfl rfl rfl rfl ?_
      refine wl_guard_off (j := 8) rfl rfl rfl rfl rfl ?_
      refine wl_pure (po_pick_f rfl rfl) rfl ?_
      refine mv rfl rfl ?_
      refine wl_guard_off (j := 13) rfl rfl rfl rfl rfl ?_
      refine wl_guard_off (j := 13) rfl rfl rfl rfl rfl ?_
      refine wl_guard_off (j := 13) rfl rfl rfl rfl rfl ?_
      refine wl_guard_off (j := 13) rfl rfl rfl rfl rfl ?_
      refine wl_guard_off (j := 13) rfl rfl rfl rfl rfl ?_
      refine wl_guard_off (j := 13) rfl rfl rfl rfl rfl ?_
      refine wl_guard_off (j := 13) rfl rfl rfl rfl rfl ?_
      refine wl_guard_off (j := 13) rfl rfl rfl rfl rfl ?_
      refine wl_guard_off (j := 13) rfl rfl rfl rfl rfl ?_
      refine wl_pure (po_pick_f rfl rfl) rfl ?_
      refine asg rfl rfl ?_
      refine wl_nil ?_
      exact wj_meet _ () (mtE t1) (sub_cons rfl sub_nil) some_nil
    refine wl_guard_off (j := 3) rfl rfl rfl rfl rfl ?_
    refine wl_guard_off (j := 3) rfl rfl rfl rfl rfl ?_
    refine wl_guard_off (j := 3) rfl rfl rfl rfl rfl ?_
    refine wl_pure (po_pick_f rfl rfl) rfl ?_
    refine mv rfl rfl ?_
    refine wl_guard_off (j := 8) rfl rfl rfl rfl rfl ?_
    refine wl_guard_off (j := 8) rfl rfl rfl rfl rfl ?_
    refine wl_guard_off (j := 8) rfl rfl rfl rfl rfl ?_
    refine wl_pure (po_pick_f rfl rfl) rfl ?_
    refine mv rfl rfl ?_
    refine wl_guard_off (j := 13) rfl rfl rfl rfl rfl ?_
    refine wl_guard_off (j := 13) rfl rfl rfl rfl rfl ?_
    refine wl_guard_off (j := 13) rfl rfl rfl rfl rfl ?_
    refine wl_guard_off (j := 13) rfl rfl rfl rfl rfl ?_
    refine wl_guard_off (j := 13) rfl rfl rfl rfl rfl ?_
    refine wl_guard_off (j := 13) rfl rfl rfl rfl rfl ?_
    refine wl_guard_off (j := 13) rfl rfl rfl rfl rfl ?_
    refine wl_guard_off (j := 13) rfl rfl rfl rfl rfl ?_
    refine wl_guard_off (j := 13) rfl rfl rfl rfl rfl ?_
    refine wl_pure (po_pick_f rfl rfl) rfl ?_
    refine asg rfl rfl ?_
    refine wl_nil ?_
    exact wj_meet _ () (mtE t1) (sub_cons rfl sub_nil) some_nil
  intro j1 _ hp
  obtain rfl : j1 = y1 := hp.symm
  refine wq_then ?_
  refine wc_ret ?_
  obtain rfl := Option.some.inj t0
  exact wq_ret1 rfl rfl fun w hw => ⟨rfl, hw.weak some_nil⟩

theorem c_impl_BlockOk (w : World) (a_b : GBlock) (v0a : Hd) (r0 : rdF w (dm w []) (sl v0a) a_b.Cells) {r : Bool} (t0 : impl_BlockOk a_b = some r) : Calls Tryd.prog 17 #[.agg #[.int .i64 a_b.Size, (sl v0a)]] w fun e w' => e = .returned (.bool r) ∧ SH w [] [] w' := by
  refine calls_of_wc (args := [_]) Tryd.func17 rfl Tryd.ntmps17 rfl ?_
  unfold impl_BlockOk at t0
  refine wcr ?_
  refine wl_eff (eo_box rfl rfl) rfl fun b1 => ?_
  refine asg rfl rfl ?_
  refine wnt ?_
  refine wc_seq ?_
  refine wc_seq ?_
  refine bdO t0 fun y1 t1 t0 => ?_
  refine wj (J := Bool) (X := Unit) (fun z => y1 = z) (fun z _ => [(1, ptr b1 0), (19, .bool z)]) (fun _ _ => [box b1 [.int .i64 a_b.Size, (sl v0a)]]) ?_ ?_
  · skip
    refine wc_region ?_
    refine wl_pure (po_fld fo_29_0 rfl) rfl ?_
    refine wl_pure (v := .int .i64 a_b.Size) (po_load_box tk_3 pick0 rfl rfl) rfl ?_
    refine bdO t1 fun v1 hv1 t1 => ?_
    refine wl_call (co_c0 fa_32 rfl fun w hw => c_impl_within w a_b.Size 1 4 hv1) rfl fun _ => ?_
    refine wl_pure (po_not rfl) rfl ?_
    refine mv rfl rfl ?_
    refine wlO_ (t := 9) t1 rfl (fun h1 t1 => ?_) fun h1 t1 => ?_
    · skip
      refine wl_guard_off (j := 4) rfl rfl rfl rfl rfl ?_
      refine wl_guard_off (j := 4) rfl rfl rfl rfl rfl ?_
      refine wl_guard_off (j := 4) rfl rfl rfl rfl rfl ?_
      refine wl_guard_off (j := 4) rfl rfl rfl rfl rfl ?_
      refine wl_guard_off (j := 4) rfl rfl rfl rfl rfl ?_
      refine wl_guard_off (j := 4) rfl rfl rfl rfl rfl ?_
      refine wl_guard_off (j := 4) rfl rfl rfl rfl rfl ?_
      refine wl_guard_off (j := 4) rfl rfl rfl rfl rfl ?_
      refine wl_guard_off (j := 4) rfl rfl rfl rfl rfl ?_
      refine wl_pure (po_pick_t rfl rfl) rfl ?_
      refine wl_nil ?_
      exact wj_meet _ () (mtE t1) (sub_cons rfl (sub_cons rfl sub_nil)) (some_cons pick0 some_nil)
    refine wl_guard_on (j := 4) rfl rfl rfl (wl_pure (po_fld fo_29_1 rfl) rfl ?_)
    refine wl_guard_on (j := 4) rfl rfl rfl (wl_pure (v := (sl v0a)) (po_load_box tk_27 pick0 rfl rfl) rfl ?_)
    refine wl_guard_on (j := 4) rfl rfl rfl (wl_pure (po_lenr (rds_arg r0) el_27 rfl) rfl ?_)
    refine wl_guard_on (j := 4) rfl rfl rfl (wl_pure (po_fld fo_29_0 rfl) rfl ?_)
    refine wl_guard_on (j := 4) rfl rfl rfl (wl_pure (v := .int .i64 a_b.Size) (po_load_box tk_3 pick0 rfl rfl) rfl ?_)
    refine wl_guard_on (j := 4) rfl rfl rfl (wl_pure (po_fld fo_29_0 rfl) rfl ?_)
    refine wl_guard_on (j := 4) rfl rfl rfl (wl_pure (v := .int .i64 a_b.Size) (po_load_box tk_3 pick0 rfl rfl) rfl ?_)
    refine wl_guard_on (j := 4) rfl rfl rfl (wl_pure (po_mul rfl rfl) rfl ?_)
    refine wl_guard_on (j := 4) rfl rfl rfl (wl_pure (po_neq rfl rfl) rfl ?_)
    refine wl_pure (po_pick_f rfl rfl) rfl ?_
    refine wl_nil ?_
    exact wj_meet _ () (mtE t1) (sub_cons rfl (sub_cons rfl sub_nil)) (some_cons pick0 some_nil)
  intro j1 _ hp
  obtain rfl : j1 = y1 := hp.symm
  refine wq_then ?_
  refine wcO t0 rfl (fun h2 t0 => ?_) fun h2 t0 => ?_
  · skip
    refine wcr ?_
    refine asg rfl rfl ?_
    refine wnt ?_
    refine wc_ret ?_
    refine wq_then_ret ?_
    obtain rfl := Option.some.inj t0
    exact wq_ret1 rfl rfl fun w hw => ⟨rfl, hw.weak some_nil⟩
  refine wc_skip ?_
  refine wq_then ?_
  refine wc_seq ?_
  refine wcr ?_
  refine wl_pure (po_fld fo_29_1 rfl) rfl ?_
  refine wl_pure (v := (sl v0a)) (po_load_box tk_27 pick0 rfl rfl) rfl ?_
  refine wl_pure (po_lenr (rds_arg r0) el_27 rfl) rfl ?_
  refine mv rfl rfl ?_
  refine wnt ?_
  refine gdO t0 fun g1 t0 => ?_
  refine sqO t0 fun y1 l1 t0 => ?_
  refine wj (J := Unit) (X := Unit) (fun z => y1 = .inl z) (fun _ _ => []) (fun _ _ => []) ?_ ?_
  · skip
    refine wc_block ?_
    refine wc_forO (X := Unit) l1 (fun k1 s1 x1l => [(21, (sl v0a)), (22, .int .i64 ((a_b.Cells.length : Nat) : Int)), (23, .int .i64 ((k1 : Nat) : Int))]) (fun k1 s1 x1l => []) () (sub_cons rfl (sub_cons rfl (sub_cons rfl sub_nil))) some_nil fun k1 s1 x1l hN1 l1 => ?_
    by_cases hk1 : k1 < a_b.Cells.length
    · skip
      refine forO_step l1 hk1 fun _ t1 l1 => ?_
      unfold impl_BlockOk_L1 at t1
      have c1 : (decide (((k1 : Nat) : Int) < ((a_b.Cells.length : Nat) : Int))) = true := decide_eq_true (by omega)
      refine wcr ?_
      refine wl_pure (po_lss rfl rfl) rfl ?_
      refine wnt ?_
      refine wc_seq ?_
      refine wc_cond_t rfl c1 ?_
      refine wc_skip ?_
      refine wq_then ?_
      refine wc_seq ?_
      refine wc_block ?_
      refine wcr ?_
      refine wl_pure (po_ixn (k := k1) (rds_arg r0) el_27 rfl rfl hk1) rfl ?_
      refine wl_pure (v := .agg #[.int .i64 ((gx a_b.Cells k1).Split), .int .i64 ((gx a_b.Cells k1).A), .int .i64 ((gx a_b.Cells k1).B)]) (po_ldfs (rds_arg r0) tk_49 rfl hk1 rfl rfl rfl) rfl ?_
      refine wl_eff (eo_alloc (cs := [.int .i64 0, .int .i64 0, .int .i64 0]) za_49) rfl fun b2 => ?_
      refine wl_skipop (so_box (cs' := [.int .i64 ((gx a_b.Cells k1).Split), .int .i64 ((gx a_b.Cells k1).A), .int .i64 ((gx a_b.Cells k1).B)]) tk_49 pick0 rfl rfl rfl rfl rfl rfl rfl) ?_
      refine wnt ?_
      refine wcr ?_
      refine wl_pure (v := .agg #[.int .i64 ((gx a_b.Cells k1).Split), .int .i64 ((gx a_b.Cells k1).A), .int .i64 ((gx a_b.Cells k1).B)]) (po_load_boxs tk_49 pick0 rfl rfl rfl) rfl ?_
      refine bdO t1 fun v2 hv2 t1 => ?_
      refine wl_call (co_c0 fa_33 rfl fun w hw => c_impl_CellOk w (gx a_b.Cells k1) hv2) rfl fun _ => ?_
      refine wl_pure (po_not rfl) rfl ?_
      refine wnt ?_
      refine wcO t1 rfl (fun h3 t1 => ?_) fun h3 t1 => ?_
      · skip
        refine wcr ?_
        refine asg rfl rfl ?_
        refine wnt ?_
        refine wc_ret ?_
        refine wq_block_ret ?_
        refine wq_then_ret ?_
        refine wq_then_ret ?_
        refine wq_block_ret ?_
        refine wq_then_ret ?_
        refine wq_then_ret ?_
        replace t0 := lpR t0 l1 t1
        obtain rfl := Option.some.inj t0
        exact wq_ret1 rfl rfl fun w hw => ⟨rfl, hw.weak some_nil⟩
      refine wc_skip ?_
      refine wq_block ?_
      refine wq_then ?_
      refine wc_region ?_
      refine wl_pure (po_inc rfl rfl (by omega)) rfl ?_
      refine mv rfl rfl ?_
      refine wl_nil ?_
      exact wq_rnd hk1 (stpN l1 t1) () (sub_cons rfl (sub_cons rfl (sub_cons rfl sub_nil))) some_nil
    have c1 : (decide (((k1 : Nat) : Int) < ((a_b.Cells.length : Nat) : Int))) = false := decide_eq_false (by omega)
    have en1 := forO_end l1 hk1
    refine wcr ?_
    refine wl_pure (po_lss rfl rfl) rfl ?_
    refine wnt ?_
    refine wc_seq ?_
    refine wc_cond_f rfl c1 ?_
    refine wc_exit ?_
    refine wq_then_exit ?_
    refine wq_then_exit ?_
    refine wq_block_exit ?_
    exact wj_meet _ () en1 sub_nil some_nil
  intro e1 _ hp
  replace t0 := sqE (j := e1) t0 hp
  refine wq_then ?_
  refine wcr ?_
  refine asg rfl rfl ?_
  refine wnt ?_
  refine wc_ret ?_
  obtain rfl := Option.some.inj t0
  exact wq_ret1 rfl rfl fun w hw => ⟨rfl, hw.weak some_nil⟩

theorem c_impl_CellArea (w : World) (a_c : GCell) (a_a : Int) {r : Int} (t0 : impl_CellArea a_c a_a = some r) : Calls Tryd.prog 48 #[.agg #[.int .i64 a_c.Split, .int .i64 a_c.A, .int .i64 a_c.B], .int .i64 a_a] w fun e w' => e = .returned (.int .i64 r) ∧ SH w [] [] w' := by
  refine calls_of_wc (args := [_, _]) Tryd.func48 rfl Tryd.ntmps48 rfl ?_
  unfold impl_CellArea at t0
  refine wcr ?_
  refine wl_eff (eo_box rfl rfl) rfl fun b1 => ?_
  refine asg rfl rfl ?_
  refine wnt ?_
  refine wcr ?_
  refine asg rfl rfl ?_
  refine wnt ?_
  refine wc_seq ?_
  refine wc_seq ?_
  refine bdO t0 fun y1 t1 t0 => ?_
  refine wj (J := Bool) (X := Unit) (fun z => y1 = z) (fun z _ => [(1, .int .i64 a_a), (2, ptr b1 0), (5, .int .i64 0), (13, .bool z)]) (fun _ _ => [box b1 [.int .i64 a_c.Split, .int .i64 a_c.A, .int .i64 a_c.B]]) ?_ ?_
  · skip
    refine wc_region ?_
    refine wl_pure (v := .agg #[.int .i64 a_c.Split, .int .i64 a_c.A, .int .i64 a_c.B]) (po_load_boxs tk_49 pick0 rfl rfl rfl) rfl ?_
    refine bdO t1 fun v1 hv1 t1 => ?_
    refine wl_call (co_c0 fa_33 rfl fun w hw => c_impl_CellOk w a_c hv1) rfl fun _ => ?_
    refine mv rfl rfl ?_
    refine wlO_ (t := 8) t1 rfl (fun h1 t1 => ?_) fun h1 t1 => ?_
    · skip
      refine wl_guard_on (j := 2) rfl rfl rfl (wl_pure (po_fld fo_49_1 rfl) rfl ?_)
      refine wl_guard_on (j := 2) rfl rfl rfl (wl_pure (v := .int .i64 a_c.A) (po_load_box tk_3 pick0 rfl rfl) rfl ?_)
      refine wl_guard_on (j := 2) rfl rfl rfl (mv rfl rfl ?_)
      refine wl_guard_on (j := 2) rfl rfl rfl (wl_pure (po_eql rfl rfl) rfl ?_)
      refine wl_pure (po_pick_t rfl rfl) rfl ?_
      refine wl_nil ?_
      exact wj_meet _ () (mtE t1) (sub_cons rfl (sub_cons rfl (sub_cons rfl (sub_cons rfl sub_nil)))) (some_cons pick0 some_nil)
    refine wl_guard_off (j := 2) rfl rfl rfl rfl rfl ?_
    refine wl_guard_off (j := 2) rfl rfl rfl rfl rfl ?_
    refine wl_guard_off (j := 2) rfl rfl rfl rfl rfl ?_
    refine wl_guard_off (j := 2) rfl rfl rfl rfl rfl ?_
    refine wl_pure (po_pick_f rfl rfl) rfl ?_
    refine wl_nil ?_
    exact wj_meet _ () (mtE t1) (sub_cons rfl (sub_cons rfl (sub_cons rfl (sub_cons rfl sub_nil)))) (some_cons pick0 some_nil)
  intro j1 _ hp
  obtain rfl : j1 = y1 := hp.symm
  refine wq_then ?_
  refine wc_join (X := Unit) (fun _ => True) (fun _ => [(1, .int .i64 a_a), (2, ptr b1 0), (5, .int .i64 (bif j1 then (wr (0 + 2)) else 0))]) (fun _ => [box b1 [.int .i64 a_c.Split, .int .i64 a_c.A, .int .i64 a_c.B]]) ?_ ?_
  · skip
    refine wc_cond rfl (fun h2 => ?_) fun h2 => ?_
    · skip
      refine wc_region ?_
      refine mv rfl rfl ?_
      refine wl_pure (po_add rfl rfl) rfl ?_
      refine asg rfl rfl ?_
      refine wl_nil ?_
      exact wq_meet () trivial (sub_cons rfl (sub_cons rfl (sub_i rfl (by simp only [h2, cond_true]) sub_nil))) (some_cons pick0 some_nil)
    refine wc_skip ?_
    exact wq_meet () trivial (sub_cons rfl (sub_cons rfl (sub_i rfl (by simp only [h2, cond_false]) sub_nil))) (some_cons pick0 some_nil)
  intro _ _
  refine wq_then ?_
  refine wc_seq ?_
  refine wc_seq ?_
  refine bdO t0 fun y1 t1 t0 => ?_
  refine wj (J := Bool) (X := Unit) (fun z => y1 = z) (fun z _ => [(5, .int .i64 (bif j1 then (wr (0 + 2)) else 0)), (23, .bool z)]) (fun _ _ => []) ?_ ?_
  · skip
    refine wc_region ?_
    refine wl_pure (v := .agg #[.int .i64 a_c.Split, .int .i64 a_c.A, .int .i64 a_c.B]) (po_load_boxs tk_49 pick0 rfl rfl rfl) rfl ?_
    refine bdO t1 fun v2 hv2 t1 => ?_
    refine wl_call (co_c0 fa_33 rfl fun w hw => c_impl_CellOk w a_c hv2) rfl fun _ => ?_
    refine mv rfl rfl ?_
    refine wlO_ (t := 18) t1 rfl (fun h3 t1 => ?_) fun h3 t1 => ?_
    · skip
      refine wl_guard_on (j := 2) rfl rfl rfl (wl_pure (po_fld fo_49_2 rfl) rfl ?_)
      refine wl_guard_on (j := 2) rfl rfl rfl (wl_pure (v := .int .i64 a_c.B) (po_load_box tk_3 pick0 rfl rfl) rfl ?_)
      refine wl_guard_on (j := 2) rfl rfl rfl (mv rfl rfl ?_)
      refine wl_guard_on (j := 2) rfl rfl rfl (wl_pure (po_eql rfl rfl) rfl ?_)
      refine wl_pure (po_pick_t rfl rfl) rfl ?_
      refine wl_nil ?_
      exact wj_meet _ () (mtE t1) (sub_cons rfl (sub_cons rfl sub_nil)) some_nil
    refine wl_guard_off (j := 2) rfl rfl rfl rfl rfl ?_
    refine wl_guard_off (j := 2) rfl rfl rfl rfl rfl ?_
    refine wl_guard_off (j := 2) rfl rfl rfl rfl rfl ?_
    refine wl_guard_off (j := 2) rfl rfl rfl rfl rfl ?_
    refine wl_pure (po_pick_f rfl rfl) rfl ?_
    refine wl_nil ?_
    exact wj_meet _ () (mtE t1) (sub_cons rfl (sub_cons rfl sub_nil)) some_nil
  intro j3 _ hp
  obtain rfl : j3 = y1 := hp.symm
  refine wq_then ?_
  refine wc_join (X := Unit) (fun _ => True) (fun _ => [(5, .int .i64 (bif j3 then (wr ((bif j1 then (wr (0 + 2)) else 0) + 2)) else (bif j1 then (wr (0 + 2)) else 0)))]) (fun _ => []) ?_ ?_
  · skip
    refine wc_cond rfl (fun h4 => ?_) fun h4 => ?_
    · skip
      refine wc_region ?_
      refine mv rfl rfl ?_
      refine wl_pure (po_add rfl rfl) rfl ?_
      refine asg rfl rfl ?_
      refine wl_nil ?_
      exact wq_meet () trivial (sub_i rfl (by simp only [h4, cond_true]) sub_nil) some_nil
    refine wc_skip ?_
    exact wq_meet () trivial (sub_i rfl (by simp only [h4, cond_false]) sub_nil) some_nil
  intro _ _
  refine wq_then ?_
  refine wcr ?_
  refine mv rfl rfl ?_
  refine asg rfl rfl ?_
  refine wnt ?_
  refine wc_ret ?_
  obtain rfl := Option.some.inj t0
  exact wq_ret1 rfl rfl fun w hw => ⟨rfl, hw.weak some_nil⟩

theorem c_impl_AreaOf (w : World) (a_b : GBlock) (v0a : Hd) (r0 : rdF w (dm w []) (sl v0a) a_b.Cells) (a_a : Int) {r : Int} (t0 : impl_AreaOf a_b a_a = some r) : Calls Tryd.prog 34 #[.agg #[.int .i64 a_b.Size, (sl v0a)], .int .i64 a_a] w fun e w' => e = .returned (.int .i64 r) ∧ SH w [] [] w' := by
  refine calls_of_wc (args := [_, _]) Tryd.func34 rfl Tryd.ntmps34 rfl ?_
  unfold impl_AreaOf at t0
  refine wcr ?_
  refine wl_eff (eo_box rfl rfl) rfl fun b1 => ?_
  refine asg rfl rfl ?_
  refine wnt ?_
  refine wc_seq ?_
  refine wcr ?_
  refine wl_pure (v := .agg #[.int .i64 a_b.Size, (sl v0a)]) (po_load_boxs tk_29 pick0 rfl rfl rfl) rfl ?_
  refine bdO t0 fun v1 hv1 t0 => ?_
  refine wl_call (co_c0 fa_17 rfl fun w hw => c_impl_BlockOk w a_b v0a (Rg.on (rds_arg r0) hw) hv1) rfl fun _ => ?_
  refine wl_pure (po_not rfl) rfl ?_
  refine wnt ?_
  refine wcO t0 rfl (fun h1 t0 => ?_) fun h1 t0 => ?_
  · skip
    refine wcr ?_
    refine asg rfl rfl ?_
    refine wnt ?_
    refine wc_ret ?_
    refine wq_then_ret ?_
    obtain rfl := Option.some.inj t0
    exact wq_ret1 rfl rfl fun w hw => ⟨rfl, hw.weak some_nil⟩
  refine wc_skip ?_
  refine wq_then ?_
  refine wcr ?_
  refine asg rfl rfl ?_
  refine wnt ?_
  refine wc_seq ?_
  refine wcr ?_
  refine wl_pure (po_fld fo_29_1 rfl) rfl ?_
  refine wl_pure (v := (sl v0a)) (po_load_box tk_27 pick0 rfl rfl) rfl ?_
  refine wl_pure (po_lenr (rds_arg r0) el_27 rfl) rfl ?_
  refine mv rfl rfl ?_
  refine wnt ?_
  refine gdO t0 fun g1 t0 => ?_
  refine lpO_inv t0 fun y1 l1 t0 => ?_
  refine wj (J := Int) (X := Unit) (fun z => y1 = z) (fun z _ => [(5, .int .i64 z)]) (fun _ _ => []) ?_ ?_
  · skip
    refine wc_block ?_
    refine wc_forO (X := Unit) l1 (fun k1 s1 x1l => [(1, .int .i64 a_a), (5, .int .i64 s1), (12, (sl v0a)), (13, .int .i64 ((a_b.Cells.length : Nat) : Int)), (14, .int .i64 ((k1 : Nat) : Int))]) (fun k1 s1 x1l => []) () (sub_cons rfl (sub_cons rfl (sub_cons rfl (sub_cons rfl (sub_cons rfl sub_nil))))) some_nil fun k1 s1 x1l hN1 l1 => ?_
    by_cases hk1 : k1 < a_b.Cells.length
    · skip
      refine forO_step l1 hk1 fun _ t1 l1 => ?_
      unfold impl_AreaOf_L1 at t1
      have c1 : (decide (((k1 : Nat) : Int) < ((a_b.Cells.length : Nat) : Int))) = true := decide_eq_true (by omega)
      refine wcr ?_
      refine wl_pure (po_lss rfl rfl) rfl ?_
      refine wnt ?_
      refine wc_seq ?_
      refine wc_cond_t rfl c1 ?_
      refine wc_skip ?_
      refine wq_then ?_
      refine wc_seq ?_
      refine wc_block ?_
      refine wcr ?_
      refine wl_pure (po_ixn (k := k1) (rds_arg r0) el_27 rfl rfl hk1) rfl ?_
      refine wl_pure (v := .agg #[.int .i64 ((gx a_b.Cells k1).Split), .int .i64 ((gx a_b.Cells k1).A), .int .i64 ((gx a_b.Cells k1).B)]) (po_ldfs (rds_arg r0) tk_49 rfl hk1 rfl rfl rfl) rfl ?_
      refine wl_eff (eo_alloc (cs := [.int .i64 0, .int .i64 0, .int .i64 0]) za_49) rfl fun b2 => ?_
      refine wl_skipop (so_box (cs' := [.int .i64 ((gx a_b.Cells k1).Split), .int .i64 ((gx a_b.Cells k1).A), .int .i64 ((gx a_b.Cells k1).B)]) tk_49 pick0 rfl rfl rfl rfl rfl rfl rfl) ?_
      refine wnt ?_
      refine wc_region ?_
      refine mv rfl rfl ?_
      refine wl_pure (v := .agg #[.int .i64 ((gx a_b.Cells k1).Split), .int .i64 ((gx a_b.Cells k1).A), .int .i64 ((gx a_b.Cells k1).B)]) (po_load_boxs tk_49 pick0 rfl rfl rfl) rfl ?_
      refine mv rfl rfl ?_
      refine bdO t1 fun v2 hv2 t1 => ?_
      refine wl_call (co_c0 fa_48 rfl fun w hw => c_impl_CellArea w (gx a_b.Cells k1) a_a hv2) rfl fun _ => ?_
      refine wl_pure (po_add rfl rfl) rfl ?_
      refine asg rfl rfl ?_
      refine wl_nil ?_
      refine wq_block ?_
      refine wq_then ?_
      refine wc_region ?_
      refine wl_pure (po_inc rfl rfl (by omega)) rfl ?_
      refine mv rfl rfl ?_
      refine wl_nil ?_
      exact wq_rnd hk1 (stpN l1 t1) () (sub_cons rfl (sub_cons rfl (sub_cons rfl (sub_cons rfl (sub_cons rfl sub_nil))))) some_nil
    have c1 : (decide (((k1 : Nat) : Int) < ((a_b.Cells.length : Nat) : Int))) = false := decide_eq_false (by omega)
    have en1 := forO_end l1 hk1
    refine wcr ?_
    refine wl_pure (po_lss rfl rfl) rfl ?_
    refine wnt ?_
    refine wc_seq ?_
    refine wc_cond_f rfl c1 ?_
    refine wc_exit ?_
    refine wq_then_exit ?_
    refine wq_then_exit ?_
    refine wq_block_exit ?_
    exact wj_meet _ () (Sum.inl.inj en1) (sub_cons rfl sub_nil) some_nil
  intro e1 _ hp
  obtain rfl : e1 = y1 := hp.symm
  refine wq_then ?_
  refine wcr ?_
  refine mv rfl rfl ?_
  refine asg rfl rfl ?_
  refine wnt ?_
  refine wc_ret ?_
  obtain rfl := Option.some.inj t0
  exact wq_ret1 rfl rfl fun w hw => ⟨rfl, hw.weak some_nil⟩

theorem c_impl_ColorsOf (w : World) (a_b : GBlock) (v0a : Hd) (r0 : rdF w (dm w []) (sl v0a) a_b.Cells) {r : List Int} (t0 : impl_ColorsOf a_b = some r) : Calls Tryd.prog 18 #[.agg #[.int .i64 a_b.Size, (sl v0a)]] w fun e w' => ∃ x : Hd, e = .returned ((sl x)) ∧ SH w [] [ownF (sl x) r] w' := by
  refine calls_of_wc (args := [_]) Tryd.func18 rfl Tryd.ntmps18 rfl ?_
  unfold impl_ColorsOf at t0
  refine wcr ?_
  refine wl_eff (eo_box rfl rfl) rfl fun b1 => ?_
  refine asg rfl rfl ?_
  refine wnt ?_
  refine wc_seq ?_
  refine wcr ?_
  refine wl_pure (v := .agg #[.int .i64 a_b.Size, (sl v0a)]) (po_load_boxs tk_29 pick0 rfl rfl rfl) rfl ?_
  refine bdO t0 fun v1 hv1 t0 => ?_
  refine wl_call (co_c0 fa_17 rfl fun w hw => c_impl_BlockOk w a_b v0a (Rg.on (rds_arg r0) hw) hv1) rfl fun _ => ?_
  refine wl_pure (po_not rfl) rfl ?_
  refine wnt ?_
  refine wcO t0 rfl (fun h1 t0 => ?_) fun h1 t0 => ?_
  · skip
    refine wcr ?_
    refine asg rfl rfl ?_
    refine wnt ?_
    refine wc_ret ?_
    refine wq_then_ret ?_
    obtain rfl := Option.some.inj t0
    exact wq_ret1 rfl rfl fun w hw => ⟨(⟨none, 0, 0⟩ : Hd), rfl, hw.weak (some_cons pick_nil some_nil)⟩
  refine wc_skip ?_
  refine wq_then ?_
  refine wcr ?_
  refine wl_eff (eo_buildSlice rfl sb_35_0) rfl fun b2 => ?_
  refine asg rfl rfl ?_
  refine wnt ?_
  refine wc_seq ?_
  refine wcr ?_
  refine mv rfl rfl ?_
  refine wnt ?_
  refine lpO_inv t0 fun y1 l1 t0 => ?_
  refine wj (J := List Int) (X := Hd) (fun z => y1 = z) (fun _ x => [(3, (sl x))]) (fun z x => [ownF (sl x) z]) ?_ ?_
  · skip
    refine wc_block ?_
    refine wc_forO (X := Hd) l1 (fun k1 s1 x1l => [(1, ptr b1 0), (3, (sl x1l)), (9, .int .i64 ((k1 : Nat) : Int))]) (fun k1 s1 x1l => [box b1 [.int .i64 a_b.Size, (sl v0a)], ownF (sl x1l) s1]) (⟨some ⟨b2, 0, none⟩, 0, 0⟩ : Hd) (sub_cons rfl (sub_cons rfl (sub_cons rfl sub_nil))) (some_cons (pickS pick0) (some_cons (pick_box_own pick0 (n := 0) (xs := ([] : List Int)) rfl rfl (by unfold maxLen; omega)) some_nil)) fun k1 s1 x1l hN1 l1 => ?_
    by_cases hk1 : k1 < 6
    · skip
      refine forO_step l1 hk1 fun _ t1 l1 => ?_
      unfold impl_ColorsOf_L1 at t1
      have c1 : (decide (((k1 : Nat) : Int) < 6)) = true := decide_eq_true (by omega)
      refine wcr ?_
      refine wl_pure (po_lss rfl rfl) rfl ?_
      refine wnt ?_
      refine wc_seq ?_
      refine wc_cond_t rfl c1 ?_
      refine wc_skip ?_
      refine wq_then ?_
      refine wc_seq ?_
      refine wc_block ?_
      refine wcr ?_
      refine mv rfl rfl ?_
      refine asg rfl rfl ?_
      refine wnt ?_
      refine wcr ?_
      refine wl_pure (v := .agg #[.int .i64 a_b.Size, (sl v0a)]) (po_load_boxs tk_29 pick0 rfl rfl rfl) rfl ?_
      refine mv rfl rfl ?_
      refine bdO t1 fun v2 hv2 t1 => ?_
      refine wl_call (co_c0 fa_34 rfl fun w hw => c_impl_AreaOf w a_b v0a (Rg.on (rds_arg r0) hw) ((k1 : Nat) : Int) hv2) rfl fun _ => ?_
      refine wl_pure (po_gtr rfl rfl) rfl ?_
      refine wnt ?_
      refine bdO t1 fun y2 t2 t1 => ?_
      refine wj (J := List Int) (X := Hd) (fun z => y2 = z) (fun _ x => [(1, ptr b1 0), (3, (sl x)), (9, .int .i64 ((k1 : Nat) : Int))]) (fun z x => [box b1 [.int .i64 a_b.Size, (sl v0a)], ownF (sl x) z]) ?_ ?_
      · skip
        refine wcO t2 rfl (fun h2 t2 => ?_) fun h2 t2 => ?_
        · skip
          refine wc_region ?_
          refine mv rfl rfl ?_
          refine mv rfl rfl ?_
          refine wl_eff (eo_buildSlice rfl (sb_35_1 ((k1 : Nat) : Int))) rfl fun b3 => ?_
          refine gdO t2 fun g1 t2 => ?_
          refine wl_eff (eo_append (xs := s1) (ys := ([((k1 : Nat) : Int)] : List Int)) ak_35 (pickS (pickS pick0)) rfl rfl (slin_rd fun _ g => Rg.on (rds_own (pick_box_own pick0 (n := 1) (xs := ([((k1 : Nat) : Int)] : List Int)) rfl rfl (by unfold maxLen; omega))) g) g1) rfl fun x3 => ?_
          refine asg rfl rfl ?_
          refine wl_nil ?_
          exact wj_meet _ x3 (mtE t2) (sub_cons rfl (sub_cons rfl (sub_cons rfl sub_nil))) (some_cons (pickS (pickS pick0)) (some_cons pick0 some_nil))
        refine wc_skip ?_
        exact wj_meet _ x1l (mtE t2) (sub_cons rfl (sub_cons rfl (sub_cons rfl sub_nil))) (some_cons pick0 (some_cons pick0 some_nil))
      intro j1 x2 hp
      obtain rfl : j1 = y2 := hp.symm
      refine wq_block ?_
      refine wq_then ?_
      refine wc_region ?_
      refine wl_pure (po_inc rfl rfl (by omega)) rfl ?_
      refine mv rfl rfl ?_
      refine wl_nil ?_
      exact wq_rnd hk1 (stpN l1 t1) x2 (sub_cons rfl (sub_cons rfl (sub_cons rfl sub_nil))) (some_cons pick0 (some_cons pick0 some_nil))
    have c1 : (decide (((k1 : Nat) : Int) < 6)) = false := decide_eq_false (by omega)
    have en1 := forO_end l1 hk1
    refine wcr ?_
    refine wl_pure (po_lss rfl rfl) rfl ?_
    refine wnt ?_
    refine wc_seq ?_
    refine wc_cond_f rfl c1 ?_
    refine wc_exit ?_
    refine wq_then_exit ?_
    refine wq_then_exit ?_
    refine wq_block_exit ?_
    exact wj_meet _ x1l (Sum.inl.inj en1) (sub_cons rfl sub_nil) (some_cons (pickS pick0) some_nil)
  intro e1 x1 hp
  obtain rfl : e1 = y1 := hp.symm
  refine wq_then ?_
  refine wcr ?_
  refine mv rfl rfl ?_
  refine asg rfl rfl ?_
  refine wnt ?_
  refine wc_ret ?_
  obtain rfl := Option.some.inj t0
  exact wq_ret1 rfl rfl fun w hw => ⟨x1, rfl, hw.weak (some_cons pick0 some_nil)⟩

theorem c_impl_choices (w : World) (a_n : Int) {r : Int} (t0 : impl_choices a_n = some r) : Calls Tryd.prog 35 #[.int .i64 a_n] w fun e w' => e = .returned (.int .i64 r) ∧ SH w [] [] w' := by
  refine calls_of_wc (args := [_]) Tryd.func35 rfl Tryd.ntmps35 rfl ?_
  unfold impl_choices at t0
  refine wcr ?_
  refine asg rfl rfl ?_
  refine wnt ?_
  refine wcr ?_
  refine asg rfl rfl ?_
  refine wnt ?_
  refine wc_seq ?_
  refine wcr ?_
  refine mv rfl rfl ?_
  refine mv rfl rfl ?_
  refine wnt ?_
  refine gdO t0 fun g1 t0 => ?_
  refine lpO_inv t0 fun y1 l1 t0 => ?_
  refine wj (J := Int) (X := Unit) (fun z => y1 = z) (fun z _ => [(3, .int .i64 z)]) (fun _ _ => []) ?_ ?_
  · skip
    refine wc_block ?_
    refine wc_forO (X := Unit) l1 (fun k1 s1 x1l => [(3, .int .i64 s1), (5, .int .i64 a_n), (6, .int .i64 ((k1 : Nat) : Int))]) (fun k1 s1 x1l => []) () (sub_cons rfl (sub_cons rfl (sub_cons rfl sub_nil))) some_nil fun k1 s1 x1l hN1 l1 => ?_
    by_cases hk1 : k1 < (a_n).toNat
    · skip
      refine forO_step l1 hk1 fun _ t1 l1 => ?_
      unfold impl_choices_L1 at t1
      have c1 : (decide (((k1 : Nat) : Int) < a_n)) = true := decide_eq_true (by omega)
      refine wcr ?_
      refine wl_pure (po_lss rfl rfl) rfl ?_
      refine wnt ?_
      refine wc_seq ?_
      refine wc_cond_t rfl c1 ?_
      refine wc_skip ?_
      refine wq_then ?_
      refine wc_seq ?_
      refine wc_block ?_
      refine wcr ?_
      refine mv rfl rfl ?_
      refine asg rfl rfl ?_
      refine wnt ?_
      refine wc_region ?_
      refine mv rfl rfl ?_
      refine mv rfl rfl ?_
      refine wl_pure (po_sub rfl rfl) rfl ?_
      refine wl_pure (po_mul rfl rfl) rfl ?_
      refine asg rfl rfl ?_
      refine wl_nil ?_
      refine wq_block ?_
      refine wq_then ?_
      refine wc_region ?_
      refine wl_pure (po_inc rfl rfl (by omega)) rfl ?_
      refine mv rfl rfl ?_
      refine wl_nil ?_
      exact wq_rnd hk1 (stpN l1 t1) () (sub_cons rfl (sub_cons rfl (sub_cons rfl sub_nil))) some_nil
    have c1 : (decide (((k1 : Nat) : Int) < a_n)) = false := decide_eq_false (by omega)
    have en1 := forO_end l1 hk1
    refine wcr ?_
    refine wl_pure (po_lss rfl rfl) rfl ?_
    refine wnt ?_
    refine wc_seq ?_
    refine wc_cond_f rfl c1 ?_
    refine wc_exit ?_
    refine wq_then_exit ?_
    refine wq_then_exit ?_
    refine wq_block_exit ?_
    exact wj_meet _ () (Sum.inl.inj en1) (sub_cons rfl sub_nil) some_nil
  intro e1 _ hp
  obtain rfl : e1 = y1 := hp.symm
  refine wq_then ?_
  refine wcr ?_
  refine mv rfl rfl ?_
  refine asg rfl rfl ?_
  refine wnt ?_
  refine wc_ret ?_
  obtain rfl := Option.some.inj t0
  exact wq_ret1 rfl rfl fun w hw => ⟨rfl, hw.weak some_nil⟩

theorem c_impl_ColorwayCount (w : World) (a_b : GBlock) (v0a : Hd) (r0 : rdF w (dm w []) (sl v0a) a_b.Cells) {r : Int} (t0 : impl_ColorwayCount a_b = some r) : Calls Tryd.prog 19 #[.agg #[.int .i64 a_b.Size, (sl v0a)]] w fun e w' => e = .returned (.int .i64 r) ∧ SH w [] [] w' := by
  refine calls_of_wc (args := [_]) Tryd.func19 rfl Tryd.ntmps19 rfl ?_
  unfold impl_ColorwayCount at t0
  refine wcr ?_
  refine wl_eff (eo_box rfl rfl) rfl fun b1 => ?_
  refine asg rfl rfl ?_
  refine wnt ?_
  refine wc_seq ?_
  refine wcr ?_
  refine wl_pure (v := .agg #[.int .i64 a_b.Size, (sl v0a)]) (po_load_boxs tk_29 pick0 rfl rfl rfl) rfl ?_
  refine bdO t0 fun v1 hv1 t0 => ?_
  refine wl_call (co_c0 fa_17 rfl fun w hw => c_impl_BlockOk w a_b v0a (Rg.on (rds_arg r0) hw) hv1) rfl fun _ => ?_
  refine wl_pure (po_not rfl) rfl ?_
  refine wnt ?_
  refine wcO t0 rfl (fun h1 t0 => ?_) fun h1 t0 => ?_
  · skip
    refine wcr ?_
    refine asg rfl rfl ?_
    refine wnt ?_
    refine wc_ret ?_
    refine wq_then_ret ?_
    obtain rfl := Option.some.inj t0
    exact wq_ret1 rfl rfl fun w hw => ⟨rfl, hw.weak some_nil⟩
  refine wc_skip ?_
  refine wq_then ?_
  refine wcr ?_
  refine wl_pure (v := .agg #[.int .i64 a_b.Size, (sl v0a)]) (po_load_boxs tk_29 pick0 rfl rfl rfl) rfl ?_
  refine bdO t0 fun v2 hv2 t0 => ?_
  refine wl_call (co_c1 fa_18 rfl fun w hw => c_impl_ColorsOf w a_b v0a (Rg.on (rds_arg r0) hw) hv2) rfl fun x1 => ?_
  refine wl_pure (po_lenr (rds_own pick0) el_35 rfl) rfl ?_
  refine bdO t0 fun v3 hv3 t0 => ?_
  refine wl_call (co_c0 fa_35 rfl fun w hw => c_impl_choices w ((v2.length : Nat) : Int) hv3) rfl fun _ => ?_
  refine asg rfl rfl ?_
  refine wnt ?_
  refine wc_ret ?_
  obtain rfl := Option.some.inj t0
  exact wq_ret1 rfl rfl fun w hw => ⟨rfl, hw.weak some_nil⟩

theorem c_impl_upTo (w : World) (a_n : Int) {r : List Int} (t0 : impl_upTo a_n = some r) : Calls Tryd.prog 36 #[.int .i64 a_n] w fun e w' => ∃ x : Hd, e = .returned ((sl x)) ∧ SH w [] [ownF (sl x) r] w' := by
  refine calls_of_wc (args := [_]) Tryd.func36 rfl Tryd.ntmps36 rfl ?_
  unfold impl_upTo at t0
  refine wcr ?_
  refine asg rfl rfl ?_
  refine wnt ?_
  refine wcr ?_
  refine wl_eff (eo_buildSlice rfl sb_35_0) rfl fun b1 => ?_
  refine asg rfl rfl ?_
  refine wnt ?_
  refine wc_seq ?_
  refine wcr ?_
  refine mv rfl rfl ?_
  refine mv rfl rfl ?_
  refine wnt ?_
  refine gdO t0 fun g1 t0 => ?_
  refine lpO_inv t0 fun y1 l1 t0 => ?_
  refine wj (J := List Int) (X := Hd) (fun z => y1 = z) (fun _ x => [(3, (sl x))]) (fun z x => [ownF (sl x) z]) ?_ ?_
  · skip
    refine wc_block ?_
    refine wc_forO (X := Hd) l1 (fun k1 s1 x1l => [(3, (sl x1l)), (6, .int .i64 a_n), (7, .int .i64 ((k1 : Nat) : Int))]) (fun k1 s1 x1l => [ownF (sl x1l) s1]) (⟨some ⟨b1, 0, none⟩, 0, 0⟩ : Hd) (sub_cons rfl (sub_cons rfl (sub_cons rfl sub_nil))) (some_cons (pick_box_own pick0 (n := 0) (xs := ([] : List Int)) rfl rfl (by unfold maxLen; omega)) some_nil) fun k1 s1 x1l hN1 l1 => ?_
    by_cases hk1 : k1 < (a_n).toNat
    · skip
      refine forO_step l1 hk1 fun _ t1 l1 => ?_
      unfold impl_upTo_L1 at t1
      have c1 : (decide (((k1 : Nat) : Int) < a_n)) = true := decide_eq_true (by omega)
      refine wcr ?_
      refine wl_pure (po_lss rfl rfl) rfl ?_
      refine wnt ?_
      refine wc_seq ?_
      refine wc_cond_t rfl c1 ?_
      refine wc_skip ?_
      refine wq_then ?_
      refine wc_seq ?_
      refine wc_block ?_
      refine wcr ?_
      refine mv rfl rfl ?_
      refine asg rfl rfl ?_
      refine wnt ?_
      refine wc_region ?_
      refine mv rfl rfl ?_
      refine mv rfl rfl ?_
      refine wl_eff (eo_buildSlice rfl (sb_35_1 ((k1 : Nat) : Int))) rfl fun b2 => ?_
      refine gdO t1 fun g2 t1 => ?_
      refine wl_eff (eo_append (xs := s1) (ys := ([((k1 : Nat) : Int)] : List Int)) ak_35 (pickS pick0) rfl rfl (slin_rd fun _ g => Rg.on (rds_own (pick_box_own pick0 (n := 1) (xs := ([((k1 : Nat) : Int)] : List Int)) rfl rfl (by unfold maxLen; omega))) g) g2) rfl fun x2 => ?_
      refine asg rfl rfl ?_
      refine wl_nil ?_
      refine wq_block ?_
      refine wq_then ?_
      refine wc_region ?_
      refine wl_pure (po_inc rfl rfl (by omega)) rfl ?_
      refine mv rfl rfl ?_
      refine wl_nil ?_
      exact wq_rnd hk1 (stpN l1 t1) x2 (sub_cons rfl (sub_cons rfl (sub_cons rfl sub_nil))) (some_cons pick0 some_nil)
    have c1 : (decide (((k1 : Nat) : Int) < a_n)) = false := decide_eq_false (by omega)
    have en1 := forO_end l1 hk1
    refine wcr ?_
    refine wl_pure (po_lss rfl rfl) rfl ?_
    refine wnt ?_
    refine wc_seq ?_
    refine wc_cond_f rfl c1 ?_
    refine wc_exit ?_
    refine wq_then_exit ?_
    refine wq_then_exit ?_
    refine wq_block_exit ?_
    exact wj_meet _ x1l (Sum.inl.inj en1) (sub_cons rfl sub_nil) (some_cons pick0 some_nil)
  intro e1 x1 hp
  obtain rfl : e1 = y1 := hp.symm
  refine wq_then ?_
  refine wcr ?_
  refine mv rfl rfl ?_
  refine asg rfl rfl ?_
  refine wnt ?_
  refine wc_ret ?_
  obtain rfl := Option.some.inj t0
  exact wq_ret1 rfl rfl fun w hw => ⟨x1, rfl, hw.weak (some_cons pick0 some_nil)⟩

theorem c_impl_allWithin (w : World) (a_list : List Int) (v0a : Hd) (r0 : rdF w (dm w []) (sl v0a) a_list) (a_a : Int) (a_b : Int) {r : Bool} (t0 : impl_allWithin a_list a_a a_b = some r) : Calls Tryd.prog 61 #[(sl v0a), .int .i64 a_a, .int .i64 a_b] w fun e w' => e = .returned (.bool r) ∧ SH w [] [] w' := by
  refine calls_of_wc (args := [_, _, _]) Tryd.func61 rfl Tryd.ntmps61 rfl ?_
  unfold impl_allWithin at t0
  refine wcr ?_
  refine asg rfl rfl ?_
  refine wnt ?_
  refine wc_seq ?_
  refine wcr ?_
  refine mv rfl rfl ?_
  refine wl_pure (po_lenr (rds_arg r0) el_35 rfl) rfl ?_
  refine mv rfl rfl ?_
  refine wnt ?_
  refine gdO t0 fun g1 t0 => ?_
  refine sqO t0 fun y1 l1 t0 => ?_
  refine wj (J := Unit) (X := Unit) (fun z => y1 = .inl z) (fun _ _ => []) (fun _ _ => []) ?_ ?_
  · skip
    refine wc_block ?_
    refine wc_forO (X := Unit) l1 (fun k1 s1 x1l => [(1, .int .i64 a_a), (2, .int .i64 a_b), (9, (sl v0a)), (10, .int .i64 ((a_list.length : Nat) : Int)), (11, .int .i64 ((k1 : Nat) : Int))]) (fun k1 s1 x1l => []) () (sub_cons rfl (sub_cons rfl (sub_cons rfl (sub_cons rfl (sub_cons rfl sub_nil))))) some_nil fun k1 s1 x1l hN1 l1 => ?_
    by_cases hk1 : k1 < a_list.length
    · skip
      refine forO_step l1 hk1 fun _ t1 l1 => ?_
      unfold impl_allWithin_L1 at t1
      have c1 : (decide (((k1 : Nat) : Int) < ((a_list.length : Nat) : Int))) = true := decide_eq_true (by omega)
      refine wcr ?_
      refine wl_pure (po_lss rfl rfl) rfl ?_
      refine wnt ?_
      refine wc_seq ?_
      refine wc_cond_t rfl c1 ?_
      refine wc_skip ?_
      refine wq_then ?_
      refine wc_seq ?_
      refine wc_block ?_
      refine wcr ?_
      refine wl_pure (po_ixn (k := k1) (rds_arg r0) el_35 rfl rfl hk1) rfl ?_
      refine wl_pure (v := .int .i64 (gx a_list k1)) (po_ldf (rds_arg r0) tk_3 rfl hk1 rfl) rfl ?_
      refine asg rfl rfl ?_
      refine wnt ?_
      refine wcr ?_
      refine mv rfl rfl ?_
      refine mv rfl rfl ?_
      refine mv rfl rfl ?_
      refine bdO t1 fun v1 hv1 t1 => ?_
      refine wl_call (co_c0 fa_32 rfl fun w hw => c_impl_within w (gx a_list k1) a_a a_b hv1) rfl fun _ => ?_
      refine wl_pure (po_not rfl) rfl ?_
      refine wnt ?_
      refine wcO t1 rfl (fun h1 t1 => ?_) fun h1 t1 => ?_
      · skip
        refine wcr ?_
        refine asg rfl rfl ?_
        refine wnt ?_
        refine wc_ret ?_
        refine wq_block_ret ?_
        refine wq_then_ret ?_
        refine wq_then_ret ?_
        refine wq_block_ret ?_
        refine wq_then_ret ?_
        refine wq_then_ret ?_
        replace t0 := lpR t0 l1 t1
        obtain rfl := Option.some.inj t0
        exact wq_ret1 rfl rfl fun w hw => ⟨rfl, hw.weak some_nil⟩
      refine wc_skip ?_
      refine wq_block ?_
      refine wq_then ?_
      refine wc_region ?_
      refine wl_pure (po_inc rfl rfl (by omega)) rfl ?_
      refine mv rfl rfl ?_
      refine wl_nil ?_
      exact wq_rnd hk1 (stpN l1 t1) () (sub_cons rfl (sub_cons rfl (sub_cons rfl (sub_cons rfl (sub_cons rfl sub_nil))))) some_nil
    have c1 : (decide (((k1 : Nat) : Int) < ((a_list.length : Nat) : Int))) = false := decide_eq_false (by omega)
    have en1 := forO_end l1 hk1
    refine wcr ?_
    refine wl_pure (po_lss rfl rfl) rfl ?_
    refine wnt ?_
    refine wc_seq ?_
    refine wc_cond_f rfl c1 ?_
    refine wc_exit ?_
    refine wq_then_exit ?_
    refine wq_then_exit ?_
    refine wq_block_exit ?_
    exact wj_meet _ () en1 sub_nil some_nil
  intro e1 _ hp
  replace t0 := sqE (j := e1) t0 hp
  refine wq_then ?_
  refine wcr ?_
  refine asg rfl rfl ?_
  refine wnt ?_
  refine wc_ret ?_
  obtain rfl := Option.some.inj t0
  exact wq_ret1 rfl rfl fun w hw => ⟨rfl, hw.weak some_nil⟩

theorem c_impl_ListOk (w : World) (a_l : List Int) (v0a : Hd) (r0 : rdF w (dm w []) (sl v0a) a_l) {r : Bool} (t0 : impl_ListOk a_l = some r) : Calls Tryd.prog 49 #[(sl v0a)] w fun e w' => e = .returned (.bool r) ∧ SH w [] [] w' := by
  refine calls_of_wc (args := [_]) Tryd.func49 rfl Tryd.ntmps49 rfl ?_
  unfold impl_ListOk at t0
  refine wcr ?_
  refine asg rfl rfl ?_
  refine wnt ?_
  refine wc_seq ?_
  refine bdO t0 fun y1 t1 t0 => ?_
  refine wj (J := Bool) (X := Unit) (fun z => y1 = z) (fun z _ => [(2, .bool z)]) (fun _ _ => []) ?_ ?_
  · skip
    refine wc_region ?_
    refine mv rfl rfl ?_
    refine wl_pure (po_lenr (rds_arg r0) el_35 rfl) rfl ?_
    refine wl_pure (po_eql rfl rfl) rfl ?_
    refine mv rfl rfl ?_
    refine wlO_ (t := 6) t1 rfl (fun h1 t1 => ?_) fun h1 t1 => ?_
    · skip
      refine wl_guard_on (j := 3) rfl rfl rfl (mv rfl rfl ?_)
      refine bdO t1 fun v1 hv1 t1 => ?_
      refine wl_guard_on (j := 3) rfl rfl rfl (wl_call (co_c0 fa_61 rfl fun w hw => c_impl_allWithin w a_l v0a (Rg.on (rds_arg r0) hw) 0 5 hv1) rfl (fun _ => ?_))
      refine wl_pure (po_pick_t rfl rfl) rfl ?_
      refine asg rfl rfl ?_
      refine wl_nil ?_
      exact wj_meet _ () (mtE t1) (sub_cons rfl sub_nil) some_nil
    refine wl_guard_off (j := 3) rfl rfl rfl rfl rfl ?_
    refine wl_guard_off (j := 3) rfl rfl rfl rfl rfl ?_
    refine wl_pure (po_pick_f rfl rfl) rfl ?_
    refine asg rfl rfl ?_
    refine wl_nil ?_
    exact wj_meet _ () (mtE t1) (sub_cons rfl sub_nil) some_nil
  intro j1 _ hp
  obtain rfl : j1 = y1 := hp.symm
  refine wq_then ?_
  refine wc_ret ?_
  obtain rfl := Option.some.inj t0
  exact wq_ret1 rfl rfl fun w hw => ⟨rfl, hw.weak some_nil⟩

theorem c_impl_Block_copied (w : World) (a_b : GBlock) (v0a : Hd) (r0 : rdF w (dm w []) (sl v0a) a_b.Cells) {r : GBlock} (t0 : impl_Block_copied a_b = some r) : Calls Tryd.prog 50 #[.agg #[.int .i64 a_b.Size, (sl v0a)]] w fun e w' => ∃ x : Hd, e = .returned (.agg #[.int .i64 r.Size, (sl x)]) ∧ SH w [] [ownF (sl x) r.Cells] w' := by
  refine calls_of_wc (args := [_]) Tryd.func50 rfl Tryd.ntmps50 rfl ?_
  unfold impl_Block_copied at t0
  refine wcr ?_
  refine wl_eff (eo_box rfl rfl) rfl fun b1 => ?_
  refine wl_eff (eo_alloc (cs := [.int .i64 0, (sl (⟨none, 0, 0⟩ : Hd))]) za_29) rfl fun b2 => ?_
  refine wnt ?_
  refine wc_seq ?_
  refine wc_draw [box b2 [.int .i64 0, (sl (⟨none, 0, 0⟩ : Hd))], box b1 [.int .i64 a_b.Size, (sl v0a)]] 7 mixed ?_
  refine wa_pure 0 rfl (po_fld fo_29_0 rfl) (some_cons pick0 (some_cons pick0 some_nil)) rfl (by kernel_rfl) (fun _ _ _ h => h) ?_
  refine wa_pure (v := .int .i64 a_b.Size) 1 rfl (po_load_box tk_3 (pickS pick0) rfl rfl) (some_cons pick0 (some_cons pick0 some_nil)) rfl (by kernel_rfl) (fun _ _ _ h => h) ?_
  refine wa_pure 3 rfl (po_fld fo_29_1 rfl) (some_cons pick0 (some_cons pick0 some_nil)) rfl (by kernel_rfl) (fun _ _ _ h => h) ?_
  refine wa_pure (v := (sl v0a)) 4 rfl (po_load_box tk_27 (pickS pick0) rfl rfl) (some_cons pick0 (some_cons pick0 some_nil)) rfl (by kernel_rfl) (fun _ _ _ h => h) ?_
  refine wa_1 (i := 2) (by kernel_rfl) ?_
  refine ws_eff rfl (eo_buildSlice rfl sb_27_0) (fun _ => (sts_some (some_cons (pickS pick0) (some_cons (pickS pick0) some_nil)))) rfl fun b3 => ?_
  refine wa_1 (i := 5) (by kernel_rfl) ?_
  refine gdO t0 fun g1 t0 => ?_
  refine ws_eff rfl (eo_append (xs := ([] : List GCell)) (ys := a_b.Cells) ak_27 (pick_box_own pick0 (n := 0) (xs := ([] : List GCell)) rfl rfl (by unfold maxLen; omega)) rfl rfl (slin_rd fun _ g => Rg.on (rds_arg r0) g) g1) (fun _ => (sts_some (some_cons (pickS pick0) (some_cons (pickS pick0) some_nil)))) rfl fun x1 => ?_
  refine wa_pure 6 rfl (po_build rfl (bd_29_0_1 a_b.Size x1)) (some_cons (pickS pick0) (some_cons (pickS pick0) some_nil)) rfl (by kernel_rfl) (fun _ _ _ h => h) ?_
  refine wa_1 (i := 7) (by kernel_rfl) ?_
  refine ws_skipop rfl (so_box (cs' := [.int .i64 a_b.Size, (sl x1)]) tk_29 (pickS pick0) rfl rfl rfl rfl rfl rfl rfl) (sts_past (by kernel_rfl)) ?_
  refine wa_done (by kernel_rfl) ?_
  refine wq_then ?_
  refine wc_ret ?_
  obtain rfl := Option.some.inj t0
  exact wq_retc rfl tk_29 rfl pick0 rfl fun w hw => ⟨x1, rfl, hw.weak (some_cons (pickS pick0) some_nil)⟩

theorem c_impl_Block_isPlace (w : World) (a_b : GBlock) (v0a : Hd) (r0 : rdF w (dm w []) (sl v0a) a_b.Cells) (a_x : Int) (a_y : Int) {r : Bool} (t0 : impl_Block_isPlace a_b a_x a_y = some r) : Calls Tryd.prog 63 #[.agg #[.int .i64 a_b.Size, (sl v0a)], .int .i64 a_x, .int .i64 a_y] w fun e w' => e = .returned (.bool r) ∧ SH w [] [] w' := by
  refine calls_of_wc (args := [_, _, _]) Tryd.func63 rfl Tryd.ntmps63 rfl ?_
  unfold impl_Block_isPlace at t0
  refine wcr ?_
  refine wl_eff (eo_box rfl rfl) rfl fun b1 => ?_
  refine asg rfl rfl ?_
  refine wnt ?_
  refine wc_seq ?_
  refine bdO t0 fun y1 t1 t0 => ?_
  refine wj (J := Bool) (X := Unit) (fun z => y1 = z) (fun z _ => [(6, .bool z)]) (fun _ _ => []) ?_ ?_
  · skip
    refine wc_region ?_
    refine wl_pure (v := .agg #[.int .i64 a_b.Size, (sl v0a)]) (po_load_boxs tk_29 pick0 rfl rfl rfl) rfl ?_
    refine bdO t1 fun v1 hv1 t1 => ?_
    refine wl_call (co_c0 fa_17 rfl fun w hw => c_impl_BlockOk w a_b v0a (Rg.on (rds_arg r0) hw) hv1) rfl fun _ => ?_
    refine mv rfl rfl ?_
    refine wlO_ (t := 9) t1 rfl (fun h1 t1 => ?_) fun h1 t1 => ?_
    · skip
      refine wl_guard_on (j := 2) rfl rfl rfl (mv rfl rfl ?_)
      refine wl_guard_on (j := 2) rfl rfl rfl (wl_pure (po_fld fo_29_0 rfl) rfl ?_)
      refine wl_guard_on (j := 2) rfl rfl rfl (wl_pure (v := .int .i64 a_b.Size) (po_load_box tk_3 pick0 rfl rfl) rfl ?_)
      refine wl_guard_on (j := 2) rfl rfl rfl (wl_pure (po_sub rfl rfl) rfl ?_)
      refine bdO t1 fun v2 hv2 t1 => ?_
      refine wl_guard_on (j := 2) rfl rfl rfl (wl_call (co_c0 fa_32 rfl fun w hw => c_impl_within w a_x 0 (wr (a_b.Size - 1)) hv2) rfl (fun _ => ?_))
      refine wl_pure (po_pick_t rfl rfl) rfl ?_
      refine mv rfl rfl ?_
      refine wlO_ (t := 16) t1 rfl (fun h2 t1 => ?_) fun h2 t1 => ?_
      · skip
        refine wl_guard_on (j := 9) rfl rfl rfl (mv rfl rfl ?_)
        refine wl_guard_on (j := 9) rfl rfl rfl (wl_pure (po_fld fo_29_0 rfl) rfl ?_)
        refine wl_guard_on (j := 9) rfl rfl rfl (wl_pure (v := .int .i64 a_b.Size) (po_load_box tk_3 pick0 rfl rfl) rfl ?_)
        refine wl_guard_on (j := 9) rfl rfl rfl (wl_pure (po_sub rfl rfl) rfl ?_)
        refine bdO t1 fun v3 hv3 t1 => ?_
        refine wl_guard_on (j := 9) rfl rfl rfl (wl_call (co_c0 fa_32 rfl fun w hw => c_impl_within w a_y 0 (wr (a_b.Size - 1)) hv3) rfl (fun _ => ?_))
        refine wl_pure (po_pick_t rfl rfl) rfl ?_
        refine asg rfl rfl ?_
        refine wl_nil ?_
        exact wj_meet _ () (mtE t1) (sub_cons rfl sub_nil) some_nil
      refine wl_guard_off (j := 9) rfl rfl rfl rfl rfl ?_
      refine wl_guard_off (j := 9) rfl rfl rfl rfl rfl ?_
      refine wl_guard_off (j := 9) rfl rfl rfl rfl rfl ?_
      refine wl_guard_off (j := 9) rfl rfl rfl rfl rfl ?_
      refine wl_guard_off (j := 9) rfl rfl rfl rfl rfl ?_
      refine wl_pure (po_pick_f rfl rfl) rfl ?_
      refine asg rfl rfl ?_
      refine wl_nil ?_
      exact wj_meet _ () (mtE t1) (sub_cons rfl sub_nil) some_nil
    refine wl_guard_off (j := 2) rfl rfl rfl rfl rfl ?_
    refine wl_guard_off (j := 2) rfl rfl rfl rfl rfl ?_
    refine wl_guard_off (j := 2) rfl rfl rfl rfl rfl ?_
    refine wl_guard_off (j := 2) rfl rfl rfl rfl rfl ?_
    refine wl_guard_off (j := 2) rfl rfl rfl rfl rfl ?_
    refine wl_pure (po_pick_f rfl rfl) rfl ?_
    refine mv rfl rfl ?_
    refine wl_guard_off (j := 9) rfl rfl rfl rfl rfl ?_
    refine wl_guard_off (j := 9) rfl rfl rfl rfl rfl ?_
    refine wl_guard_off (j := 9) rfl rfl rfl rfl rfl ?_
    refine wl_guard_off (j := 9) rfl rfl rfl rfl rfl ?_
    refine wl_guard_off (j := 9) rfl rfl rfl rfl rfl ?_
    refine wl_pure (po_pick_f rfl rfl) rfl ?_
    refine asg rfl rfl ?_
    refine wl_nil ?_
    exact wj_meet _ () (mtE t1) (sub_cons rfl sub_nil) some_nil
  intro j1 _ hp
  obtain rfl : j1 = y1 := hp.symm
  refine wq_then ?_
  refine wc_ret ?_
  obtain rfl := Option.some.inj t0
  exact wq_ret1 rfl rfl fun w hw => ⟨rfl, hw.weak some_nil⟩

theorem c_impl_CellAt (w : World) (a_b : GBlock) (v0a : Hd) (r0 : rdF w (dm w []) (sl v0a) a_b.Cells) (a_x : Int) (a_y : Int) {r : GCell} (t0 : impl_CellAt a_b a_x a_y = some r) : Calls Tryd.prog 54 #[.agg #[.int .i64 a_b.Size, (sl v0a)], .int .i64 a_x, .int .i64 a_y] w fun e w' => e = .returned (.agg #[.int .i64 r.Split, .int .i64 r.A, .int .i64 r.B]) ∧ SH w [] [] w' := by
  refine calls_of_wc (args := [_, _, _]) Tryd.func54 rfl Tryd.ntmps54 rfl ?_
  unfold impl_CellAt at t0
  refine wcr ?_
  refine wl_eff (eo_box rfl rfl) rfl fun b1 => ?_
  refine wl_eff (eo_alloc (cs := [.int .i64 0, .int .i64 0, .int .i64 0]) za_49) rfl fun b2 => ?_
  refine wnt ?_
  refine wc_seq ?_
  refine wcr ?_
  refine wl_pure (v := .agg #[.int .i64 a_b.Size, (sl v0a)]) (po_load_boxs tk_29 (pickS pick0) rfl rfl rfl) rfl ?_
  refine mv rfl rfl ?_
  refine mv rfl rfl ?_
  refine bdO t0 fun v1 hv1 t0 => ?_
  refine wl_call (co_c0 fa_63 rfl fun w hw => c_impl_Block_isPlace w a_b v0a (Rg.on (rds_arg r0) hw) a_x a_y hv1) rfl fun _ => ?_
  refine wl_pure (po_not rfl) rfl ?_
  refine wnt ?_
  refine wcO t0 rfl (fun h1 t0 => ?_) fun h1 t0 => ?_
  · skip
    refine wcr ?_
    refine wl_pure (po_build rfl bd_49) rfl ?_
    refine wl_skipop (so_box (cs' := [.int .i64 0, .int .i64 0, .int .i64 0]) tk_49 pick0 rfl rfl rfl rfl rfl rfl rfl) ?_
    refine wnt ?_
    refine wc_ret ?_
    refine wq_then_ret ?_
    obtain rfl := Option.some.inj t0
    exact wq_retc rfl tk_49 rfl pick0 rfl fun w hw => ⟨rfl, hw.weak some_nil⟩
  refine wc_skip ?_
  refine wq_then ?_
  refine wcr ?_
  refine wl_pure (po_fld fo_29_1 rfl) rfl ?_
  refine wl_pure (v := (sl v0a)) (po_load_box tk_27 (pickS pick0) rfl rfl) rfl ?_
  refine mv rfl rfl ?_
  refine wl_pure (po_fld fo_29_0 rfl) rfl ?_
  refine wl_pure (v := .int .i64 a_b.Size) (po_load_box tk_3 (pickS pick0) rfl rfl) rfl ?_
  refine wl_pure (po_mul rfl rfl) rfl ?_
  refine mv rfl rfl ?_
  refine wl_pure (po_add rfl rfl) rfl ?_
  refine gdO t0 fun g1 t0 => ?_
  refine wl_pure (po_ixr (rds_arg r0) el_27 rfl rfl g1.1 g1.2) rfl ?_
  refine wl_pure (v := .agg #[.int .i64 ((gx a_b.Cells (((wr ((wr (a_y * a_b.Size)) + a_x))).toNat)).Split), .int .i64 ((gx a_b.Cells (((wr ((wr (a_y * a_b.Size)) + a_x))).toNat)).A), .int .i64 ((gx a_b.Cells (((wr ((wr (a_y * a_b.Size)) + a_x))).toNat)).B)]) (po_ldfs (rds_arg r0) tk_49 rfl (ix_lt g1) rfl rfl rfl) rfl ?_
  refine wl_skipop (so_box (cs' := [.int .i64 ((gx a_b.Cells (((wr ((wr (a_y * a_b.Size)) + a_x))).toNat)).Split), .int .i64 ((gx a_b.Cells (((wr ((wr (a_y * a_b.Size)) + a_x))).toNat)).A), .int .i64 ((gx a_b.Cells (((wr ((wr (a_y * a_b.Size)) + a_x))).toNat)).B)]) tk_49 pick0 rfl rfl rfl rfl rfl rfl rfl) ?_
  refine wnt ?_
  refine wc_ret ?_
  obtain rfl := Option.some.inj t0
  exact wq_retc rfl tk_49 rfl pick0 rfl fun w hw => ⟨rfl, hw.weak some_nil⟩

theorem c_impl_WholeCell (w : World) (a_a : Int) {r : GCell} (t0 : impl_WholeCell a_a = some r) : Calls Tryd.prog 68 #[.int .i64 a_a] w fun e w' => e = .returned (.agg #[.int .i64 r.Split, .int .i64 r.A, .int .i64 r.B]) ∧ SH w [] [] w' := by
  refine calls_of_wc (args := [_]) Tryd.func68 rfl Tryd.ntmps68 rfl ?_
  unfold impl_WholeCell at t0
  refine wcr ?_
  refine wl_eff (eo_alloc (cs := [.int .i64 0, .int .i64 0, .int .i64 0]) za_49) rfl fun b1 => ?_
  refine wnt ?_
  refine wc_seq ?_
  refine wcr ?_
  refine mv rfl rfl ?_
  refine bdO t0 fun v1 hv1 t0 => ?_
  refine wl_call (co_c0 fa_47 rfl fun w hw => c_impl_isColor w a_a hv1) rfl fun _ => ?_
  refine wl_pure (po_not rfl) rfl ?_
  refine wnt ?_
  refine wcO t0 rfl (fun h1 t0 => ?_) fun h1 t0 => ?_
  · skip
    refine wcr ?_
    refine wl_pure (po_build rfl bd_49) rfl ?_
    refine wl_skipop (so_box (cs' := [.int .i64 0, .int .i64 0, .int .i64 0]) tk_49 pick0 rfl rfl rfl rfl rfl rfl rfl) ?_
    refine wnt ?_
    refine wc_ret ?_
    refine wq_then_ret ?_
    obtain rfl := Option.some.inj t0
    exact wq_retc rfl tk_49 rfl pick0 rfl fun w hw => ⟨rfl, hw.weak some_nil⟩
  refine wc_skip ?_
  refine wq_then ?_
  refine wcr ?_
  refine mv rfl rfl ?_
  refine mv rfl rfl ?_
  refine wl_pure (po_build rfl (bd_49_1_2 a_a a_a)) rfl ?_
  refine wl_skipop (so_box (cs' := [.int .i64 0, .int .i64 a_a, .int .i64 a_a]) tk_49 pick0 rfl rfl rfl rfl rfl rfl rfl) ?_
  refine wnt ?_
  refine wc_ret ?_
  obtain rfl := Option.some.inj t0
  exact wq_retc rfl tk_49 rfl pick0 rfl fun w hw => ⟨rfl, hw.weak some_nil⟩

theorem c_impl_SplitCell (w : World) (a_split : Int) (a_a : Int) (a_b : Int) {r : GCell} (t0 : impl_SplitCell a_split a_a a_b = some r) : Calls Tryd.prog 62 #[.int .i64 a_split, .int .i64 a_a, .int .i64 a_b] w fun e w' => e = .returned (.agg #[.int .i64 r.Split, .int .i64 r.A, .int .i64 r.B]) ∧ SH w [] [] w' := by
  refine calls_of_wc (args := [_, _, _]) Tryd.func62 rfl Tryd.ntmps62 rfl ?_
  unfold impl_SplitCell at t0
  refine wcr ?_
  refine wl_eff (eo_alloc (cs := [.int .i64 0, .int .i64 0, .int .i64 0]) za_49) rfl fun b1 => ?_
  refine wnt ?_
  refine wc_seq ?_
  refine wcr ?_
  refine mv rfl rfl ?_
  refine mv rfl rfl ?_
  refine wl_pure (po_eql rfl rfl) rfl ?_
  refine wnt ?_
  refine wcO t0 rfl (fun h1 t0 => ?_) fun h1 t0 => ?_
  · skip
    refine wcr ?_
    refine mv rfl rfl ?_
    refine bdO t0 fun v1 hv1 t0 => ?_
    refine wl_call (co_c0 fa_68 rfl fun w hw => c_impl_WholeCell w a_a hv1) rfl fun _ => ?_
    refine wl_skipop (so_box (cs' := [.int .i64 v1.Split, .int .i64 v1.A, .int .i64 v1.B]) tk_49 pick0 rfl rfl rfl rfl rfl rfl rfl) ?_
    refine wnt ?_
    refine wc_ret ?_
    refine wq_then_ret ?_
    obtain rfl := Option.some.inj t0
    exact wq_retc rfl tk_49 rfl pick0 rfl fun w hw => ⟨rfl, hw.weak some_nil⟩
  refine wc_skip ?_
  refine wq_then ?_
  refine wcr ?_
  refine mv rfl rfl ?_
  refine mv rfl rfl ?_
  refine mv rfl rfl ?_
  refine wl_pure (po_build rfl (bd_49_0_1_2 a_split a_a a_b)) rfl ?_
  refine wl_eff (eo_alloc (cs := [.int .i64 0, .int .i64 0, .int .i64 0]) za_49) rfl fun b2 => ?_
  refine wl_skipop (so_box (cs' := [.int .i64 a_split, .int .i64 a_a, .int .i64 a_b]) tk_49 pick0 rfl rfl rfl rfl rfl rfl rfl) ?_
  refine wnt ?_
  refine wc_seq ?_
  refine wcr ?_
  refine wl_pure (v := .agg #[.int .i64 a_split, .int .i64 a_a, .int .i64 a_b]) (po_load_boxs tk_49 pick0 rfl rfl rfl) rfl ?_
  refine bdO t0 fun v2 hv2 t0 => ?_
  refine wl_call (co_c0 fa_33 rfl fun w hw => c_impl_CellOk w (GCell.mk a_split a_a a_b) hv2) rfl fun _ => ?_
  refine wl_pure (po_not rfl) rfl ?_
  refine wnt ?_
  refine wcO t0 rfl (fun h2 t0 => ?_) fun h2 t0 => ?_
  · skip
    refine wcr ?_
    refine wl_pure (po_build rfl bd_49) rfl ?_
    refine wl_skipop (so_box (cs' := [.int .i64 0, .int .i64 0, .int .i64 0]) tk_49 (pickS pick0) rfl rfl rfl rfl rfl rfl rfl) ?_
    refine wnt ?_
    refine wc_ret ?_
    refine wq_then_ret ?_
    obtain rfl := Option.some.inj t0
    exact wq_retc rfl tk_49 rfl pick0 rfl fun w hw => ⟨rfl, hw.weak some_nil⟩
  refine wc_skip ?_
  refine wq_then ?_
  refine wcr ?_
  refine wl_pure (v := .agg #[.int .i64 a_split, .int .i64 a_a, .int .i64 a_b]) (po_load_boxs tk_49 pick0 rfl rfl rfl) rfl ?_
  refine wl_skipop (so_box (cs' := [.int .i64 a_split, .int .i64 a_a, .int .i64 a_b]) tk_49 (pickS pick0) rfl rfl rfl rfl rfl rfl rfl) ?_
  refine wnt ?_
  refine wc_ret ?_
  obtain rfl := Option.some.inj t0
  exact wq_retc rfl tk_49 rfl pick0 rfl fun w hw => ⟨rfl, hw.weak some_nil⟩

theorem c_impl_ExchangeCell (w : World) (a_c : GCell) (a_l : List Int) (v0a : Hd) (r0 : rdF w (dm w []) (sl v0a) a_l) {r : GCell} (t0 : impl_ExchangeCell a_c a_l = some r) : Calls Tryd.prog 53 #[.agg #[.int .i64 a_c.Split, .int .i64 a_c.A, .int .i64 a_c.B], (sl v0a)] w fun e w' => e = .returned (.agg #[.int .i64 r.Split, .int .i64 r.A, .int .i64 r.B]) ∧ SH w [] [] w' := by
  refine calls_of_wc (args := [_, _]) Tryd.func53 rfl Tryd.ntmps53 rfl ?_
  unfold impl_ExchangeCell at t0
  refine wcr ?_
  refine wl_eff (eo_box rfl rfl) rfl fun b1 => ?_
  refine wl_eff (eo_alloc (cs := [.int .i64 0, .int .i64 0, .int .i64 0]) za_49) rfl fun b2 => ?_
  refine wnt ?_
  refine wc_seq ?_
  refine wc_seq ?_
  refine bdO t0 fun y1 t1 t0 => ?_
  refine wj (J := Bool) (X := Unit) (fun z => y1 = z) (fun z _ => [(1, (sl v0a)), (2, ptr b1 0), (4, ptr b2 0), (12, .bool z)]) (fun _ _ => [box b2 [.int .i64 0, .int .i64 0, .int .i64 0], box b1 [.int .i64 a_c.Split, .int .i64 a_c.A, .int .i64 a_c.B]]) ?_ ?_
  · skip
    refine wc_region ?_
    refine wl_pure (v := .agg #[.int .i64 a_c.Split, .int .i64 a_c.A, .int .i64 a_c.B]) (po_load_boxs tk_49 (pickS pick0) rfl rfl rfl) rfl ?_
    refine bdO t1 fun v1 hv1 t1 => ?_
    refine wl_call (co_c0 fa_33 rfl fun w hw => c_impl_CellOk w a_c hv1) rfl fun _ => ?_
    refine wl_pure (po_not rfl) rfl ?_
    refine mv rfl rfl ?_
    refine wlO_ (t := 8) t1 rfl (fun h1 t1 => ?_) fun h1 t1 => ?_
    · skip
      refine wl_guard_off (j := 3) rfl rfl rfl rfl rfl ?_
      refine wl_guard_off (j := 3) rfl rfl rfl rfl rfl ?_
      refine wl_guard_off (j := 3) rfl rfl rfl rfl rfl ?_
      refine wl_pure (po_pick_t rfl rfl) rfl ?_
      refine wl_nil ?_
      exact wj_meet _ () (mtE t1) (sub_cons rfl (sub_cons rfl (sub_cons rfl (sub_cons rfl sub_nil)))) (some_cons pick0 (some_cons pick0 some_nil))
    refine wl_guard_on (j := 3) rfl rfl rfl (mv rfl rfl ?_)
    refine bdO t1 fun v2 hv2 t1 => ?_
    refine wl_guard_on (j := 3) rfl rfl rfl (wl_call (co_c0 fa_49 rfl fun w hw => c_impl_ListOk w a_l v0a (Rg.on (rds_arg r0) hw) hv2) rfl (fun _ => ?_))
    refine wl_guard_on (j := 3) rfl rfl rfl (wl_pure (po_not rfl) rfl ?_)
    refine wl_pure (po_pick_f rfl rfl) rfl ?_
    refine wl_nil ?_
    exact wj_meet _ () (mtE t1) (sub_cons rfl (sub_cons rfl (sub_cons rfl (sub_cons rfl sub_nil)))) (some_cons pick0 (some_cons pick0 some_nil))
  intro j1 _ hp
  obtain rfl : j1 = y1 := hp.symm
  refine wq_then ?_
  refine wcO t0 rfl (fun h2 t0 => ?_) fun h2 t0 => ?_
  · skip
    refine wcr ?_
    refine wl_pure (po_build rfl bd_49) rfl ?_
    refine wl_skipop (so_box (cs' := [.int .i64 0, .int .i64 0, .int .i64 0]) tk_49 pick0 rfl rfl rfl rfl rfl rfl rfl) ?_
    refine wnt ?_
    refine wc_ret ?_
    refine wq_then_ret ?_
    obtain rfl := Option.some.inj t0
    exact wq_retc rfl tk_49 rfl pick0 rfl fun w hw => ⟨rfl, hw.weak some_nil⟩
  refine wc_skip ?_
  refine wq_then ?_
  refine wc_seq ?_
  refine wc_draw [box b2 [.int .i64 0, .int .i64 0, .int .i64 0], box b1 [.int .i64 a_c.Split, .int .i64 a_c.A, .int .i64 a_c.B]] 13 mixed ?_
  refine wa_pure 0 rfl (po_fld fo_49_0 rfl) (some_cons pick0 (some_cons pick0 some_nil)) rfl (by kernel_rfl) (fun _ _ _ h => h) ?_
  refine wa_pure (v := .int .i64 a_c.Split) 1 rfl (po_load_box tk_3 (pickS pick0) rfl rfl) (some_cons pick0 (some_cons pick0 some_nil)) rfl (by kernel_rfl) (fun _ _ _ h => h) ?_
  refine wa_pure 2 rfl (po_move rfl) (some_cons pick0 (some_cons pick0 some_nil)) rfl (by kernel_rfl) (fun _ _ _ h => h) ?_
  refine wa_pure 3 rfl (po_fld fo_49_1 rfl) (some_cons pick0 (some_cons pick0 some_nil)) rfl (by kernel_rfl) (fun _ _ _ h => h) ?_
  refine wa_pure (v := .int .i64 a_c.A) 4 rfl (po_load_box tk_3 (pickS pick0) rfl rfl) (some_cons pick0 (some_cons pick0 some_nil)) rfl (by kernel_rfl) (fun _ _ _ h => h) ?_
  refine gdO t0 fun g1 t0 => ?_
  refine wa_pure 5 rfl (po_ixr (rds_arg r0) el_35 rfl rfl g1.1 g1.2) (some_cons pick0 (some_cons pick0 some_nil)) rfl (by kernel_rfl) (fun _ _ _ h => h) ?_
  refine wa_pure (v := .int .i64 (gx a_l ((a_c.A).toNat))) 6 rfl (po_ldf (rds_arg r0) tk_3 rfl (ix_lt g1) rfl) (some_cons pick0 (some_cons pick0 some_nil)) rfl (by kernel_rfl) (fun _ _ _ h => h) ?_
  refine wa_pure 7 rfl (po_move rfl) (some_cons pick0 (some_cons pick0 some_nil)) rfl (by kernel_rfl) (fun _ _ _ h => h) ?_
  refine wa_pure 8 rfl (po_fld fo_49_2 rfl) (some_cons pick0 (some_cons pick0 some_nil)) rfl (by kernel_rfl) (fun _ _ _ h => h) ?_
  refine wa_pure (v := .int .i64 a_c.B) 9 rfl (po_load_box tk_3 (pickS pick0) rfl rfl) (some_cons pick0 (some_cons pick0 some_nil)) rfl (by kernel_rfl) (fun _ _ _ h => h) ?_
  refine gdO t0 fun g2 t0 => ?_
  refine wa_pure 10 rfl (po_ixr (rds_arg r0) el_35 rfl rfl g2.1 g2.2) (some_cons pick0 (some_cons pick0 some_nil)) rfl (by kernel_rfl) (fun _ _ _ h => h) ?_
  refine wa_pure (v := .int .i64 (gx a_l ((a_c.B).toNat))) 11 rfl (po_ldf (rds_arg r0) tk_3 rfl (ix_lt g2) rfl) (some_cons pick0 (some_cons pick0 some_nil)) rfl (by kernel_rfl) (fun _ _ _ h => h) ?_
  refine wa_1 (i := 12) (by kernel_rfl) ?_
  refine bdO t0 fun v3 hv3 t0 => ?_
  refine ws_call rfl (co_c0 fa_62 rfl fun w hw => c_impl_SplitCell w a_c.Split (gx a_l ((a_c.A).toNat)) (gx a_l ((a_c.B).toNat)) hv3) (fun _ => (sts_some (some_cons pick0 (some_cons pick0 some_nil)))) rfl fun _ => ?_
  refine wa_1 (i := 13) (by kernel_rfl) ?_
  refine ws_skipop rfl (so_box (cs' := [.int .i64 v3.Split, .int .i64 v3.A, .int .i64 v3.B]) tk_49 pick0 rfl rfl rfl rfl rfl rfl rfl) (sts_past (by kernel_rfl)) ?_
  refine wa_done (by kernel_rfl) ?_
  refine wq_then ?_
  refine wc_ret ?_
  obtain rfl := Option.some.inj t0
  exact wq_retc rfl tk_49 rfl pick0 rfl fun w hw => ⟨rfl, hw.weak some_nil⟩

theorem c_impl_ExchangeBlock_c1 (w : World) (a_x : Int) (a_y : Int) (c_p2 : GBlock) (v0a : Hd) (r0 : rdF w (dm w []) (sl v0a) c_p2.Cells) (b2c : Nat) (q2 : Bx w b2c [.int .i64 c_p2.Size, (sl v0a)]) (c_p3 : List Int) (v1a : Hd) (r1 : rdF w (dm w []) (sl v1a) c_p3) (b3c : Nat) (q3 : Bx w b3c [(sl v1a)]) {r : GCell} (t0 : impl_ExchangeBlock_c1 a_x a_y c_p2 c_p3 = some r) : Calls Tryd.prog 52 #[.int .i64 a_x, .int .i64 a_y, ptr b2c 0, ptr b3c 0] w fun e w' => e = .returned (.agg #[.int .i64 r.Split, .int .i64 r.A, .int .i64 r.B]) ∧ SH w [] [] w' := by
  refine calls_of_wc (args := [_, _, _, _]) Tryd.func52 rfl Tryd.ntmps52 rfl ?_
  unfold impl_ExchangeBlock_c1 at t0
  refine wcr ?_
  refine wl_eff (eo_alloc (cs := [.int .i64 0, .int .i64 0, .int .i64 0]) za_49) rfl fun b1 => ?_
  refine wnt ?_
  refine wc_seq ?_
  refine wc_draw [box b1 [.int .i64 0, .int .i64 0, .int .i64 0]] 6 mixed ?_
  refine wa_pure (v := .agg #[.int .i64 c_p2.Size, (sl v0a)]) 0 rfl (po_load_aboxs q2 tk_29 rfl rfl rfl) (some_cons pick0 some_nil) rfl (by kernel_rfl) (fun _ _ _ h => h) ?_
  refine wa_pure 1 rfl (po_move rfl) (some_cons pick0 some_nil) rfl (by kernel_rfl) (fun _ _ _ h => h) ?_
  refine wa_pure 2 rfl (po_move rfl) (some_cons pick0 some_nil) rfl (by kernel_rfl) (fun _ _ _ h => h) ?_
  refine wa_pure (v := (sl v1a)) 4 rfl (po_load_abox q3 tk_35 rfl rfl) (some_cons pick0 some_nil) rfl (by kernel_rfl) (fun _ _ _ h => h) ?_
  refine wa_1 (i := 3) (by kernel_rfl) ?_
  refine bdO t0 fun v1 hv1 t0 => ?_
  refine ws_call rfl (co_c0 fa_54 rfl fun w hw => c_impl_CellAt w c_p2 v0a (Rg.on (rds_arg r0) hw) a_x a_y hv1) (fun _ => (sts_some (some_cons pick0 some_nil))) rfl fun _ => ?_
  refine wa_1 (i := 5) (by kernel_rfl) ?_
  refine bdO t0 fun v2 hv2 t0 => ?_
  refine ws_call rfl (co_c0 fa_53 rfl fun w hw => c_impl_ExchangeCell w v1 c_p3 v1a (Rg.on (rds_arg r1) hw) hv2) (fun _ => (sts_some (some_cons pick0 some_nil))) rfl fun _ => ?_
  refine wa_1 (i := 6) (by kernel_rfl) ?_
  refine ws_skipop rfl (so_box (cs' := [.int .i64 v2.Split, .int .i64 v2.A, .int .i64 v2.B]) tk_49 pick0 rfl rfl rfl rfl rfl rfl rfl) (sts_past (by kernel_rfl)) ?_
  refine wa_done (by kernel_rfl) ?_
  refine wq_then ?_
  refine wc_ret ?_
  obtain rfl := Option.some.inj t0
  exact wq_retc rfl tk_49 rfl pick0 rfl fun w hw => ⟨rfl, hw.weak some_nil⟩

theorem c_impl_made (w : World) (a_size : Int) (a_one : Int → Int → Option GCell) (f1 : Nat) (us1 : List Value) (fn1 : FnAt Tryd.prog f1) (hg1 : ∀ (w' : World) (z0 : Int) (z1 : Int) (_ : Keep [] w w') (z : GCell) (_ : a_one z0 z1 = some z), Calls Tryd.prog f1 (([.int .i64 z0, .int .i64 z1] : List Value) ++ us1).toArray w' fun e w'' => e = .returned (.agg #[.int .i64 z.Split, .int .i64 z.A, .int .i64 z.B]) ∧ SH w' [] [] w'') {r : GBlock} (t0 : impl_made a_size a_one = some r) : Calls Tryd.prog 51 #[.int .i64 a_size, .func (.func f1) #[] us1.toArray] w fun e w' => ∃ x : Hd, e = .returned (.agg #[.int .i64 r.Size, (sl x)]) ∧ SH w [] [ownF (sl x) r.Cells] w' := by
  refine calls_of_wc (args := [_, _]) Tryd.func51 rfl Tryd.ntmps51 rfl ?_
  unfold impl_made at t0
  refine wcr ?_
  refine wl_eff (eo_alloc (cs := [.int .i64 0, (sl (⟨none, 0, 0⟩ : Hd))]) za_29) rfl fun b1 => ?_
  refine wnt ?_
  refine wcr ?_
  refine mv rfl rfl ?_
  refine wl_pure (po_build rfl (bd_29_0 a_size)) rfl ?_
  refine wl_eff (eo_alloc (cs := [.int .i64 0, (sl (⟨none, 0, 0⟩ : Hd))]) za_29) rfl fun b2 => ?_
  refine wl_skipop (so_box (cs' := [.int .i64 a_size, (sl (⟨none, 0, 0⟩ : Hd))]) tk_29 pick0 rfl rfl rfl rfl rfl rfl rfl) ?_
  refine wnt ?_
  refine wc_seq ?_
  refine wcr ?_
  refine mv rfl rfl ?_
  refine mv rfl rfl ?_
  refine wnt ?_
  refine gdO t0 fun g1 t0 => ?_
  refine lpO_inv t0 fun y1 l1 t0 => ?_
  refine wj (J := List GCell) (X := Hd) (fun z => y1 = z) (fun _ _ => [(4, ptr b1 0), (5, ptr b2 0)]) (fun z x => [box b2 [.int .i64 a_size, (sl x)], box b1 [.int .i64 0, (sl (⟨none, 0, 0⟩ : Hd))], ownF (sl x) z]) ?_ ?_
  · skip
    refine wc_block ?_
    refine wc_forO (X := Hd) l1 (fun k1 s1 x1l => [(0, .int .i64 a_size), (1, .func (.func f1) #[] us1.toArray), (4, ptr b1 0), (5, ptr b2 0), (10, .int .i64 a_size), (11, .int .i64 ((k1 : Nat) : Int))]) (fun k1 s1 x1l => [box b2 [.int .i64 a_size, (sl x1l)], box b1 [.int .i64 0, (sl (⟨none, 0, 0⟩ : Hd))], ownF (sl x1l) s1]) (⟨none, 0, 0⟩ : Hd) (sub_cons rfl (sub_cons rfl (sub_cons rfl (sub_cons rfl (sub_cons rfl (sub_cons rfl sub_nil)))))) (some_cons pick0 (some_cons pick0 (some_cons pick_nil some_nil))) fun k1 s1 x1l hN1 l1 => ?_
    by_cases hk1 : k1 < (a_size).toNat
    · skip
      refine forO_step l1 hk1 fun _ t1 l1 => ?_
      unfold impl_made_L1 at t1
      have c1 : (decide (((k1 : Nat) : Int) < a_size)) = true := decide_eq_true (by omega)
      refine wcr ?_
      refine wl_pure (po_lss rfl rfl) rfl ?_
      refine wnt ?_
      refine wc_seq ?_
      refine wc_cond_t rfl c1 ?_
      refine wc_skip ?_
      refine wq_then ?_
      refine wc_seq ?_
      refine wc_block ?_
      refine wcr ?_
      refine mv rfl rfl ?_
      refine asg rfl rfl ?_
      refine wnt ?_
      refine wcr ?_
      refine mv rfl rfl ?_
      refine mv rfl rfl ?_
      refine wnt ?_
      refine lpO_inv t1 fun y2 l2 t1 => ?_
      refine wj (J := List GCell) (X := Hd) (fun z => y2 = z) (fun _ _ => [(0, .int .i64 a_size), (1, .func (.func f1) #[] us1.toArray), (4, ptr b1 0), (5, ptr b2 0), (10, .int .i64 a_size), (11, .int .i64 ((k1 : Nat) : Int))]) (fun z x => [box b2 [.int .i64 a_size, (sl x)], box b1 [.int .i64 0, (sl (⟨none, 0, 0⟩ : Hd))], ownF (sl x) z]) ?_ ?_
      · skip
        refine wc_block ?_
        refine wc_forO (X := Hd) l2 (fun k2 s2 x2l => [(0, .int .i64 a_size), (1, .func (.func f1) #[] us1.toArray), (4, ptr b1 0), (5, ptr b2 0), (6, .int .i64 ((k1 : Nat) : Int)), (10, .int .i64 a_size), (11, .int .i64 ((k1 : Nat) : Int)), (14, .int .i64 a_size), (15, .int .i64 ((k2 : Nat) : Int))]) (fun k2 s2 x2l => [box b2 [.int .i64 a_size, (sl x2l)], box b1 [.int .i64 0, (sl (⟨none, 0, 0⟩ : Hd))], ownF (sl x2l) s2]) x1l (sub_cons rfl (sub_cons rfl (sub_cons rfl (sub_cons rfl (sub_cons rfl (sub_cons rfl (sub_cons rfl (sub_cons rfl (sub_cons rfl sub_nil))))))))) (some_cons pick0 (some_cons pick0 (some_cons pick0 some_nil))) fun k2 s2 x2l hN2 l2 => ?_
        by_cases hk2 : k2 < (a_size).toNat
        · skip
          refine forO_step l2 hk2 fun _ t2 l2 => ?_
          unfold impl_made_L2 at t2
          have c2 : (decide (((k2 : Nat) : Int) < a_size)) = true := decide_eq_true (by omega)
          refine wcr ?_
          refine wl_pure (po_lss rfl rfl) rfl ?_
          refine wnt ?_
          refine wc_seq ?_
          refine wc_cond_t rfl c2 ?_
          refine wc_skip ?_
          refine wq_then ?_
          refine wc_seq ?_
          refine wc_block ?_
          refine wcr ?_
          refine mv rfl rfl ?_
          refine asg rfl rfl ?_
          refine wnt ?_
          refine wc_draw [box b2 [.int .i64 a_size, (sl x2l)], box b1 [.int .i64 0, (sl (⟨none, 0, 0⟩ : Hd))]] 9 mixed ?_
          refine wa_pure 0 rfl (po_fld fo_29_1 rfl) (some_cons pick0 (some_cons pick0 some_nil)) rfl (by kernel_rfl) (fun _ _ _ h => h) ?_
          refine wa_pure (v := (sl x2l)) 1 rfl (po_load_box tk_27 pick0 rfl rfl) (some_cons pick0 (some_cons pick0 some_nil)) rfl (by kernel_rfl) (fun _ _ _ h => h) ?_
          refine wa_pure 2 rfl (po_move rfl) (some_cons pick0 (some_cons pick0 some_nil)) rfl (by kernel_rfl) (fun _ _ _ h => h) ?_
          refine wa_pure 3 rfl (po_move rfl) (some_cons pick0 (some_cons pick0 some_nil)) rfl (by kernel_rfl) (fun _ _ _ h => h) ?_
          refine wa_pure 4 rfl (po_move rfl) (some_cons pick0 (some_cons pick0 some_nil)) rfl (by kernel_rfl) (fun _ _ _ h => h) ?_
          refine wa_1 (i := 5) (by kernel_rfl) ?_
          refine bdO t2 fun v1 hv1 t2 => ?_
          refine ws_call rfl (co_d fn1 rfl rfl fun w hw => hg1 w ((k2 : Nat) : Int) ((k1 : Nat) : Int) hw.keep _ hv1) (fun _ => (sts_some (some_cons pick0 (some_cons pick0 some_nil)))) rfl fun _ => ?_
          refine wa_1 (i := 6) (by kernel_rfl) ?_
          refine ws_eff rfl (eo_buildSlice rfl (sb_27_1 v1.Split v1.A v1.B)) (fun _ => (sts_some (some_cons (pickS pick0) (some_cons (pickS pick0) some_nil)))) rfl fun b3 => ?_
          refine wa_1 (i := 7) (by kernel_rfl) ?_
          refine gdO t2 fun g2 t2 => ?_
          refine ws_eff rfl (eo_append (xs := s2) (ys := ([v1] : List GCell)) ak_27 (pickS (pickS (pickS pick0))) rfl rfl (slin_rd fun _ g => Rg.on (rds_own (pick_box_own pick0 (n := 1) (xs := ([v1] : List GCell)) rfl rfl (by unfold maxLen; omega))) g) g2) (fun _ => (sts_some (some_cons (pickS (pickS pick0)) (some_cons (pickS (pickS pick0)) some_nil)))) rfl fun x3 => ?_
          refine wa_pure 8 rfl (po_fld fo_29_1 rfl) (some_cons (pickS (pickS pick0)) (some_cons (pickS (pickS pick0)) some_nil)) rfl (by kernel_rfl) (fun _ _ _ h => h) ?_
          refine wa_1 (i := 9) (by kernel_rfl) ?_
          refine ws_skipop rfl (so_box (cs' := [.int .i64 a_size, (sl x3)]) tk_27 (pickS (pickS pick0)) rfl rfl rfl rfl rfl rfl rfl) (sts_past (by kernel_rfl)) ?_
          refine wa_done (by kernel_rfl) ?_
          refine wq_block ?_
          refine wq_then ?_
          refine wc_region ?_
          refine wl_pure (po_inc rfl rfl (by omega)) rfl ?_
          refine mv rfl rfl ?_
          refine wl_nil ?_
          exact wq_rnd hk2 (stpN l2 t2) x3 (sub_cons rfl (sub_cons rfl (sub_cons rfl (sub_cons rfl (sub_cons rfl (sub_cons rfl (sub_cons rfl (sub_cons rfl (sub_cons rfl sub_nil))))))))) (some_cons pick0 (some_cons (pickS (pickS pick0)) (some_cons pick0 some_nil)))
        have c2 : (decide (((k2 : Nat) : Int) < a_size)) = false := decide_eq_false (by omega)
        have en1 := forO_end l2 hk2
        refine wcr ?_
        refine wl_pure (po_lss rfl rfl) rfl ?_
        refine wnt ?_
        refine wc_seq ?_
        refine wc_cond_f rfl c2 ?_
        refine wc_exit ?_
        refine wq_then_exit ?_
        refine wq_then_exit ?_
        refine wq_block_exit ?_
        exact wj_meet _ x2l (Sum.inl.inj en1) (sub_cons rfl (sub_cons rfl (sub_cons rfl (sub_cons rfl (sub_cons rfl (sub_cons rfl sub_nil)))))) (some_cons pick0 (some_cons pick0 (some_cons pick0 some_nil)))
      intro e2 x2 hp
      obtain rfl : e2 = y2 := hp.symm
      refine wq_block ?_
      refine wq_then ?_
      refine wc_region ?_
      refine wl_pure (po_inc rfl rfl (by omega)) rfl ?_
      refine mv rfl rfl ?_
      refine wl_nil ?_
      exact wq_rnd hk1 (stpN l1 t1) x2 (sub_cons rfl (sub_cons rfl (sub_cons rfl (sub_cons rfl (sub_cons rfl (sub_cons rfl sub_nil)))))) (some_cons pick0 (some_cons pick0 (some_cons pick0 some_nil)))
    have c1 : (decide (((k1 : Nat) : Int) < a_size)) = false := decide_eq_false (by omega)
    have en2 := forO_end l1 hk1
    refine wcr ?_
    refine wl_pure (po_lss rfl rfl) rfl ?_
    refine wnt ?_
    refine wc_seq ?_
    refine wc_cond_f rfl c1 ?_
    refine wc_exit ?_
    refine wq_then_exit ?_
    refine wq_then_exit ?_
    refine wq_block_exit ?_
    exact wj_meet _ x1l (Sum.inl.inj en2) (sub_cons rfl (sub_cons rfl sub_nil)) (some_cons pick0 (some_cons pick0 (some_cons pick0 some_nil)))
  intro e1 x1 hp
  obtain rfl : e1 = y1 := hp.symm
  refine wq_then ?_
  refine wcr ?_
  refine wl_pure (v := .agg #[.int .i64 a_size, (sl x1)]) (po_load_boxs tk_29 pick0 rfl rfl rfl) rfl ?_
  refine wl_skipop (so_box (cs' := [.int .i64 a_size, (sl x1)]) tk_29 (pickS pick0) rfl rfl rfl rfl rfl rfl rfl) ?_
  refine wnt ?_
  refine wc_ret ?_
  obtain rfl := Option.some.inj t0
  exact wq_retc rfl tk_29 rfl pick0 rfl fun w hw => ⟨x1, rfl, hw.weak (some_cons (pickS (pickS pick0)) some_nil)⟩

end Go.Proofs.YtnpibdapfofpcabDoor
