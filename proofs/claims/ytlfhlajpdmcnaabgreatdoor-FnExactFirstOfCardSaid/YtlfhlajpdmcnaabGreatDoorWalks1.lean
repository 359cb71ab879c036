/-
  Each Go function computes its Lean function (part 1).
-/
import Derived.Test.YtlfhlajpdmcnaabGreatDoorLibs
namespace Go.Proofs.YtlfhlajpdmcnaabGreatDoor
open Go Go.RowKit Go.Proofs
set_option maxRecDepth 100000

theorem c_laws_szCellS (w : World) (a_a : List GCell) (v0a : Hd) (r0 : rdF w (dm w []) (sl v0a) a_a) (a_left : Int) {r : Int} (t0 : laws_szCellS a_a a_left = some r) : Calls Tryz.prog 40 #[(sl v0a), .int .i64 a_left] w fun e w' => e = .returned (.int .i64 r) ∧ SH w [] [] w' := by
  refine calls_of_wc (args := [_, _]) Tryz.func40 rfl Tryz.ntmps40 rfl ?_
  unfold laws_szCellS at t0
  refine wcr ?_
  refine asg rfl rfl ?_
  refine wnt ?_
  refine wcr ?_
  refine mv rfl rfl ?_
  refine mv rfl rfl ?_
  refine wl_pure (po_lenr (rds_arg r0) el_22 rfl) rfl ?_
  refine wl_pure (po_sub rfl rfl) rfl ?_
  refine asg rfl rfl ?_
  refine wnt ?_
  refine wc_seq ?_
  refine wcr ?_
  refine mv rfl rfl ?_
  refine wl_pure (po_lss rfl rfl) rfl ?_
  refine wnt ?_
  refine wcO t0 rfl (fun h1 t0 => ?_) fun h1 t0 => ?_
  · skip
    refine wcr ?_
    refine asg rfl rfl ?_
    refine wnt ?_
    refine wc_ret ?_
    refine wq_then_ret ?_
    obtain rfl := Option.some.inj t0
    exact wq_ret1 rfl rfl fun w hw => ⟨rfl, hw.weak some_nil⟩
  refine wc_skip ?_
  refine wq_then ?_
  refine wcr ?_
  refine mv rfl rfl ?_
  refine asg rfl rfl ?_
  refine wnt ?_
  refine wc_ret ?_
  obtain rfl := Option.some.inj t0
  exact wq_ret1 rfl rfl fun w hw => ⟨rfl, hw.weak some_nil⟩

theorem c_laws_szBlock (w : World) (a_a : GBlock) (v0a : Hd) (r0 : rdF w (dm w []) (sl v0a) a_a.Cells) (a_left : Int) {r : Int} (t0 : laws_szBlock a_a a_left = some r) : Calls Tryz.prog 25 #[.agg #[.int .i64 a_a.Size, (sl v0a)], .int .i64 a_left] w fun e w' => e = .returned (.int .i64 r) ∧ SH w [] [] w' := by
  refine calls_of_wc (args := [_, _]) Tryz.func25 rfl Tryz.ntmps25 rfl ?_
  unfold laws_szBlock at t0
  refine wcr ?_
  refine wl_eff (eo_box rfl rfl) rfl fun b1 => ?_
  refine asg rfl rfl ?_
  refine wnt ?_
  refine wcr ?_
  refine wl_pure (po_fld fo_24_1 rfl) rfl ?_
  refine wl_pure (v := (sl v0a)) (po_load_box tk_22 pick0 rfl rfl) rfl ?_
  refine mv rfl rfl ?_
  refine bdO t0 fun v1 hv1 t0 => ?_
  refine wl_call (co_c0 fa_40 rfl fun w hw => c_laws_szCellS w a_a.Cells v0a (Rg.on (rds_arg r0) hw) a_left hv1) rfl fun _ => ?_
  refine asg rfl rfl ?_
  refine wnt ?_
  refine wc_seq ?_
  refine wcr ?_
  refine mv rfl rfl ?_
  refine wl_pure (po_lss rfl rfl) rfl ?_
  refine wnt ?_
  refine wcO t0 rfl (fun h1 t0 => ?_) fun h1 t0 => ?_
  · skip
    refine wcr ?_
    refine asg rfl rfl ?_
    refine wnt ?_
    refine wc_ret ?_
    refine wq_then_ret ?_
    obtain rfl := Option.some.inj t0
    exact wq_ret1 rfl rfl fun w hw => ⟨rfl, hw.weak some_nil⟩
  refine wc_skip ?_
  refine wq_then ?_
  refine wcr ?_
  refine mv rfl rfl ?_
  refine asg rfl rfl ?_
  refine wnt ?_
  refine wc_ret ?_
  obtain rfl := Option.some.inj t0
  exact wq_ret1 rfl rfl fun w hw => ⟨rfl, hw.weak some_nil⟩

theorem c_laws_szEntry (w : World) (a_a : GEntry) (v0a : Hd) (r0 : rdF w (dm w []) (sl v0a) a_a.Block.Cells) (a_left : Int) {r : Int} (t0 : laws_szEntry a_a a_left = some r) : Calls Tryz.prog 7 #[.agg #[.int .i64 a_a.Owner, .int .i64 a_a.Day, .int .i64 a_a.Block.Size, (sl v0a)], .int .i64 a_left] w fun e w' => e = .returned (.int .i64 r) ∧ SH w [] [] w' := by
  refine calls_of_wc (args := [_, _]) Tryz.func7 rfl Tryz.ntmps7 rfl ?_
  unfold laws_szEntry at t0
  refine wcr ?_
  refine wl_eff (eo_box rfl rfl) rfl fun b1 => ?_
  refine asg rfl rfl ?_
  refine wnt ?_
  refine wcr ?_
  refine wl_pure (po_fld fo_26_2 rfl) rfl ?_
  refine wl_pure (v := .agg #[.int .i64 a_a.Block.Size, (sl v0a)]) (po_load_boxs tk_24 pick0 rfl rfl rfl) rfl ?_
  refine mv rfl rfl ?_
  refine bdO t0 fun v1 hv1 t0 => ?_
  refine wl_call (co_c0 fa_25 rfl fun w hw => c_laws_szBlock w a_a.Block v0a (Rg.on (rds_arg r0) hw) a_left hv1) rfl fun _ => ?_
  refine asg rfl rfl ?_
  refine wnt ?_
  refine wc_seq ?_
  refine wcr ?_
  refine mv rfl rfl ?_
  refine wl_pure (po_lss rfl rfl) rfl ?_
  refine wnt ?_
  refine wcO t0 rfl (fun h1 t0 => ?_) fun h1 t0 => ?_
  · skip
    refine wcr ?_
    refine asg rfl rfl ?_
    refine wnt ?_
    refine wc_ret ?_
    refine wq_then_ret ?_
    obtain rfl := Option.some.inj t0
    exact wq_ret1 rfl rfl fun w hw => ⟨rfl, hw.weak some_nil⟩
  refine wc_skip ?_
  refine wq_then ?_
  refine wcr ?_
  refine mv rfl rfl ?_
  refine asg rfl rfl ?_
  refine wnt ?_
  refine wc_ret ?_
  obtain rfl := Option.some.inj t0
  exact wq_ret1 rfl rfl fun w hw => ⟨rfl, hw.weak some_nil⟩

theorem c_laws_szEntryS (w : World) (a_a : List GEntry) (v0a : Hd) (u0a : List Value) (r0 : RdL w (dm w []) (sl v0a) u0a a_a) (a_left : Int) {r : Int} (t0 : laws_szEntryS a_a a_left = some r) : Calls Tryz.prog 14 #[(sl v0a), .int .i64 a_left] w fun e w' => e = .returned (.int .i64 r) ∧ SH w [] [] w' := by
  refine calls_of_wc (args := [_, _]) Tryz.func14 rfl Tryz.ntmps14 rfl ?_
  unfold laws_szEntryS at t0
  refine wcr ?_
  refine asg rfl rfl ?_
  refine wnt ?_
  refine wcr ?_
  refine mv rfl rfl ?_
  refine mv rfl rfl ?_
  refine wl_pure (po_lenr (rds_arg r0) el_37 rfl) rfl ?_
  refine wl_pure (po_sub rfl rfl) rfl ?_
  refine asg rfl rfl ?_
  refine wnt ?_
  refine wc_seq ?_
  refine wcr ?_
  refine mv rfl rfl ?_
  refine wl_pure (po_lss rfl rfl) rfl ?_
  refine wnt ?_
  refine wcO t0 rfl (fun h1 t0 => ?_) fun h1 t0 => ?_
  · skip
    refine wcr ?_
    refine asg rfl rfl ?_
    refine wnt ?_
    refine wc_ret ?_
    refine wq_then_ret ?_
    obtain rfl := Option.some.inj t0
    exact wq_ret1 rfl rfl fun w hw => ⟨rfl, hw.weak some_nil⟩
  refine wc_skip ?_
  refine wq_then ?_
  refine wc_seq ?_
  refine wcr ?_
  refine asg rfl rfl ?_
  refine wnt ?_
  refine gdO t0 fun g1 t0 => ?_
  refine sqO t0 fun y1 l1 t0 => ?_
  refine wj (J := Int) (X := Unit) (fun z => y1 = .inl z) (fun z _ => [(1, .int .i64 z)]) (fun _ _ => []) ?_ ?_
  · skip
    refine wc_block ?_
    refine wc_forO (X := Unit) l1 (fun k1 s1 x1l => [(0, (sl v0a)), (1, .int .i64 s1), (5, .int .i64 ((k1 : Nat) : Int))]) (fun k1 s1 x1l => []) () (sub_cons rfl (sub_cons rfl (sub_cons rfl sub_nil))) some_nil fun k1 s1 x1l hN1 l1 => ?_
    by_cases hk1 : k1 < a_a.length
    · skip
      refine forO_step l1 hk1 fun _ t1 l1 => ?_
      unfold laws_szEntryS_L1 at t1
      have c1 : (decide (((k1 : Nat) : Int) < ((a_a.length : Nat) : Int))) = true := decide_eq_true (by omega)
      refine wc_seq ?_
      refine wcr ?_
      refine mv rfl rfl ?_
      refine mv rfl rfl ?_
      refine wl_pure (po_lenr (rds_arg r0) el_37 rfl) rfl ?_
      refine wl_pure (po_lss rfl rfl) rfl ?_
      refine wnt ?_
      refine wc_cond_t rfl c1 ?_
      refine wc_skip ?_
      refine wq_then ?_
      refine wc_seq ?_
      refine wc_block ?_
      refine wcr ?_
      refine mv rfl rfl ?_
      refine mv rfl rfl ?_
      refine wl_pure (po_ixn (k := k1) (rds_arg r0) el_37 rfl rfl hk1) rfl ?_
      refine wl_elem (rds_arg r0) hk1 ?_
      rintro ⟨_, _, he1⟩
      obtain ⟨w1, hc1, _⟩ := rd_GEntry.1 he1
      refine wl_pure (v := .agg #[.int .i64 ((gx a_a k1).Owner), .int .i64 ((gx a_a k1).Day), .int .i64 (((gx a_a k1).Block).Size), (sl w1)]) (po_ldns (rds_arg r0) tk_26 rfl hc1 rfl rfl rfl) rfl ?_
      refine mv rfl rfl ?_
      refine bdO t1 fun v1 hv1 t1 => ?_
      refine wl_call (co_c0 fa_7 rfl fun w hw => c_laws_szEntry w (gx a_a k1) w1 (Rg.on (er_GEntry_0 hc1 (rds_arg r0) hk1) hw) s1 hv1) rfl fun _ => ?_
      refine asg rfl rfl ?_
      refine wnt ?_
      refine wcr ?_
      refine mv rfl rfl ?_
      refine wl_pure (po_lss rfl rfl) rfl ?_
      refine wnt ?_
      refine wcO t1 rfl (fun h2 t1 => ?_) fun h2 t1 => ?_
      · skip
        refine wcr ?_
        refine asg rfl rfl ?_
        refine wnt ?_
        refine wc_ret ?_
        refine wq_block_ret ?_
        refine wq_then_ret ?_
        refine wq_then_ret ?_
        refine wq_block_ret ?_
        refine wq_then_ret ?_
        refine wq_then_ret ?_
        replace t0 := lpR t0 l1 t1
        obtain rfl := Option.some.inj t0
        exact wq_ret1 rfl rfl fun w hw => ⟨rfl, hw.weak some_nil⟩
      refine wc_skip ?_
      refine wq_block ?_
      refine wq_then ?_
      refine wc_region ?_
      refine mv rfl rfl ?_
      refine wl_pure (po_inc rfl rfl (by omega)) rfl ?_
      refine asg rfl rfl ?_
      refine wl_nil ?_
      exact wq_rnd hk1 (stpN l1 t1) () (sub_cons rfl (sub_cons rfl (sub_cons rfl sub_nil))) some_nil
    have c1 : (decide (((k1 : Nat) : Int) < ((a_a.length : Nat) : Int))) = false := decide_eq_false (by omega)
    have en1 := forO_end l1 hk1
    refine wc_seq ?_
    refine wcr ?_
    refine mv rfl rfl ?_
    refine mv rfl rfl ?_
    refine wl_pure (po_lenr (rds_arg r0) el_37 rfl) rfl ?_
    refine wl_pure (po_lss rfl rfl) rfl ?_
    refine wnt ?_
    refine wc_cond_f rfl c1 ?_
    refine wc_exit ?_
    refine wq_then_exit ?_
    refine wq_then_exit ?_
    refine wq_block_exit ?_
    exact wj_meet _ () en1 (sub_cons rfl sub_nil) some_nil
  intro e1 _ hp
  replace t0 := sqE (j := e1) t0 hp
  refine wq_then ?_
  refine wcr ?_
  refine mv rfl rfl ?_
  refine asg rfl rfl ?_
  refine wnt ?_
  refine wc_ret ?_
  obtain rfl := Option.some.inj t0
  exact wq_ret1 rfl rfl fun w hw => ⟨rfl, hw.weak some_nil⟩

theorem c_laws_toCell (w : World) (a_a : GCell) {r : GCell} (t0 : laws_toCell a_a = some r) : Calls Tryz.prog 68 #[.agg #[.int .i64 a_a.Split, .int .i64 a_a.A, .int .i64 a_a.B]] w fun e w' => e = .returned (.agg #[.int .i64 r.Split, .int .i64 r.A, .int .i64 r.B]) ∧ SH w [] [] w' := by
  refine calls_of_wc (args := [_]) Tryz.func68 rfl Tryz.ntmps68 rfl ?_
  unfold laws_toCell at t0
  refine wcr ?_
  refine wl_eff (eo_box rfl rfl) rfl fun b1 => ?_
  refine wl_eff (eo_alloc (cs := [.int .i64 0, .int .i64 0, .int .i64 0]) za_75) rfl fun b2 => ?_
  refine wnt ?_
  refine wcr ?_
  refine wl_eff (eo_alloc (cs := [.int .i64 0, .int .i64 0, .int .i64 0]) za_75) rfl fun b3 => ?_
  refine wnt ?_
  refine wcr ?_
  refine wl_pure (po_fld fo_80_0 rfl) rfl ?_
  refine wl_pure (v := .int .i64 a_a.Split) (po_load_box tk_3 (pickS (pickS pick0)) rfl rfl) rfl ?_
  refine wl_pure (po_fld fo_75_0 rfl) rfl ?_
  refine wl_skipop (so_box (cs' := [.int .i64 a_a.Split, .int .i64 0, .int .i64 0]) tk_3 pick0 rfl rfl rfl rfl rfl rfl rfl) ?_
  refine wnt ?_
  refine wcr ?_
  refine wl_pure (po_fld fo_80_1 rfl) rfl ?_
  refine wl_pure (v := .int .i64 a_a.A) (po_load_box tk_3 (pickS (pickS pick0)) rfl rfl) rfl ?_
  refine wl_pure (po_fld fo_75_1 rfl) rfl ?_
  refine wl_skipop (so_box (cs' := [.int .i64 a_a.Split, .int .i64 a_a.A, .int .i64 0]) tk_3 pick0 rfl rfl rfl rfl rfl rfl rfl) ?_
  refine wnt ?_
  refine wcr ?_
  refine wl_pure (po_fld fo_80_2 rfl) rfl ?_
  refine wl_pure (v := .int .i64 a_a.B) (po_load_box tk_3 (pickS (pickS pick0)) rfl rfl) rfl ?_
  refine wl_pure (po_fld fo_75_2 rfl) rfl ?_
  refine wl_skipop (so_box (cs' := [.int .i64 a_a.Split, .int .i64 a_a.A, .int .i64 a_a.B]) tk_3 pick0 rfl rfl rfl rfl rfl rfl rfl) ?_
  refine wnt ?_
  refine wcr ?_
  refine wl_pure (v := .agg #[.int .i64 a_a.Split, .int .i64 a_a.A, .int .i64 a_a.B]) (po_load_boxs tk_75 pick0 rfl rfl rfl) rfl ?_
  refine wl_skipop (so_box (cs' := [.int .i64 a_a.Split, .int .i64 a_a.A, .int .i64 a_a.B]) tk_75 (pickS pick0) rfl rfl rfl rfl rfl rfl rfl) ?_
  refine wnt ?_
  refine wc_ret ?_
  obtain rfl := Option.some.inj t0
  exact wq_retc rfl tk_75 rfl pick0 rfl fun w hw => ⟨rfl, hw.weak some_nil⟩

theorem c_laws_toCellS (w : World) (a_a : List GCell) (v0a : Hd) (r0 : rdF w (dm w []) (sl v0a) a_a) {r : List GCell} (t0 : laws_toCellS a_a = some r) : Calls Tryz.prog 50 #[(sl v0a)] w fun e w' => ∃ x : Hd, e = .returned ((sl x)) ∧ SH w [] [ownF (sl x) r] w' := by
  refine calls_of_wc (args := [_]) Tryz.func50 rfl Tryz.ntmps50 rfl ?_
  unfold laws_toCellS at t0
  refine wcr ?_
  refine asg rfl rfl ?_
  refine wnt ?_
  refine wcr ?_
  refine mv rfl rfl ?_
  refine wl_pure (po_lenr (rds_arg r0) el_22 rfl) rfl ?_
  refine gdO t0 fun g1 t0 => ?_
  refine wl_eff (eo_make_ (n := a_a.length) ((GCell.mk 0 0 0) : GCell) mk_29 rfl rfl rfl g1 rfl) rfl fun x1 => ?_
  refine asg rfl rfl ?_
  refine wnt ?_
  refine wc_seq ?_
  refine wcr ?_
  refine asg rfl rfl ?_
  refine wnt ?_
  refine gdO t0 fun g2 t0 => ?_
  refine lpO_inv t0 fun y1 l1 t0 => ?_
  refine wj (J := List GCell) (X := Unit) (fun z => y1 = z) (fun _ _ => [(3, (sl x1))]) (fun z _ => [ownF (sl x1) z]) ?_ ?_
  · skip
    refine wc_block ?_
    refine wc_forO (X := Unit) l1 (fun k1 s1 x1l => [(0, (sl v0a)), (3, (sl x1)), (4, .int .i64 ((k1 : Nat) : Int))]) (fun k1 s1 x1l => [ownF (sl x1) s1]) () (sub_cons rfl (sub_cons rfl (sub_cons rfl sub_nil))) (some_cons pick0 some_nil) fun k1 s1 x1l hN1 l1 => ?_
    by_cases hk1 : k1 < a_a.length
    · skip
      refine forO_step l1 hk1 fun _ t1 l1 => ?_
      unfold laws_toCellS_L1 at t1
      have c1 : (decide (((k1 : Nat) : Int) < ((a_a.length : Nat) : Int))) = true := decide_eq_true (by omega)
      refine wc_seq ?_
      refine wcr ?_
      refine mv rfl rfl ?_
      refine mv rfl rfl ?_
      refine wl_pure (po_lenr (rds_arg r0) el_22 rfl) rfl ?_
      refine wl_pure (po_lss rfl rfl) rfl ?_
      refine wnt ?_
      refine wc_cond_t rfl c1 ?_
      refine wc_skip ?_
      refine wq_then ?_
      refine wc_seq ?_
      refine wc_block ?_
      refine wc_region ?_
      refine mv rfl rfl ?_
      refine mv rfl rfl ?_
      refine mv rfl rfl ?_
      refine mv rfl rfl ?_
      refine wl_pure (po_ixn (k := k1) (rds_arg r0) el_22 rfl rfl hk1) rfl ?_
      refine wl_pure (v := .agg #[.int .i64 ((gx a_a k1).Split), .int .i64 ((gx a_a k1).A), .int .i64 ((gx a_a k1).B)]) (po_ldfs (rds_arg r0) tk_80 rfl hk1 rfl rfl rfl) rfl ?_
      refine bdO t1 fun v1 hv1 t1 => ?_
      refine wl_call (co_c0 fa_68 rfl fun w hw => c_laws_toCell w (gx a_a k1) hv1) rfl fun _ => ?_
      refine gdO t1 fun g3 t1 => ?_
      refine wl_pure (po_ixn (k := k1) (rds_own pick0) el_29 rfl rfl g3) rfl ?_
      refine wl_skipop (so_own (x' := v1) tk_75 pick0 rfl rfl rfl rfl rfl rfl g3 rfl) ?_
      refine wl_nil ?_
      refine wq_block ?_
      refine wq_then ?_
      refine wc_region ?_
      refine mv rfl rfl ?_
      refine wl_pure (po_inc rfl rfl (by omega)) rfl ?_
      refine asg rfl rfl ?_
      refine wl_nil ?_
      exact wq_rnd hk1 (stpN l1 t1) () (sub_cons rfl (sub_cons rfl (sub_cons rfl sub_nil))) (some_cons pick0 some_nil)
    have c1 : (decide (((k1 : Nat) : Int) < ((a_a.length : Nat) : Int))) = false := decide_eq_false (by omega)
    have en1 := forO_end l1 hk1
    refine wc_seq ?_
    refine wcr ?_
    refine mv rfl rfl ?_
    refine mv rfl rfl ?_
    refine wl_pure (po_lenr (rds_arg r0) el_22 rfl) rfl ?_
    refine wl_pure (po_lss rfl rfl) rfl ?_
    refine wnt ?_
    refine wc_cond_f rfl c1 ?_
    refine wc_exit ?_
    refine wq_then_exit ?_
    refine wq_then_exit ?_
    refine wq_block_exit ?_
    exact wj_meet _ () (Sum.inl.inj en1) (sub_cons rfl sub_nil) (some_cons pick0 some_nil)
  intro e1 _ hp
  obtain rfl : e1 = y1 := hp.symm
  refine wq_then ?_
  refine wcr ?_
  refine mv rfl rfl ?_
  refine asg rfl rfl ?_
  refine wnt ?_
  refine wc_ret ?_
  obtain rfl := Option.some.inj t0
  exact wq_ret1 rfl rfl fun w hw => ⟨x1, rfl, hw.weak (some_cons pick0 some_nil)⟩

theorem c_laws_toBlock (w : World) (a_a : GBlock) (v0a : Hd) (r0 : rdF w (dm w []) (sl v0a) a_a.Cells) {r : GBlock} (t0 : laws_toBlock a_a = some r) : Calls Tryz.prog 29 #[.agg #[.int .i64 a_a.Size, (sl v0a)]] w fun e w' => ∃ x : Hd, e = .returned (.agg #[.int .i64 r.Size, (sl x)]) ∧ SH w [] [ownF (sl x) r.Cells] w' := by
  refine calls_of_wc (args := [_]) Tryz.func29 rfl Tryz.ntmps29 rfl ?_
  unfold laws_toBlock at t0
  refine wcr ?_
  refine wl_eff (eo_box rfl rfl) rfl fun b1 => ?_
  refine wl_eff (eo_alloc (cs := [.int .i64 0, (sl (⟨none, 0, 0⟩ : Hd))]) za_31) rfl fun b2 => ?_
  refine wnt ?_
  refine wcr ?_
  refine wl_eff (eo_alloc (cs := [.int .i64 0, (sl (⟨none, 0, 0⟩ : Hd))]) za_31) rfl fun b3 => ?_
  refine wnt ?_
  refine wcr ?_
  refine wl_pure (po_fld fo_24_0 rfl) rfl ?_
  refine wl_pure (v := .int .i64 a_a.Size) (po_load_box tk_3 (pickS (pickS pick0)) rfl rfl) rfl ?_
  refine wl_pure (po_fld fo_31_0 rfl) rfl ?_
  refine wl_skipop (so_box (cs' := [.int .i64 a_a.Size, (sl (⟨none, 0, 0⟩ : Hd))]) tk_3 pick0 rfl rfl rfl rfl rfl rfl rfl) ?_
  refine wnt ?_
  refine wcr ?_
  refine wl_pure (po_fld fo_24_1 rfl) rfl ?_
  refine wl_pure (v := (sl v0a)) (po_load_box tk_22 (pickS (pickS pick0)) rfl rfl) rfl ?_
  refine bdO t0 fun v1 hv1 t0 => ?_
  refine wl_call (co_c1 fa_50 rfl fun w hw => c_laws_toCellS w a_a.Cells v0a (Rg.on (rds_arg r0) hw) hv1) rfl fun x1 => ?_
  refine wl_pure (po_fld fo_31_1 rfl) rfl ?_
  refine wl_skipop (so_box (cs' := [.int .i64 a_a.Size, (sl x1)]) tk_29 (pickS pick0) rfl rfl rfl rfl rfl rfl rfl) ?_
  refine wnt ?_
  refine wcr ?_
  refine wl_pure (v := .agg #[.int .i64 a_a.Size, (sl x1)]) (po_load_boxs tk_31 pick0 rfl rfl rfl) rfl ?_
  refine wl_skipop (so_box (cs' := [.int .i64 a_a.Size, (sl x1)]) tk_31 (pickS (pickS pick0)) rfl rfl rfl rfl rfl rfl rfl) ?_
  refine wnt ?_
  refine wc_ret ?_
  obtain rfl := Option.some.inj t0
  exact wq_retc rfl tk_31 rfl pick0 rfl fun w hw => ⟨x1, rfl, hw.weak (some_cons (pickS (pickS pick0)) some_nil)⟩

theorem c_laws_toEntry (w : World) (a_a : GEntry) (v0a : Hd) (r0 : rdF w (dm w []) (sl v0a) a_a.Block.Cells) {r : GEntry} (t0 : laws_toEntry a_a = some r) : Calls Tryz.prog 9 #[.agg #[.int .i64 a_a.Owner, .int .i64 a_a.Day, .int .i64 a_a.Block.Size, (sl v0a)]] w fun e w' => ∃ x : Hd, e = .returned (.agg #[.int .i64 r.Owner, .int .i64 r.Day, .int .i64 r.Block.Size, (sl x)]) ∧ SH w [] [ownF (sl x) r.Block.Cells] w' := by
  refine calls_of_wc (args := [_]) Tryz.func9 rfl Tryz.ntmps9 rfl ?_
  unfold laws_toEntry at t0
  refine wcr ?_
  refine wl_eff (eo_box rfl rfl) rfl fun b1 => ?_
  refine wl_eff (eo_alloc (cs := [.int .i64 0, .int .i64 0, .int .i64 0, (sl (⟨none, 0, 0⟩ : Hd))]) za_33) rfl fun b2 => ?_
  refine wnt ?_
  refine wcr ?_
  refine wl_eff (eo_alloc (cs := [.int .i64 0, .int .i64 0, .int .i64 0, (sl (⟨none, 0, 0⟩ : Hd))]) za_33) rfl fun b3 => ?_
  refine wnt ?_
  refine wcr ?_
  refine wl_pure (po_fld fo_26_0 rfl) rfl ?_
  refine wl_pure (v := .int .i64 a_a.Owner) (po_load_box tk_3 (pickS (pickS pick0)) rfl rfl) rfl ?_
  refine wl_pure (po_fld fo_33_0 rfl) rfl ?_
  refine wl_skipop (so_box (cs' := [.int .i64 a_a.Owner, .int .i64 0, .int .i64 0, (sl (⟨none, 0, 0⟩ : Hd))]) tk_3 pick0 rfl rfl rfl rfl rfl rfl rfl) ?_
  refine wnt ?_
  refine wcr ?_
  refine wl_pure (po_fld fo_26_1 rfl) rfl ?_
  refine wl_pure (v := .int .i64 a_a.Day) (po_load_box tk_3 (pickS (pickS pick0)) rfl rfl) rfl ?_
  refine wl_pure (po_fld fo_33_1 rfl) rfl ?_
  refine wl_skipop (so_box (cs' := [.int .i64 a_a.Owner, .int .i64 a_a.Day, .int .i64 0, (sl (⟨none, 0, 0⟩ : Hd))]) tk_3 pick0 rfl rfl rfl rfl rfl rfl rfl) ?_
  refine wnt ?_
  refine wcr ?_
  refine wl_pure (po_fld fo_26_2 rfl) rfl ?_
  refine wl_pure (v := .agg #[.int .i64 a_a.Block.Size, (sl v0a)]) (po_load_boxs tk_24 (pickS (pickS pick0)) rfl rfl rfl) rfl ?_
  refine bdO t0 fun v1 hv1 t0 => ?_
  refine wl_call (co_c1 fa_29 rfl fun w hw => c_laws_toBlock w a_a.Block v0a (Rg.on (rds_arg r0) hw) hv1) rfl fun x1 => ?_
  refine wl_pure (po_fld fo_33_2 rfl) rfl ?_
  refine wl_skipop (so_box (cs' := [.int .i64 a_a.Owner, .int .i64 a_a.Day, .int .i64 v1.Size, (sl x1)]) tk_31 (pickS pick0) rfl rfl rfl rfl rfl rfl rfl) ?_
  refine wnt ?_
  refine wcr ?_
  refine wl_pure (v := .agg #[.int .i64 a_a.Owner, .int .i64 a_a.Day, .int .i64 v1.Size, (sl x1)]) (po_load_boxs tk_33 pick0 rfl rfl rfl) rfl ?_
  refine wl_skipop (so_box (cs' := [.int .i64 a_a.Owner, .int .i64 a_a.Day, .int .i64 v1.Size, (sl x1)]) tk_33 (pickS (pickS pick0)) rfl rfl rfl rfl rfl rfl rfl) ?_
  refine wnt ?_
  refine wc_ret ?_
  obtain rfl := Option.some.inj t0
  exact wq_retc rfl tk_33 rfl pick0 rfl fun w hw => ⟨x1, rfl, hw.weak (some_cons (pickS (pickS pick0)) some_nil)⟩

theorem c_laws_toEntryS (w : World) (a_a : List GEntry) (v0a : Hd) (u0a : List Value) (r0 : RdL w (dm w []) (sl v0a) u0a a_a) {r : List GEntry} (t0 : laws_toEntryS a_a = some r) : Calls Tryz.prog 16 #[(sl v0a)] w fun e w' => ∃ x : Hd × (List Value), e = .returned ((sl x.1)) ∧ SH w [] [own (sl x.1) x.2 r] w' := by
  refine calls_of_wc (args := [_]) Tryz.func16 rfl Tryz.ntmps16 rfl ?_
  unfold laws_toEntryS at t0
  refine wcr ?_
  refine asg rfl rfl ?_
  refine wnt ?_
  refine wcr ?_
  refine mv rfl rfl ?_
  refine wl_pure (po_lenr (rds_arg r0) el_37 rfl) rfl ?_
  refine gdO t0 fun g1 t0 => ?_
  refine wl_eff (eo_maken (n := a_a.length) ((GEntry.mk 0 0 (GBlock.mk 0 ([] : List GCell))) : GEntry) mk_40 zow_GEntry rfl rfl g1 rfl) rfl fun x1 => ?_
  refine asg rfl rfl ?_
  refine wnt ?_
  refine wc_seq ?_
  refine wcr ?_
  refine asg rfl rfl ?_
  refine wnt ?_
  refine gdO t0 fun g2 t0 => ?_
  refine lpO_inv t0 fun y1 l1 t0 => ?_
  refine wj (J := List GEntry) (X := List Value) (fun z => y1 = z) (fun _ _ => [(3, (sl x1))]) (fun z x => [own (sl x1) x z]) ?_ ?_
  · skip
    refine wc_block ?_
    refine wc_forO (X := List Value) l1 (fun k1 s1 x1l => [(0, (sl v0a)), (3, (sl x1)), (4, .int .i64 ((k1 : Nat) : Int))]) (fun k1 s1 x1l => [own (sl x1) x1l s1]) (cellsN a_a.length [.int .i64 0, .int .i64 0, .int .i64 0, (Value.slice none 0 0)]) (sub_cons rfl (sub_cons rfl (sub_cons rfl sub_nil))) (some_cons pick0 some_nil) fun k1 s1 x1l hN1 l1 => ?_
    by_cases hk1 : k1 < a_a.length
    · skip
      refine forO_step l1 hk1 fun _ t1 l1 => ?_
      unfold laws_toEntryS_L1 at t1
      have c1 : (decide (((k1 : Nat) : Int) < ((a_a.length : Nat) : Int))) = true := decide_eq_true (by omega)
      refine wc_seq ?_
      refine wcr ?_
      refine mv rfl rfl ?_
      refine mv rfl rfl ?_
      refine wl_pure (po_lenr (rds_arg r0) el_37 rfl) rfl ?_
      refine wl_pure (po_lss rfl rfl) rfl ?_
      refine wnt ?_
      refine wc_cond_t rfl c1 ?_
      refine wc_skip ?_
      refine wq_then ?_
      refine wc_seq ?_
      refine wc_block ?_
      refine wc_region ?_
      refine mv rfl rfl ?_
      refine mv rfl rfl ?_
      refine mv rfl rfl ?_
      refine mv rfl rfl ?_
      refine wl_pure (po_ixn (k := k1) (rds_arg r0) el_37 rfl rfl hk1) rfl ?_
      refine wl_elem (rds_arg r0) hk1 ?_
      rintro ⟨_, _, he1⟩
      obtain ⟨w1, hc1, _⟩ := rd_GEntry.1 he1
      refine wl_pure (v := .agg #[.int .i64 ((gx a_a k1).Owner), .int .i64 ((gx a_a k1).Day), .int .i64 (((gx a_a k1).Block).Size), (sl w1)]) (po_ldns (rds_arg r0) tk_26 rfl hc1 rfl rfl rfl) rfl ?_
      refine bdO t1 fun v1 hv1 t1 => ?_
      refine wl_call (co_c1 fa_9 rfl fun w hw => c_laws_toEntry w (gx a_a k1) w1 (Rg.on (er_GEntry_0 hc1 (rds_arg r0) hk1) hw) hv1) rfl fun x3 => ?_
      refine gdO t1 fun g3 t1 => ?_
      refine wl_pure (po_ixn (k := k1) (rds_own (pickS pick0)) el_40 rfl rfl g3) rfl ?_
      refine wl_skipop (so_ownn tk_33 (pickS pick0) (pow_GEntry (x := v1) pick0) rfl rfl rfl rfl rfl g3) ?_
      refine wl_nil ?_
      refine wq_block ?_
      refine wq_then ?_
      refine wc_region ?_
      refine mv rfl rfl ?_
      refine wl_pure (po_inc rfl rfl (by omega)) rfl ?_
      refine asg rfl rfl ?_
      refine wl_nil ?_
      exact wq_rnd hk1 (stpN l1 t1) (put_ x1l (k1 * 4) [.int .i64 v1.Owner, .int .i64 v1.Day, .int .i64 v1.Block.Size, (sl x3)]) (sub_cons rfl (sub_cons rfl (sub_cons rfl sub_nil))) (some_cons pick0 some_nil)
    have c1 : (decide (((k1 : Nat) : Int) < ((a_a.length : Nat) : Int))) = false := decide_eq_false (by omega)
    have en1 := forO_end l1 hk1
    refine wc_seq ?_
    refine wcr ?_
    refine mv rfl rfl ?_
    refine mv rfl rfl ?_
    refine wl_pure (po_lenr (rds_arg r0) el_37 rfl) rfl ?_
    refine wl_pure (po_lss rfl rfl) rfl ?_
    refine wnt ?_
    refine wc_cond_f rfl c1 ?_
    refine wc_exit ?_
    refine wq_then_exit ?_
    refine wq_then_exit ?_
    refine wq_block_exit ?_
    exact wj_meet _ x1l (Sum.inl.inj en1) (sub_cons rfl sub_nil) (some_cons pick0 some_nil)
  intro e1 x2 hp
  obtain rfl : e1 = y1 := hp.symm
  refine wq_then ?_
  refine wcr ?_
  refine mv rfl rfl ?_
  refine asg rfl rfl ?_
  refine wnt ?_
  refine wc_ret ?_
  obtain rfl := Option.some.inj t0
  exact wq_ret1 rfl rfl fun w hw => ⟨(x1, x2), rfl, hw.weak (some_cons pick0 some_nil)⟩

theorem c_spec_l01In (w : World) (a_x : Int) (a_least : Int) (a_most : Int) {r : Bool} (t0 : spec_l01In a_x a_least a_most = some r) : Calls Tryz.prog 41 #[.int .i64 a_x, .int .i64 a_least, .int .i64 a_most] w fun e w' => e = .returned (.bool r) ∧ SH w [] [] w' := by
  refine calls_of_wc (args := [_, _, _]) Tryz.func41 rfl Tryz.ntmps41 rfl ?_
  unfold spec_l01In at t0
  refine wcr ?_
  refine asg rfl rfl ?_
  refine wnt ?_
  refine wc_seq ?_
  refine wc_join (X := Unit) (fun _ => True) (fun _ => [(6, .bool ((decide (a_x ≥ a_least)) && (decide (a_x ≤ a_most))))]) (fun _ => []) ?_ ?_
  · skip
    refine wc_region ?_
    refine mv rfl rfl ?_
    refine mv rfl rfl ?_
    refine wl_pure (po_geq rfl rfl) rfl ?_
    refine mv rfl rfl ?_
    refine wl_fork (t := 10) rfl (fun h1 => ?_) fun h1 => ?_
    · skip
      refine wl_guard_on (j := 3) rfl rfl rfl (mv rfl rfl ?_)
      refine wl_guard_on (j := 3) rfl rfl rfl (mv rfl rfl ?_)
      refine wl_guard_on (j := 3) rfl rfl rfl (wl_pure (po_leq rfl rfl) rfl ?_)
      refine wl_pure (po_pick_t rfl rfl) rfl ?_
      refine asg rfl rfl ?_
      refine wl_nil ?_
      exact wq_meet () trivial (sub_b rfl (by rw [h1]; rfl) sub_nil) some_nil
    refine wl_guard_off (j := 3) rfl rfl rfl rfl rfl ?_
    refine wl_guard_off (j := 3) rfl rfl rfl rfl rfl ?_
    refine wl_guard_off (j := 3) rfl rfl rfl rfl rfl ?_
    refine wl_pure (po_pick_f rfl rfl) rfl ?_
    refine asg rfl rfl ?_
    refine wl_nil ?_
    exact wq_meet () trivial (sub_b rfl (by rw [h1]; rfl) sub_nil) some_nil
  intro _ _
  refine wq_then ?_
  refine wc_ret ?_
  obtain rfl := Option.some.inj t0
  exact wq_ret1 rfl rfl fun w hw => ⟨rfl, hw.weak some_nil⟩

theorem c_spec_CellOk (w : World) (a_c : GCell) {r : Bool} (t0 : spec_CellOk a_c = some r) : Calls Tryz.prog 61 #[.agg #[.int .i64 a_c.Split, .int .i64 a_c.A, .int .i64 a_c.B]] w fun e w' => e = .returned (.bool r) ∧ SH w [] [] w' := by
  refine calls_of_wc (args := [_]) Tryz.func61 rfl Tryz.ntmps61 rfl ?_
  unfold spec_CellOk at t0
  refine wcr ?_
  refine wl_eff (eo_box rfl rfl) rfl fun b1 => ?_
  refine asg rfl rfl ?_
  refine wnt ?_
  refine wc_seq ?_
  refine wc_seq ?_
  refine bdO t0 fun y1 t1 t0 => ?_
  refine wj (J := Bool) (X := Unit) (fun z => y1 = z) (fun z _ => [(1, ptr b1 0), (18, .bool z)]) (fun _ _ => [box b1 [.int .i64 a_c.Split, .int .i64 a_c.A, .int .i64 a_c.B]]) ?_ ?_
  · skip
    refine wc_region ?_
    refine wl_pure (po_fld fo_75_0 rfl) rfl ?_
    refine wl_pure (v := .int .i64 a_c.Split) (po_load_box tk_3 pick0 rfl rfl) rfl ?_
    refine bdO t1 fun v1 hv1 t1 => ?_
    refine wl_call (co_c0 fa_41 rfl fun w hw => c_spec_l01In w a_c.Split 0 2 hv1) rfl fun _ => ?_
    refine wl_pure (po_not rfl) rfl ?_
    refine mv rfl rfl ?_
    refine wlO_ (t := 7) t1 rfl (fun h1 t1 => ?_) fun h1 t1 => ?_
    · skip
      refine wl_guard_off (j := 4) rfl rfl rfl rfl rfl ?_
      refine wl_guard_off (j := 4) rfl rfl rfl rfl rfl ?_
      refine wl_guard_off (j := 4) rfl rfl rfl rfl rfl ?_
      refine wl_guard_off (j := 4) rfl rfl rfl rfl rfl ?_
      refine wl_pure (po_pick_t rfl rfl) rfl ?_
      refine mv rfl rfl ?_
      refine wl_guard_off (j := 10) rfl rfl rfl rfl rfl ?_
      refine wl_guard_off (j := 10) rfl rfl rfl rfl rfl ?_
      refine wl_guard_off (j := 10) rfl rfl rfl rfl rfl ?_
      refine wl_guard_off (j := 10) rfl rfl rfl rfl rfl ?_
      refine wl_pure (po_pick_t rfl rfl) rfl ?_
      refine wl_nil ?_
      exact wj_meet _ () (mtE t1) (sub_cons rfl (sub_cons rfl sub_nil)) (some_cons pick0 some_nil)
    refine wl_guard_on (j := 4) rfl rfl rfl (wl_pure (po_fld fo_75_1 rfl) rfl ?_)
    refine wl_guard_on (j := 4) rfl rfl rfl (wl_pure (v := .int .i64 a_c.A) (po_load_box tk_3 pick0 rfl rfl) rfl ?_)
    refine bdO t1 fun v2 hv2 t1 => ?_
    refine wl_guard_on (j := 4) rfl rfl rfl (wl_call (co_c0 fa_41 rfl fun w hw => c_spec_l01In w a_c.A 0 5 hv2) rfl (fun _ => ?_))
    refine wl_guard_on (j := 4) rfl rfl rfl (wl_pure (po_not rfl) rfl ?_)
    refine wl_pure (po_pick_f rfl rfl) rfl ?_
    refine mv rfl rfl ?_
    refine wlO_ (t := 13) t1 rfl (fun h2 t1 => ?_) fun h2 t1 => ?_
    · skip
      refine wl_guard_off (j := 10) rfl rfl rfl rfl rfl ?_
      refine wl_guard_off (j := 10) rfl rfl rfl rfl rfl ?_
      refine wl_guard_off (j := 10) rfl rfl rfl rfl rfl ?_
      refine wl_guard_off (j := 10) rfl rfl rfl rfl rfl ?_
      refine wl_pure (po_pick_t rfl rfl) rfl ?_
      refine wl_nil ?_
      exact wj_meet _ () (mtE t1) (sub_cons rfl (sub_cons rfl sub_nil)) (some_cons pick0 some_nil)
    refine wl_guard_on (j := 10) rfl rfl rfl (wl_pure (po_fld fo_75_2 rfl) rfl ?_)
    refine wl_guard_on (j := 10) rfl rfl rfl (wl_pure (v := .int .i64 a_c.B) (po_load_box tk_3 pick0 rfl rfl) rfl ?_)
    refine bdO t1 fun v3 hv3 t1 => ?_
    refine wl_guard_on (j := 10) rfl rfl rfl (wl_call (co_c0 fa_41 rfl fun w hw => c_spec_l01In w a_c.B 0 5 hv3) rfl (fun _ => ?_))
    refine wl_guard_on (j := 10) rfl rfl rfl (wl_pure (po_not rfl) rfl ?_)
    refine wl_pure (po_pick_f rfl rfl) rfl ?_
    refine wl_nil ?_
    exact wj_meet _ () (mtE t1) (sub_cons rfl (sub_cons rfl sub_nil)) (some_cons pick0 some_nil)
  intro j1 _ hp
  obtain rfl : j1 = y1 := hp.symm
  refine wq_then ?_
  refine wcO t0 rfl (fun h3 t0 => ?_) fun h3 t0 => ?_
  · skip
    refine wcr ?_
    refine asg rfl rfl ?_
    refine wnt ?_
    refine wc_ret ?_
    refine wq_then_ret ?_
    obtain rfl := Option.some.inj t0
    exact wq_ret1 rfl rfl fun w hw => ⟨rfl, hw.weak some_nil⟩
  refine wc_skip ?_
  refine wq_then ?_
  refine wcr ?_
  refine wl_pure (po_fld fo_75_0 rfl) rfl ?_
  refine wl_pure (v := .int .i64 a_c.Split) (po_load_box tk_3 pick0 rfl rfl) rfl ?_
  refine wl_pure (po_eql rfl rfl) rfl ?_
  refine wl_pure (po_fld fo_75_1 rfl) rfl ?_
  refine wl_pure (v := .int .i64 a_c.A) (po_load_box tk_3 pick0 rfl rfl) rfl ?_
  refine wl_pure (po_fld fo_75_2 rfl) rfl ?_
  refine wl_pure (v := .int .i64 a_c.B) (po_load_box tk_3 pick0 rfl rfl) rfl ?_
  refine wl_pure (po_eql rfl rfl) rfl ?_
  refine wl_pure (po_eql_bool ub_4 rfl rfl) rfl ?_
  refine asg rfl rfl ?_
  refine wnt ?_
  refine wc_ret ?_
  obtain rfl := Option.some.inj t0
  exact wq_ret1 rfl rfl fun w hw => ⟨rfl, hw.weak some_nil⟩

theorem c_spec_BlockOk (w : World) (a_b : GBlock) (v0a : Hd) (r0 : rdF w (dm w []) (sl v0a) a_b.Cells) {r : Bool} (t0 : spec_BlockOk a_b = some r) : Calls Tryz.prog 42 #[.agg #[.int .i64 a_b.Size, (sl v0a)]] w fun e w' => e = .returned (.bool r) ∧ SH w [] [] w' := by
  refine calls_of_wc (args := [_]) Tryz.func42 rfl Tryz.ntmps42 rfl ?_
  unfold spec_BlockOk at t0
  refine wcr ?_
  refine wl_eff (eo_box rfl rfl) rfl fun b1 => ?_
  refine asg rfl rfl ?_
  refine wnt ?_
  refine wc_seq ?_
  refine wc_seq ?_
  refine bdO t0 fun y1 t1 t0 => ?_
  refine wj (J := Bool) (X := Unit) (fun z => y1 = z) (fun z _ => [(1, ptr b1 0), (18, .bool z)]) (fun _ _ => [box b1 [.int .i64 a_b.Size, (sl v0a)]]) ?_ ?_
  · skip
    refine wc_region ?_
    refine wl_pure (po_fld fo_31_0 rfl) rfl ?_
    refine wl_pure (v := .int .i64 a_b.Size) (po_load_box tk_3 pick0 rfl rfl) rfl ?_
    refine bdO t1 fun v1 hv1 t1 => ?_
    refine wl_call (co_c0 fa_41 rfl fun w hw => c_spec_l01In w a_b.Size 1 4 hv1) rfl fun _ => ?_
    refine wl_pure (po_not rfl) rfl ?_
    refine mv rfl rfl ?_
    refine wlO_ (t := 8) t1 rfl (fun h1 t1 => ?_) fun h1 t1 => ?_
    · skip
      refine wl_guard_off (j := 4) rfl rfl rfl rfl rfl ?_
      refine wl_guard_off (j := 4) rfl rfl rfl rfl rfl ?_
      refine wl_guard_off (j := 4) rfl rfl rfl rfl rfl ?_
      refine wl_guard_off (j := 4) rfl rfl rfl rfl rfl ?_
      refine wl_guard_off (j := 4) rfl rfl rfl rfl rfl ?_
      refine wl_guard_off (j := 4) rfl rfl rfl rfl rfl ?_
      refine wl_guard_off (j := 4) rfl rfl rfl rfl rfl ?_
      refine wl_guard_off (j := 4) rfl rfl rfl rfl rfl ?_
      refine wl_guard_off (j := 4) rfl rfl rfl rfl rfl ?_
      refine wl_pure (po_pick_t rfl rfl) rfl ?_
      refine wl_nil ?_
      exact wj_meet _ () (mtE t1) (sub_cons rfl (sub_cons rfl sub_nil)) (some_cons pick0 some_nil)
    refine wl_guard_on (j := 4) rfl rfl rfl (wl_pure (po_fld fo_31_1 rfl) rfl ?_)
    refine wl_guard_on (j := 4) rfl rfl rfl (wl_pure (v := (sl v0a)) (po_load_box tk_29 pick0 rfl rfl) rfl ?_)
    refine wl_guard_on (j := 4) rfl rfl rfl (wl_pure (po_lenr (rds_arg r0) el_29 rfl) rfl ?_)
    refine wl_guard_on (j := 4) rfl rfl rfl (wl_pure (po_fld fo_31_0 rfl) rfl ?_)
    refine wl_guard_on (j := 4) rfl rfl rfl (wl_pure (v := .int .i64 a_b.Size) (po_load_box tk_3 pick0 rfl rfl) rfl ?_)
    refine wl_guard_on (j := 4) rfl rfl rfl (wl_pure (po_fld fo_31_0 rfl) rfl ?_)
    refine wl_guard_on (j := 4) rfl rfl rfl (wl_pure (v := .int .i64 a_b.Size) (po_load_box tk_3 pick0 rfl rfl) rfl ?_)
    refine wl_guard_on (j := 4) rfl rfl rfl (wl_pure (po_mul rfl rfl) rfl ?_)
    refine wl_guard_on (j := 4) rfl rfl rfl (wl_pure (po_neq rfl rfl) rfl ?_)
    refine wl_pure (po_pick_f rfl rfl) rfl ?_
    refine wl_nil ?_
    exact wj_meet _ () (mtE t1) (sub_cons rfl (sub_cons rfl sub_nil)) (some_cons pick0 some_nil)
  intro j1 _ hp
  obtain rfl : j1 = y1 := hp.symm
  refine wq_then ?_
  refine wcO t0 rfl (fun h2 t0 => ?_) fun h2 t0 => ?_
  · skip
    refine wcr ?_
    refine asg rfl rfl ?_
    refine wnt ?_
    refine wc_ret ?_
    refine wq_then_ret ?_
    obtain rfl := Option.some.inj t0
    exact wq_ret1 rfl rfl fun w hw => ⟨rfl, hw.weak some_nil⟩
  refine wc_skip ?_
  refine wq_then ?_
  refine wc_seq ?_
  refine wcr ?_
  refine asg rfl rfl ?_
  refine wnt ?_
  refine gdO t0 fun g1 t0 => ?_
  refine sqO t0 fun y1 l1 t0 => ?_
  refine wj (J := Unit) (X := Unit) (fun z => y1 = .inl z) (fun _ _ => []) (fun _ _ => []) ?_ ?_
  · skip
    refine wc_block ?_
    refine wc_forO (X := Unit) l1 (fun k1 s1 x1l => [(1, ptr b1 0), (3, .int .i64 ((k1 : Nat) : Int))]) (fun k1 s1 x1l => [box b1 [.int .i64 a_b.Size, (sl v0a)]]) () (sub_cons rfl (sub_cons rfl sub_nil)) (some_cons pick0 some_nil) fun k1 s1 x1l hN1 l1 => ?_
    by_cases hk1 : k1 < a_b.Cells.length
    · skip
      refine forO_step l1 hk1 fun _ t1 l1 => ?_
      unfold spec_BlockOk_L1 at t1
      have c1 : (decide (((k1 : Nat) : Int) < ((a_b.Cells.length : Nat) : Int))) = true := decide_eq_true (by omega)
      refine wc_seq ?_
      refine wcr ?_
      refine mv rfl rfl ?_
      refine wl_pure (po_fld fo_31_1 rfl) rfl ?_
      refine wl_pure (v := (sl v0a)) (po_load_box tk_29 pick0 rfl rfl) rfl ?_
      refine wl_pure (po_lenr (rds_arg r0) el_29 rfl) rfl ?_
      refine wl_pure (po_lss rfl rfl) rfl ?_
      refine wnt ?_
      refine wc_cond_t rfl c1 ?_
      refine wc_skip ?_
      refine wq_then ?_
      refine wc_seq ?_
      refine wc_block ?_
      refine wcr ?_
      refine wl_pure (po_fld fo_31_1 rfl) rfl ?_
      refine wl_pure (v := (sl v0a)) (po_load_box tk_29 pick0 rfl rfl) rfl ?_
      refine mv rfl rfl ?_
      refine wl_pure (po_ixn (k := k1) (rds_arg r0) el_29 rfl rfl hk1) rfl ?_
      refine wl_pure (v := .agg #[.int .i64 ((gx a_b.Cells k1).Split), .int .i64 ((gx a_b.Cells k1).A), .int .i64 ((gx a_b.Cells k1).B)]) (po_ldfs (rds_arg r0) tk_75 rfl hk1 rfl rfl rfl) rfl ?_
      refine bdO t1 fun v2 hv2 t1 => ?_
      refine wl_call (co_c0 fa_61 rfl fun w hw => c_spec_CellOk w (gx a_b.Cells k1) hv2) rfl fun _ => ?_
      refine wl_pure (po_not rfl) rfl ?_
      refine wnt ?_
      refine wcO t1 rfl (fun h3 t1 => ?_) fun h3 t1 => ?_
      · skip
        refine wcr ?_
        refine asg rfl rfl ?_
        refine wnt ?_
        refine wc_ret ?_
        refine wq_block_ret ?_
        refine wq_then_ret ?_
        refine wq_then_ret ?_
        refine wq_block_ret ?_
        refine wq_then_ret ?_
        refine wq_then_ret ?_
        replace t0 := lpR t0 l1 t1
        obtain rfl := Option.some.inj t0
        exact wq_ret1 rfl rfl fun w hw => ⟨rfl, hw.weak some_nil⟩
      refine wc_skip ?_
      refine wq_block ?_
      refine wq_then ?_
      refine wc_region ?_
      refine mv rfl rfl ?_
      refine wl_pure (po_inc rfl rfl (by omega)) rfl ?_
      refine asg rfl rfl ?_
      refine wl_nil ?_
      exact wq_rnd hk1 (stpN l1 t1) () (sub_cons rfl (sub_cons rfl sub_nil)) (some_cons pick0 some_nil)
    have c1 : (decide (((k1 : Nat) : Int) < ((a_b.Cells.length : Nat) : Int))) = false := decide_eq_false (by omega)
    have en1 := forO_end l1 hk1
    refine wc_seq ?_
    refine wcr ?_
    refine mv rfl rfl ?_
    refine wl_pure (po_fld fo_31_1 rfl) rfl ?_
    refine wl_pure (v := (sl v0a)) (po_load_box tk_29 pick0 rfl rfl) rfl ?_
    refine wl_pure (po_lenr (rds_arg r0) el_29 rfl) rfl ?_
    refine wl_pure (po_lss rfl rfl) rfl ?_
    refine wnt ?_
    refine wc_cond_f rfl c1 ?_
    refine wc_exit ?_
    refine wq_then_exit ?_
    refine wq_then_exit ?_
    refine wq_block_exit ?_
    exact wj_meet _ () en1 sub_nil some_nil
  intro e1 _ hp
  replace t0 := sqE (j := e1) t0 hp
  refine wq_then ?_
  refine wcr ?_
  refine asg rfl rfl ?_
  refine wnt ?_
  refine wc_ret ?_
  obtain rfl := Option.some.inj t0
  exact wq_ret1 rfl rfl fun w hw => ⟨rfl, hw.weak some_nil⟩

theorem c_spec_EntryOk (w : World) (a_e : GEntry) (v0a : Hd) (r0 : rdF w (dm w []) (sl v0a) a_e.Block.Cells) {r : Bool} (t0 : spec_EntryOk a_e = some r) : Calls Tryz.prog 26 #[.agg #[.int .i64 a_e.Owner, .int .i64 a_e.Day, .int .i64 a_e.Block.Size, (sl v0a)]] w fun e w' => e = .returned (.bool r) ∧ SH w [] [] w' := by
  refine calls_of_wc (args := [_]) Tryz.func26 rfl Tryz.ntmps26 rfl ?_
  unfold spec_EntryOk at t0
  refine wcr ?_
  refine wl_eff (eo_box rfl rfl) rfl fun b1 => ?_
  refine asg rfl rfl ?_
  refine wnt ?_
  refine wc_seq ?_
  refine bdO t0 fun y1 t1 t0 => ?_
  refine wj (J := Bool) (X := Unit) (fun z => y1 = z) (fun z _ => [(2, .bool z)]) (fun _ _ => []) ?_ ?_
  · skip
    refine wc_region ?_
    refine wl_pure (po_fld fo_33_0 rfl) rfl ?_
    refine wl_pure (v := .int .i64 a_e.Owner) (po_load_box tk_3 pick0 rfl rfl) rfl ?_
    refine bdO t1 fun v1 hv1 t1 => ?_
    refine wl_call (co_c0 fa_41 rfl fun w hw => c_spec_l01In w a_e.Owner 0 99 hv1) rfl fun _ => ?_
    refine mv rfl rfl ?_
    refine wlO_ (t := 6) t1 rfl (fun h1 t1 => ?_) fun h1 t1 => ?_
    · skip
      refine wl_guard_on (j := 3) rfl rfl rfl (wl_pure (po_fld fo_33_1 rfl) rfl ?_)
      refine wl_guard_on (j := 3) rfl rfl rfl (wl_pure (v := .int .i64 a_e.Day) (po_load_box tk_3 pick0 rfl rfl) rfl ?_)
      refine bdO t1 fun v2 hv2 t1 => ?_
      refine wl_guard_on (j := 3) rfl rfl rfl (wl_call (co_c0 fa_41 rfl fun w hw => c_spec_l01In w a_e.Day 0 9999 hv2) rfl (fun _ => ?_))
      refine wl_pure (po_pick_t rfl rfl) rfl ?_
      refine mv rfl rfl ?_
      refine wlO_ (t := 11) t1 rfl (fun h2 t1 => ?_) fun h2 t1 => ?_
      · skip
        refine wl_guard_on (j := 8) rfl rfl rfl (wl_pure (po_fld fo_33_2 rfl) rfl ?_)
        refine wl_guard_on (j := 8) rfl rfl rfl (wl_pure (v := .agg #[.int .i64 a_e.Block.Size, (sl v0a)]) (po_load_boxs tk_31 pick0 rfl rfl rfl) rfl ?_)
        refine bdO t1 fun v3 hv3 t1 => ?_
        refine wl_guard_on (j := 8) rfl rfl rfl (wl_call (co_c0 fa_42 rfl fun w hw => c_spec_BlockOk w a_e.Block v0a (Rg.on (rds_arg r0) hw) hv3) rfl (fun _ => ?_))
        refine wl_pure (po_pick_t rfl rfl) rfl ?_
        refine asg rfl rfl ?_
        refine wl_nil ?_
        exact wj_meet _ () (mtE t1) (sub_cons rfl sub_nil) some_nil
      refine wl_guard_off (j := 8) rfl rfl rfl rfl rfl ?_
      refine wl_guard_off (j := 8) rfl rfl rfl rfl rfl ?_
      refine wl_guard_off (j := 8) rfl rfl rfl rfl rfl ?_
      refine wl_pure (po_pick_f rfl rfl) rfl ?_
      refine asg rfl rfl ?_
      refine wl_nil ?_
      exact wj_meet _ () (mtE t1) (sub_cons rfl sub_nil) some_nil
    refine wl_guard_off (j := 3) rfl rfl rfl rfl rfl ?_
    refine wl_guard_off (j := 3) rfl rfl rfl rfl rfl ?_
    refine wl_guard_off (j := 3) rfl rfl rfl rfl rfl ?_
    refine wl_pure (po_pick_f rfl rfl) rfl ?_
    refine mv rfl rfl ?_
    refine wl_guard_off (j := 8) rfl rfl rfl rfl rfl ?_
    refine wl_guard_off (j := 8) rfl rfl rfl rfl rfl ?_
    refine wl_guard_off (j := 8) rfl rfl rfl rfl rfl ?_
    refine wl_pure (po_pick_f rfl rfl) rfl ?_
    refine asg rfl rfl ?_
    refine wl_nil ?_
    exact wj_meet _ () (mtE t1) (sub_cons rfl sub_nil) some_nil
  intro j1 _ hp
  obtain rfl : j1 = y1 := hp.symm
  refine wq_then ?_
  refine wc_ret ?_
  obtain rfl := Option.some.inj t0
  exact wq_ret1 rfl rfl fun w hw => ⟨rfl, hw.weak some_nil⟩

theorem c_spec_FirstUse (w : World) (a_b : GBlock) (v0a : Hd) (r0 : rdF w (dm w []) (sl v0a) a_b.Cells) {r : List Int} (t0 : spec_FirstUse a_b = some r) : Calls Tryz.prog 80 #[.agg #[.int .i64 a_b.Size, (sl v0a)]] w fun e w' => ∃ x : Hd, e = .returned ((sl x)) ∧ SH w [] [ownF (sl x) r] w' := by
  refine calls_of_wc (args := [_]) Tryz.func80 rfl Tryz.ntmps80 rfl ?_
  unfold spec_FirstUse at t0
  refine wcr ?_
  refine wl_eff (eo_box rfl rfl) rfl fun b1 => ?_
  refine asg rfl rfl ?_
  refine wnt ?_
  refine wc_seq ?_
  refine wcr ?_
  refine wl_pure (v := .agg #[.int .i64 a_b.Size, (sl v0a)]) (po_load_boxs tk_31 pick0 rfl rfl rfl) rfl ?_
  refine bdO t0 fun v1 hv1 t0 => ?_
  refine wl_call (co_c0 fa_42 rfl fun w hw => c_spec_BlockOk w a_b v0a (Rg.on (rds_arg r0) hw) hv1) rfl fun _ => ?_
  refine wl_pure (po_not rfl) rfl ?_
  refine wnt ?_
  refine wcO t0 rfl (fun h1 t0 => ?_) fun h1 t0 => ?_
  · skip
    refine wcr ?_
    refine wl_eff (eo_buildSlice rfl sb_55_0) rfl fun b2 => ?_
    refine asg rfl rfl ?_
    refine wnt ?_
    refine wc_ret ?_
    refine wq_then_ret ?_
    obtain rfl := Option.some.inj t0
    exact wq_ret1 rfl rfl fun w hw => ⟨(⟨some ⟨b2, 0, none⟩, 0, 0⟩ : Hd), rfl, hw.weak (some_cons (pick_box_own pick0 (n := 0) (xs := ([] : List Int)) rfl rfl (by unfold maxLen; omega)) some_nil)⟩
  refine wc_skip ?_
  refine wq_then ?_
  refine wcr ?_
  refine wl_eff (eo_buildSlice rfl sb_55_0) rfl fun b3 => ?_
  refine asg rfl rfl ?_
  refine wnt ?_
  refine wc_seq ?_
  refine wcr ?_
  refine asg rfl rfl ?_
  refine wnt ?_
  refine lpO_inv t0 fun y1 l1 t0 => ?_
  refine wj (J := List Int) (X := Hd) (fun z => y1 = z) (fun _ x => [(1, ptr b1 0), (3, (sl x))]) (fun z x => [box b1 [.int .i64 a_b.Size, (sl v0a)], ownF (sl x) z]) ?_ ?_
  · skip
    refine wc_block ?_
    refine wc_forO (X := Hd) l1 (fun k1 s1 x1l => [(1, ptr b1 0), (3, (sl x1l)), (4, .int .i64 ((k1 : Nat) : Int))]) (fun k1 s1 x1l => [box b1 [.int .i64 a_b.Size, (sl v0a)], ownF (sl x1l) s1]) (⟨some ⟨b3, 0, none⟩, 0, 0⟩ : Hd) (sub_cons rfl (sub_cons rfl (sub_cons rfl sub_nil))) (some_cons (pickS pick0) (some_cons (pick_box_own pick0 (n := 0) (xs := ([] : List Int)) rfl rfl (by unfold maxLen; omega)) some_nil)) fun k1 s1 x1l hN1 l1 => ?_
    by_cases hk1 : k1 < 6
    · skip
      refine forO_step l1 hk1 fun _ t1 l1 => ?_
      unfold spec_FirstUse_L1 at t1
      have c1 : (decide (((k1 : Nat) : Int) < 6)) = true := decide_eq_true (by omega)
      refine wc_seq ?_
      refine wcr ?_
      refine mv rfl rfl ?_
      refine wl_pure (po_lss rfl rfl) rfl ?_
      refine wnt ?_
      refine wc_cond_t rfl c1 ?_
      refine wc_skip ?_
      refine wq_then ?_
      refine wc_seq ?_
      refine wc_block ?_
      refine wc_region ?_
      refine mv rfl rfl ?_
      refine wl_eff (eo_buildSlice rfl (sb_55_1 (-1))) rfl fun b4 => ?_
      refine gdO t1 fun g1 t1 => ?_
      refine wl_eff (eo_append (xs := s1) (ys := ([(-1)] : List Int)) ak_55 (pickS (pickS pick0)) rfl rfl (slin_rd fun _ g => Rg.on (rds_own (pick_box_own pick0 (n := 1) (xs := ([(-1)] : List Int)) rfl rfl (by unfold maxLen; omega))) g) g1) rfl fun x2 => ?_
      refine asg rfl rfl ?_
      refine wl_nil ?_
      refine wq_block ?_
      refine wq_then ?_
      refine wc_region ?_
      refine mv rfl rfl ?_
      refine wl_pure (po_inc rfl rfl (by omega)) rfl ?_
      refine asg rfl rfl ?_
      refine wl_nil ?_
      exact wq_rnd hk1 (stpN l1 t1) x2 (sub_cons rfl (sub_cons rfl (sub_cons rfl sub_nil))) (some_cons (pickS (pickS pick0)) (some_cons pick0 some_nil))
    have c1 : (decide (((k1 : Nat) : Int) < 6)) = false := decide_eq_false (by omega)
    have en1 := forO_end l1 hk1
    refine wc_seq ?_
    refine wcr ?_
    refine mv rfl rfl ?_
    refine wl_pure (po_lss rfl rfl) rfl ?_
    refine wnt ?_
    refine wc_cond_f rfl c1 ?_
    refine wc_exit ?_
    refine wq_then_exit ?_
    refine wq_then_exit ?_
    refine wq_block_exit ?_
    exact wj_meet _ x1l (Sum.inl.inj en1) (sub_cons rfl (sub_cons rfl sub_nil)) (some_cons pick0 (some_cons pick0 some_nil))
  intro e1 x1 hp
  obtain rfl : e1 = y1 := hp.symm
  refine wq_then ?_
  refine wcr ?_
  refine asg rfl rfl ?_
  refine wnt ?_
  refine wc_seq ?_
  refine wcr ?_
  refine asg rfl rfl ?_
  refine wnt ?_
  refine gdO t0 fun g2 t0 => ?_
  refine lpO_inv t0 fun y1 l1 t0 => ?_
  refine wj (J := (List Int) × Int) (X := Unit) (fun z => y1 = z) (fun z _ => [(3, (sl x1)), (5, .int .i64 z.2)]) (fun z _ => [ownF (sl x1) z.1]) ?_ ?_
  · skip
    refine wc_block ?_
    refine wc_forO (X := Unit) l1 (fun k2 s2 x2l => [(1, ptr b1 0), (3, (sl x1)), (5, .int .i64 s2.2), (6, .int .i64 ((k2 : Nat) : Int))]) (fun k2 s2 x2l => [box b1 [.int .i64 a_b.Size, (sl v0a)], ownF (sl x1) s2.1]) () (sub_cons rfl (sub_cons rfl (sub_cons rfl (sub_cons rfl sub_nil)))) (some_cons pick0 (some_cons pick0 some_nil)) fun k2 s2 x2l hN2 l1 => ?_
    by_cases hk2 : k2 < ((wr (2 * ((a_b.Cells.length : Nat) : Int)))).toNat
    · skip
      refine forO_step l1 hk2 fun _ t1 l1 => ?_
      unfold spec_FirstUse_L2 at t1
      have c2 : (decide (((k2 : Nat) : Int) < (wr (2 * ((a_b.Cells.length : Nat) : Int))))) = true := decide_eq_true (by omega)
      refine wc_seq ?_
      refine wcr ?_
      refine mv rfl rfl ?_
      refine wl_pure (po_fld fo_31_1 rfl) rfl ?_
      refine wl_pure (v := (sl v0a)) (po_load_box tk_29 pick0 rfl rfl) rfl ?_
      refine wl_pure (po_lenr (rds_arg r0) el_29 rfl) rfl ?_
      refine wl_pure (po_mul rfl rfl) rfl ?_
      refine wl_pure (po_lss rfl rfl) rfl ?_
      refine wnt ?_
      refine wc_cond_t rfl c2 ?_
      refine wc_skip ?_
      refine wq_then ?_
      refine wc_seq ?_
      refine wc_block ?_
      refine wcr ?_
      refine wl_pure (po_fld fo_31_1 rfl) rfl ?_
      refine wl_pure (v := (sl v0a)) (po_load_box tk_29 pick0 rfl rfl) rfl ?_
      refine mv rfl rfl ?_
      refine wl_pure (po_quo rfl rfl (by decide)) rfl ?_
      refine gdO t1 fun g3 t1 => ?_
      refine wl_pure (po_ixr (rds_arg r0) el_29 rfl rfl g3.1 g3.2) rfl ?_
      refine wl_pure (po_sfldr (rds_arg r0) (ix_lt g3) fo_75_1 rfl) rfl ?_
      refine wl_pure (v := .int .i64 ((gx a_b.Cells (((wr (((k2 : Nat) : Int).tdiv 2))).toNat)).A)) (po_ldf (rds_arg r0) tk_3 rfl (ix_lt g3) rfl) rfl ?_
      refine asg rfl rfl ?_
      refine wnt ?_
      refine wc_seq ?_
      refine wcr ?_
      refine mv rfl rfl ?_
      refine wl_pure (po_rem rfl rfl (by decide)) rfl ?_
      refine wl_pure (po_eql rfl rfl) rfl ?_
      refine wnt ?_
      refine wc_join (X := Unit) (fun _ => True) (fun _ => [(1, ptr b1 0), (3, (sl x1)), (5, .int .i64 s2.2), (6, .int .i64 ((k2 : Nat) : Int)), (7, .int .i64 (bif ((((k2 : Nat) : Int).tmod 2) == 1) then (gx a_b.Cells (((wr (((k2 : Nat) : Int).tdiv 2))).toNat)).B else (gx a_b.Cells (((wr (((k2 : Nat) : Int).tdiv 2))).toNat)).A))]) (fun _ => [box b1 [.int .i64 a_b.Size, (sl v0a)], ownF (sl x1) s2.1]) ?_ ?_
      · skip
        refine wc_cond rfl (fun h2 => ?_) fun h2 => ?_
        · skip
          refine wc_region ?_
          refine wl_pure (po_fld fo_31_1 rfl) rfl ?_
          refine wl_pure (v := (sl v0a)) (po_load_box tk_29 pick0 rfl rfl) rfl ?_
          refine mv rfl rfl ?_
          refine wl_pure (po_quo rfl rfl (by decide)) rfl ?_
          refine wl_pure (po_ixr (rds_arg r0) el_29 rfl rfl g3.1 g3.2) rfl ?_
          refine wl_pure (po_sfldr (rds_arg r0) (ix_lt g3) fo_75_2 rfl) rfl ?_
          refine wl_pure (v := .int .i64 ((gx a_b.Cells (((wr (((k2 : Nat) : Int).tdiv 2))).toNat)).B)) (po_ldf (rds_arg r0) tk_3 rfl (ix_lt g3) rfl) rfl ?_
          refine asg rfl rfl ?_
          refine wl_nil ?_
          exact wq_meet () trivial (sub_cons rfl (sub_cons rfl (sub_cons rfl (sub_cons rfl (sub_i rfl (by simp only [h2, cond_true]) sub_nil))))) (some_cons pick0 (some_cons pick0 some_nil))
        refine wc_skip ?_
        exact wq_meet () trivial (sub_cons rfl (sub_cons rfl (sub_cons rfl (sub_cons rfl (sub_i rfl (by simp only [h2, cond_false]) sub_nil))))) (some_cons pick0 (some_cons pick0 some_nil))
      intro _ _
      refine wq_then ?_
      refine wcr ?_
      refine mv rfl rfl ?_
      refine mv rfl rfl ?_
      refine gdO t1 fun g4 t1 => ?_
      refine wl_pure (po_ixr (rds_own (pickS pick0)) el_55 rfl rfl g4.1 g4.2) rfl ?_
      refine wl_pure (v := .int .i64 (gx s2.1 (((bif ((((k2 : Nat) : Int).tmod 2) == 1) then (gx a_b.Cells (((wr (((k2 : Nat) : Int).tdiv 2))).toNat)).B else (gx a_b.Cells (((wr (((k2 : Nat) : Int).tdiv 2))).toNat)).A)).toNat))) (po_ldf (rds_own (pickS pick0)) tk_3 rfl (ix_lt g4) rfl) rfl ?_
      refine wl_pure (po_lss rfl rfl) rfl ?_
      refine wnt ?_
      refine wc_join (X := Unit) (fun _ => True) (fun _ => [(1, ptr b1 0), (3, (sl x1)), (5, .int .i64 (bif (decide ((gx s2.1 (((bif ((((k2 : Nat) : Int).tmod 2) == 1) then (gx a_b.Cells (((wr (((k2 : Nat) : Int).tdiv 2))).toNat)).B else (gx a_b.Cells (((wr (((k2 : Nat) : Int).tdiv 2))).toNat)).A)).toNat)) < 0)) then (wr (s2.2 + 1)) else s2.2)), (6, .int .i64 ((k2 : Nat) : Int))]) (fun _ => [box b1 [.int .i64 a_b.Size, (sl v0a)], ownF (sl x1) (bif (decide ((gx s2.1 (((bif ((((k2 : Nat) : Int).tmod 2) == 1) then (gx a_b.Cells (((wr (((k2 : Nat) : Int).tdiv 2))).toNat)).B else (gx a_b.Cells (((wr (((k2 : Nat) : Int).tdiv 2))).toNat)).A)).toNat)) < 0)) then (s2.1.set (((bif ((((k2 : Nat) : Int).tmod 2) == 1) then (gx a_b.Cells (((wr (((k2 : Nat) : Int).tdiv 2))).toNat)).B else (gx a_b.Cells (((wr (((k2 : Nat) : Int).tdiv 2))).toNat)).A)).toNat) s2.2) else s2.1)]) ?_ ?_
      · skip
        refine wc_cond rfl (fun h3 => ?_) fun h3 => ?_
        · skip
          refine wcr ?_
          refine mv rfl rfl ?_
          refine mv rfl rfl ?_
          refine mv rfl rfl ?_
          refine wl_pure (po_ixr (rds_own (pickS pick0)) el_55 rfl rfl g4.1 g4.2) rfl ?_
          refine wl_skipop (so_own (x' := s2.2) tk_3 (pickS pick0) rfl rfl rfl rfl rfl rfl (ix_lt g4) rfl) ?_
          refine wnt ?_
          refine wc_region ?_
          refine mv rfl rfl ?_
          refine wl_pure (po_add rfl rfl) rfl ?_
          refine asg rfl rfl ?_
          refine wl_nil ?_
          exact wq_meet () trivial (sub_cons rfl (sub_cons rfl (sub_i rfl (by simp only [h3, cond_true]) (sub_cons rfl sub_nil)))) (some_cons (pickS pick0) (some_cons (by simp only [h3, cond_true]; exact pick0) some_nil))
        refine wc_skip ?_
        exact wq_meet () trivial (sub_cons rfl (sub_cons rfl (sub_i rfl (by simp only [h3, cond_false]) (sub_cons rfl sub_nil)))) (some_cons pick0 (some_cons (by simp only [h3, cond_false]; exact pick0) some_nil))
      intro _ _
      refine wq_block ?_
      refine wq_then ?_
      refine wc_region ?_
      refine mv rfl rfl ?_
      refine wl_pure (po_inc rfl rfl (by omega)) rfl ?_
      refine asg rfl rfl ?_
      refine wl_nil ?_
      exact wq_rnd hk2 (stpN l1 t1) () (sub_cons rfl (sub_cons rfl (sub_cons rfl (sub_cons rfl sub_nil)))) (some_cons pick0 (some_cons pick0 some_nil))
    have c2 : (decide (((k2 : Nat) : Int) < (wr (2 * ((a_b.Cells.length : Nat) : Int))))) = false := decide_eq_false (by omega)
    have en2 := forO_end l1 hk2
    refine wc_seq ?_
    refine wcr ?_
    refine mv rfl rfl ?_
    refine wl_pure (po_fld fo_31_1 rfl) rfl ?_
    refine wl_pure (v := (sl v0a)) (po_load_box tk_29 pick0 rfl rfl) rfl ?_
    refine wl_pure (po_lenr (rds_arg r0) el_29 rfl) rfl ?_
    refine wl_pure (po_mul rfl rfl) rfl ?_
    refine wl_pure (po_lss rfl rfl) rfl ?_
    refine wnt ?_
    refine wc_cond_f rfl c2 ?_
    refine wc_exit ?_
    refine wq_then_exit ?_
    refine wq_then_exit ?_
    refine wq_block_exit ?_
    exact wj_meet _ () (Sum.inl.inj en2) (sub_cons rfl (sub_cons rfl sub_nil)) (some_cons (pickS pick0) some_nil)
  intro e2 _ hp
  obtain rfl : e2 = y1 := hp.symm
  refine wq_then ?_
  refine wc_seq ?_
  refine wcr ?_
  refine asg rfl rfl ?_
  refine wnt ?_
  refine lpO_inv t0 fun y1 l1 t0 => ?_
  refine wj (J := (List Int) × Int) (X := Unit) (fun z => y1 = z) (fun _ _ => [(3, (sl x1))]) (fun z _ => [ownF (sl x1) z.1]) ?_ ?_
  · skip
    refine wc_block ?_
    refine wc_forO (X := Unit) l1 (fun k3 s3 x3l => [(3, (sl x1)), (5, .int .i64 s3.2), (8, .int .i64 ((k3 : Nat) : Int))]) (fun k3 s3 x3l => [ownF (sl x1) s3.1]) () (sub_cons rfl (sub_cons rfl (sub_cons rfl sub_nil))) (some_cons pick0 some_nil) fun k3 s3 x3l hN3 l1 => ?_
    by_cases hk3 : k3 < 6
    · skip
      refine forO_step l1 hk3 fun _ t1 l1 => ?_
      unfold spec_FirstUse_L3 at t1
      have c3 : (decide (((k3 : Nat) : Int) < 6)) = true := decide_eq_true (by omega)
      refine wc_seq ?_
      refine wcr ?_
      refine mv rfl rfl ?_
      refine wl_pure (po_lss rfl rfl) rfl ?_
      refine wnt ?_
      refine wc_cond_t rfl c3 ?_
      refine wc_skip ?_
      refine wq_then ?_
      refine wc_seq ?_
      refine wc_block ?_
      refine wcr ?_
      refine mv rfl rfl ?_
      refine mv rfl rfl ?_
      refine gdO t1 fun g5 t1 => ?_
      refine wl_pure (po_ixn (k := k3) (rds_own pick0) el_55 rfl rfl g5) rfl ?_
      refine wl_pure (v := .int .i64 (gx s3.1 k3)) (po_ldf (rds_own pick0) tk_3 rfl g5 rfl) rfl ?_
      refine wl_pure (po_lss rfl rfl) rfl ?_
      refine wnt ?_
      refine wc_join (X := Unit) (fun _ => True) (fun _ => [(3, (sl x1)), (5, .int .i64 (bif (decide ((gx s3.1 k3) < 0)) then (wr (s3.2 + 1)) else s3.2)), (8, .int .i64 ((k3 : Nat) : Int))]) (fun _ => [ownF (sl x1) (bif (decide ((gx s3.1 k3) < 0)) then (s3.1.set k3 s3.2) else s3.1)]) ?_ ?_
      · skip
        refine wc_cond rfl (fun h4 => ?_) fun h4 => ?_
        · skip
          refine wcr ?_
          refine mv rfl rfl ?_
          refine mv rfl rfl ?_
          refine mv rfl rfl ?_
          refine wl_pure (po_ixn (k := k3) (rds_own pick0) el_55 rfl rfl g5) rfl ?_
          refine wl_skipop (so_own (x' := s3.2) tk_3 pick0 rfl rfl rfl rfl rfl rfl g5 rfl) ?_
          refine wnt ?_
          refine wc_region ?_
          refine mv rfl rfl ?_
          refine wl_pure (po_add rfl rfl) rfl ?_
          refine asg rfl rfl ?_
          refine wl_nil ?_
          exact wq_meet () trivial (sub_cons rfl (sub_i rfl (by simp only [h4, cond_true]) (sub_cons rfl sub_nil))) (some_cons (by simp only [h4, cond_true]; exact pick0) some_nil)
        refine wc_skip ?_
        exact wq_meet () trivial (sub_cons rfl (sub_i rfl (by simp only [h4, cond_false]) (sub_cons rfl sub_nil))) (some_cons (by simp only [h4, cond_false]; exact pick0) some_nil)
      intro _ _
      refine wq_block ?_
      refine wq_then ?_
      refine wc_region ?_
      refine mv rfl rfl ?_
      refine wl_pure (po_inc rfl rfl (by omega)) rfl ?_
      refine asg rfl rfl ?_
      refine wl_nil ?_
      exact wq_rnd hk3 (stpN l1 t1) () (sub_cons rfl (sub_cons rfl (sub_cons rfl sub_nil))) (some_cons pick0 some_nil)
    have c3 : (decide (((k3 : Nat) : Int) < 6)) = false := decide_eq_false (by omega)
    have en3 := forO_end l1 hk3
    refine wc_seq ?_
    refine wcr ?_
    refine mv rfl rfl ?_
    refine wl_pure (po_lss rfl rfl) rfl ?_
    refine wnt ?_
    refine wc_cond_f rfl c3 ?_
    refine wc_exit ?_
    refine wq_then_exit ?_
    refine wq_then_exit ?_
    refine wq_block_exit ?_
    exact wj_meet _ () (Sum.inl.inj en3) (sub_cons rfl sub_nil) (some_cons pick0 some_nil)
  intro e3 _ hp
  obtain rfl : e3 = y1 := hp.symm
  refine wq_then ?_
  refine wcr ?_
  refine mv rfl rfl ?_
  refine asg rfl rfl ?_
  refine wnt ?_
  refine wc_ret ?_
  obtain rfl := Option.some.inj t0
  exact wq_ret1 rfl rfl fun w hw => ⟨x1, rfl, hw.weak (some_cons pick0 some_nil)⟩

theorem c_spec_ListOk (w : World) (a_l : List Int) (v0a : Hd) (r0 : rdF w (dm w []) (sl v0a) a_l) {r : Bool} (t0 : spec_ListOk a_l = some r) : Calls Tryz.prog 96 #[(sl v0a)] w fun e w' => e = .returned (.bool r) ∧ SH w [] [] w' := by
  refine calls_of_wc (args := [_]) Tryz.func96 rfl Tryz.ntmps96 rfl ?_
  unfold spec_ListOk at t0
  refine wcr ?_
  refine asg rfl rfl ?_
  refine wnt ?_
  refine wc_seq ?_
  refine wcr ?_
  refine asg rfl rfl ?_
  refine wnt ?_
  refine gdO t0 fun g1 t0 => ?_
  refine sqO t0 fun y1 l1 t0 => ?_
  refine wj (J := Unit) (X := Unit) (fun z => y1 = .inl z) (fun _ _ => [(0, (sl v0a))]) (fun _ _ => []) ?_ ?_
  · skip
    refine wc_block ?_
    refine wc_forO (X := Unit) l1 (fun k1 s1 x1l => [(0, (sl v0a)), (3, .int .i64 ((k1 : Nat) : Int))]) (fun k1 s1 x1l => []) () (sub_cons rfl (sub_cons rfl sub_nil)) some_nil fun k1 s1 x1l hN1 l1 => ?_
    by_cases hk1 : k1 < a_l.length
    · skip
      refine forO_step l1 hk1 fun _ t1 l1 => ?_
      unfold spec_ListOk_L1 at t1
      have c1 : (decide (((k1 : Nat) : Int) < ((a_l.length : Nat) : Int))) = true := decide_eq_true (by omega)
      refine wc_seq ?_
      refine wcr ?_
      refine mv rfl rfl ?_
      refine mv rfl rfl ?_
      refine wl_pure (po_lenr (rds_arg r0) el_55 rfl) rfl ?_
      refine wl_pure (po_lss rfl rfl) rfl ?_
      refine wnt ?_
      refine wc_cond_t rfl c1 ?_
      refine wc_skip ?_
      refine wq_then ?_
      refine wc_seq ?_
      refine wc_block ?_
      refine wcr ?_
      refine mv rfl rfl ?_
      refine mv rfl rfl ?_
      refine wl_pure (po_ixn (k := k1) (rds_arg r0) el_55 rfl rfl hk1) rfl ?_
      refine wl_pure (v := .int .i64 (gx a_l k1)) (po_ldf (rds_arg r0) tk_3 rfl hk1 rfl) rfl ?_
      refine bdO t1 fun v1 hv1 t1 => ?_
      refine wl_call (co_c0 fa_41 rfl fun w hw => c_spec_l01In w (gx a_l k1) 0 5 hv1) rfl fun _ => ?_
      refine wl_pure (po_not rfl) rfl ?_
      refine wnt ?_
      refine wcO t1 rfl (fun h1 t1 => ?_) fun h1 t1 => ?_
      · skip
        refine wcr ?_
        refine asg rfl rfl ?_
        refine wnt ?_
        refine wc_ret ?_
        refine wq_block_ret ?_
        refine wq_then_ret ?_
        refine wq_then_ret ?_
        refine wq_block_ret ?_
        refine wq_then_ret ?_
        refine wq_then_ret ?_
        replace t0 := lpR t0 l1 t1
        obtain rfl := Option.some.inj t0
        exact wq_ret1 rfl rfl fun w hw => ⟨rfl, hw.weak some_nil⟩
      refine wc_skip ?_
      refine wq_block ?_
      refine wq_then ?_
      refine wc_region ?_
      refine mv rfl rfl ?_
      refine wl_pure (po_inc rfl rfl (by omega)) rfl ?_
      refine asg rfl rfl ?_
      refine wl_nil ?_
      exact wq_rnd hk1 (stpN l1 t1) () (sub_cons rfl (sub_cons rfl sub_nil)) some_nil
    have c1 : (decide (((k1 : Nat) : Int) < ((a_l.length : Nat) : Int))) = false := decide_eq_false (by omega)
    have en1 := forO_end l1 hk1
    refine wc_seq ?_
    refine wcr ?_
    refine mv rfl rfl ?_
    refine mv rfl rfl ?_
    refine wl_pure (po_lenr (rds_arg r0) el_55 rfl) rfl ?_
    refine wl_pure (po_lss rfl rfl) rfl ?_
    refine wnt ?_
    refine wc_cond_f rfl c1 ?_
    refine wc_exit ?_
    refine wq_then_exit ?_
    refine wq_then_exit ?_
    refine wq_block_exit ?_
    exact wj_meet _ () en1 (sub_cons rfl sub_nil) some_nil
  intro e1 _ hp
  replace t0 := sqE (j := e1) t0 hp
  refine wq_then ?_
  refine wcr ?_
  refine mv rfl rfl ?_
  refine wl_pure (po_lenr (rds_arg r0) el_55 rfl) rfl ?_
  refine wl_pure (po_eql rfl rfl) rfl ?_
  refine asg rfl rfl ?_
  refine wnt ?_
  refine wc_ret ?_
  obtain rfl := Option.some.inj t0
  exact wq_ret1 rfl rfl fun w hw => ⟨rfl, hw.weak some_nil⟩

theorem c_spec_l03Copy (w : World) (a_b : GBlock) (v0a : Hd) (r0 : rdF w (dm w []) (sl v0a) a_b.Cells) {r : GBlock} (t0 : spec_l03Copy a_b = some r) : Calls Tryz.prog 65 #[.agg #[.int .i64 a_b.Size, (sl v0a)]] w fun e w' => ∃ x : Hd, e = .returned (.agg #[.int .i64 r.Size, (sl x)]) ∧ SH w [] [ownF (sl x) r.Cells] w' := by
  refine calls_of_wc (args := [_]) Tryz.func65 rfl Tryz.ntmps65 rfl ?_
  unfold spec_l03Copy at t0
  refine wcr ?_
  refine wl_eff (eo_box rfl rfl) rfl fun b1 => ?_
  refine wl_eff (eo_alloc (cs := [.int .i64 0, (sl (⟨none, 0, 0⟩ : Hd))]) za_31) rfl fun b2 => ?_
  refine wnt ?_
  refine wc_seq ?_
  refine wc_draw [box b2 [.int .i64 0, (sl (⟨none, 0, 0⟩ : Hd))], box b1 [.int .i64 a_b.Size, (sl v0a)]] 7 mixed ?_
  refine wa_pure 0 rfl (po_fld fo_31_0 rfl) (some_cons pick0 (some_cons pick0 some_nil)) rfl (by kernel_rfl) (fun _ _ _ h => h) ?_
  refine wa_pure (v := .int .i64 a_b.Size) 1 rfl (po_load_box tk_3 (pickS pick0) rfl rfl) (some_cons pick0 (some_cons pick0 some_nil)) rfl (by kernel_rfl) (fun _ _ _ h => h) ?_
  refine wa_pure 3 rfl (po_fld fo_31_1 rfl) (some_cons pick0 (some_cons pick0 some_nil)) rfl (by kernel_rfl) (fun _ _ _ h => h) ?_
  refine wa_pure (v := (sl v0a)) 4 rfl (po_load_box tk_29 (pickS pick0) rfl rfl) (some_cons pick0 (some_cons pick0 some_nil)) rfl (by kernel_rfl) (fun _ _ _ h => h) ?_
  refine wa_1 (i := 2) (by kernel_rfl) ?_
  refine ws_eff rfl (eo_buildSlice rfl sb_29_0) (fun _ => (sts_some (some_cons (pickS pick0) (some_cons (pickS pick0) some_nil)))) rfl fun b3 => ?_
  refine wa_1 (i := 5) (by kernel_rfl) ?_
  refine gdO t0 fun g1 t0 => ?_
  refine ws_eff rfl (eo_append (xs := ([] : List GCell)) (ys := a_b.Cells) ak_29 (pick_box_own pick0 (n := 0) (xs := ([] : List GCell)) rfl rfl (by unfold maxLen; omega)) rfl rfl (slin_rd fun _ g => Rg.on (rds_arg r0) g) g1) (fun _ => (sts_some (some_cons (pickS pick0) (some_cons (pickS pick0) some_nil)))) rfl fun x1 => ?_
  refine wa_pure 6 rfl (po_build rfl (bd_31_0_1 a_b.Size x1)) (some_cons (pickS pick0) (some_cons (pickS pick0) some_nil)) rfl (by kernel_rfl) (fun _ _ _ h => h) ?_
  refine wa_1 (i := 7) (by kernel_rfl) ?_
  refine ws_skipop rfl (so_box (cs' := [.int .i64 a_b.Size, (sl x1)]) tk_31 (pickS pick0) rfl rfl rfl rfl rfl rfl rfl) (sts_past (by kernel_rfl)) ?_
  refine wa_done (by kernel_rfl) ?_
  refine wq_then ?_
  refine wc_ret ?_
  obtain rfl := Option.some.inj t0
  exact wq_retc rfl tk_31 rfl pick0 rfl fun w hw => ⟨x1, rfl, hw.weak (some_cons (pickS pick0) some_nil)⟩

theorem c_spec_WholeCell (w : World) (a_a : Int) {r : GCell} (t0 : spec_WholeCell a_a = some r) : Calls Tryz.prog 117 #[.int .i64 a_a] w fun e w' => e = .returned (.agg #[.int .i64 r.Split, .int .i64 r.A, .int .i64 r.B]) ∧ SH w [] [] w' := by
  refine calls_of_wc (args := [_]) Tryz.func117 rfl Tryz.ntmps117 rfl ?_
  unfold spec_WholeCell at t0
  refine wcr ?_
  refine wl_eff (eo_alloc (cs := [.int .i64 0, .int .i64 0, .int .i64 0]) za_75) rfl fun b1 => ?_
  refine wnt ?_
  refine wc_seq ?_
  refine wcr ?_
  refine mv rfl rfl ?_
  refine bdO t0 fun v1 hv1 t0 => ?_
  refine wl_call (co_c0 fa_41 rfl fun w hw => c_spec_l01In w a_a 0 5 hv1) rfl fun _ => ?_
  refine wl_pure (po_not rfl) rfl ?_
  refine wnt ?_
  refine wcO t0 rfl (fun h1 t0 => ?_) fun h1 t0 => ?_
  · skip
    refine wcr ?_
    refine wl_pure (po_build rfl bd_75) rfl ?_
    refine wl_skipop (so_box (cs' := [.int .i64 0, .int .i64 0, .int .i64 0]) tk_75 pick0 rfl rfl rfl rfl rfl rfl rfl) ?_
    refine wnt ?_
    refine wc_ret ?_
    refine wq_then_ret ?_
    obtain rfl := Option.some.inj t0
    exact wq_retc rfl tk_75 rfl pick0 rfl fun w hw => ⟨rfl, hw.weak some_nil⟩
  refine wc_skip ?_
  refine wq_then ?_
  refine wcr ?_
  refine mv rfl rfl ?_
  refine mv rfl rfl ?_
  refine wl_pure (po_build rfl (bd_75_1_2 a_a a_a)) rfl ?_
  refine wl_skipop (so_box (cs' := [.int .i64 0, .int .i64 a_a, .int .i64 a_a]) tk_75 pick0 rfl rfl rfl rfl rfl rfl rfl) ?_
  refine wnt ?_
  refine wc_ret ?_
  obtain rfl := Option.some.inj t0
  exact wq_retc rfl tk_75 rfl pick0 rfl fun w hw => ⟨rfl, hw.weak some_nil⟩

theorem c_spec_SplitCell (w : World) (a_split : Int) (a_a : Int) (a_b : Int) {r : GCell} (t0 : spec_SplitCell a_split a_a a_b = some r) : Calls Tryz.prog 108 #[.int .i64 a_split, .int .i64 a_a, .int .i64 a_b] w fun e w' => e = .returned (.agg #[.int .i64 r.Split, .int .i64 r.A, .int .i64 r.B]) ∧ SH w [] [] w' := by
  refine calls_of_wc (args := [_, _, _]) Tryz.func108 rfl Tryz.ntmps108 rfl ?_
  unfold spec_SplitCell at t0
  refine wcr ?_
  refine wl_eff (eo_alloc (cs := [.int .i64 0, .int .i64 0, .int .i64 0]) za_75) rfl fun b1 => ?_
  refine wnt ?_
  refine wc_seq ?_
  refine wcr ?_
  refine mv rfl rfl ?_
  refine mv rfl rfl ?_
  refine wl_pure (po_eql rfl rfl) rfl ?_
  refine wnt ?_
  refine wcO t0 rfl (fun h1 t0 => ?_) fun h1 t0 => ?_
  · skip
    refine wcr ?_
    refine mv rfl rfl ?_
    refine bdO t0 fun v1 hv1 t0 => ?_
    refine wl_call (co_c0 fa_117 rfl fun w hw => c_spec_WholeCell w a_a hv1) rfl fun _ => ?_
    refine wl_skipop (so_box (cs' := [.int .i64 v1.Split, .int .i64 v1.A, .int .i64 v1.B]) tk_75 pick0 rfl rfl rfl rfl rfl rfl rfl) ?_
    refine wnt ?_
    refine wc_ret ?_
    refine wq_then_ret ?_
    obtain rfl := Option.some.inj t0
    exact wq_retc rfl tk_75 rfl pick0 rfl fun w hw => ⟨rfl, hw.weak some_nil⟩
  refine wc_skip ?_
  refine wq_then ?_
  refine wcr ?_
  refine mv rfl rfl ?_
  refine mv rfl rfl ?_
  refine mv rfl rfl ?_
  refine wl_pure (po_build rfl (bd_75_0_1_2 a_split a_a a_b)) rfl ?_
  refine wl_eff (eo_alloc (cs := [.int .i64 0, .int .i64 0, .int .i64 0]) za_75) rfl fun b2 => ?_
  refine wl_skipop (so_box (cs' := [.int .i64 a_split, .int .i64 a_a, .int .i64 a_b]) tk_75 pick0 rfl rfl rfl rfl rfl rfl rfl) ?_
  refine wnt ?_
  refine wc_seq ?_
  refine wcr ?_
  refine wl_pure (v := .agg #[.int .i64 a_split, .int .i64 a_a, .int .i64 a_b]) (po_load_boxs tk_75 pick0 rfl rfl rfl) rfl ?_
  refine bdO t0 fun v2 hv2 t0 => ?_
  refine wl_call (co_c0 fa_61 rfl fun w hw => c_spec_CellOk w (GCell.mk a_split a_a a_b) hv2) rfl fun _ => ?_
  refine wl_pure (po_not rfl) rfl ?_
  refine wnt ?_
  refine wcO t0 rfl (fun h2 t0 => ?_) fun h2 t0 => ?_
  · skip
    refine wcr ?_
    refine wl_pure (po_build rfl bd_75) rfl ?_
    refine wl_skipop (so_box (cs' := [.int .i64 0, .int .i64 0, .int .i64 0]) tk_75 (pickS pick0) rfl rfl rfl rfl rfl rfl rfl) ?_
    refine wnt ?_
    refine wc_ret ?_
    refine wq_then_ret ?_
    obtain rfl := Option.some.inj t0
    exact wq_retc rfl tk_75 rfl pick0 rfl fun w hw => ⟨rfl, hw.weak some_nil⟩
  refine wc_skip ?_
  refine wq_then ?_
  refine wcr ?_
  refine wl_pure (v := .agg #[.int .i64 a_split, .int .i64 a_a, .int .i64 a_b]) (po_load_boxs tk_75 pick0 rfl rfl rfl) rfl ?_
  refine wl_skipop (so_box (cs' := [.int .i64 a_split, .int .i64 a_a, .int .i64 a_b]) tk_75 (pickS pick0) rfl rfl rfl rfl rfl rfl rfl) ?_
  refine wnt ?_
  refine wc_ret ?_
  obtain rfl := Option.some.inj t0
  exact wq_retc rfl tk_75 rfl pick0 rfl fun w hw => ⟨rfl, hw.weak some_nil⟩

theorem c_spec_ExchangeCell (w : World) (a_c : GCell) (a_l : List Int) (v0a : Hd) (r0 : rdF w (dm w []) (sl v0a) a_l) {r : GCell} (t0 : spec_ExchangeCell a_c a_l = some r) : Calls Tryz.prog 97 #[.agg #[.int .i64 a_c.Split, .int .i64 a_c.A, .int .i64 a_c.B], (sl v0a)] w fun e w' => e = .returned (.agg #[.int .i64 r.Split, .int .i64 r.A, .int .i64 r.B]) ∧ SH w [] [] w' := by
  refine calls_of_wc (args := [_, _]) Tryz.func97 rfl Tryz.ntmps97 rfl ?_
  unfold spec_ExchangeCell at t0
  refine wcr ?_
  refine wl_eff (eo_box rfl rfl) rfl fun b1 => ?_
  refine wl_eff (eo_alloc (cs := [.int .i64 0, .int .i64 0, .int .i64 0]) za_75) rfl fun b2 => ?_
  refine wnt ?_
  refine wc_seq ?_
  refine wc_seq ?_
  refine bdO t0 fun y1 t1 t0 => ?_
  refine wj (J := Bool) (X := Unit) (fun z => y1 = z) (fun z _ => [(1, (sl v0a)), (2, ptr b1 0), (4, ptr b2 0), (12, .bool z)]) (fun _ _ => [box b2 [.int .i64 0, .int .i64 0, .int .i64 0], box b1 [.int .i64 a_c.Split, .int .i64 a_c.A, .int .i64 a_c.B]]) ?_ ?_
  · skip
    refine wc_region ?_
    refine wl_pure (v := .agg #[.int .i64 a_c.Split, .int .i64 a_c.A, .int .i64 a_c.B]) (po_load_boxs tk_75 (pickS pick0) rfl rfl rfl) rfl ?_
    refine bdO t1 fun v1 hv1 t1 => ?_
    refine wl_call (co_c0 fa_61 rfl fun w hw => c_spec_CellOk w a_c hv1) rfl fun _ => ?_
    refine wl_pure (po_not rfl) rfl ?_
    refine mv rfl rfl ?_
    refine wlO_ (t := 8) t1 rfl (fun h1 t1 => ?_) fun h1 t1 => ?_
    · skip
      refine wl_guard_off (j := 3) rfl rfl rfl rfl rfl ?_
      refine wl_guard_off (j := 3) rfl rfl rfl rfl rfl ?_
      refine wl_guard_off (j := 3) rfl rfl rfl rfl rfl ?_
      refine wl_pure (po_pick_t rfl rfl) rfl ?_
      refine wl_nil ?_
      exact wj_meet _ () (mtE t1) (sub_cons rfl (sub_cons rfl (sub_cons rfl (sub_cons rfl sub_nil)))) (some_cons pick0 (some_cons pick0 some_nil))
    refine wl_guard_on (j := 3) rfl rfl rfl (mv rfl rfl ?_)
    refine bdO t1 fun v2 hv2 t1 => ?_
    refine wl_guard_on (j := 3) rfl rfl rfl (wl_call (co_c0 fa_96 rfl fun w hw => c_spec_ListOk w a_l v0a (Rg.on (rds_arg r0) hw) hv2) rfl (fun _ => ?_))
    refine wl_guard_on (j := 3) rfl rfl rfl (wl_pure (po_not rfl) rfl ?_)
    refine wl_pure (po_pick_f rfl rfl) rfl ?_
    refine wl_nil ?_
    exact wj_meet _ () (mtE t1) (sub_cons rfl (sub_cons rfl (sub_cons rfl (sub_cons rfl sub_nil)))) (some_cons pick0 (some_cons pick0 some_nil))
  intro j1 _ hp
  obtain rfl : j1 = y1 := hp.symm
  refine wq_then ?_
  refine wcO t0 rfl (fun h2 t0 => ?_) fun h2 t0 => ?_
  · skip
    refine wcr ?_
    refine wl_pure (po_build rfl bd_75) rfl ?_
    refine wl_skipop (so_box (cs' := [.int .i64 0, .int .i64 0, .int .i64 0]) tk_75 pick0 rfl rfl rfl rfl rfl rfl rfl) ?_
    refine wnt ?_
    refine wc_ret ?_
    refine wq_then_ret ?_
    obtain rfl := Option.some.inj t0
    exact wq_retc rfl tk_75 rfl pick0 rfl fun w hw => ⟨rfl, hw.weak some_nil⟩
  refine wc_skip ?_
  refine wq_then ?_
  refine wc_seq ?_
  refine wc_draw [box b2 [.int .i64 0, .int .i64 0, .int .i64 0], box b1 [.int .i64 a_c.Split, .int .i64 a_c.A, .int .i64 a_c.B]] 13 mixed ?_
  refine wa_pure 0 rfl (po_fld fo_75_0 rfl) (some_cons pick0 (some_cons pick0 some_nil)) rfl (by kernel_rfl) (fun _ _ _ h => h) ?_
  refine wa_pure (v := .int .i64 a_c.Split) 1 rfl (po_load_box tk_3 (pickS pick0) rfl rfl) (some_cons pick0 (some_cons pick0 some_nil)) rfl (by kernel_rfl) (fun _ _ _ h => h) ?_
  refine wa_pure 2 rfl (po_move rfl) (some_cons pick0 (some_cons pick0 some_nil)) rfl (by kernel_rfl) (fun _ _ _ h => h) ?_
  refine wa_pure 3 rfl (po_fld fo_75_1 rfl) (some_cons pick0 (some_cons pick0 some_nil)) rfl (by kernel_rfl) (fun _ _ _ h => h) ?_
  refine wa_pure (v := .int .i64 a_c.A) 4 rfl (po_load_box tk_3 (pickS pick0) rfl rfl) (some_cons pick0 (some_cons pick0 some_nil)) rfl (by kernel_rfl) (fun _ _ _ h => h) ?_
  refine gdO t0 fun g1 t0 => ?_
  refine wa_pure 5 rfl (po_ixr (rds_arg r0) el_55 rfl rfl g1.1 g1.2) (some_cons pick0 (some_cons pick0 some_nil)) rfl (by kernel_rfl) (fun _ _ _ h => h) ?_
  refine wa_pure (v := .int .i64 (gx a_l ((a_c.A).toNat))) 6 rfl (po_ldf (rds_arg r0) tk_3 rfl (ix_lt g1) rfl) (some_cons pick0 (some_cons pick0 some_nil)) rfl (by kernel_rfl) (fun _ _ _ h => h) ?_
  refine wa_pure 7 rfl (po_move rfl) (some_cons pick0 (some_cons pick0 some_nil)) rfl (by kernel_rfl) (fun _ _ _ h => h) ?_
  refine wa_pure 8 rfl (po_fld fo_75_2 rfl) (some_cons pick0 (some_cons pick0 some_nil)) rfl (by kernel_rfl) (fun _ _ _ h => h) ?_
  refine wa_pure (v := .int .i64 a_c.B) 9 rfl (po_load_box tk_3 (pickS pick0) rfl rfl) (some_cons pick0 (some_cons pick0 some_nil)) rfl (by kernel_rfl) (fun _ _ _ h => h) ?_
  refine gdO t0 fun g2 t0 => ?_
  refine wa_pure 10 rfl (po_ixr (rds_arg r0) el_55 rfl rfl g2.1 g2.2) (some_cons pick0 (some_cons pick0 some_nil)) rfl (by kernel_rfl) (fun _ _ _ h => h) ?_
  refine wa_pure (v := .int .i64 (gx a_l ((a_c.B).toNat))) 11 rfl (po_ldf (rds_arg r0) tk_3 rfl (ix_lt g2) rfl) (some_cons pick0 (some_cons pick0 some_nil)) rfl (by kernel_rfl) (fun _ _ _ h => h) ?_
  refine wa_1 (i := 12) (by kernel_rfl) ?_
  refine bdO t0 fun v3 hv3 t0 => ?_
  refine ws_call rfl (co_c0 fa_108 rfl fun w hw => c_spec_SplitCell w a_c.Split (gx a_l ((a_c.A).toNat)) (gx a_l ((a_c.B).toNat)) hv3) (fun _ => (sts_some (some_cons pick0 (some_cons pick0 some_nil)))) rfl fun _ => ?_
  refine wa_1 (i := 13) (by kernel_rfl) ?_
  refine ws_skipop rfl (so_box (cs' := [.int .i64 v3.Split, .int .i64 v3.A, .int .i64 v3.B]) tk_75 pick0 rfl rfl rfl rfl rfl rfl rfl) (sts_past (by kernel_rfl)) ?_
  refine wa_done (by kernel_rfl) ?_
  refine wq_then ?_
  refine wc_ret ?_
  obtain rfl := Option.some.inj t0
  exact wq_retc rfl tk_75 rfl pick0 rfl fun w hw => ⟨rfl, hw.weak some_nil⟩

theorem c_spec_ExchangeBlock (w : World) (a_b : GBlock) (v0a : Hd) (r0 : rdF w (dm w []) (sl v0a) a_b.Cells) (a_l : List Int) (v1a : Hd) (r1 : rdF w (dm w []) (sl v1a) a_l) {r : GBlock × Bool} (t0 : spec_ExchangeBlock a_b a_l = some r) : Calls Tryz.prog 79 #[.agg #[.int .i64 a_b.Size, (sl v0a)], (sl v1a)] w fun e w' => ∃ x : Hd, e = .returned (.tuple #[.agg #[.int .i64 r.1.Size, (sl x)], .bool r.2]) ∧ SH w [] [ownF (sl x) r.1.Cells] w' := by
  refine calls_of_wc (args := [_, _]) Tryz.func79 rfl Tryz.ntmps79 rfl ?_
  unfold spec_ExchangeBlock at t0
  refine wcr ?_
  refine wl_eff (eo_box rfl rfl) rfl fun b1 => ?_
  refine wl_eff (eo_alloc (cs := [.int .i64 0, (sl (⟨none, 0, 0⟩ : Hd))]) za_31) rfl fun b2 => ?_
  refine asg rfl rfl ?_
  refine wnt ?_
  refine wc_seq ?_
  refine wc_seq ?_
  refine bdO t0 fun y1 t1 t0 => ?_
  refine wj (J := Bool) (X := Unit) (fun z => y1 = z) (fun z _ => [(1, (sl v1a)), (2, ptr b1 0), (4, ptr b2 0), (15, .bool z)]) (fun _ _ => [box b2 [.int .i64 0, (sl (⟨none, 0, 0⟩ : Hd))], box b1 [.int .i64 a_b.Size, (sl v0a)]]) ?_ ?_
  · skip
    refine wc_region ?_
    refine wl_pure (v := .agg #[.int .i64 a_b.Size, (sl v0a)]) (po_load_boxs tk_31 (pickS pick0) rfl rfl rfl) rfl ?_
    refine bdO t1 fun v1 hv1 t1 => ?_
    refine wl_call (co_c0 fa_42 rfl fun w hw => c_spec_BlockOk w a_b v0a (Rg.on (rds_arg r0) hw) hv1) rfl fun _ => ?_
    refine wl_pure (po_not rfl) rfl ?_
    refine mv rfl rfl ?_
    refine wlO_ (t := 11) t1 rfl (fun h1 t1 => ?_) fun h1 t1 => ?_
    · skip
      refine wl_guard_off (j := 3) rfl rfl rfl rfl rfl ?_
      refine wl_guard_off (j := 3) rfl rfl rfl rfl rfl ?_
      refine wl_guard_off (j := 3) rfl rfl rfl rfl rfl ?_
      refine wl_pure (po_pick_t rfl rfl) rfl ?_
      refine wl_nil ?_
      exact wj_meet _ () (mtE t1) (sub_cons rfl (sub_cons rfl (sub_cons rfl (sub_cons rfl sub_nil)))) (some_cons pick0 (some_cons pick0 some_nil))
    refine wl_guard_on (j := 3) rfl rfl rfl (mv rfl rfl ?_)
    refine bdO t1 fun v2 hv2 t1 => ?_
    refine wl_guard_on (j := 3) rfl rfl rfl (wl_call (co_c0 fa_96 rfl fun w hw => c_spec_ListOk w a_l v1a (Rg.on (rds_arg r1) hw) hv2) rfl (fun _ => ?_))
    refine wl_guard_on (j := 3) rfl rfl rfl (wl_pure (po_not rfl) rfl ?_)
    refine wl_pure (po_pick_f rfl rfl) rfl ?_
    refine wl_nil ?_
    exact wj_meet _ () (mtE t1) (sub_cons rfl (sub_cons rfl (sub_cons rfl (sub_cons rfl sub_nil)))) (some_cons pick0 (some_cons pick0 some_nil))
  intro j1 _ hp
  obtain rfl : j1 = y1 := hp.symm
  refine wq_then ?_
  refine wcO t0 rfl (fun h2 t0 => ?_) fun h2 t0 => ?_
  · skip
    refine wcr ?_
    refine wl_pure (v := .agg #[.int .i64 a_b.Size, (sl v0a)]) (po_load_boxs tk_31 (pickS pick0) rfl rfl rfl) rfl ?_
    refine bdO t0 fun v3 hv3 t0 => ?_
    refine wl_call (co_c1 fa_65 rfl fun w hw => c_spec_l03Copy w a_b v0a (Rg.on (rds_arg r0) hw) hv3) rfl fun x2 => ?_
    refine wl_skipop (so_box (cs' := [.int .i64 v3.Size, (sl x2)]) tk_31 (pickS pick0) rfl rfl rfl rfl rfl rfl rfl) ?_
    refine asg rfl rfl ?_
    refine wnt ?_
    refine wc_ret ?_
    refine wq_then_ret ?_
    obtain rfl := Option.some.inj t0
    exact wq_retc1 rfl tk_31 rfl rfl pick0 rfl fun w hw => ⟨x2, rfl, hw.weak (some_cons (pickS pick0) some_nil)⟩
  refine wc_skip ?_
  refine wq_then ?_
  refine wcr ?_
  refine wl_pure (po_fld fo_31_0 rfl) rfl ?_
  refine wl_pure (v := .int .i64 a_b.Size) (po_load_box tk_3 (pickS pick0) rfl rfl) rfl ?_
  refine wl_pure (po_build rfl (bd_31_0 a_b.Size)) rfl ?_
  refine wl_eff (eo_alloc (cs := [.int .i64 0, (sl (⟨none, 0, 0⟩ : Hd))]) za_31) rfl fun b3 => ?_
  refine wl_skipop (so_box (cs' := [.int .i64 a_b.Size, (sl (⟨none, 0, 0⟩ : Hd))]) tk_31 pick0 rfl rfl rfl rfl rfl rfl rfl) ?_
  refine wnt ?_
  refine wc_seq ?_
  refine wcr ?_
  refine asg rfl rfl ?_
  refine wnt ?_
  refine gdO t0 fun g1 t0 => ?_
  refine lpO_inv t0 fun y1 l1 t0 => ?_
  refine wj (J := List GCell) (X := Hd) (fun z => y1 = z) (fun _ _ => [(4, ptr b2 0), (6, ptr b3 0)]) (fun z x => [box b3 [.int .i64 a_b.Size, (sl x)], box b2 [.int .i64 0, (sl (⟨none, 0, 0⟩ : Hd))], ownF (sl x) z]) ?_ ?_
  · skip
    refine wc_block ?_
    refine wc_forO (X := Hd) l1 (fun k1 s1 x1l => [(1, (sl v1a)), (2, ptr b1 0), (4, ptr b2 0), (6, ptr b3 0), (7, .int .i64 ((k1 : Nat) : Int))]) (fun k1 s1 x1l => [box b3 [.int .i64 a_b.Size, (sl x1l)], box b2 [.int .i64 0, (sl (⟨none, 0, 0⟩ : Hd))], box b1 [.int .i64 a_b.Size, (sl v0a)], ownF (sl x1l) s1]) (⟨none, 0, 0⟩ : Hd) (sub_cons rfl (sub_cons rfl (sub_cons rfl (sub_cons rfl (sub_cons rfl sub_nil))))) (some_cons pick0 (some_cons pick0 (some_cons pick0 (some_cons pick_nil some_nil)))) fun k1 s1 x1l hN1 l1 => ?_
    by_cases hk1 : k1 < a_b.Cells.length
    · skip
      refine forO_step l1 hk1 fun _ t1 l1 => ?_
      unfold spec_ExchangeBlock_L1 at t1
      have c1 : (decide (((k1 : Nat) : Int) < ((a_b.Cells.length : Nat) : Int))) = true := decide_eq_true (by omega)
      refine wc_seq ?_
      refine wcr ?_
      refine mv rfl rfl ?_
      refine wl_pure (po_fld fo_31_1 rfl) rfl ?_
      refine wl_pure (v := (sl v0a)) (po_load_box tk_29 (pickS (pickS pick0)) rfl rfl) rfl ?_
      refine wl_pure (po_lenr (rds_arg r0) el_29 rfl) rfl ?_
      refine wl_pure (po_lss rfl rfl) rfl ?_
      refine wnt ?_
      refine wc_cond_t rfl c1 ?_
      refine wc_skip ?_
      refine wq_then ?_
      refine wc_seq ?_
      refine wc_block ?_
      refine wc_draw [box b3 [.int .i64 a_b.Size, (sl x1l)], box b2 [.int .i64 0, (sl (⟨none, 0, 0⟩ : Hd))], box b1 [.int .i64 a_b.Size, (sl v0a)]] 12 mixed ?_
      refine wa_pure 0 rfl (po_fld fo_31_1 rfl) (some_cons pick0 (some_cons pick0 (some_cons pick0 some_nil))) rfl (by kernel_rfl) (fun _ _ _ h => h) ?_
      refine wa_pure (v := (sl x1l)) 1 rfl (po_load_box tk_29 pick0 rfl rfl) (some_cons pick0 (some_cons pick0 (some_cons pick0 some_nil))) rfl (by kernel_rfl) (fun _ _ _ h => h) ?_
      refine wa_pure 2 rfl (po_fld fo_31_1 rfl) (some_cons pick0 (some_cons pick0 (some_cons pick0 some_nil))) rfl (by kernel_rfl) (fun _ _ _ h => h) ?_
      refine wa_pure (v := (sl v0a)) 3 rfl (po_load_box tk_29 (pickS (pickS pick0)) rfl rfl) (some_cons pick0 (some_cons pick0 (some_cons pick0 some_nil))) rfl (by kernel_rfl) (fun _ _ _ h => h) ?_
      refine wa_pure 4 rfl (po_move rfl) (some_cons pick0 (some_cons pick0 (some_cons pick0 some_nil))) rfl (by kernel_rfl) (fun _ _ _ h => h) ?_
      refine wa_pure 5 rfl (po_ixn (k := k1) (rds_arg r0) el_29 rfl rfl hk1) (some_cons pick0 (some_cons pick0 (some_cons pick0 some_nil))) rfl (by kernel_rfl) (fun _ _ _ h => h) ?_
      refine wa_pure (v := .agg #[.int .i64 ((gx a_b.Cells k1).Split), .int .i64 ((gx a_b.Cells k1).A), .int .i64 ((gx a_b.Cells k1).B)]) 6 rfl (po_ldfs (rds_arg r0) tk_75 rfl hk1 rfl rfl rfl) (some_cons pick0 (some_cons pick0 (some_cons pick0 some_nil))) rfl (by kernel_rfl) (fun _ _ _ h => h) ?_
      refine wa_pure 7 rfl (po_move rfl) (some_cons pick0 (some_cons pick0 (some_cons pick0 some_nil))) rfl (by kernel_rfl) (fun _ _ _ h => h) ?_
      refine wa_1 (i := 8) (by kernel_rfl) ?_
      refine bdO t1 fun v4 hv4 t1 => ?_
      refine ws_call rfl (co_c0 fa_97 rfl fun w hw => c_spec_ExchangeCell w (gx a_b.Cells k1) a_l v1a (Rg.on (rds_arg r1) hw) hv4) (fun _ => (sts_some (some_cons pick0 (some_cons pick0 (some_cons pick0 some_nil))))) rfl fun _ => ?_
      refine wa_1 (i := 9) (by kernel_rfl) ?_
      refine ws_eff rfl (eo_buildSlice rfl (sb_29_1 v4.Split v4.A v4.B)) (fun _ => (sts_some (some_cons (pickS pick0) (some_cons (pickS pick0) (some_cons (pickS pick0) some_nil))))) rfl fun b4 => ?_
      refine wa_1 (i := 10) (by kernel_rfl) ?_
      refine gdO t1 fun g2 t1 => ?_
      refine ws_eff rfl (eo_append (xs := s1) (ys := ([v4] : List GCell)) ak_29 (pickS (pickS (pickS (pickS pick0)))) rfl rfl (slin_rd fun _ g => Rg.on (rds_own (pick_box_own pick0 (n := 1) (xs := ([v4] : List GCell)) rfl rfl (by unfold maxLen; omega))) g) g2) (fun _ => (sts_some (some_cons (pickS (pickS pick0)) (some_cons (pickS (pickS pick0)) (some_cons (pickS (pickS pick0)) some_nil))))) rfl fun x4 => ?_
      refine wa_pure 11 rfl (po_fld fo_31_1 rfl) (some_cons (pickS (pickS pick0)) (some_cons (pickS (pickS pick0)) (some_cons (pickS (pickS pick0)) some_nil))) rfl (by kernel_rfl) (fun _ _ _ h => h) ?_
      refine wa_1 (i := 12) (by kernel_rfl) ?_
      refine ws_skipop rfl (so_box (cs' := [.int .i64 a_b.Size, (sl x4)]) tk_29 (pickS (pickS pick0)) rfl rfl rfl rfl rfl rfl rfl) (sts_past (by kernel_rfl)) ?_
      refine wa_done (by kernel_rfl) ?_
      refine wq_block ?_
      refine wq_then ?_
      refine wc_region ?_
      refine mv rfl rfl ?_
      refine wl_pure (po_inc rfl rfl (by omega)) rfl ?_
      refine asg rfl rfl ?_
      refine wl_nil ?_
      exact wq_rnd hk1 (stpN l1 t1) x4 (sub_cons rfl (sub_cons rfl (sub_cons rfl (sub_cons rfl (sub_cons rfl sub_nil))))) (some_cons pick0 (some_cons (pickS (pickS pick0)) (some_cons (pickS (pickS pick0)) (some_cons pick0 some_nil))))
    have c1 : (decide (((k1 : Nat) : Int) < ((a_b.Cells.length : Nat) : Int))) = false := decide_eq_false (by omega)
    have en1 := forO_end l1 hk1
    refine wc_seq ?_
    refine wcr ?_
    refine mv rfl rfl ?_
    refine wl_pure (po_fld fo_31_1 rfl) rfl ?_
    refine wl_pure (v := (sl v0a)) (po_load_box tk_29 (pickS (pickS pick0)) rfl rfl) rfl ?_
    refine wl_pure (po_lenr (rds_arg r0) el_29 rfl) rfl ?_
    refine wl_pure (po_lss rfl rfl) rfl ?_
    refine wnt ?_
    refine wc_cond_f rfl c1 ?_
    refine wc_exit ?_
    refine wq_then_exit ?_
    refine wq_then_exit ?_
    refine wq_block_exit ?_
    exact wj_meet _ x1l (Sum.inl.inj en1) (sub_cons rfl (sub_cons rfl sub_nil)) (some_cons pick0 (some_cons pick0 (some_cons (pickS pick0) some_nil)))
  intro e1 x3 hp
  obtain rfl : e1 = y1 := hp.symm
  refine wq_then ?_
  refine wcr ?_
  refine wl_pure (v := .agg #[.int .i64 a_b.Size, (sl x3)]) (po_load_boxs tk_31 pick0 rfl rfl rfl) rfl ?_
  refine wl_skipop (so_box (cs' := [.int .i64 a_b.Size, (sl x3)]) tk_31 (pickS pick0) rfl rfl rfl rfl rfl rfl rfl) ?_
  refine asg rfl rfl ?_
  refine wnt ?_
  refine wc_ret ?_
  obtain rfl := Option.some.inj t0
  exact wq_retc1 rfl tk_31 rfl rfl pick0 rfl fun w hw => ⟨x3, rfl, hw.weak (some_cons (pickS (pickS pick0)) some_nil)⟩

theorem c_spec_l07Plain (w : World) (a_b : GBlock) (v0a : Hd) (r0 : rdF w (dm w []) (sl v0a) a_b.Cells) {r : GBlock} (t0 : spec_l07Plain a_b = some r) : Calls Tryz.prog 62 #[.agg #[.int .i64 a_b.Size, (sl v0a)]] w fun e w' => ∃ x : Hd, e = .returned (.agg #[.int .i64 r.Size, (sl x)]) ∧ SH w [] [ownF (sl x) r.Cells] w' := by
  refine calls_of_wc (args := [_]) Tryz.func62 rfl Tryz.ntmps62 rfl ?_
  unfold spec_l07Plain at t0
  refine wcr ?_
  refine wl_eff (eo_box rfl rfl) rfl fun b1 => ?_
  refine wl_eff (eo_alloc (cs := [.int .i64 0, (sl (⟨none, 0, 0⟩ : Hd))]) za_31) rfl fun b2 => ?_
  refine wnt ?_
  refine wc_seq ?_
  refine bdO t0 fun v1 hv1 t0 => ?_
  refine bdO t0 fun v2 hv2 t0 => ?_
  refine wc_join (X := Nat × Hd) (fun _ => True) (fun z => [(2, ptr b2 0), (3, ptr z.1 0)]) (fun z => [box z.1 [.int .i64 v2.1.Size, (sl z.2)], ownF (sl z.2) v2.1.Cells, box b2 [.int .i64 0, (sl (⟨none, 0, 0⟩ : Hd))]]) ?_ ?_
  · skip
    refine wc_draw [box b2 [.int .i64 0, (sl (⟨none, 0, 0⟩ : Hd))], box b1 [.int .i64 a_b.Size, (sl v0a)]] 10 mixed ?_
    refine wa_pure (v := .agg #[.int .i64 a_b.Size, (sl v0a)]) 0 rfl (po_load_boxs tk_31 (pickS pick0) rfl rfl rfl) (some_cons pick0 (some_cons pick0 some_nil)) rfl (by kernel_rfl) (fun _ _ _ h => h) ?_
    refine wa_pure (v := .agg #[.int .i64 a_b.Size, (sl v0a)]) 1 rfl (po_load_boxs tk_31 (pickS pick0) rfl rfl rfl) (some_cons pick0 (some_cons pick0 some_nil)) rfl (by kernel_rfl) (fun _ _ _ h => h) ?_
    refine wa_2 (i := 2) (j := 7) (by kernel_rfl) ?_ ?_
    · skip
      refine ws_call rfl (co_c1 fa_80 rfl fun w hw => c_spec_FirstUse w a_b v0a (Rg.on (rds_arg r0) hw) hv1) (fun _ => (sts_some (some_cons (pickS pick0) (some_cons (pickS pick0) some_nil)))) rfl fun x1 => ?_
      refine wa_2 (i := 3) (j := 7) (by kernel_rfl) ?_ ?_
      · skip
        refine ws_call rfl (co_c1 fa_79 rfl fun w hw => c_spec_ExchangeBlock w a_b v0a (Rg.on (rds_arg r0) hw) v1 x1 (Rg.on (rds_own pick0) hw) hv2) (fun _ => (sts_some (some_cons (pickS (pickS pick0)) (some_cons (pickS (pickS pick0)) some_nil)))) rfl fun x2 => ?_
        refine wa_pure 4 rfl (po_move rfl) (some_cons (pickS (pickS pick0)) (some_cons (pickS (pickS pick0)) some_nil)) rfl (by kernel_rfl) (fun _ _ _ h => h) ?_
        refine wa_pure 5 rfl (po_extract rfl rfl) (some_cons (pickS (pickS pick0)) (some_cons (pickS (pickS pick0)) some_nil)) rfl (by kernel_rfl) (fun _ _ _ h => h) ?_
        refine wa_pure 6 rfl (po_extract rfl rfl) (some_cons (pickS (pickS pick0)) (some_cons (pickS (pickS pick0)) some_nil)) rfl (by kernel_rfl) (fun _ _ _ h => h) ?_
        refine wa_1 (i := 7) (by kernel_rfl) ?_
        refine ws_eff rfl (eo_alloc (cs := [.int .i64 0, (sl (⟨none, 0, 0⟩ : Hd))]) za_31) (fun _ => (sts_some (some_cons (pickS (pickS (pickS pick0))) (some_cons (pickS (pickS (pickS pick0))) some_nil)))) rfl fun b3 => ?_
        refine wa_1 (i := 8) (by kernel_rfl) ?_
        refine ws_skipop rfl (so_box (cs' := [.int .i64 v2.1.Size, (sl x2)]) tk_31 pick0 rfl rfl rfl rfl rfl rfl rfl) (sts_some (some_cons (pickS (pickS (pickS pick0))) (some_cons (pickS (pickS (pickS pick0))) some_nil))) ?_
        refine wa_pure 9 rfl (po_assign rfl) (some_cons (pickS (pickS (pickS pick0))) (some_cons (pickS (pickS (pickS pick0))) some_nil)) rfl (by kernel_rfl) (fun _ _ _ h => h) ?_
        refine wa_done (by kernel_rfl) ?_
        exact wq_meet (b3, x2) trivial (sub_cons rfl (sub_cons rfl sub_nil)) (some_cons pick0 (some_cons pick0 (some_cons (pickS pick0) some_nil)))
      refine ws_eff rfl (eo_alloc (cs := [.int .i64 0, (sl (⟨none, 0, 0⟩ : Hd))]) za_31) (fun _ => (sts_some (some_cons (pickS (pickS pick0)) (some_cons (pickS (pickS pick0)) some_nil)))) rfl fun b4 => ?_
      refine wa_1 (i := 3) (by kernel_rfl) ?_
      refine ws_call rfl (co_c1 fa_79 rfl fun w hw => c_spec_ExchangeBlock w a_b v0a (Rg.on (rds_arg r0) hw) v1 x1 (Rg.on (rds_own (pickS pick0)) hw) hv2) (fun _ => (sts_some (some_cons (pickS (pickS (pickS pick0))) (some_cons (pickS (pickS (pickS pick0))) some_nil)))) rfl fun x3 => ?_
      refine wa_pure 4 rfl (po_move rfl) (some_cons (pickS (pickS (pickS pick0))) (some_cons (pickS (pickS (pickS pick0))) some_nil)) rfl (by kernel_rfl) (fun _ _ _ h => h) ?_
      refine wa_pure 5 rfl (po_extract rfl rfl) (some_cons (pickS (pickS (pickS pick0))) (some_cons (pickS (pickS (pickS pick0))) some_nil)) rfl (by kernel_rfl) (fun _ _ _ h => h) ?_
      refine wa_pure 6 rfl (po_extract rfl rfl) (some_cons (pickS (pickS (pickS pick0))) (some_cons (pickS (pickS (pickS pick0))) some_nil)) rfl (by kernel_rfl) (fun _ _ _ h => h) ?_
      refine wa_1 (i := 8) (by kernel_rfl) ?_
      refine ws_skipop rfl (so_box (cs' := [.int .i64 v2.1.Size, (sl x3)]) tk_31 (pickS pick0) rfl rfl rfl rfl rfl rfl rfl) (sts_some (some_cons (pickS (pickS (pickS pick0))) (some_cons (pickS (pickS (pickS pick0))) some_nil))) ?_
      refine wa_pure 9 rfl (po_assign rfl) (some_cons (pickS (pickS (pickS pick0))) (some_cons (pickS (pickS (pickS pick0))) some_nil)) rfl (by kernel_rfl) (fun _ _ _ h => h) ?_
      refine wa_done (by kernel_rfl) ?_
      exact wq_meet (b4, x3) trivial (sub_cons rfl (sub_cons rfl sub_nil)) (some_cons pick0 (some_cons pick0 (some_cons (pickS pick0) some_nil)))
    refine ws_eff rfl (eo_alloc (cs := [.int .i64 0, (sl (⟨none, 0, 0⟩ : Hd))]) za_31) (fun _ => (sts_some (some_cons (pickS pick0) (some_cons (pickS pick0) some_nil)))) rfl fun b5 => ?_
    refine wa_1 (i := 2) (by kernel_rfl) ?_
    refine ws_call rfl (co_c1 fa_80 rfl fun w hw => c_spec_FirstUse w a_b v0a (Rg.on (rds_arg r0) hw) hv1) (fun _ => (sts_some (some_cons (pickS (pickS pick0)) (some_cons (pickS (pickS pick0)) some_nil)))) rfl fun x4 => ?_
    refine wa_1 (i := 3) (by kernel_rfl) ?_
    refine ws_call rfl (co_c1 fa_79 rfl fun w hw => c_spec_ExchangeBlock w a_b v0a (Rg.on (rds_arg r0) hw) v1 x4 (Rg.on (rds_own pick0) hw) hv2) (fun _ => (sts_some (some_cons (pickS (pickS (pickS pick0))) (some_cons (pickS (pickS (pickS pick0))) some_nil)))) rfl fun x5 => ?_
    refine wa_pure 4 rfl (po_move rfl) (some_cons (pickS (pickS (pickS pick0))) (some_cons (pickS (pickS (pickS pick0))) some_nil)) rfl (by kernel_rfl) (fun _ _ _ h => h) ?_
    refine wa_pure 5 rfl (po_extract rfl rfl) (some_cons (pickS (pickS (pickS pick0))) (some_cons (pickS (pickS (pickS pick0))) some_nil)) rfl (by kernel_rfl) (fun _ _ _ h => h) ?_
    refine wa_pure 6 rfl (po_extract rfl rfl) (some_cons (pickS (pickS (pickS pick0))) (some_cons (pickS (pickS (pickS pick0))) some_nil)) rfl (by kernel_rfl) (fun _ _ _ h => h) ?_
    refine wa_1 (i := 8) (by kernel_rfl) ?_
    refine ws_skipop rfl (so_box (cs' := [.int .i64 v2.1.Size, (sl x5)]) tk_31 (pickS (pickS pick0)) rfl rfl rfl rfl rfl rfl rfl) (sts_some (some_cons (pickS (pickS (pickS pick0))) (some_cons (pickS (pickS (pickS pick0))) some_nil))) ?_
    refine wa_pure 9 rfl (po_assign rfl) (some_cons (pickS (pickS (pickS pick0))) (some_cons (pickS (pickS (pickS pick0))) some_nil)) rfl (by kernel_rfl) (fun _ _ _ h => h) ?_
    refine wa_done (by kernel_rfl) ?_
    exact wq_meet (b5, x5) trivial (sub_cons rfl (sub_cons rfl sub_nil)) (some_cons pick0 (some_cons pick0 (some_cons (pickS pick0) some_nil)))
  intro x6 _
  refine wq_then ?_
  refine wcr ?_
  refine wl_pure (v := .agg #[.int .i64 v2.1.Size, (sl x6.2)]) (po_load_boxs tk_31 pick0 rfl rfl rfl) rfl ?_
  refine wl_skipop (so_box (cs' := [.int .i64 v2.1.Size, (sl x6.2)]) tk_31 (pickS (pickS pick0)) rfl rfl rfl rfl rfl rfl rfl) ?_
  refine wnt ?_
  refine wc_ret ?_
  obtain rfl := Option.some.inj t0
  exact wq_retc rfl tk_31 rfl pick0 rfl fun w hw => ⟨x6.2, rfl, hw.weak (some_cons (pickS (pickS pick0)) some_nil)⟩

theorem c_spec_MirrorCell (w : World) (a_c : GCell) {r : GCell} (t0 : spec_MirrorCell a_c = some r) : Calls Tryz.prog 82 #[.agg #[.int .i64 a_c.Split, .int .i64 a_c.A, .int .i64 a_c.B]] w fun e w' => e = .returned (.agg #[.int .i64 r.Split, .int .i64 r.A, .int .i64 r.B]) ∧ SH w [] [] w' := by
  refine calls_of_wc (args := [_]) Tryz.func82 rfl Tryz.ntmps82 rfl ?_
  unfold spec_MirrorCell at t0
  refine wcr ?_
  refine wl_eff (eo_box rfl rfl) rfl fun b1 => ?_
  refine wl_eff (eo_alloc (cs := [.int .i64 0, .int .i64 0, .int .i64 0]) za_75) rfl fun b2 => ?_
  refine wnt ?_
  refine wc_seq ?_
  refine wcr ?_
  refine wl_pure (v := .agg #[.int .i64 a_c.Split, .int .i64 a_c.A, .int .i64 a_c.B]) (po_load_boxs tk_75 (pickS pick0) rfl rfl rfl) rfl ?_
  refine bdO t0 fun v1 hv1 t0 => ?_
  refine wl_call (co_c0 fa_61 rfl fun w hw => c_spec_CellOk w a_c hv1) rfl fun _ => ?_
  refine wl_pure (po_not rfl) rfl ?_
  refine wnt ?_
  refine wcO t0 rfl (fun h1 t0 => ?_) fun h1 t0 => ?_
  · skip
    refine wcr ?_
    refine wl_pure (po_build rfl bd_75) rfl ?_
    refine wl_skipop (so_box (cs' := [.int .i64 0, .int .i64 0, .int .i64 0]) tk_75 pick0 rfl rfl rfl rfl rfl rfl rfl) ?_
    refine wnt ?_
    refine wc_ret ?_
    refine wq_then_ret ?_
    obtain rfl := Option.some.inj t0
    exact wq_retc rfl tk_75 rfl pick0 rfl fun w hw => ⟨rfl, hw.weak some_nil⟩
  refine wc_skip ?_
  refine wq_then ?_
  refine wc_seq ?_
  refine wcr ?_
  refine wl_pure (po_fld fo_75_0 rfl) rfl ?_
  refine wl_pure (v := .int .i64 a_c.Split) (po_load_box tk_3 (pickS pick0) rfl rfl) rfl ?_
  refine wl_pure (po_eql rfl rfl) rfl ?_
  refine wnt ?_
  refine wcO t0 rfl (fun h2 t0 => ?_) fun h2 t0 => ?_
  · skip
    refine wcr ?_
    refine wl_pure (v := .agg #[.int .i64 a_c.Split, .int .i64 a_c.A, .int .i64 a_c.B]) (po_load_boxs tk_75 (pickS pick0) rfl rfl rfl) rfl ?_
    refine wl_skipop (so_box (cs' := [.int .i64 a_c.Split, .int .i64 a_c.A, .int .i64 a_c.B]) tk_75 pick0 rfl rfl rfl rfl rfl rfl rfl) ?_
    refine wnt ?_
    refine wc_ret ?_
    refine wq_then_ret ?_
    obtain rfl := Option.some.inj t0
    exact wq_retc rfl tk_75 rfl pick0 rfl fun w hw => ⟨rfl, hw.weak some_nil⟩
  refine wc_skip ?_
  refine wq_then ?_
  refine wcr ?_
  refine wl_pure (po_fld fo_75_0 rfl) rfl ?_
  refine wl_pure (v := .int .i64 a_c.Split) (po_load_box tk_3 (pickS pick0) rfl rfl) rfl ?_
  refine wl_pure (po_sub rfl rfl) rfl ?_
  refine wl_pure (po_fld fo_75_2 rfl) rfl ?_
  refine wl_pure (v := .int .i64 a_c.B) (po_load_box tk_3 (pickS pick0) rfl rfl) rfl ?_
  refine wl_pure (po_fld fo_75_1 rfl) rfl ?_
  refine wl_pure (v := .int .i64 a_c.A) (po_load_box tk_3 (pickS pick0) rfl rfl) rfl ?_
  refine wl_pure (po_build rfl (bd_75_0_1_2 (wr (3 - a_c.Split)) a_c.B a_c.A)) rfl ?_
  refine wl_skipop (so_box (cs' := [.int .i64 (wr (3 - a_c.Split)), .int .i64 a_c.B, .int .i64 a_c.A]) tk_75 pick0 rfl rfl rfl rfl rfl rfl rfl) ?_
  refine wnt ?_
  refine wc_ret ?_
  obtain rfl := Option.some.inj t0
  exact wq_retc rfl tk_75 rfl pick0 rfl fun w hw => ⟨rfl, hw.weak some_nil⟩

theorem c_spec_MirrorBlock (w : World) (a_b : GBlock) (v0a : Hd) (r0 : rdF w (dm w []) (sl v0a) a_b.Cells) {r : GBlock} (t0 : spec_MirrorBlock a_b = some r) : Calls Tryz.prog 66 #[.agg #[.int .i64 a_b.Size, (sl v0a)]] w fun e w' => ∃ x : Hd, e = .returned (.agg #[.int .i64 r.Size, (sl x)]) ∧ SH w [] [ownF (sl x) r.Cells] w' := by
  refine calls_of_wc (args := [_]) Tryz.func66 rfl Tryz.ntmps66 rfl ?_
  unfold spec_MirrorBlock at t0
  refine wcr ?_
  refine wl_eff (eo_box rfl rfl) rfl fun b1 => ?_
  refine wl_eff (eo_alloc (cs := [.int .i64 0, (sl (⟨none, 0, 0⟩ : Hd))]) za_31) rfl fun b2 => ?_
  refine wnt ?_
  refine wc_seq ?_
  refine wcr ?_
  refine wl_pure (v := .agg #[.int .i64 a_b.Size, (sl v0a)]) (po_load_boxs tk_31 (pickS pick0) rfl rfl rfl) rfl ?_
  refine bdO t0 fun v1 hv1 t0 => ?_
  refine wl_call (co_c0 fa_42 rfl fun w hw => c_spec_BlockOk w a_b v0a (Rg.on (rds_arg r0) hw) hv1) rfl fun _ => ?_
  refine wl_pure (po_not rfl) rfl ?_
  refine wnt ?_
  refine wcO t0 rfl (fun h1 t0 => ?_) fun h1 t0 => ?_
  · skip
    refine wcr ?_
    refine wl_pure (po_build rfl bd_31) rfl ?_
    refine wl_skipop (so_box (cs' := [.int .i64 0, (sl (⟨none, 0, 0⟩ : Hd))]) tk_31 pick0 rfl rfl rfl rfl rfl rfl rfl) ?_
    refine wnt ?_
    refine wc_ret ?_
    refine wq_then_ret ?_
    obtain rfl := Option.some.inj t0
    exact wq_retc rfl tk_31 rfl pick0 rfl fun w hw => ⟨(⟨none, 0, 0⟩ : Hd), rfl, hw.weak (some_cons pick_nil some_nil)⟩
  refine wc_skip ?_
  refine wq_then ?_
  refine wcr ?_
  refine wl_pure (po_fld fo_31_0 rfl) rfl ?_
  refine wl_pure (v := .int .i64 a_b.Size) (po_load_box tk_3 (pickS pick0) rfl rfl) rfl ?_
  refine wl_pure (po_build rfl (bd_31_0 a_b.Size)) rfl ?_
  refine wl_eff (eo_alloc (cs := [.int .i64 0, (sl (⟨none, 0, 0⟩ : Hd))]) za_31) rfl fun b3 => ?_
  refine wl_skipop (so_box (cs' := [.int .i64 a_b.Size, (sl (⟨none, 0, 0⟩ : Hd))]) tk_31 pick0 rfl rfl rfl rfl rfl rfl rfl) ?_
  refine wnt ?_
  refine wc_seq ?_
  refine wcr ?_
  refine asg rfl rfl ?_
  refine wnt ?_
  refine gdO t0 fun g1 t0 => ?_
  refine lpO_inv t0 fun y1 l1 t0 => ?_
  refine wj (J := List GCell) (X := Hd) (fun z => y1 = z) (fun _ _ => [(2, ptr b2 0), (3, ptr b3 0)]) (fun z x => [box b3 [.int .i64 a_b.Size, (sl x)], box b2 [.int .i64 0, (sl (⟨none, 0, 0⟩ : Hd))], ownF (sl x) z]) ?_ ?_
  · skip
    refine wc_block ?_
    refine wc_forO (X := Hd) l1 (fun k1 s1 x1l => [(1, ptr b1 0), (2, ptr b2 0), (3, ptr b3 0), (4, .int .i64 ((k1 : Nat) : Int))]) (fun k1 s1 x1l => [box b3 [.int .i64 a_b.Size, (sl x1l)], box b2 [.int .i64 0, (sl (⟨none, 0, 0⟩ : Hd))], box b1 [.int .i64 a_b.Size, (sl v0a)], ownF (sl x1l) s1]) (⟨none, 0, 0⟩ : Hd) (sub_cons rfl (sub_cons rfl (sub_cons rfl (sub_cons rfl sub_nil)))) (some_cons pick0 (some_cons pick0 (some_cons pick0 (some_cons pick_nil some_nil)))) fun k1 s1 x1l hN1 l1 => ?_
    by_cases hk1 : k1 < (a_b.Size).toNat
    · skip
      refine forO_step l1 hk1 fun _ t1 l1 => ?_
      unfold spec_MirrorBlock_L1 at t1
      have c1 : (decide (((k1 : Nat) : Int) < a_b.Size)) = true := decide_eq_true (by omega)
      refine wc_seq ?_
      refine wcr ?_
      refine mv rfl rfl ?_
      refine wl_pure (po_fld fo_31_0 rfl) rfl ?_
      refine wl_pure (v := .int .i64 a_b.Size) (po_load_box tk_3 (pickS (pickS pick0)) rfl rfl) rfl ?_
      refine wl_pure (po_lss rfl rfl) rfl ?_
      refine wnt ?_
      refine wc_cond_t rfl c1 ?_
      refine wc_skip ?_
      refine wq_then ?_
      refine wc_seq ?_
      refine wc_block ?_
      refine wcr ?_
      refine asg rfl rfl ?_
      refine wnt ?_
      refine lpO_inv t1 fun y2 l2 t1 => ?_
      refine wj (J := List GCell) (X := Hd) (fun z => y2 = z) (fun _ _ => [(1, ptr b1 0), (2, ptr b2 0), (3, ptr b3 0), (4, .int .i64 ((k1 : Nat) : Int))]) (fun z x => [box b3 [.int .i64 a_b.Size, (sl x)], box b2 [.int .i64 0, (sl (⟨none, 0, 0⟩ : Hd))], box b1 [.int .i64 a_b.Size, (sl v0a)], ownF (sl x) z]) ?_ ?_
      · skip
        refine wc_block ?_
        refine wc_forO (X := Hd) l2 (fun k2 s2 x2l => [(1, ptr b1 0), (2, ptr b2 0), (3, ptr b3 0), (4, .int .i64 ((k1 : Nat) : Int)), (5, .int .i64 ((k2 : Nat) : Int))]) (fun k2 s2 x2l => [box b3 [.int .i64 a_b.Size, (sl x2l)], box b2 [.int .i64 0, (sl (⟨none, 0, 0⟩ : Hd))], box b1 [.int .i64 a_b.Size, (sl v0a)], ownF (sl x2l) s2]) x1l (sub_cons rfl (sub_cons rfl (sub_cons rfl (sub_cons rfl (sub_cons rfl sub_nil))))) (some_cons pick0 (some_cons pick0 (some_cons pick0 (some_cons pick0 some_nil)))) fun k2 s2 x2l hN2 l2 => ?_
        by_cases hk2 : k2 < (a_b.Size).toNat
        · skip
          refine forO_step l2 hk2 fun _ t2 l2 => ?_
          unfold spec_MirrorBlock_L2 at t2
          have c2 : (decide (((k2 : Nat) : Int) < a_b.Size)) = true := decide_eq_true (by omega)
          refine wc_seq ?_
          refine wcr ?_
          refine mv rfl rfl ?_
          refine wl_pure (po_fld fo_31_0 rfl) rfl ?_
          refine wl_pure (v := .int .i64 a_b.Size) (po_load_box tk_3 (pickS (pickS pick0)) rfl rfl) rfl ?_
          refine wl_pure (po_lss rfl rfl) rfl ?_
          refine wnt ?_
          refine wc_cond_t rfl c2 ?_
          refine wc_skip ?_
          refine wq_then ?_
          refine wc_seq ?_
          refine wc_block ?_
          refine wc_draw [box b3 [.int .i64 a_b.Size, (sl x2l)], box b2 [.int .i64 0, (sl (⟨none, 0, 0⟩ : Hd))], box b1 [.int .i64 a_b.Size, (sl v0a)]] 20 mixed ?_
          refine wa_pure 0 rfl (po_fld fo_31_1 rfl) (some_cons pick0 (some_cons pick0 (some_cons pick0 some_nil))) rfl (by kernel_rfl) (fun _ _ _ h => h) ?_
          refine wa_pure (v := (sl x2l)) 1 rfl (po_load_box tk_29 pick0 rfl rfl) (some_cons pick0 (some_cons pick0 (some_cons pick0 some_nil))) rfl (by kernel_rfl) (fun _ _ _ h => h) ?_
          refine wa_pure 2 rfl (po_fld fo_31_1 rfl) (some_cons pick0 (some_cons pick0 (some_cons pick0 some_nil))) rfl (by kernel_rfl) (fun _ _ _ h => h) ?_
          refine wa_pure (v := (sl v0a)) 3 rfl (po_load_box tk_29 (pickS (pickS pick0)) rfl rfl) (some_cons pick0 (some_cons pick0 (some_cons pick0 some_nil))) rfl (by kernel_rfl) (fun _ _ _ h => h) ?_
          refine wa_pure 4 rfl (po_move rfl) (some_cons pick0 (some_cons pick0 (some_cons pick0 some_nil))) rfl (by kernel_rfl) (fun _ _ _ h => h) ?_
          refine wa_pure 5 rfl (po_fld fo_31_0 rfl) (some_cons pick0 (some_cons pick0 (some_cons pick0 some_nil))) rfl (by kernel_rfl) (fun _ _ _ h => h) ?_
          refine wa_pure (v := .int .i64 a_b.Size) 6 rfl (po_load_box tk_3 (pickS (pickS pick0)) rfl rfl) (some_cons pick0 (some_cons pick0 (some_cons pick0 some_nil))) rfl (by kernel_rfl) (fun _ _ _ h => h) ?_
          refine wa_pure 7 rfl (po_mul rfl rfl) (some_cons pick0 (some_cons pick0 (some_cons pick0 some_nil))) rfl (by kernel_rfl) (fun _ _ _ h => h) ?_
          refine wa_pure 8 rfl (po_fld fo_31_0 rfl) (some_cons pick0 (some_cons pick0 (some_cons pick0 some_nil))) rfl (by kernel_rfl) (fun _ _ _ h => h) ?_
          refine wa_pure (v := .int .i64 a_b.Size) 9 rfl (po_load_box tk_3 (pickS (pickS pick0)) rfl rfl) (some_cons pick0 (some_cons pick0 (some_cons pick0 some_nil))) rfl (by kernel_rfl) (fun _ _ _ h => h) ?_
          refine wa_pure 10 rfl (po_add rfl rfl) (some_cons pick0 (some_cons pick0 (some_cons pick0 some_nil))) rfl (by kernel_rfl) (fun _ _ _ h => h) ?_
          refine wa_pure 11 rfl (po_sub rfl rfl) (some_cons pick0 (some_cons pick0 (some_cons pick0 some_nil))) rfl (by kernel_rfl) (fun _ _ _ h => h) ?_
          refine wa_pure 12 rfl (po_move rfl) (some_cons pick0 (some_cons pick0 (some_cons pick0 some_nil))) rfl (by kernel_rfl) (fun _ _ _ h => h) ?_
          refine wa_pure 13 rfl (po_sub rfl rfl) (some_cons pick0 (some_cons pick0 (some_cons pick0 some_nil))) rfl (by kernel_rfl) (fun _ _ _ h => h) ?_
          refine gdO t2 fun g2 t2 => ?_
          refine wa_pure 14 rfl (po_ixr (rds_arg r0) el_29 rfl rfl g2.1 g2.2) (some_cons pick0 (some_cons pick0 (some_cons pick0 some_nil))) rfl (by kernel_rfl) (fun _ _ _ h => h) ?_
          refine wa_pure (v := .agg #[.int .i64 ((gx a_b.Cells (((wr ((wr ((wr ((wr (((k1 : Nat) : Int) * a_b.Size)) + a_b.Size)) - 1)) - ((k2 : Nat) : Int)))).toNat)).Split), .int .i64 ((gx a_b.Cells (((wr ((wr ((wr ((wr (((k1 : Nat) : Int) * a_b.Size)) + a_b.Size)) - 1)) - ((k2 : Nat) : Int)))).toNat)).A), .int .i64 ((gx a_b.Cells (((wr ((wr ((wr ((wr (((k1 : Nat) : Int) * a_b.Size)) + a_b.Size)) - 1)) - ((k2 : Nat) : Int)))).toNat)).B)]) 15 rfl (po_ldfs (rds_arg r0) tk_75 rfl (ix_lt g2) rfl rfl rfl) (some_cons pick0 (some_cons pick0 (some_cons pick0 some_nil))) rfl (by kernel_rfl) (fun _ _ _ h => h) ?_
          refine wa_1 (i := 16) (by kernel_rfl) ?_
          refine bdO t2 fun v2 hv2 t2 => ?_
          refine ws_call rfl (co_c0 fa_82 rfl fun w hw => c_spec_MirrorCell w (gx a_b.Cells (((wr ((wr ((wr ((wr (((k1 : Nat) : Int) * a_b.Size)) + a_b.Size)) - 1)) - ((k2 : Nat) : Int)))).toNat)) hv2) (fun _ => (sts_some (some_cons pick0 (some_cons pick0 (some_cons pick0 some_nil))))) rfl fun _ => ?_
          refine wa_1 (i := 17) (by kernel_rfl) ?_
          refine ws_eff rfl (eo_buildSlice rfl (sb_29_1 v2.Split v2.A v2.B)) (fun _ => (sts_some (some_cons (pickS pick0) (some_cons (pickS pick0) (some_cons (pickS pick0) some_nil))))) rfl fun b4 => ?_
          refine wa_1 (i := 18) (by kernel_rfl) ?_
          refine gdO t2 fun g3 t2 => ?_
          refine ws_eff rfl (eo_append (xs := s2) (ys := ([v2] : List GCell)) ak_29 (pickS (pickS (pickS (pickS pick0)))) rfl rfl (slin_rd fun _ g => Rg.on (rds_own (pick_box_own pick0 (n := 1) (xs := ([v2] : List GCell)) rfl rfl (by unfold maxLen; omega))) g) g3) (fun _ => (sts_some (some_cons (pickS (pickS pick0)) (some_cons (pickS (pickS pick0)) (some_cons (pickS (pickS pick0)) some_nil))))) rfl fun x3 => ?_
          refine wa_pure 19 rfl (po_fld fo_31_1 rfl) (some_cons (pickS (pickS pick0)) (some_cons (pickS (pickS pick0)) (some_cons (pickS (pickS pick0)) some_nil))) rfl (by kernel_rfl) (fun _ _ _ h => h) ?_
          refine wa_1 (i := 20) (by kernel_rfl) ?_
          refine ws_skipop rfl (so_box (cs' := [.int .i64 a_b.Size, (sl x3)]) tk_29 (pickS (pickS pick0)) rfl rfl rfl rfl rfl rfl rfl) (sts_past (by kernel_rfl)) ?_
          refine wa_done (by kernel_rfl) ?_
          refine wq_block ?_
          refine wq_then ?_
          refine wc_region ?_
          refine mv rfl rfl ?_
          refine wl_pure (po_inc rfl rfl (by omega)) rfl ?_
          refine asg rfl rfl ?_
          refine wl_nil ?_
          exact wq_rnd hk2 (stpN l2 t2) x3 (sub_cons rfl (sub_cons rfl (sub_cons rfl (sub_cons rfl (sub_cons rfl sub_nil))))) (some_cons pick0 (some_cons (pickS (pickS pick0)) (some_cons (pickS (pickS pick0)) (some_cons pick0 some_nil))))
        have c2 : (decide (((k2 : Nat) : Int) < a_b.Size)) = false := decide_eq_false (by omega)
        have en1 := forO_end l2 hk2
        refine wc_seq ?_
        refine wcr ?_
        refine mv rfl rfl ?_
        refine wl_pure (po_fld fo_31_0 rfl) rfl ?_
        refine wl_pure (v := .int .i64 a_b.Size) (po_load_box tk_3 (pickS (pickS pick0)) rfl rfl) rfl ?_
        refine wl_pure (po_lss rfl rfl) rfl ?_
        refine wnt ?_
        refine wc_cond_f rfl c2 ?_
        refine wc_exit ?_
        refine wq_then_exit ?_
        refine wq_then_exit ?_
        refine wq_block_exit ?_
        exact wj_meet _ x2l (Sum.inl.inj en1) (sub_cons rfl (sub_cons rfl (sub_cons rfl (sub_cons rfl sub_nil)))) (some_cons pick0 (some_cons pick0 (some_cons pick0 (some_cons pick0 some_nil))))
      intro e2 x2 hp
      obtain rfl : e2 = y2 := hp.symm
      refine wq_block ?_
      refine wq_then ?_
      refine wc_region ?_
      refine mv rfl rfl ?_
      refine wl_pure (po_inc rfl rfl (by omega)) rfl ?_
      refine asg rfl rfl ?_
      refine wl_nil ?_
      exact wq_rnd hk1 (stpN l1 t1) x2 (sub_cons rfl (sub_cons rfl (sub_cons rfl (sub_cons rfl sub_nil)))) (some_cons pick0 (some_cons pick0 (some_cons pick0 (some_cons pick0 some_nil))))
    have c1 : (decide (((k1 : Nat) : Int) < a_b.Size)) = false := decide_eq_false (by omega)
    have en2 := forO_end l1 hk1
    refine wc_seq ?_
    refine wcr ?_
    refine mv rfl rfl ?_
    refine wl_pure (po_fld fo_31_0 rfl) rfl ?_
    refine wl_pure (v := .int .i64 a_b.Size) (po_load_box tk_3 (pickS (pickS pick0)) rfl rfl) rfl ?_
    refine wl_pure (po_lss rfl rfl) rfl ?_
    refine wnt ?_
    refine wc_cond_f rfl c1 ?_
    refine wc_exit ?_
    refine wq_then_exit ?_
    refine wq_then_exit ?_
    refine wq_block_exit ?_
    exact wj_meet _ x1l (Sum.inl.inj en2) (sub_cons rfl (sub_cons rfl sub_nil)) (some_cons pick0 (some_cons pick0 (some_cons (pickS pick0) some_nil)))
  intro e1 x1 hp
  obtain rfl : e1 = y1 := hp.symm
  refine wq_then ?_
  refine wcr ?_
  refine wl_pure (v := .agg #[.int .i64 a_b.Size, (sl x1)]) (po_load_boxs tk_31 pick0 rfl rfl rfl) rfl ?_
  refine wl_skipop (so_box (cs' := [.int .i64 a_b.Size, (sl x1)]) tk_31 (pickS pick0) rfl rfl rfl rfl rfl rfl rfl) ?_
  refine wnt ?_
  refine wc_ret ?_
  obtain rfl := Option.some.inj t0
  exact wq_retc rfl tk_31 rfl pick0 rfl fun w hw => ⟨x1, rfl, hw.weak (some_cons (pickS (pickS pick0)) some_nil)⟩

theorem c_spec_TurnCell (w : World) (a_c : GCell) {r : GCell} (t0 : spec_TurnCell a_c = some r) : Calls Tryz.prog 83 #[.agg #[.int .i64 a_c.Split, .int .i64 a_c.A, .int .i64 a_c.B]] w fun e w' => e = .returned (.agg #[.int .i64 r.Split, .int .i64 r.A, .int .i64 r.B]) ∧ SH w [] [] w' := by
  refine calls_of_wc (args := [_]) Tryz.func83 rfl Tryz.ntmps83 rfl ?_
  unfold spec_TurnCell at t0
  refine wcr ?_
  refine wl_eff (eo_box rfl rfl) rfl fun b1 => ?_
  refine wl_eff (eo_alloc (cs := [.int .i64 0, .int .i64 0, .int .i64 0]) za_75) rfl fun b2 => ?_
  refine wnt ?_
  refine wc_seq ?_
  refine wcr ?_
  refine wl_pure (v := .agg #[.int .i64 a_c.Split, .int .i64 a_c.A, .int .i64 a_c.B]) (po_load_boxs tk_75 (pickS pick0) rfl rfl rfl) rfl ?_
  refine bdO t0 fun v1 hv1 t0 => ?_
  refine wl_call (co_c0 fa_61 rfl fun w hw => c_spec_CellOk w a_c hv1) rfl fun _ => ?_
  refine wl_pure (po_not rfl) rfl ?_
  refine wnt ?_
  refine wcO t0 rfl (fun h1 t0 => ?_) fun h1 t0 => ?_
  · skip
    refine wcr ?_
    refine wl_pure (po_build rfl bd_75) rfl ?_
    refine wl_skipop (so_box (cs' := [.int .i64 0, .int .i64 0, .int .i64 0]) tk_75 pick0 rfl rfl rfl rfl rfl rfl rfl) ?_
    refine wnt ?_
    refine wc_ret ?_
    refine wq_then_ret ?_
    obtain rfl := Option.some.inj t0
    exact wq_retc rfl tk_75 rfl pick0 rfl fun w hw => ⟨rfl, hw.weak some_nil⟩
  refine wc_skip ?_
  refine wq_then ?_
  refine wc_seq ?_
  refine wcr ?_
  refine wl_pure (po_fld fo_75_0 rfl) rfl ?_
  refine wl_pure (v := .int .i64 a_c.Split) (po_load_box tk_3 (pickS pick0) rfl rfl) rfl ?_
  refine wnt ?_
  refine wc_block ?_
  refine wcr ?_
  refine wl_pure (po_eql rfl rfl) rfl ?_
  refine asg rfl rfl ?_
  refine wnt ?_
  refine wcO t0 rfl (fun h2 t0 => ?_) fun h2 t0 => ?_
  · skip
    refine wcr ?_
    refine wl_pure (po_fld fo_75_2 rfl) rfl ?_
    refine wl_pure (v := .int .i64 a_c.B) (po_load_box tk_3 (pickS pick0) rfl rfl) rfl ?_
    refine wl_pure (po_fld fo_75_1 rfl) rfl ?_
    refine wl_pure (v := .int .i64 a_c.A) (po_load_box tk_3 (pickS pick0) rfl rfl) rfl ?_
    refine wl_pure (po_build rfl (bd_75_0_1_2 2 a_c.B a_c.A)) rfl ?_
    refine wl_skipop (so_box (cs' := [.int .i64 2, .int .i64 a_c.B, .int .i64 a_c.A]) tk_75 pick0 rfl rfl rfl rfl rfl rfl rfl) ?_
    refine wnt ?_
    refine wc_ret ?_
    refine wq_block_ret ?_
    refine wq_then_ret ?_
    obtain rfl := Option.some.inj t0
    exact wq_retc rfl tk_75 rfl pick0 rfl fun w hw => ⟨rfl, hw.weak some_nil⟩
  refine wcr ?_
  refine wl_pure (po_eql rfl rfl) rfl ?_
  refine asg rfl rfl ?_
  refine wnt ?_
  refine wcO t0 rfl (fun h3 t0 => ?_) fun h3 t0 => ?_
  · skip
    refine wcr ?_
    refine wl_pure (po_fld fo_75_1 rfl) rfl ?_
    refine wl_pure (v := .int .i64 a_c.A) (po_load_box tk_3 (pickS pick0) rfl rfl) rfl ?_
    refine wl_pure (po_fld fo_75_2 rfl) rfl ?_
    refine wl_pure (v := .int .i64 a_c.B) (po_load_box tk_3 (pickS pick0) rfl rfl) rfl ?_
    refine wl_pure (po_build rfl (bd_75_0_1_2 1 a_c.A a_c.B)) rfl ?_
    refine wl_skipop (so_box (cs' := [.int .i64 1, .int .i64 a_c.A, .int .i64 a_c.B]) tk_75 pick0 rfl rfl rfl rfl rfl rfl rfl) ?_
    refine wnt ?_
    refine wc_ret ?_
    refine wq_block_ret ?_
    refine wq_then_ret ?_
    obtain rfl := Option.some.inj t0
    exact wq_retc rfl tk_75 rfl pick0 rfl fun w hw => ⟨rfl, hw.weak some_nil⟩
  refine wc_skip ?_
  refine wq_block ?_
  refine wq_then ?_
  refine wcr ?_
  refine wl_pure (v := .agg #[.int .i64 a_c.Split, .int .i64 a_c.A, .int .i64 a_c.B]) (po_load_boxs tk_75 (pickS pick0) rfl rfl rfl) rfl ?_
  refine wl_skipop (so_box (cs' := [.int .i64 a_c.Split, .int .i64 a_c.A, .int .i64 a_c.B]) tk_75 pick0 rfl rfl rfl rfl rfl rfl rfl) ?_
  refine wnt ?_
  refine wc_ret ?_
  obtain rfl := Option.some.inj t0
  exact wq_retc rfl tk_75 rfl pick0 rfl fun w hw => ⟨rfl, hw.weak some_nil⟩

theorem c_spec_TurnBlock (w : World) (a_b : GBlock) (v0a : Hd) (r0 : rdF w (dm w []) (sl v0a) a_b.Cells) {r : GBlock} (t0 : spec_TurnBlock a_b = some r) : Calls Tryz.prog 67 #[.agg #[.int .i64 a_b.Size, (sl v0a)]] w fun e w' => ∃ x : Hd, e = .returned (.agg #[.int .i64 r.Size, (sl x)]) ∧ SH w [] [ownF (sl x) r.Cells] w' := by
  refine calls_of_wc (args := [_]) Tryz.func67 rfl Tryz.ntmps67 rfl ?_
  unfold spec_TurnBlock at t0
  refine wcr ?_
  refine wl_eff (eo_box rfl rfl) rfl fun b1 => ?_
  refine wl_eff (eo_alloc (cs := [.int .i64 0, (sl (⟨none, 0, 0⟩ : Hd))]) za_31) rfl fun b2 => ?_
  refine wnt ?_
  refine wc_seq ?_
  refine wcr ?_
  refine wl_pure (v := .agg #[.int .i64 a_b.Size, (sl v0a)]) (po_load_boxs tk_31 (pickS pick0) rfl rfl rfl) rfl ?_
  refine bdO t0 fun v1 hv1 t0 => ?_
  refine wl_call (co_c0 fa_42 rfl fun w hw => c_spec_BlockOk w a_b v0a (Rg.on (rds_arg r0) hw) hv1) rfl fun _ => ?_
  refine wl_pure (po_not rfl) rfl ?_
  refine wnt ?_
  refine wcO t0 rfl (fun h1 t0 => ?_) fun h1 t0 => ?_
  · skip
    refine wcr ?_
    refine wl_pure (po_build rfl bd_31) rfl ?_
    refine wl_skipop (so_box (cs' := [.int .i64 0, (sl (⟨none, 0, 0⟩ : Hd))]) tk_31 pick0 rfl rfl rfl rfl rfl rfl rfl) ?_
    refine wnt ?_
    refine wc_ret ?_
    refine wq_then_ret ?_
    obtain rfl := Option.some.inj t0
    exact wq_retc rfl tk_31 rfl pick0 rfl fun w hw => ⟨(⟨none, 0, 0⟩ : Hd), rfl, hw.weak (some_cons pick_nil some_nil)⟩
  refine wc_skip ?_
  refine wq_then ?_
  refine wcr ?_
  refine wl_pure (po_fld fo_31_0 rfl) rfl ?_
  refine wl_pure (v := .int .i64 a_b.Size) (po_load_box tk_3 (pickS pick0) rfl rfl) rfl ?_
  refine wl_pure (po_build rfl (bd_31_0 a_b.Size)) rfl ?_
  refine wl_eff (eo_alloc (cs := [.int .i64 0, (sl (⟨none, 0, 0⟩ : Hd))]) za_31) rfl fun b3 => ?_
  refine wl_skipop (so_box (cs' := [.int .i64 a_b.Size, (sl (⟨none, 0, 0⟩ : Hd))]) tk_31 pick0 rfl rfl rfl rfl rfl rfl rfl) ?_
  refine wnt ?_
  refine wc_seq ?_
  refine wcr ?_
  refine asg rfl rfl ?_
  refine wnt ?_
  refine gdO t0 fun g1 t0 => ?_
  refine lpO_inv t0 fun y1 l1 t0 => ?_
  refine wj (J := List GCell) (X := Hd) (fun z => y1 = z) (fun _ _ => [(2, ptr b2 0), (3, ptr b3 0)]) (fun z x => [box b3 [.int .i64 a_b.Size, (sl x)], box b2 [.int .i64 0, (sl (⟨none, 0, 0⟩ : Hd))], ownF (sl x) z]) ?_ ?_
  · skip
    refine wc_block ?_
    refine wc_forO (X := Hd) l1 (fun k1 s1 x1l => [(1, ptr b1 0), (2, ptr b2 0), (3, ptr b3 0), (4, .int .i64 ((k1 : Nat) : Int))]) (fun k1 s1 x1l => [box b3 [.int .i64 a_b.Size, (sl x1l)], box b2 [.int .i64 0, (sl (⟨none, 0, 0⟩ : Hd))], box b1 [.int .i64 a_b.Size, (sl v0a)], ownF (sl x1l) s1]) (⟨none, 0, 0⟩ : Hd) (sub_cons rfl (sub_cons rfl (sub_cons rfl (sub_cons rfl sub_nil)))) (some_cons pick0 (some_cons pick0 (some_cons pick0 (some_cons pick_nil some_nil)))) fun k1 s1 x1l hN1 l1 => ?_
    by_cases hk1 : k1 < (a_b.Size).toNat
    · skip
      refine forO_step l1 hk1 fun _ t1 l1 => ?_
      unfold spec_TurnBlock_L1 at t1
      have c1 : (decide (((k1 : Nat) : Int) < a_b.Size)) = true := decide_eq_true (by omega)
      refine wc_seq ?_
      refine wcr ?_
      refine mv rfl rfl ?_
      refine wl_pure (po_fld fo_31_0 rfl) rfl ?_
      refine wl_pure (v := .int .i64 a_b.Size) (po_load_box tk_3 (pickS (pickS pick0)) rfl rfl) rfl ?_
      refine wl_pure (po_lss rfl rfl) rfl ?_
      refine wnt ?_
      refine wc_cond_t rfl c1 ?_
      refine wc_skip ?_
      refine wq_then ?_
      refine wc_seq ?_
      refine wc_block ?_
      refine wcr ?_
      refine asg rfl rfl ?_
      refine wnt ?_
      refine lpO_inv t1 fun y2 l2 t1 => ?_
      refine wj (J := List GCell) (X := Hd) (fun z => y2 = z) (fun _ _ => [(1, ptr b1 0), (2, ptr b2 0), (3, ptr b3 0), (4, .int .i64 ((k1 : Nat) : Int))]) (fun z x => [box b3 [.int .i64 a_b.Size, (sl x)], box b2 [.int .i64 0, (sl (⟨none, 0, 0⟩ : Hd))], box b1 [.int .i64 a_b.Size, (sl v0a)], ownF (sl x) z]) ?_ ?_
      · skip
        refine wc_block ?_
        refine wc_forO (X := Hd) l2 (fun k2 s2 x2l => [(1, ptr b1 0), (2, ptr b2 0), (3, ptr b3 0), (4, .int .i64 ((k1 : Nat) : Int)), (5, .int .i64 ((k2 : Nat) : Int))]) (fun k2 s2 x2l => [box b3 [.int .i64 a_b.Size, (sl x2l)], box b2 [.int .i64 0, (sl (⟨none, 0, 0⟩ : Hd))], box b1 [.int .i64 a_b.Size, (sl v0a)], ownF (sl x2l) s2]) x1l (sub_cons rfl (sub_cons rfl (sub_cons rfl (sub_cons rfl (sub_cons rfl sub_nil))))) (some_cons pick0 (some_cons pick0 (some_cons pick0 (some_cons pick0 some_nil)))) fun k2 s2 x2l hN2 l2 => ?_
        by_cases hk2 : k2 < (a_b.Size).toNat
        · skip
          refine forO_step l2 hk2 fun _ t2 l2 => ?_
          unfold spec_TurnBlock_L2 at t2
          have c2 : (decide (((k2 : Nat) : Int) < a_b.Size)) = true := decide_eq_true (by omega)
          refine wc_seq ?_
          refine wcr ?_
          refine mv rfl rfl ?_
          refine wl_pure (po_fld fo_31_0 rfl) rfl ?_
          refine wl_pure (v := .int .i64 a_b.Size) (po_load_box tk_3 (pickS (pickS pick0)) rfl rfl) rfl ?_
          refine wl_pure (po_lss rfl rfl) rfl ?_
          refine wnt ?_
          refine wc_cond_t rfl c2 ?_
          refine wc_skip ?_
          refine wq_then ?_
          refine wc_seq ?_
          refine wc_block ?_
          refine wc_draw [box b3 [.int .i64 a_b.Size, (sl x2l)], box b2 [.int .i64 0, (sl (⟨none, 0, 0⟩ : Hd))], box b1 [.int .i64 a_b.Size, (sl v0a)]] 20 mixed ?_
          refine wa_pure 0 rfl (po_fld fo_31_1 rfl) (some_cons pick0 (some_cons pick0 (some_cons pick0 some_nil))) rfl (by kernel_rfl) (fun _ _ _ h => h) ?_
          refine wa_pure (v := (sl x2l)) 1 rfl (po_load_box tk_29 pick0 rfl rfl) (some_cons pick0 (some_cons pick0 (some_cons pick0 some_nil))) rfl (by kernel_rfl) (fun _ _ _ h => h) ?_
          refine wa_pure 2 rfl (po_fld fo_31_1 rfl) (some_cons pick0 (some_cons pick0 (some_cons pick0 some_nil))) rfl (by kernel_rfl) (fun _ _ _ h => h) ?_
          refine wa_pure (v := (sl v0a)) 3 rfl (po_load_box tk_29 (pickS (pickS pick0)) rfl rfl) (some_cons pick0 (some_cons pick0 (some_cons pick0 some_nil))) rfl (by kernel_rfl) (fun _ _ _ h => h) ?_
          refine wa_pure 4 rfl (po_fld fo_31_0 rfl) (some_cons pick0 (some_cons pick0 (some_cons pick0 some_nil))) rfl (by kernel_rfl) (fun _ _ _ h => h) ?_
          refine wa_pure (v := .int .i64 a_b.Size) 5 rfl (po_load_box tk_3 (pickS (pickS pick0)) rfl rfl) (some_cons pick0 (some_cons pick0 (some_cons pick0 some_nil))) rfl (by kernel_rfl) (fun _ _ _ h => h) ?_
          refine wa_pure 6 rfl (po_sub rfl rfl) (some_cons pick0 (some_cons pick0 (some_cons pick0 some_nil))) rfl (by kernel_rfl) (fun _ _ _ h => h) ?_
          refine wa_pure 7 rfl (po_move rfl) (some_cons pick0 (some_cons pick0 (some_cons pick0 some_nil))) rfl (by kernel_rfl) (fun _ _ _ h => h) ?_
          refine wa_pure 8 rfl (po_sub rfl rfl) (some_cons pick0 (some_cons pick0 (some_cons pick0 some_nil))) rfl (by kernel_rfl) (fun _ _ _ h => h) ?_
          refine wa_pure 9 rfl (po_fld fo_31_0 rfl) (some_cons pick0 (some_cons pick0 (some_cons pick0 some_nil))) rfl (by kernel_rfl) (fun _ _ _ h => h) ?_
          refine wa_pure (v := .int .i64 a_b.Size) 10 rfl (po_load_box tk_3 (pickS (pickS pick0)) rfl rfl) (some_cons pick0 (some_cons pick0 (some_cons pick0 some_nil))) rfl (by kernel_rfl) (fun _ _ _ h => h) ?_
          refine wa_pure 11 rfl (po_mul rfl rfl) (some_cons pick0 (some_cons pick0 (some_cons pick0 some_nil))) rfl (by kernel_rfl) (fun _ _ _ h => h) ?_
          refine wa_pure 12 rfl (po_move rfl) (some_cons pick0 (some_cons pick0 (some_cons pick0 some_nil))) rfl (by kernel_rfl) (fun _ _ _ h => h) ?_
          refine wa_pure 13 rfl (po_add rfl rfl) (some_cons pick0 (some_cons pick0 (some_cons pick0 some_nil))) rfl (by kernel_rfl) (fun _ _ _ h => h) ?_
          refine gdO t2 fun g2 t2 => ?_
          refine wa_pure 14 rfl (po_ixr (rds_arg r0) el_29 rfl rfl g2.1 g2.2) (some_cons pick0 (some_cons pick0 (some_cons pick0 some_nil))) rfl (by kernel_rfl) (fun _ _ _ h => h) ?_
          refine wa_pure (v := .agg #[.int .i64 ((gx a_b.Cells (((wr ((wr ((wr ((wr (a_b.Size - 1)) - ((k2 : Nat) : Int))) * a_b.Size)) + ((k1 : Nat) : Int)))).toNat)).Split), .int .i64 ((gx a_b.Cells (((wr ((wr ((wr ((wr (a_b.Size - 1)) - ((k2 : Nat) : Int))) * a_b.Size)) + ((k1 : Nat) : Int)))).toNat)).A), .int .i64 ((gx a_b.Cells (((wr ((wr ((wr ((wr (a_b.Size - 1)) - ((k2 : Nat) : Int))) * a_b.Size)) + ((k1 : Nat) : Int)))).toNat)).B)]) 15 rfl (po_ldfs (rds_arg r0) tk_75 rfl (ix_lt g2) rfl rfl rfl) (some_cons pick0 (some_cons pick0 (some_cons pick0 some_nil))) rfl (by kernel_rfl) (fun _ _ _ h => h) ?_
          refine wa_1 (i := 16) (by kernel_rfl) ?_
          refine bdO t2 fun v2 hv2 t2 => ?_
          refine ws_call rfl (co_c0 fa_83 rfl fun w hw => c_spec_TurnCell w (gx a_b.Cells (((wr ((wr ((wr ((wr (a_b.Size - 1)) - ((k2 : Nat) : Int))) * a_b.Size)) + ((k1 : Nat) : Int)))).toNat)) hv2) (fun _ => (sts_some (some_cons pick0 (some_cons pick0 (some_cons pick0 some_nil))))) rfl fun _ => ?_
          refine wa_1 (i := 17) (by kernel_rfl) ?_
          refine ws_eff rfl (eo_buildSlice rfl (sb_29_1 v2.Split v2.A v2.B)) (fun _ => (sts_some (some_cons (pickS pick0) (some_cons (pickS pick0) (some_cons (pickS pick0) some_nil))))) rfl fun b4 => ?_
          refine wa_1 (i := 18) (by kernel_rfl) ?_
          refine gdO t2 fun g3 t2 => ?_
          refine ws_eff rfl (eo_append (xs := s2) (ys := ([v2] : List GCell)) ak_29 (pickS (pickS (pickS (pickS pick0)))) rfl rfl (slin_rd fun _ g => Rg.on (rds_own (pick_box_own pick0 (n := 1) (xs := ([v2] : List GCell)) rfl rfl (by unfold maxLen; omega))) g) g3) (fun _ => (sts_some (some_cons (pickS (pickS pick0)) (some_cons (pickS (pickS pick0)) (some_cons (pickS (pickS pick0)) some_nil))))) rfl fun x3 => ?_
          refine wa_pure 19 rfl (po_fld fo_31_1 rfl) (some_cons (pickS (pickS pick0)) (some_cons (pickS (pickS pick0)) (some_cons (pickS (pickS pick0)) some_nil))) rfl (by kernel_rfl) (fun _ _ _ h => h) ?_
          refine wa_1 (i := 20) (by kernel_rfl) ?_
          refine ws_skipop rfl (so_box (cs' := [.int .i64 a_b.Size, (sl x3)]) tk_29 (pickS (pickS pick0)) rfl rfl rfl rfl rfl rfl rfl) (sts_past (by kernel_rfl)) ?_
          refine wa_done (by kernel_rfl) ?_
          refine wq_block ?_
          refine wq_then ?_
          refine wc_region ?_
          refine mv rfl rfl ?_
          refine wl_pure (po_inc rfl rfl (by omega)) rfl ?_
          refine asg rfl rfl ?_
          refine wl_nil ?_
          exact wq_rnd hk2 (stpN l2 t2) x3 (sub_cons rfl (sub_cons rfl (sub_cons rfl (sub_cons rfl (sub_cons rfl sub_nil))))) (some_cons pick0 (some_cons (pickS (pickS pick0)) (some_cons (pickS (pickS pick0)) (some_cons pick0 some_nil))))
        have c2 : (decide (((k2 : Nat) : Int) < a_b.Size)) = false := decide_eq_false (by omega)
        have en1 := forO_end l2 hk2
        refine wc_seq ?_
        refine wcr ?_
        refine mv rfl rfl ?_
        refine wl_pure (po_fld fo_31_0 rfl) rfl ?_
        refine wl_pure (v := .int .i64 a_b.Size) (po_load_box tk_3 (pickS (pickS pick0)) rfl rfl) rfl ?_
        refine wl_pure (po_lss rfl rfl) rfl ?_
        refine wnt ?_
        refine wc_cond_f rfl c2 ?_
        refine wc_exit ?_
        refine wq_then_exit ?_
        refine wq_then_exit ?_
        refine wq_block_exit ?_
        exact wj_meet _ x2l (Sum.inl.inj en1) (sub_cons rfl (sub_cons rfl (sub_cons rfl (sub_cons rfl sub_nil)))) (some_cons pick0 (some_cons pick0 (some_cons pick0 (some_cons pick0 some_nil))))
      intro e2 x2 hp
      obtain rfl : e2 = y2 := hp.symm
      refine wq_block ?_
      refine wq_then ?_
      refine wc_region ?_
      refine mv rfl rfl ?_
      refine wl_pure (po_inc rfl rfl (by omega)) rfl ?_
      refine asg rfl rfl ?_
      refine wl_nil ?_
      exact wq_rnd hk1 (stpN l1 t1) x2 (sub_cons rfl (sub_cons rfl (sub_cons rfl (sub_cons rfl sub_nil)))) (some_cons pick0 (some_cons pick0 (some_cons pick0 (some_cons pick0 some_nil))))
    have c1 : (decide (((k1 : Nat) : Int) < a_b.Size)) = false := decide_eq_false (by omega)
    have en2 := forO_end l1 hk1
    refine wc_seq ?_
    refine wcr ?_
    refine mv rfl rfl ?_
    refine wl_pure (po_fld fo_31_0 rfl) rfl ?_
    refine wl_pure (v := .int .i64 a_b.Size) (po_load_box tk_3 (pickS (pickS pick0)) rfl rfl) rfl ?_
    refine wl_pure (po_lss rfl rfl) rfl ?_
    refine wnt ?_
    refine wc_cond_f rfl c1 ?_
    refine wc_exit ?_
    refine wq_then_exit ?_
    refine wq_then_exit ?_
    refine wq_block_exit ?_
    exact wj_meet _ x1l (Sum.inl.inj en2) (sub_cons rfl (sub_cons rfl sub_nil)) (some_cons pick0 (some_cons pick0 (some_cons (pickS pick0) some_nil)))
  intro e1 x1 hp
  obtain rfl : e1 = y1 := hp.symm
  refine wq_then ?_
  refine wcr ?_
  refine wl_pure (v := .agg #[.int .i64 a_b.Size, (sl x1)]) (po_load_boxs tk_31 pick0 rfl rfl rfl) rfl ?_
  refine wl_skipop (so_box (cs' := [.int .i64 a_b.Size, (sl x1)]) tk_31 (pickS pick0) rfl rfl rfl rfl rfl rfl rfl) ?_
  refine wnt ?_
  refine wc_ret ?_
  obtain rfl := Option.some.inj t0
  exact wq_retc rfl tk_31 rfl pick0 rfl fun w hw => ⟨x1, rfl, hw.weak (some_cons (pickS (pickS pick0)) some_nil)⟩

theorem c_spec_SeenFrom (w : World) (a_b : GBlock) (v0a : Hd) (r0 : rdF w (dm w []) (sl v0a) a_b.Cells) (a_k : Int) {r : GBlock} (t0 : spec_SeenFrom a_b a_k = some r) : Calls Tryz.prog 49 #[.agg #[.int .i64 a_b.Size, (sl v0a)], .int .i64 a_k] w fun e w' => ∃ x : Hd, e = .returned (.agg #[.int .i64 r.Size, (sl x)]) ∧ SH w [] [ownF (sl x) r.Cells] w' := by
  refine calls_of_wc (args := [_, _]) Tryz.func49 rfl Tryz.ntmps49 rfl ?_
  unfold spec_SeenFrom at t0
  refine wcr ?_
  refine wl_eff (eo_box rfl rfl) rfl fun b1 => ?_
  refine wl_eff (eo_alloc (cs := [.int .i64 0, (sl (⟨none, 0, 0⟩ : Hd))]) za_31) rfl fun b2 => ?_
  refine wnt ?_
  refine wc_seq ?_
  refine wc_seq ?_
  refine bdO t0 fun y1 t1 t0 => ?_
  refine wj (J := Bool) (X := Unit) (fun z => y1 = z) (fun z _ => [(1, .int .i64 a_k), (2, ptr b1 0), (4, ptr b2 0), (14, .bool z)]) (fun _ _ => [box b2 [.int .i64 0, (sl (⟨none, 0, 0⟩ : Hd))], box b1 [.int .i64 a_b.Size, (sl v0a)]]) ?_ ?_
  · skip
    refine wc_region ?_
    refine wl_pure (v := .agg #[.int .i64 a_b.Size, (sl v0a)]) (po_load_boxs tk_31 (pickS pick0) rfl rfl rfl) rfl ?_
    refine bdO t1 fun v1 hv1 t1 => ?_
    refine wl_call (co_c0 fa_42 rfl fun w hw => c_spec_BlockOk w a_b v0a (Rg.on (rds_arg r0) hw) hv1) rfl fun _ => ?_
    refine wl_pure (po_not rfl) rfl ?_
    refine mv rfl rfl ?_
    refine wlO_ (t := 10) t1 rfl (fun h1 t1 => ?_) fun h1 t1 => ?_
    · skip
      refine wl_guard_off (j := 3) rfl rfl rfl rfl rfl ?_
      refine wl_guard_off (j := 3) rfl rfl rfl rfl rfl ?_
      refine wl_guard_off (j := 3) rfl rfl rfl rfl rfl ?_
      refine wl_pure (po_pick_t rfl rfl) rfl ?_
      refine wl_nil ?_
      exact wj_meet _ () (mtE t1) (sub_cons rfl (sub_cons rfl (sub_cons rfl (sub_cons rfl sub_nil)))) (some_cons pick0 (some_cons pick0 some_nil))
    refine wl_guard_on (j := 3) rfl rfl rfl (mv rfl rfl ?_)
    refine bdO t1 fun v2 hv2 t1 => ?_
    refine wl_guard_on (j := 3) rfl rfl rfl (wl_call (co_c0 fa_41 rfl fun w hw => c_spec_l01In w a_k 0 7 hv2) rfl (fun _ => ?_))
    refine wl_guard_on (j := 3) rfl rfl rfl (wl_pure (po_not rfl) rfl ?_)
    refine wl_pure (po_pick_f rfl rfl) rfl ?_
    refine wl_nil ?_
    exact wj_meet _ () (mtE t1) (sub_cons rfl (sub_cons rfl (sub_cons rfl (sub_cons rfl sub_nil)))) (some_cons pick0 (some_cons pick0 some_nil))
  intro j1 _ hp
  obtain rfl : j1 = y1 := hp.symm
  refine wq_then ?_
  refine wcO t0 rfl (fun h2 t0 => ?_) fun h2 t0 => ?_
  · skip
    refine wcr ?_
    refine wl_pure (po_build rfl bd_31) rfl ?_
    refine wl_skipop (so_box (cs' := [.int .i64 0, (sl (⟨none, 0, 0⟩ : Hd))]) tk_31 pick0 rfl rfl rfl rfl rfl rfl rfl) ?_
    refine wnt ?_
    refine wc_ret ?_
    refine wq_then_ret ?_
    obtain rfl := Option.some.inj t0
    exact wq_retc rfl tk_31 rfl pick0 rfl fun w hw => ⟨(⟨none, 0, 0⟩ : Hd), rfl, hw.weak (some_cons pick_nil some_nil)⟩
  refine wc_skip ?_
  refine wq_then ?_
  refine wcr ?_
  refine wl_pure (v := .agg #[.int .i64 a_b.Size, (sl v0a)]) (po_load_boxs tk_31 (pickS pick0) rfl rfl rfl) rfl ?_
  refine bdO t0 fun v3 hv3 t0 => ?_
  refine wl_call (co_c1 fa_65 rfl fun w hw => c_spec_l03Copy w a_b v0a (Rg.on (rds_arg r0) hw) hv3) rfl fun x2 => ?_
  refine wl_eff (eo_alloc (cs := [.int .i64 0, (sl (⟨none, 0, 0⟩ : Hd))]) za_31) rfl fun b3 => ?_
  refine wl_skipop (so_box (cs' := [.int .i64 v3.Size, (sl x2)]) tk_31 pick0 rfl rfl rfl rfl rfl rfl rfl) ?_
  refine wnt ?_
  refine wc_seq ?_
  refine wcr ?_
  refine mv rfl rfl ?_
  refine wl_pure (po_geq rfl rfl) rfl ?_
  refine wnt ?_
  refine bdO t0 fun y1 t1 t0 => ?_
  refine wj (J := GBlock) (X := Hd) (fun z => y1 = z) (fun _ _ => [(1, .int .i64 a_k), (4, ptr b2 0), (5, ptr b3 0)]) (fun z x => [box b3 [.int .i64 ((z).Size), (sl x)], box b2 [.int .i64 0, (sl (⟨none, 0, 0⟩ : Hd))], ownF (sl x) ((z).Cells)]) ?_ ?_
  · skip
    refine wcO t1 rfl (fun h3 t1 => ?_) fun h3 t1 => ?_
    · skip
      refine wc_region ?_
      refine wl_pure (v := .agg #[.int .i64 a_b.Size, (sl v0a)]) (po_load_boxs tk_31 (pickS (pickS (pickS pick0))) rfl rfl rfl) rfl ?_
      refine bdO t1 fun v4 hv4 t1 => ?_
      refine wl_call (co_c1 fa_66 rfl fun w hw => c_spec_MirrorBlock w a_b v0a (Rg.on (rds_arg r0) hw) hv4) rfl fun x4 => ?_
      refine wl_skipop (so_box (cs' := [.int .i64 v4.Size, (sl x4)]) tk_31 (pickS pick0) rfl rfl rfl rfl rfl rfl rfl) ?_
      refine wl_nil ?_
      exact wj_meet _ x4 (mtE t1) (sub_cons rfl (sub_cons rfl (sub_cons rfl sub_nil))) (some_cons pick0 (some_cons (pickS (pickS pick0)) (some_cons pick0 some_nil)))
    refine wc_skip ?_
    exact wj_meet _ x2 (mtE t1) (sub_cons rfl (sub_cons rfl (sub_cons rfl sub_nil))) (some_cons pick0 (some_cons (pickS pick0) (some_cons pick0 some_nil)))
  intro j2 x3 hp
  obtain rfl : j2 = y1 := hp.symm
  refine wq_then ?_
  refine wc_seq ?_
  refine wcr ?_
  refine asg rfl rfl ?_
  refine wnt ?_
  refine gdO t0 fun g1 t0 => ?_
  refine lpO_inv t0 fun y1 l1 t0 => ?_
  refine wj (J := Int × (List GCell)) (X := Hd) (fun z => y1 = z) (fun _ _ => [(4, ptr b2 0), (5, ptr b3 0)]) (fun z x => [box b3 [.int .i64 z.1, (sl x)], box b2 [.int .i64 0, (sl (⟨none, 0, 0⟩ : Hd))], ownF (sl x) z.2]) ?_ ?_
  · skip
    refine wc_block ?_
    refine wc_forO (X := Hd) l1 (fun k1 s1 x1l => [(1, .int .i64 a_k), (4, ptr b2 0), (5, ptr b3 0), (6, .int .i64 ((k1 : Nat) : Int))]) (fun k1 s1 x1l => [box b3 [.int .i64 s1.1, (sl x1l)], box b2 [.int .i64 0, (sl (⟨none, 0, 0⟩ : Hd))], ownF (sl x1l) s1.2]) x3 (sub_cons rfl (sub_cons rfl (sub_cons rfl (sub_cons rfl sub_nil)))) (some_cons pick0 (some_cons pick0 (some_cons pick0 some_nil))) fun k1 s1 x1l hN1 l1 => ?_
    by_cases hk1 : k1 < ((a_k.tmod 4)).toNat
    · skip
      refine forO_step l1 hk1 fun _ t1 l1 => ?_
      unfold spec_SeenFrom_L1 at t1
      have c1 : (decide (((k1 : Nat) : Int) < (a_k.tmod 4))) = true := decide_eq_true (by omega)
      refine wc_seq ?_
      refine wcr ?_
      refine mv rfl rfl ?_
      refine mv rfl rfl ?_
      refine wl_pure (po_rem rfl rfl (by decide)) rfl ?_
      refine wl_pure (po_lss rfl rfl) rfl ?_
      refine wnt ?_
      refine wc_cond_t rfl c1 ?_
      refine wc_skip ?_
      refine wq_then ?_
      refine wc_seq ?_
      refine wc_block ?_
      refine wc_region ?_
      refine wl_pure (v := .agg #[.int .i64 s1.1, (sl x1l)]) (po_load_boxs tk_31 pick0 rfl rfl rfl) rfl ?_
      refine bdO t1 fun v5 hv5 t1 => ?_
      refine wl_call (co_c1 fa_67 rfl fun w hw => c_spec_TurnBlock w (GBlock.mk s1.1 s1.2) x1l (Rg.on (rds_own (pickS (pickS pick0))) hw) hv5) rfl fun x6 => ?_
      refine wl_skipop (so_box (cs' := [.int .i64 v5.Size, (sl x6)]) tk_31 (pickS pick0) rfl rfl rfl rfl rfl rfl rfl) ?_
      refine wl_nil ?_
      refine wq_block ?_
      refine wq_then ?_
      refine wc_region ?_
      refine mv rfl rfl ?_
      refine wl_pure (po_inc rfl rfl (by omega)) rfl ?_
      refine asg rfl rfl ?_
      refine wl_nil ?_
      exact wq_rnd hk1 (stpN l1 t1) x6 (sub_cons rfl (sub_cons rfl (sub_cons rfl (sub_cons rfl sub_nil)))) (some_cons pick0 (some_cons (pickS pick0) (some_cons pick0 some_nil)))
    have c1 : (decide (((k1 : Nat) : Int) < (a_k.tmod 4))) = false := decide_eq_false (by omega)
    have en1 := forO_end l1 hk1
    refine wc_seq ?_
    refine wcr ?_
    refine mv rfl rfl ?_
    refine mv rfl rfl ?_
    refine wl_pure (po_rem rfl rfl (by decide)) rfl ?_
    refine wl_pure (po_lss rfl rfl) rfl ?_
    refine wnt ?_
    refine wc_cond_f rfl c1 ?_
    refine wc_exit ?_
    refine wq_then_exit ?_
    refine wq_then_exit ?_
    refine wq_block_exit ?_
    exact wj_meet _ x1l (Sum.inl.inj en1) (sub_cons rfl (sub_cons rfl sub_nil)) (some_cons pick0 (some_cons pick0 (some_cons pick0 some_nil)))
  intro e1 x5 hp
  obtain rfl : e1 = y1 := hp.symm
  refine wq_then ?_
  refine wcr ?_
  refine wl_pure (v := .agg #[.int .i64 e1.1, (sl x5)]) (po_load_boxs tk_31 pick0 rfl rfl rfl) rfl ?_
  refine wl_skipop (so_box (cs' := [.int .i64 e1.1, (sl x5)]) tk_31 (pickS pick0) rfl rfl rfl rfl rfl rfl rfl) ?_
  refine wnt ?_
  refine wc_ret ?_
  obtain rfl := Option.some.inj t0
  exact wq_retc rfl tk_31 rfl pick0 rfl fun w hw => ⟨x5, rfl, hw.weak (some_cons (pickS (pickS pick0)) some_nil)⟩

theorem c_spec_l01Figure (w : World) (a_x : Int) {r : UInt8} (t0 : spec_l01Figure a_x = some r) : Calls Tryz.prog 109 #[.int .i64 a_x] w fun e w' => e = .returned (.int .u8 (r.toNat : Int)) ∧ SH w [] [] w' := by
  refine calls_of_wc (args := [_]) Tryz.func109 rfl Tryz.ntmps109 rfl ?_
  unfold spec_l01Figure at t0
  refine wcr ?_
  refine asg rfl rfl ?_
  refine wnt ?_
  refine wc_seq ?_
  refine wcr ?_
  refine mv rfl rfl ?_
  refine wl_pure (po_lss rfl rfl) rfl ?_
  refine wnt ?_
  refine wcO t0 rfl (fun h1 t0 => ?_) fun h1 t0 => ?_
  · skip
    refine wcr ?_
    refine mv rfl rfl ?_
    refine wl_pure (po_add rfl rfl) rfl ?_
    refine wl_pure (po_intu8 isInt_3 isU8_5 rfl) rfl ?_
    refine asg rfl rfl ?_
    refine wnt ?_
    refine wc_ret ?_
    refine wq_then_ret ?_
    obtain rfl := Option.some.inj t0
    exact wq_ret1 rfl rfl fun w hw => ⟨rfl, hw.weak some_nil⟩
  refine wc_skip ?_
  refine wq_then ?_
  refine wcr ?_
  refine mv rfl rfl ?_
  refine wl_pure (po_add rfl rfl) rfl ?_
  refine wl_pure (po_sub rfl rfl) rfl ?_
  refine wl_pure (po_intu8 isInt_3 isU8_5 rfl) rfl ?_
  refine asg rfl rfl ?_
  refine wnt ?_
  refine wc_ret ?_
  obtain rfl := Option.some.inj t0
  exact wq_ret1 rfl rfl fun w hw => ⟨rfl, hw.weak some_nil⟩

theorem c_spec_FormatInt (w : World) (a_n : Int) {r : Str} (t0 : spec_FormatInt a_n = some r) : Calls Tryz.prog 98 #[.int .i64 a_n] w fun e w' => e = .returned (bs r) ∧ SH w [] [] w' := by
  refine calls_of_wc (args := [_]) Tryz.func98 rfl Tryz.ntmps98 rfl ?_
  unfold spec_FormatInt at t0
  refine wcr ?_
  refine asg rfl rfl ?_
  refine wnt ?_
  refine wc_seq ?_
  refine wcr ?_
  refine mv rfl rfl ?_
  refine wl_pure (po_eql rfl rfl) rfl ?_
  refine wnt ?_
  refine wcO t0 rfl (fun h1 t0 => ?_) fun h1 t0 => ?_
  · skip
    refine wcr ?_
    refine asg rfl rfl ?_
    refine wnt ?_
    refine wc_ret ?_
    refine wq_then_ret ?_
    obtain rfl := Option.some.inj t0
    exact wq_ret1 rfl rfl fun w hw => ⟨rfl, hw.weak some_nil⟩
  refine wc_skip ?_
  refine wq_then ?_
  refine wcr ?_
  refine mv rfl rfl ?_
  refine wl_pure (po_lss rfl rfl) rfl ?_
  refine asg rfl rfl ?_
  refine wnt ?_
  refine wcr ?_
  refine asg rfl rfl ?_
  refine wnt ?_
  refine wc_seq ?_
  refine wlO_inv t0 fun y1 l1 t0 => ?_
  refine wj (J := Int × Str) (X := Unit) (fun z => y1 = z) (fun z _ => [(3, .bool (decide (a_n < 0))), (4, bs z.2)]) (fun _ _ => []) ?_ ?_
  · skip
    refine wc_block ?_
    refine wc_whO (X := Unit) l1 (fun s1 x1l => [(0, .int .i64 s1.1), (3, .bool (decide (a_n < 0))), (4, bs s1.2)]) (fun s1 x1l => []) () (sub_cons rfl (sub_cons rfl (sub_cons rfl sub_nil))) some_nil fun m1 s1 x1l l1 => ?_
    refine whO_step l1 fun _ t1 l1 => ?_
    unfold spec_FormatInt_L1 at t1
    refine wc_seq ?_
    refine wcr ?_
    refine mv rfl rfl ?_
    refine wl_pure (po_neq rfl rfl) rfl ?_
    refine wnt ?_
    refine wcO t1 rfl (fun h2 t1 => ?_) fun h2 t1 => ?_
    · skip
      refine wc_skip ?_
      refine wq_then ?_
      refine wc_block ?_
      refine wcr ?_
      refine mv rfl rfl ?_
      refine wl_pure (po_rem rfl rfl (by decide)) rfl ?_
      refine asg rfl rfl ?_
      refine wnt ?_
      refine wc_seq ?_
      refine wcr ?_
      refine mv rfl rfl ?_
      refine wl_pure (po_lss rfl rfl) rfl ?_
      refine wnt ?_
      refine wc_join (X := Unit) (fun _ => True) (fun _ => [(0, .int .i64 s1.1), (3, .bool (decide (a_n < 0))), (4, bs s1.2), (5, .int .i64 (bif (decide ((s1.1.tmod 10) < 0)) then (wr (0 - (s1.1.tmod 10))) else (s1.1.tmod 10)))]) (fun _ => []) ?_ ?_
      · skip
        refine wc_cond rfl (fun h3 => ?_) fun h3 => ?_
        · skip
          refine wc_region ?_
          refine mv rfl rfl ?_
          refine wl_pure (po_neg rfl) rfl ?_
          refine asg rfl rfl ?_
          refine wl_nil ?_
          exact wq_meet () trivial (sub_cons rfl (sub_cons rfl (sub_cons rfl (sub_i rfl (by simp only [h3, cond_true]) sub_nil)))) some_nil
        refine wc_skip ?_
        exact wq_meet () trivial (sub_cons rfl (sub_cons rfl (sub_cons rfl (sub_i rfl (by simp only [h3, cond_false]) sub_nil)))) some_nil
      intro _ _
      refine wq_then ?_
      refine wcr ?_
      refine mv rfl rfl ?_
      refine bdO t1 fun v1 hv1 t1 => ?_
      refine wl_call (co_c0 fa_109 rfl fun w hw => c_spec_l01Figure w (bif (decide ((s1.1.tmod 10) < 0)) then (wr (0 - (s1.1.tmod 10))) else (s1.1.tmod 10)) hv1) rfl fun _ => ?_
      refine wl_eff (eo_buildSlice rfl (sb_104_1 v1)) rfl fun b1 => ?_
      refine wl_pure (po_b2s (rds_own (pick_box_own pick0 (n := 1) (xs := ([v1] : List UInt8)) rfl rfl (by unfold maxLen; omega))) isBytes_104 isStr_9 rfl) rfl ?_
      refine mv rfl rfl ?_
      refine gdO t1 fun g1 t1 => ?_
      refine wl_pure (po_sadd rfl rfl g1) rfl ?_
      refine asg rfl rfl ?_
      refine wnt ?_
      refine wc_region ?_
      refine mv rfl rfl ?_
      refine wl_pure (po_quo rfl rfl (by decide)) rfl ?_
      refine asg rfl rfl ?_
      refine wl_nil ?_
      refine wq_block ?_
      exact wq_rndw (stwN l1 t1) () (sub_cons rfl (sub_cons rfl (sub_cons rfl sub_nil))) some_nil
    refine wc_exit ?_
    refine wq_then_exit ?_
    refine wq_then_exit ?_
    refine wq_block_exit ?_
    exact wj_meet _ () (Sum.inl.inj (stwB l1 t1)) (sub_cons rfl (sub_cons rfl sub_nil)) some_nil
  intro e1 _ hp
  obtain rfl : e1 = y1 := hp.symm
  refine wq_then ?_
  refine wc_seq ?_
  refine wcr ?_
  refine mv rfl rfl ?_
  refine wnt ?_
  refine wcO t0 rfl (fun h4 t0 => ?_) fun h4 t0 => ?_
  · skip
    refine wcr ?_
    refine mv rfl rfl ?_
    refine gdO t0 fun g2 t0 => ?_
    refine wl_pure (po_sadd rfl rfl g2) rfl ?_
    refine asg rfl rfl ?_
    refine wnt ?_
    refine wc_ret ?_
    refine wq_then_ret ?_
    obtain rfl := Option.some.inj t0
    exact wq_ret1 rfl rfl fun w hw => ⟨rfl, hw.weak some_nil⟩
  refine wc_skip ?_
  refine wq_then ?_
  refine wcr ?_
  refine mv rfl rfl ?_
  refine asg rfl rfl ?_
  refine wnt ?_
  refine wc_ret ?_
  obtain rfl := Option.some.inj t0
  exact wq_ret1 rfl rfl fun w hw => ⟨rfl, hw.weak some_nil⟩

theorem c_spec_CellText (w : World) (a_c : GCell) {r : Str} (t0 : spec_CellText a_c = some r) : Calls Tryz.prog 81 #[.agg #[.int .i64 a_c.Split, .int .i64 a_c.A, .int .i64 a_c.B]] w fun e w' => e = .returned (bs r) ∧ SH w [] [] w' := by
  refine calls_of_wc (args := [_]) Tryz.func81 rfl Tryz.ntmps81 rfl ?_
  unfold spec_CellText at t0
  refine wcr ?_
  refine wl_eff (eo_box rfl rfl) rfl fun b1 => ?_
  refine asg rfl rfl ?_
  refine wnt ?_
  refine wc_seq ?_
  refine wcr ?_
  refine wl_pure (v := .agg #[.int .i64 a_c.Split, .int .i64 a_c.A, .int .i64 a_c.B]) (po_load_boxs tk_75 pick0 rfl rfl rfl) rfl ?_
  refine bdO t0 fun v1 hv1 t0 => ?_
  refine wl_call (co_c0 fa_61 rfl fun w hw => c_spec_CellOk w a_c hv1) rfl fun _ => ?_
  refine wl_pure (po_not rfl) rfl ?_
  refine wnt ?_
  refine wcO t0 rfl (fun h1 t0 => ?_) fun h1 t0 => ?_
  · skip
    refine wcr ?_
    refine asg rfl rfl ?_
    refine wnt ?_
    refine wc_ret ?_
    refine wq_then_ret ?_
    obtain rfl := Option.some.inj t0
    exact wq_ret1 rfl rfl fun w hw => ⟨rfl, hw.weak some_nil⟩
  refine wc_skip ?_
  refine wq_then ?_
  refine wc_seq ?_
  refine wcr ?_
  refine wl_pure (po_fld fo_75_0 rfl) rfl ?_
  refine wl_pure (v := .int .i64 a_c.Split) (po_load_box tk_3 pick0 rfl rfl) rfl ?_
  refine wnt ?_
  refine wc_block ?_
  refine wcr ?_
  refine wl_pure (po_eql rfl rfl) rfl ?_
  refine asg rfl rfl ?_
  refine wnt ?_
  refine wcO t0 rfl (fun h2 t0 => ?_) fun h2 t0 => ?_
  · skip
    refine wc_seq ?_
    refine wc_draw [box b1 [.int .i64 a_c.Split, .int .i64 a_c.A, .int .i64 a_c.B]] 9 mixed ?_
    refine wa_pure 0 rfl (po_fld fo_75_1 rfl) (some_cons pick0 some_nil) rfl (by kernel_rfl) (fun _ _ _ h => h) ?_
    refine wa_pure (v := .int .i64 a_c.A) 1 rfl (po_load_box tk_3 pick0 rfl rfl) (some_cons pick0 some_nil) rfl (by kernel_rfl) (fun _ _ _ h => h) ?_
    refine wa_pure 4 rfl (po_fld fo_75_2 rfl) (some_cons pick0 some_nil) rfl (by kernel_rfl) (fun _ _ _ h => h) ?_
    refine wa_pure (v := .int .i64 a_c.B) 5 rfl (po_load_box tk_3 pick0 rfl rfl) (some_cons pick0 some_nil) rfl (by kernel_rfl) (fun _ _ _ h => h) ?_
    refine wa_1 (i := 2) (by kernel_rfl) ?_
    refine bdO t0 fun v2 hv2 t0 => ?_
    refine ws_call rfl (co_c0 fa_98 rfl fun w hw => c_spec_FormatInt w a_c.A hv2) (fun _ => (sts_some (some_cons pick0 some_nil))) rfl fun _ => ?_
    refine gdO t0 fun g1 t0 => ?_
    refine wa_pure 3 rfl (po_sadd rfl rfl g1) (some_cons pick0 some_nil) rfl (by kernel_rfl) (fun _ _ _ h => h) ?_
    refine wa_1 (i := 6) (by kernel_rfl) ?_
    refine bdO t0 fun v3 hv3 t0 => ?_
    refine ws_call rfl (co_c0 fa_98 rfl fun w hw => c_spec_FormatInt w a_c.B hv3) (fun _ => (sts_some (some_cons pick0 some_nil))) rfl fun _ => ?_
    refine gdO t0 fun g2 t0 => ?_
    refine wa_pure 7 rfl (po_sadd rfl rfl g2) (some_cons pick0 some_nil) rfl (by kernel_rfl) (fun _ _ _ h => h) ?_
    refine wa_pure 8 rfl (po_assign rfl) (some_cons pick0 some_nil) rfl (by kernel_rfl) (fun _ _ _ h => h) ?_
    refine wa_done (by kernel_rfl) ?_
    refine wq_then ?_
    refine wc_ret ?_
    refine wq_block_ret ?_
    refine wq_then_ret ?_
    obtain rfl := Option.some.inj t0
    exact wq_ret1 rfl rfl fun w hw => ⟨rfl, hw.weak some_nil⟩
  refine wcr ?_
  refine wl_pure (po_eql rfl rfl) rfl ?_
  refine asg rfl rfl ?_
  refine wnt ?_
  refine wcO t0 rfl (fun h3 t0 => ?_) fun h3 t0 => ?_
  · skip
    refine wc_seq ?_
    refine wc_draw [box b1 [.int .i64 a_c.Split, .int .i64 a_c.A, .int .i64 a_c.B]] 9 mixed ?_
    refine wa_pure 0 rfl (po_fld fo_75_1 rfl) (some_cons pick0 some_nil) rfl (by kernel_rfl) (fun _ _ _ h => h) ?_
    refine wa_pure (v := .int .i64 a_c.A) 1 rfl (po_load_box tk_3 pick0 rfl rfl) (some_cons pick0 some_nil) rfl (by kernel_rfl) (fun _ _ _ h => h) ?_
    refine wa_pure 4 rfl (po_fld fo_75_2 rfl) (some_cons pick0 some_nil) rfl (by kernel_rfl) (fun _ _ _ h => h) ?_
    refine wa_pure (v := .int .i64 a_c.B) 5 rfl (po_load_box tk_3 pick0 rfl rfl) (some_cons pick0 some_nil) rfl (by kernel_rfl) (fun _ _ _ h => h) ?_
    refine wa_1 (i := 2) (by kernel_rfl) ?_
    refine bdO t0 fun v4 hv4 t0 => ?_
    refine ws_call rfl (co_c0 fa_98 rfl fun w hw => c_spec_FormatInt w a_c.A hv4) (fun _ => (sts_some (some_cons pick0 some_nil))) rfl fun _ => ?_
    refine gdO t0 fun g3 t0 => ?_
    refine wa_pure 3 rfl (po_sadd rfl rfl g3) (some_cons pick0 some_nil) rfl (by kernel_rfl) (fun _ _ _ h => h) ?_
    refine wa_1 (i := 6) (by kernel_rfl) ?_
    refine bdO t0 fun v5 hv5 t0 => ?_
    refine ws_call rfl (co_c0 fa_98 rfl fun w hw => c_spec_FormatInt w a_c.B hv5) (fun _ => (sts_some (some_cons pick0 some_nil))) rfl fun _ => ?_
    refine gdO t0 fun g4 t0 => ?_
    refine wa_pure 7 rfl (po_sadd rfl rfl g4) (some_cons pick0 some_nil) rfl (by kernel_rfl) (fun _ _ _ h => h) ?_
    refine wa_pure 8 rfl (po_assign rfl) (some_cons pick0 some_nil) rfl (by kernel_rfl) (fun _ _ _ h => h) ?_
    refine wa_done (by kernel_rfl) ?_
    refine wq_then ?_
    refine wc_ret ?_
    refine wq_block_ret ?_
    refine wq_then_ret ?_
    obtain rfl := Option.some.inj t0
    exact wq_ret1 rfl rfl fun w hw => ⟨rfl, hw.weak some_nil⟩
  refine wc_skip ?_
  refine wq_block ?_
  refine wq_then ?_
  refine wcr ?_
  refine wl_pure (po_fld fo_75_1 rfl) rfl ?_
  refine wl_pure (v := .int .i64 a_c.A) (po_load_box tk_3 pick0 rfl rfl) rfl ?_
  refine bdO t0 fun v6 hv6 t0 => ?_
  refine wl_call (co_c0 fa_98 rfl fun w hw => c_spec_FormatInt w a_c.A hv6) rfl fun _ => ?_
  refine asg rfl rfl ?_
  refine wnt ?_
  refine wc_ret ?_
  obtain rfl := Option.some.inj t0
  exact wq_ret1 rfl rfl fun w hw => ⟨rfl, hw.weak some_nil⟩

theorem c_spec_TextOf (w : World) (a_b : GBlock) (v0a : Hd) (r0 : rdF w (dm w []) (sl v0a) a_b.Cells) {r : Str} (t0 : spec_TextOf a_b = some r) : Calls Tryz.prog 63 #[.agg #[.int .i64 a_b.Size, (sl v0a)]] w fun e w' => e = .returned (bs r) ∧ SH w [] [] w' := by
  refine calls_of_wc (args := [_]) Tryz.func63 rfl Tryz.ntmps63 rfl ?_
  unfold spec_TextOf at t0
  refine wcr ?_
  refine wl_eff (eo_box rfl rfl) rfl fun b1 => ?_
  refine asg rfl rfl ?_
  refine wnt ?_
  refine wcr ?_
  refine asg rfl rfl ?_
  refine wnt ?_
  refine wc_seq ?_
  refine wcr ?_
  refine asg rfl rfl ?_
  refine wnt ?_
  refine gdO t0 fun g1 t0 => ?_
  refine lpO_inv t0 fun y1 l1 t0 => ?_
  refine wj (J := Str) (X := Unit) (fun z => y1 = z) (fun z _ => [(3, bs z)]) (fun _ _ => []) ?_ ?_
  · skip
    refine wc_block ?_
    refine wc_forO (X := Unit) l1 (fun k1 s1 x1l => [(1, ptr b1 0), (3, bs s1), (4, .int .i64 ((k1 : Nat) : Int))]) (fun k1 s1 x1l => [box b1 [.int .i64 a_b.Size, (sl v0a)]]) () (sub_cons rfl (sub_cons rfl (sub_cons rfl sub_nil))) (some_cons pick0 some_nil) fun k1 s1 x1l hN1 l1 => ?_
    by_cases hk1 : k1 < a_b.Cells.length
    · skip
      refine forO_step l1 hk1 fun _ t1 l1 => ?_
      unfold spec_TextOf_L1 at t1
      have c1 : (decide (((k1 : Nat) : Int) < ((a_b.Cells.length : Nat) : Int))) = true := decide_eq_true (by omega)
      refine wc_seq ?_
      refine wcr ?_
      refine mv rfl rfl ?_
      refine wl_pure (po_fld fo_31_1 rfl) rfl ?_
      refine wl_pure (v := (sl v0a)) (po_load_box tk_29 pick0 rfl rfl) rfl ?_
      refine wl_pure (po_lenr (rds_arg r0) el_29 rfl) rfl ?_
      refine wl_pure (po_lss rfl rfl) rfl ?_
      refine mv rfl rfl ?_
      refine wl_know (t := 10) rfl c1 ?_
      refine wl_guard_on (j := 5) rfl rfl rfl (wl_pure (v := .agg #[.int .i64 a_b.Size, (sl v0a)]) (po_load_boxs tk_31 pick0 rfl rfl rfl) rfl ?_)
      refine bdO t1 fun v1 hv1 t1 => ?_
      refine wl_guard_on (j := 5) rfl rfl rfl (wl_call (co_c0 fa_42 rfl fun w hw => c_spec_BlockOk w a_b v0a (Rg.on (rds_arg r0) hw) hv1) rfl (fun _ => ?_))
      refine wl_pure (po_pick_t rfl rfl) rfl ?_
      refine wnt ?_
      refine wcO t1 rfl (fun h1 t1 => ?_) fun h1 t1 => ?_
      · skip
        refine wc_skip ?_
        refine wq_then ?_
        refine wc_seq ?_
        refine wc_block ?_
        refine wc_region ?_
        refine mv rfl rfl ?_
        refine wl_pure (po_fld fo_31_1 rfl) rfl ?_
        refine wl_pure (v := (sl v0a)) (po_load_box tk_29 pick0 rfl rfl) rfl ?_
        refine mv rfl rfl ?_
        refine wl_pure (po_ixn (k := k1) (rds_arg r0) el_29 rfl rfl hk1) rfl ?_
        refine wl_pure (v := .agg #[.int .i64 ((gx a_b.Cells k1).Split), .int .i64 ((gx a_b.Cells k1).A), .int .i64 ((gx a_b.Cells k1).B)]) (po_ldfs (rds_arg r0) tk_75 rfl hk1 rfl rfl rfl) rfl ?_
        refine bdO t1 fun v2 hv2 t1 => ?_
        refine wl_call (co_c0 fa_81 rfl fun w hw => c_spec_CellText w (gx a_b.Cells k1) hv2) rfl fun _ => ?_
        refine gdO t1 fun g2 t1 => ?_
        refine wl_pure (po_sadd rfl rfl g2) rfl ?_
        refine gdO t1 fun g3 t1 => ?_
        refine wl_pure (po_sadd rfl rfl g3) rfl ?_
        refine asg rfl rfl ?_
        refine wl_nil ?_
        refine wq_block ?_
        refine wq_then ?_
        refine wc_region ?_
        refine mv rfl rfl ?_
        refine wl_pure (po_inc rfl rfl (by omega)) rfl ?_
        refine asg rfl rfl ?_
        refine wl_nil ?_
        exact wq_rnd hk1 (stpN l1 t1) () (sub_cons rfl (sub_cons rfl (sub_cons rfl sub_nil))) (some_cons pick0 some_nil)
      refine wc_exit ?_
      refine wq_then_exit ?_
      refine wq_then_exit ?_
      refine wq_block_exit ?_
      exact wj_meet _ () (Sum.inl.inj (stpB l1 t1)) (sub_cons rfl sub_nil) some_nil
    have c1 : (decide (((k1 : Nat) : Int) < ((a_b.Cells.length : Nat) : Int))) = false := decide_eq_false (by omega)
    have en1 := forO_end l1 hk1
    refine wc_seq ?_
    refine wcr ?_
    refine mv rfl rfl ?_
    refine wl_pure (po_fld fo_31_1 rfl) rfl ?_
    refine wl_pure (v := (sl v0a)) (po_load_box tk_29 pick0 rfl rfl) rfl ?_
    refine wl_pure (po_lenr (rds_arg r0) el_29 rfl) rfl ?_
    refine wl_pure (po_lss rfl rfl) rfl ?_
    refine mv rfl rfl ?_
    refine wl_know (t := 10) rfl c1 ?_
    refine wl_guard_off (j := 5) rfl rfl rfl rfl rfl ?_
    refine wl_guard_off (j := 5) rfl rfl rfl rfl rfl ?_
    refine wl_pure (po_pick_f rfl rfl) rfl ?_
    refine wnt ?_
    refine wc_cond_f rfl rfl ?_
    refine wc_exit ?_
    refine wq_then_exit ?_
    refine wq_then_exit ?_
    refine wq_block_exit ?_
    exact wj_meet _ () (Sum.inl.inj en1) (sub_cons rfl sub_nil) some_nil
  intro e1 _ hp
  obtain rfl : e1 = y1 := hp.symm
  refine wq_then ?_
  refine wcr ?_
  refine mv rfl rfl ?_
  refine asg rfl rfl ?_
  refine wnt ?_
  refine wc_ret ?_
  obtain rfl := Option.some.inj t0
  exact wq_ret1 rfl rfl fun w hw => ⟨rfl, hw.weak some_nil⟩

theorem c_spec_LeastPattern (w : World) (a_b : GBlock) (v0a : Hd) (r0 : rdF w (dm w []) (sl v0a) a_b.Cells) {r : GBlock} (t0 : spec_LeastPattern a_b = some r) : Calls Tryz.prog 44 #[.agg #[.int .i64 a_b.Size, (sl v0a)]] w fun e w' => ∃ x : Hd, e = .returned (.agg #[.int .i64 r.Size, (sl x)]) ∧ SH w [] [ownF (sl x) r.Cells] w' := by
  refine calls_of_wc (args := [_]) Tryz.func44 rfl Tryz.ntmps44 rfl ?_
  unfold spec_LeastPattern at t0
  refine wcr ?_
  refine wl_eff (eo_box rfl rfl) rfl fun b1 => ?_
  refine wl_eff (eo_alloc (cs := [.int .i64 0, (sl (⟨none, 0, 0⟩ : Hd))]) za_31) rfl fun b2 => ?_
  refine wnt ?_
  refine wc_seq ?_
  refine wcr ?_
  refine wl_pure (v := .agg #[.int .i64 a_b.Size, (sl v0a)]) (po_load_boxs tk_31 (pickS pick0) rfl rfl rfl) rfl ?_
  refine bdO t0 fun v1 hv1 t0 => ?_
  refine wl_call (co_c0 fa_42 rfl fun w hw => c_spec_BlockOk w a_b v0a (Rg.on (rds_arg r0) hw) hv1) rfl fun _ => ?_
  refine wl_pure (po_not rfl) rfl ?_
  refine wnt ?_
  refine wcO t0 rfl (fun h1 t0 => ?_) fun h1 t0 => ?_
  · skip
    refine wcr ?_
    refine wl_pure (po_build rfl bd_31) rfl ?_
    refine wl_skipop (so_box (cs' := [.int .i64 0, (sl (⟨none, 0, 0⟩ : Hd))]) tk_31 pick0 rfl rfl rfl rfl rfl rfl rfl) ?_
    refine wnt ?_
    refine wc_ret ?_
    refine wq_then_ret ?_
    obtain rfl := Option.some.inj t0
    exact wq_retc rfl tk_31 rfl pick0 rfl fun w hw => ⟨(⟨none, 0, 0⟩ : Hd), rfl, hw.weak (some_cons pick_nil some_nil)⟩
  refine wc_skip ?_
  refine wq_then ?_
  refine wcr ?_
  refine wl_pure (v := .agg #[.int .i64 a_b.Size, (sl v0a)]) (po_load_boxs tk_31 (pickS pick0) rfl rfl rfl) rfl ?_
  refine bdO t0 fun v2 hv2 t0 => ?_
  refine wl_call (co_c1 fa_62 rfl fun w hw => c_spec_l07Plain w a_b v0a (Rg.on (rds_arg r0) hw) hv2) rfl fun x1 => ?_
  refine wl_eff (eo_alloc (cs := [.int .i64 0, (sl (⟨none, 0, 0⟩ : Hd))]) za_31) rfl fun b3 => ?_
  refine wl_skipop (so_box (cs' := [.int .i64 v2.Size, (sl x1)]) tk_31 pick0 rfl rfl rfl rfl rfl rfl rfl) ?_
  refine wnt ?_
  refine wc_seq ?_
  refine wcr ?_
  refine asg rfl rfl ?_
  refine wnt ?_
  refine lpO_inv t0 fun y1 l1 t0 => ?_
  refine wj (J := Int × (List GCell)) (X := Hd) (fun z => y1 = z) (fun _ _ => [(2, ptr b2 0), (3, ptr b3 0)]) (fun z x => [box b3 [.int .i64 z.1, (sl x)], ownF (sl x) z.2, box b2 [.int .i64 0, (sl (⟨none, 0, 0⟩ : Hd))]]) ?_ ?_
  · skip
    refine wc_block ?_
    refine wc_forO (X := Hd) l1 (fun k1 s1 x1l => [(1, ptr b1 0), (2, ptr b2 0), (3, ptr b3 0), (4, .int .i64 (((k1 + 1) : Nat) : Int))]) (fun k1 s1 x1l => [box b3 [.int .i64 s1.1, (sl x1l)], ownF (sl x1l) s1.2, box b2 [.int .i64 0, (sl (⟨none, 0, 0⟩ : Hd))], box b1 [.int .i64 a_b.Size, (sl v0a)]]) x1 (sub_cons rfl (sub_cons rfl (sub_cons rfl (sub_cons rfl sub_nil)))) (some_cons pick0 (some_cons pick0 (some_cons pick0 (some_cons pick0 some_nil)))) fun k1 s1 x1l hN1 l1 => ?_
    by_cases hk1 : k1 < 7
    · skip
      refine forO_step l1 hk1 fun _ t1 l1 => ?_
      unfold spec_LeastPattern_L1 at t1
      have c1 : (decide ((((k1 + 1) : Nat) : Int) < 8)) = true := decide_eq_true (by omega)
      refine wc_seq ?_
      refine wcr ?_
      refine mv rfl rfl ?_
      refine wl_pure (po_lss rfl rfl) rfl ?_
      refine wnt ?_
      refine wc_cond_t rfl c1 ?_
      refine wc_skip ?_
      refine wq_then ?_
      refine wc_seq ?_
      refine wc_block ?_
      refine wcr ?_
      refine wl_pure (v := .agg #[.int .i64 a_b.Size, (sl v0a)]) (po_load_boxs tk_31 (pickS (pickS (pickS pick0))) rfl rfl rfl) rfl ?_
      refine mv rfl rfl ?_
      refine bdO t1 fun v3 hv3 t1 => ?_
      refine wl_call (co_c1 fa_49 rfl fun w hw => c_spec_SeenFrom w a_b v0a (Rg.on (rds_arg r0) hw) (((k1 + 1) : Nat) : Int) hv3) rfl fun x3 => ?_
      refine bdO t1 fun v4 hv4 t1 => ?_
      refine wl_call (co_c1 fa_62 rfl fun w hw => c_spec_l07Plain w v3 x3 (Rg.on (rds_own pick0) hw) hv4) rfl fun x4 => ?_
      refine wl_eff (eo_alloc (cs := [.int .i64 0, (sl (⟨none, 0, 0⟩ : Hd))]) za_31) rfl fun b4 => ?_
      refine wl_skipop (so_box (cs' := [.int .i64 v4.Size, (sl x4)]) tk_31 pick0 rfl rfl rfl rfl rfl rfl rfl) ?_
      refine wnt ?_
      refine wc_seq ?_
      refine wc_draw [box b4 [.int .i64 v4.Size, (sl x4)], ownF (sl x4) v4.Cells, ownF (sl x3) v3.Cells, box b3 [.int .i64 s1.1, (sl x1l)], ownF (sl x1l) s1.2, box b2 [.int .i64 0, (sl (⟨none, 0, 0⟩ : Hd))], box b1 [.int .i64 a_b.Size, (sl v0a)]] 5 mixed ?_
      refine wa_pure (v := .agg #[.int .i64 v4.Size, (sl x4)]) 0 rfl (po_load_boxs tk_31 pick0 rfl rfl rfl) (some_cons pick0 (some_cons pick0 (some_cons pick0 (some_cons pick0 (some_cons pick0 (some_cons pick0 (some_cons pick0 some_nil))))))) rfl (by kernel_rfl) (fun _ _ _ h => h) ?_
      refine wa_pure (v := .agg #[.int .i64 s1.1, (sl x1l)]) 2 rfl (po_load_boxs tk_31 (pickS (pickS (pickS pick0))) rfl rfl rfl) (some_cons pick0 (some_cons pick0 (some_cons pick0 (some_cons pick0 (some_cons pick0 (some_cons pick0 (some_cons pick0 some_nil))))))) rfl (by kernel_rfl) (fun _ _ _ h => h) ?_
      refine wa_1 (i := 1) (by kernel_rfl) ?_
      refine bdO t1 fun v5 hv5 t1 => ?_
      refine ws_call rfl (co_c0 fa_63 rfl fun w hw => c_spec_TextOf w v4 x4 (Rg.on (rds_own (pickS pick0)) hw) hv5) (fun _ => (sts_some (some_cons pick0 (some_cons pick0 (some_cons pick0 (some_cons pick0 (some_cons pick0 (some_cons pick0 (some_cons pick0 some_nil))))))))) rfl fun _ => ?_
      refine wa_1 (i := 3) (by kernel_rfl) ?_
      refine bdO t1 fun v6 hv6 t1 => ?_
      refine ws_call rfl (co_c0 fa_63 rfl fun w hw => c_spec_TextOf w (GBlock.mk s1.1 s1.2) x1l (Rg.on (rds_own (pickS (pickS (pickS (pickS pick0))))) hw) hv6) (fun _ => (sts_some (some_cons pick0 (some_cons pick0 (some_cons pick0 (some_cons pick0 (some_cons pick0 (some_cons pick0 (some_cons pick0 some_nil))))))))) rfl fun _ => ?_
      refine wa_pure 4 rfl (po_slss rfl rfl) (some_cons pick0 (some_cons pick0 (some_cons pick0 (some_cons pick0 (some_cons pick0 (some_cons pick0 (some_cons pick0 some_nil))))))) rfl (by kernel_rfl) (fun _ _ _ h => h) ?_
      refine wa_done (by kernel_rfl) ?_
      refine wq_then ?_
      refine wc_join (X := Hd) (fun _ => True) (fun z => [(1, ptr b1 0), (2, ptr b2 0), (3, ptr b3 0), (4, .int .i64 (((k1 + 1) : Nat) : Int))]) (fun z => [box b3 [.int .i64 ((bif (slt v5 v6) then v4 else (GBlock.mk s1.1 s1.2)).Size), (sl z)], box b2 [.int .i64 0, (sl (⟨none, 0, 0⟩ : Hd))], box b1 [.int .i64 a_b.Size, (sl v0a)], ownF (sl z) ((bif (slt v5 v6) then v4 else (GBlock.mk s1.1 s1.2)).Cells)]) ?_ ?_
      · skip
        refine wc_cond rfl (fun h2 => ?_) fun h2 => ?_
        · skip
          refine wc_region ?_
          refine wl_pure (v := .agg #[.int .i64 v4.Size, (sl x4)]) (po_load_boxs tk_31 pick0 rfl rfl rfl) rfl ?_
          refine wl_skipop (so_box (cs' := [.int .i64 v4.Size, (sl x4)]) tk_31 (pickS (pickS (pickS pick0))) rfl rfl rfl rfl rfl rfl rfl) ?_
          refine wl_nil ?_
          exact wq_meet x4 trivial (sub_cons rfl (sub_cons rfl (sub_cons rfl (sub_cons rfl sub_nil)))) (some_cons (by simp only [h2, cond_true]; exact pick0) (some_cons (pickS (pickS (pickS (pickS pick0)))) (some_cons (pickS (pickS (pickS (pickS pick0)))) (some_cons (by simp only [h2, cond_true]; exact (pickS pick0)) some_nil))))
        refine wc_skip ?_
        exact wq_meet x1l trivial (sub_cons rfl (sub_cons rfl (sub_cons rfl (sub_cons rfl sub_nil)))) (some_cons (by simp only [h2, cond_false]; exact (pickS (pickS (pickS pick0)))) (some_cons (pickS (pickS (pickS (pickS pick0)))) (some_cons (pickS (pickS (pickS (pickS pick0)))) (some_cons (by simp only [h2, cond_false]; exact (pickS (pickS (pickS pick0)))) some_nil))))
      intro x5 _
      refine wq_block ?_
      refine wq_then ?_
      refine wc_region ?_
      refine mv rfl rfl ?_
      refine wl_pure (po_inc rfl rfl (by omega)) rfl ?_
      refine asg rfl rfl ?_
      refine wl_nil ?_
      exact wq_rnd hk1 (stpN l1 t1) x5 (sub_cons rfl (sub_cons rfl (sub_cons rfl (sub_cons rfl sub_nil)))) (some_cons pick0 (some_cons (pickS (pickS pick0)) (some_cons pick0 (some_cons pick0 some_nil))))
    have c1 : (decide ((((k1 + 1) : Nat) : Int) < 8)) = false := decide_eq_false (by omega)
    have en1 := forO_end l1 hk1
    refine wc_seq ?_
    refine wcr ?_
    refine mv rfl rfl ?_
    refine wl_pure (po_lss rfl rfl) rfl ?_
    refine wnt ?_
    refine wc_cond_f rfl c1 ?_
    refine wc_exit ?_
    refine wq_then_exit ?_
    refine wq_then_exit ?_
    refine wq_block_exit ?_
    exact wj_meet _ x1l (Sum.inl.inj en1) (sub_cons rfl (sub_cons rfl sub_nil)) (some_cons pick0 (some_cons pick0 (some_cons pick0 some_nil)))
  intro e1 x2 hp
  obtain rfl : e1 = y1 := hp.symm
  refine wq_then ?_
  refine wcr ?_
  refine wl_pure (v := .agg #[.int .i64 e1.1, (sl x2)]) (po_load_boxs tk_31 pick0 rfl rfl rfl) rfl ?_
  refine wl_skipop (so_box (cs' := [.int .i64 e1.1, (sl x2)]) tk_31 (pickS (pickS pick0)) rfl rfl rfl rfl rfl rfl rfl) ?_
  refine wnt ?_
  refine wc_ret ?_
  obtain rfl := Option.some.inj t0
  exact wq_retc rfl tk_31 rfl pick0 rfl fun w hw => ⟨x2, rfl, hw.weak (some_cons (pickS (pickS pick0)) some_nil)⟩

theorem c_spec_SameBlock (w : World) (a_b : GBlock) (v0a : Hd) (r0 : rdF w (dm w []) (sl v0a) a_b.Cells) (a_d : GBlock) (v1a : Hd) (r1 : rdF w (dm w []) (sl v1a) a_d.Cells) {r : Bool} (t0 : spec_SameBlock a_b a_d = some r) : Calls Tryz.prog 43 #[.agg #[.int .i64 a_b.Size, (sl v0a)], .agg #[.int .i64 a_d.Size, (sl v1a)]] w fun e w' => e = .returned (.bool r) ∧ SH w [] [] w' := by
  refine calls_of_wc (args := [_, _]) Tryz.func43 rfl Tryz.ntmps43 rfl ?_
  unfold spec_SameBlock at t0
  refine wcr ?_
  refine wl_eff (eo_box rfl rfl) rfl fun b1 => ?_
  refine wl_eff (eo_box rfl rfl) rfl fun b2 => ?_
  refine asg rfl rfl ?_
  refine wnt ?_
  refine wc_seq ?_
  refine wc_seq ?_
  refine wc_join (X := Unit) (fun _ => True) (fun _ => [(2, ptr b1 0), (3, ptr b2 0), (19, .bool ((a_b.Size != a_d.Size) || (((a_b.Cells.length : Nat) : Int) != ((a_d.Cells.length : Nat) : Int))))]) (fun _ => [box b2 [.int .i64 a_d.Size, (sl v1a)], box b1 [.int .i64 a_b.Size, (sl v0a)]]) ?_ ?_
  · skip
    refine wc_region ?_
    refine wl_pure (po_fld fo_31_0 rfl) rfl ?_
    refine wl_pure (v := .int .i64 a_b.Size) (po_load_box tk_3 (pickS pick0) rfl rfl) rfl ?_
    refine wl_pure (po_fld fo_31_0 rfl) rfl ?_
    refine wl_pure (v := .int .i64 a_d.Size) (po_load_box tk_3 pick0 rfl rfl) rfl ?_
    refine wl_pure (po_neq rfl rfl) rfl ?_
    refine mv rfl rfl ?_
    refine wl_fork (t := 11) rfl (fun h1 => ?_) fun h1 => ?_
    · skip
      refine wl_guard_off (j := 5) rfl rfl rfl rfl rfl ?_
      refine wl_guard_off (j := 5) rfl rfl rfl rfl rfl ?_
      refine wl_guard_off (j := 5) rfl rfl rfl rfl rfl ?_
      refine wl_guard_off (j := 5) rfl rfl rfl rfl rfl ?_
      refine wl_guard_off (j := 5) rfl rfl rfl rfl rfl ?_
      refine wl_guard_off (j := 5) rfl rfl rfl rfl rfl ?_
      refine wl_guard_off (j := 5) rfl rfl rfl rfl rfl ?_
      refine wl_pure (po_pick_t rfl rfl) rfl ?_
      refine wl_nil ?_
      exact wq_meet () trivial (sub_cons rfl (sub_cons rfl (sub_b rfl (by rw [h1]; rfl) sub_nil))) (some_cons pick0 (some_cons pick0 some_nil))
    refine wl_guard_on (j := 5) rfl rfl rfl (wl_pure (po_fld fo_31_1 rfl) rfl ?_)
    refine wl_guard_on (j := 5) rfl rfl rfl (wl_pure (v := (sl v0a)) (po_load_box tk_29 (pickS pick0) rfl rfl) rfl ?_)
    refine wl_guard_on (j := 5) rfl rfl rfl (wl_pure (po_lenr (rds_arg r0) el_29 rfl) rfl ?_)
    refine wl_guard_on (j := 5) rfl rfl rfl (wl_pure (po_fld fo_31_1 rfl) rfl ?_)
    refine wl_guard_on (j := 5) rfl rfl rfl (wl_pure (v := (sl v1a)) (po_load_box tk_29 pick0 rfl rfl) rfl ?_)
    refine wl_guard_on (j := 5) rfl rfl rfl (wl_pure (po_lenr (rds_arg r1) el_29 rfl) rfl ?_)
    refine wl_guard_on (j := 5) rfl rfl rfl (wl_pure (po_neq rfl rfl) rfl ?_)
    refine wl_pure (po_pick_f rfl rfl) rfl ?_
    refine wl_nil ?_
    exact wq_meet () trivial (sub_cons rfl (sub_cons rfl (sub_b rfl (by rw [h1]; rfl) sub_nil))) (some_cons pick0 (some_cons pick0 some_nil))
  intro _ _
  refine wq_then ?_
  refine wcO t0 rfl (fun h2 t0 => ?_) fun h2 t0 => ?_
  · skip
    refine wcr ?_
    refine asg rfl rfl ?_
    refine wnt ?_
    refine wc_ret ?_
    refine wq_then_ret ?_
    obtain rfl := Option.some.inj t0
    exact wq_ret1 rfl rfl fun w hw => ⟨rfl, hw.weak some_nil⟩
  refine wc_skip ?_
  refine wq_then ?_
  refine wc_seq ?_
  refine wcr ?_
  refine asg rfl rfl ?_
  refine wnt ?_
  refine gdO t0 fun g1 t0 => ?_
  refine sqO t0 fun y1 l1 t0 => ?_
  refine wj (J := Unit) (X := Unit) (fun z => y1 = .inl z) (fun _ _ => []) (fun _ _ => []) ?_ ?_
  · skip
    refine wc_block ?_
    refine wc_forO (X := Unit) l1 (fun k1 s1 x1l => [(2, ptr b1 0), (3, ptr b2 0), (5, .int .i64 ((k1 : Nat) : Int))]) (fun k1 s1 x1l => [box b2 [.int .i64 a_d.Size, (sl v1a)], box b1 [.int .i64 a_b.Size, (sl v0a)]]) () (sub_cons rfl (sub_cons rfl (sub_cons rfl sub_nil))) (some_cons pick0 (some_cons pick0 some_nil)) fun k1 s1 x1l hN1 l1 => ?_
    by_cases hk1 : k1 < a_b.Cells.length
    · skip
      refine forO_step l1 hk1 fun _ t1 l1 => ?_
      unfold spec_SameBlock_L1 at t1
      have c1 : (decide (((k1 : Nat) : Int) < ((a_b.Cells.length : Nat) : Int))) = true := decide_eq_true (by omega)
      refine wc_seq ?_
      refine wcr ?_
      refine mv rfl rfl ?_
      refine wl_pure (po_fld fo_31_1 rfl) rfl ?_
      refine wl_pure (v := (sl v0a)) (po_load_box tk_29 (pickS pick0) rfl rfl) rfl ?_
      refine wl_pure (po_lenr (rds_arg r0) el_29 rfl) rfl ?_
      refine wl_pure (po_lss rfl rfl) rfl ?_
      refine wnt ?_
      refine wc_cond_t rfl c1 ?_
      refine wc_skip ?_
      refine wq_then ?_
      refine wc_seq ?_
      refine wc_block ?_
      refine wc_seq ?_
      refine wc_draw [box b2 [.int .i64 a_d.Size, (sl v1a)], box b1 [.int .i64 a_b.Size, (sl v0a)]] 11 mixed ?_
      refine wa_pure 0 rfl (po_fld fo_31_1 rfl) (some_cons pick0 (some_cons pick0 some_nil)) rfl (by kernel_rfl) (fun _ _ _ h => h) ?_
      refine wa_pure (v := (sl v0a)) 1 rfl (po_load_box tk_29 (pickS pick0) rfl rfl) (some_cons pick0 (some_cons pick0 some_nil)) rfl (by kernel_rfl) (fun _ _ _ h => h) ?_
      refine wa_pure 2 rfl (po_move rfl) (some_cons pick0 (some_cons pick0 some_nil)) rfl (by kernel_rfl) (fun _ _ _ h => h) ?_
      refine wa_pure 3 rfl (po_ixn (k := k1) (rds_arg r0) el_29 rfl rfl hk1) (some_cons pick0 (some_cons pick0 some_nil)) rfl (by kernel_rfl) (fun _ _ _ h => h) ?_
      refine wa_pure (v := .agg #[.int .i64 ((gx a_b.Cells k1).Split), .int .i64 ((gx a_b.Cells k1).A), .int .i64 ((gx a_b.Cells k1).B)]) 4 rfl (po_ldfs (rds_arg r0) tk_75 rfl hk1 rfl rfl rfl) (some_cons pick0 (some_cons pick0 some_nil)) rfl (by kernel_rfl) (fun _ _ _ h => h) ?_
      refine wa_pure 5 rfl (po_fld fo_31_1 rfl) (some_cons pick0 (some_cons pick0 some_nil)) rfl (by kernel_rfl) (fun _ _ _ h => h) ?_
      refine wa_pure (v := (sl v1a)) 6 rfl (po_load_box tk_29 pick0 rfl rfl) (some_cons pick0 (some_cons pick0 some_nil)) rfl (by kernel_rfl) (fun _ _ _ h => h) ?_
      refine wa_pure 7 rfl (po_move rfl) (some_cons pick0 (some_cons pick0 some_nil)) rfl (by kernel_rfl) (fun _ _ _ h => h) ?_
      refine gdO t1 fun g2 t1 => ?_
      refine wa_pure 8 rfl (po_ixn (k := k1) (rds_arg r1) el_29 rfl rfl g2) (some_cons pick0 (some_cons pick0 some_nil)) rfl (by kernel_rfl) (fun _ _ _ h => h) ?_
      refine wa_pure (v := .agg #[.int .i64 ((gx a_d.Cells k1).Split), .int .i64 ((gx a_d.Cells k1).A), .int .i64 ((gx a_d.Cells k1).B)]) 9 rfl (po_ldfs (rds_arg r1) tk_75 rfl g2 rfl rfl rfl) (some_cons pick0 (some_cons pick0 some_nil)) rfl (by kernel_rfl) (fun _ _ _ h => h) ?_
      refine wa_pure 10 rfl (po_neq_struct (ps := [(gx a_b.Cells k1).Split, (gx a_b.Cells k1).A, (gx a_b.Cells k1).B]) (qs := [(gx a_d.Cells k1).Split, (gx a_d.Cells k1).A, (gx a_d.Cells k1).B]) sq_75 rfl rfl rfl rfl) (some_cons pick0 (some_cons pick0 some_nil)) rfl (by kernel_rfl) (fun _ _ _ h => h) ?_
      refine wa_done (by kernel_rfl) ?_
      refine wq_then ?_
      refine wcO t1 rfl (fun h3 t1 => ?_) fun h3 t1 => ?_
      · skip
        refine wcr ?_
        refine asg rfl rfl ?_
        refine wnt ?_
        refine wc_ret ?_
        refine wq_block_ret ?_
        refine wq_then_ret ?_
        refine wq_then_ret ?_
        refine wq_block_ret ?_
        refine wq_then_ret ?_
        refine wq_then_ret ?_
        replace t0 := lpR t0 l1 t1
        obtain rfl := Option.some.inj t0
        exact wq_ret1 rfl rfl fun w hw => ⟨rfl, hw.weak some_nil⟩
      refine wc_skip ?_
      refine wq_block ?_
      refine wq_then ?_
      refine wc_region ?_
      refine mv rfl rfl ?_
      refine wl_pure (po_inc rfl rfl (by omega)) rfl ?_
      refine asg rfl rfl ?_
      refine wl_nil ?_
      exact wq_rnd hk1 (stpN l1 t1) () (sub_cons rfl (sub_cons rfl (sub_cons rfl sub_nil))) (some_cons pick0 (some_cons pick0 some_nil))
    have c1 : (decide (((k1 : Nat) : Int) < ((a_b.Cells.length : Nat) : Int))) = false := decide_eq_false (by omega)
    have en1 := forO_end l1 hk1
    refine wc_seq ?_
    refine wcr ?_
    refine mv rfl rfl ?_
    refine wl_pure (po_fld fo_31_1 rfl) rfl ?_
    refine wl_pure (v := (sl v0a)) (po_load_box tk_29 (pickS pick0) rfl rfl) rfl ?_
    refine wl_pure (po_lenr (rds_arg r0) el_29 rfl) rfl ?_
    refine wl_pure (po_lss rfl rfl) rfl ?_
    refine wnt ?_
    refine wc_cond_f rfl c1 ?_
    refine wc_exit ?_
    refine wq_then_exit ?_
    refine wq_then_exit ?_
    refine wq_block_exit ?_
    exact wj_meet _ () en1 sub_nil some_nil
  intro e1 _ hp
  replace t0 := sqE (j := e1) t0 hp
  refine wq_then ?_
  refine wcr ?_
  refine asg rfl rfl ?_
  refine wnt ?_
  refine wc_ret ?_
  obtain rfl := Option.some.inj t0
  exact wq_ret1 rfl rfl fun w hw => ⟨rfl, hw.weak some_nil⟩

theorem c_spec_ArePatternsSame (w : World) (a_b : GBlock) (v0a : Hd) (r0 : rdF w (dm w []) (sl v0a) a_b.Cells) (a_d : GBlock) (v1a : Hd) (r1 : rdF w (dm w []) (sl v1a) a_d.Cells) {r : Bool} (t0 : spec_ArePatternsSame a_b a_d = some r) : Calls Tryz.prog 27 #[.agg #[.int .i64 a_b.Size, (sl v0a)], .agg #[.int .i64 a_d.Size, (sl v1a)]] w fun e w' => e = .returned (.bool r) ∧ SH w [] [] w' := by
  refine calls_of_wc (args := [_, _]) Tryz.func27 rfl Tryz.ntmps27 rfl ?_
  unfold spec_ArePatternsSame at t0
  refine wcr ?_
  refine wl_eff (eo_box rfl rfl) rfl fun b1 => ?_
  refine wl_eff (eo_box rfl rfl) rfl fun b2 => ?_
  refine asg rfl rfl ?_
  refine wnt ?_
  refine wc_seq ?_
  refine bdO t0 fun y1 t1 t0 => ?_
  refine wj (J := Bool) (X := Unit) (fun z => y1 = z) (fun z _ => [(4, .bool z)]) (fun _ _ => []) ?_ ?_
  · skip
    refine wc_draw [box b2 [.int .i64 a_d.Size, (sl v1a)], box b1 [.int .i64 a_b.Size, (sl v0a)]] 14 mixed ?_
    refine wa_pure (v := .agg #[.int .i64 a_b.Size, (sl v0a)]) 0 rfl (po_load_boxs tk_31 (pickS pick0) rfl rfl rfl) (some_cons pick0 (some_cons pick0 some_nil)) rfl (by kernel_rfl) (fun _ _ _ h => h) ?_
    refine wa_1 (i := 1) (by kernel_rfl) ?_
    refine bdO t1 fun v1 hv1 t1 => ?_
    refine ws_call rfl (co_c0 fa_42 rfl fun w hw => c_spec_BlockOk w a_b v0a (Rg.on (rds_arg r0) hw) hv1) (fun _ => (sts_some (some_cons pick0 (some_cons pick0 some_nil)))) rfl fun _ => ?_
    refine wa_pure 2 rfl (po_move rfl) (some_cons pick0 (some_cons pick0 some_nil)) rfl (by kernel_rfl) (fun _ _ _ h => h) ?_
    refine waO_ (t := 7) t1 rfl (fun h1 t1 => ?_) fun h1 t1 => ?_
    · skip
      refine wa_pure_on (v := .agg #[.int .i64 a_d.Size, (sl v1a)]) 3 (j := 2) rfl rfl rfl rfl (po_load_boxs tk_31 pick0 rfl rfl rfl) (some_cons pick0 (some_cons pick0 some_nil)) rfl (by kernel_rfl) (fun _ _ _ h => h) ?_
      refine wa_1 (i := 4) (by kernel_rfl) ?_
      refine bdO t1 fun v2 hv2 t1 => ?_
      refine ws_call_on (j := 2) rfl rfl rfl rfl (co_c0 fa_42 rfl fun w hw => c_spec_BlockOk w a_d v1a (Rg.on (rds_arg r1) hw) hv2) (fun _ => (sts_some (some_cons pick0 (some_cons pick0 some_nil)))) rfl fun _ => ?_
      refine wa_pure 5 rfl (po_pick_t rfl rfl) (some_cons pick0 (some_cons pick0 some_nil)) rfl (by kernel_rfl) (fun _ _ _ h => h) ?_
      refine wa_pure 6 rfl (po_move rfl) (some_cons pick0 (some_cons pick0 some_nil)) rfl (by kernel_rfl) (fun _ _ _ h => h) ?_
      refine waO_ (t := 11) t1 rfl (fun h2 t1 => ?_) fun h2 t1 => ?_
      · skip
        refine wa_pure_on (v := .agg #[.int .i64 a_b.Size, (sl v0a)]) 7 (j := 6) rfl rfl rfl rfl (po_load_boxs tk_31 (pickS pick0) rfl rfl rfl) (some_cons pick0 (some_cons pick0 some_nil)) rfl (by kernel_rfl) (fun _ _ _ h => h) ?_
        refine wa_pure_on (v := .agg #[.int .i64 a_d.Size, (sl v1a)]) 9 (j := 6) rfl rfl rfl rfl (po_load_boxs tk_31 pick0 rfl rfl rfl) (some_cons pick0 (some_cons pick0 some_nil)) rfl (by kernel_rfl) (fun _ _ _ h => h) ?_
        refine wa_1 (i := 8) (by kernel_rfl) ?_
        refine bdO t1 fun v3 hv3 t1 => ?_
        refine ws_call_on (j := 6) rfl rfl rfl rfl (co_c1 fa_44 rfl fun w hw => c_spec_LeastPattern w a_b v0a (Rg.on (rds_arg r0) hw) hv3) (fun _ => (sts_some (some_cons (pickS pick0) (some_cons (pickS pick0) some_nil)))) rfl fun x2 => ?_
        refine wa_1 (i := 10) (by kernel_rfl) ?_
        refine bdO t1 fun v4 hv4 t1 => ?_
        refine ws_call_on (j := 6) rfl rfl rfl rfl (co_c1 fa_44 rfl fun w hw => c_spec_LeastPattern w a_d v1a (Rg.on (rds_arg r1) hw) hv4) (fun _ => (sts_some (some_cons (pickS (pickS pick0)) (some_cons (pickS (pickS pick0)) some_nil)))) rfl fun x3 => ?_
        refine wa_1 (i := 11) (by kernel_rfl) ?_
        refine bdO t1 fun v5 hv5 t1 => ?_
        refine ws_call_on (j := 6) rfl rfl rfl rfl (co_c0 fa_43 rfl fun w hw => c_spec_SameBlock w v3 x2 (Rg.on (rds_own (pickS pick0)) hw) v4 x3 (Rg.on (rds_own pick0) hw) hv5) (fun _ => (sts_some (some_cons (pickS (pickS pick0)) (some_cons (pickS (pickS pick0)) some_nil)))) rfl fun _ => ?_
        refine wa_pure 12 rfl (po_pick_t rfl rfl) (some_cons (pickS (pickS pick0)) (some_cons (pickS (pickS pick0)) some_nil)) rfl (by kernel_rfl) (fun _ _ _ h => h) ?_
        refine wa_pure 13 rfl (po_assign rfl) (some_cons (pickS (pickS pick0)) (some_cons (pickS (pickS pick0)) some_nil)) rfl (by kernel_rfl) (fun _ _ _ h => h) ?_
        refine wa_done (by kernel_rfl) ?_
        exact wj_meet _ () (mtE t1) (sub_cons rfl sub_nil) some_nil
      refine wa_off 7 (j := 6) rfl rfl rfl rfl rfl (some_cons pick0 (some_cons pick0 some_nil)) rfl (by kernel_rfl) (fun _ _ _ h => h) ?_
      refine wa_off 8 (j := 6) rfl rfl rfl rfl rfl (some_cons pick0 (some_cons pick0 some_nil)) rfl (by kernel_rfl) (fun _ _ _ h => h) ?_
      refine wa_off 9 (j := 6) rfl rfl rfl rfl rfl (some_cons pick0 (some_cons pick0 some_nil)) rfl (by kernel_rfl) (fun _ _ _ h => h) ?_
      refine wa_off 10 (j := 6) rfl rfl rfl rfl rfl (some_cons pick0 (some_cons pick0 some_nil)) rfl (by kernel_rfl) (fun _ _ _ h => h) ?_
      refine wa_off 11 (j := 6) rfl rfl rfl rfl rfl (some_cons pick0 (some_cons pick0 some_nil)) rfl (by kernel_rfl) (fun _ _ _ h => h) ?_
      refine wa_pure 12 rfl (po_pick_f rfl rfl) (some_cons pick0 (some_cons pick0 some_nil)) rfl (by kernel_rfl) (fun _ _ _ h => h) ?_
      refine wa_pure 13 rfl (po_assign rfl) (some_cons pick0 (some_cons pick0 some_nil)) rfl (by kernel_rfl) (fun _ _ _ h => h) ?_
      refine wa_done (by kernel_rfl) ?_
      exact wj_meet _ () (mtE t1) (sub_cons rfl sub_nil) some_nil
    refine wa_off 3 (j := 2) rfl rfl rfl rfl rfl (some_cons pick0 (some_cons pick0 some_nil)) rfl (by kernel_rfl) (fun _ _ _ h => h) ?_
    refine wa_off 4 (j := 2) rfl rfl rfl rfl rfl (some_cons pick0 (some_cons pick0 some_nil)) rfl (by kernel_rfl) (fun _ _ _ h => h) ?_
    refine wa_pure 5 rfl (po_pick_f rfl rfl) (some_cons pick0 (some_cons pick0 some_nil)) rfl (by kernel_rfl) (fun _ _ _ h => h) ?_
    refine wa_pure 6 rfl (po_move rfl) (some_cons pick0 (some_cons pick0 some_nil)) rfl (by kernel_rfl) (fun _ _ _ h => h) ?_
    refine wa_off 7 (j := 6) rfl rfl rfl rfl rfl (some_cons pick0 (some_cons pick0 some_nil)) rfl (by kernel_rfl) (fun _ _ _ h => h) ?_
    refine wa_off 8 (j := 6) rfl rfl rfl rfl rfl (some_cons pick0 (some_cons pick0 some_nil)) rfl (by kernel_rfl) (fun _ _ _ h => h) ?_
    refine wa_off 9 (j := 6) rfl rfl rfl rfl rfl (some_cons pick0 (some_cons pick0 some_nil)) rfl (by kernel_rfl) (fun _ _ _ h => h) ?_
    refine wa_off 10 (j := 6) rfl rfl rfl rfl rfl (some_cons pick0 (some_cons pick0 some_nil)) rfl (by kernel_rfl) (fun _ _ _ h => h) ?_
    refine wa_off 11 (j := 6) rfl rfl rfl rfl rfl (some_cons pick0 (some_cons pick0 some_nil)) rfl (by kernel_rfl) (fun _ _ _ h => h) ?_
    refine wa_pure 12 rfl (po_pick_f rfl rfl) (some_cons pick0 (some_cons pick0 some_nil)) rfl (by kernel_rfl) (fun _ _ _ h => h) ?_
    refine wa_pure 13 rfl (po_assign rfl) (some_cons pick0 (some_cons pick0 some_nil)) rfl (by kernel_rfl) (fun _ _ _ h => h) ?_
    refine wa_done (by kernel_rfl) ?_
    exact wj_meet _ () (mtE t1) (sub_cons rfl sub_nil) some_nil
  intro j1 _ hp
  obtain rfl : j1 = y1 := hp.symm
  refine wq_then ?_
  refine wc_ret ?_
  obtain rfl := Option.some.inj t0
  exact wq_ret1 rfl rfl fun w hw => ⟨rfl, hw.weak some_nil⟩

theorem c_spec_ColorsOf (w : World) (a_b : GBlock) (v0a : Hd) (r0 : rdF w (dm w []) (sl v0a) a_b.Cells) {r : List Int} (t0 : spec_ColorsOf a_b = some r) : Calls Tryz.prog 45 #[.agg #[.int .i64 a_b.Size, (sl v0a)]] w fun e w' => ∃ x : Hd, e = .returned ((sl x)) ∧ SH w [] [ownF (sl x) r] w' := by
  refine calls_of_wc (args := [_]) Tryz.func45 rfl Tryz.ntmps45 rfl ?_
  unfold spec_ColorsOf at t0
  refine wcr ?_
  refine wl_eff (eo_box rfl rfl) rfl fun b1 => ?_
  refine asg rfl rfl ?_
  refine wnt ?_
  refine wcr ?_
  refine wl_eff (eo_buildSlice rfl sb_55_0) rfl fun b2 => ?_
  refine asg rfl rfl ?_
  refine wnt ?_
  refine wc_seq ?_
  refine wcr ?_
  refine wl_pure (v := .agg #[.int .i64 a_b.Size, (sl v0a)]) (po_load_boxs tk_31 (pickS pick0) rfl rfl rfl) rfl ?_
  refine bdO t0 fun v1 hv1 t0 => ?_
  refine wl_call (co_c0 fa_42 rfl fun w hw => c_spec_BlockOk w a_b v0a (Rg.on (rds_arg r0) hw) hv1) rfl fun _ => ?_
  refine wl_pure (po_not rfl) rfl ?_
  refine wnt ?_
  refine wcO t0 rfl (fun h1 t0 => ?_) fun h1 t0 => ?_
  · skip
    refine wcr ?_
    refine mv rfl rfl ?_
    refine asg rfl rfl ?_
    refine wnt ?_
    refine wc_ret ?_
    refine wq_then_ret ?_
    obtain rfl := Option.some.inj t0
    exact wq_ret1 rfl rfl fun w hw => ⟨(⟨some ⟨b2, 0, none⟩, 0, 0⟩ : Hd), rfl, hw.weak (some_cons (pick_box_own pick0 (n := 0) (xs := ([] : List Int)) rfl rfl (by unfold maxLen; omega)) some_nil)⟩
  refine wc_skip ?_
  refine wq_then ?_
  refine wc_seq ?_
  refine wcr ?_
  refine asg rfl rfl ?_
  refine wnt ?_
  refine lpO_inv t0 fun y1 l1 t0 => ?_
  refine wj (J := List Int) (X := Hd) (fun z => y1 = z) (fun _ x => [(3, (sl x))]) (fun z x => [ownF (sl x) z]) ?_ ?_
  · skip
    refine wc_block ?_
    refine wc_forO (X := Hd) l1 (fun k1 s1 x1l => [(1, ptr b1 0), (3, (sl x1l)), (4, .int .i64 ((k1 : Nat) : Int))]) (fun k1 s1 x1l => [box b1 [.int .i64 a_b.Size, (sl v0a)], ownF (sl x1l) s1]) (⟨some ⟨b2, 0, none⟩, 0, 0⟩ : Hd) (sub_cons rfl (sub_cons rfl (sub_cons rfl sub_nil))) (some_cons (pickS pick0) (some_cons (pick_box_own pick0 (n := 0) (xs := ([] : List Int)) rfl rfl (by unfold maxLen; omega)) some_nil)) fun k1 s1 x1l hN1 l1 => ?_
    by_cases hk1 : k1 < 6
    · skip
      refine forO_step l1 hk1 fun _ t1 l1 => ?_
      unfold spec_ColorsOf_L1 at t1
      have c1 : (decide (((k1 : Nat) : Int) < 6)) = true := decide_eq_true (by omega)
      refine wc_seq ?_
      refine wcr ?_
      refine mv rfl rfl ?_
      refine wl_pure (po_lss rfl rfl) rfl ?_
      refine wnt ?_
      refine wc_cond_t rfl c1 ?_
      refine wc_skip ?_
      refine wq_then ?_
      refine wc_seq ?_
      refine wc_block ?_
      refine wcr ?_
      refine asg rfl rfl ?_
      refine wnt ?_
      refine wc_seq ?_
      refine wcr ?_
      refine asg rfl rfl ?_
      refine wnt ?_
      refine gdO t1 fun g1 t1 => ?_
      refine lpO_inv t1 fun y2 l2 t1 => ?_
      refine wj (J := Bool) (X := Unit) (fun z => y2 = z) (fun z _ => [(1, ptr b1 0), (3, (sl x1l)), (4, .int .i64 ((k1 : Nat) : Int)), (5, .bool z)]) (fun _ _ => [box b1 [.int .i64 a_b.Size, (sl v0a)], ownF (sl x1l) s1]) ?_ ?_
      · skip
        refine wc_block ?_
        refine wc_forO (X := Unit) l2 (fun k2 s2 x2l => [(1, ptr b1 0), (3, (sl x1l)), (4, .int .i64 ((k1 : Nat) : Int)), (5, .bool s2), (6, .int .i64 ((k2 : Nat) : Int))]) (fun k2 s2 x2l => [box b1 [.int .i64 a_b.Size, (sl v0a)], ownF (sl x1l) s1]) () (sub_cons rfl (sub_cons rfl (sub_cons rfl (sub_cons rfl (sub_cons rfl sub_nil))))) (some_cons pick0 (some_cons pick0 some_nil)) fun k2 s2 x2l hN2 l2 => ?_
        by_cases hk2 : k2 < a_b.Cells.length
        · skip
          refine forO_step l2 hk2 fun _ t2 l2 => ?_
          unfold spec_ColorsOf_L2 at t2
          have c2 : (decide (((k2 : Nat) : Int) < ((a_b.Cells.length : Nat) : Int))) = true := decide_eq_true (by omega)
          refine wc_seq ?_
          refine wcr ?_
          refine mv rfl rfl ?_
          refine wl_pure (po_fld fo_31_1 rfl) rfl ?_
          refine wl_pure (v := (sl v0a)) (po_load_box tk_29 pick0 rfl rfl) rfl ?_
          refine wl_pure (po_lenr (rds_arg r0) el_29 rfl) rfl ?_
          refine wl_pure (po_lss rfl rfl) rfl ?_
          refine wnt ?_
          refine wc_cond_t rfl c2 ?_
          refine wc_skip ?_
          refine wq_then ?_
          refine wc_seq ?_
          refine wc_block ?_
          refine wc_join (X := Unit) (fun _ => True) (fun _ => [(1, ptr b1 0), (3, (sl x1l)), (4, .int .i64 ((k1 : Nat) : Int)), (5, .bool (s2 || (((gx a_b.Cells k2).A == ((k1 : Nat) : Int)) || ((gx a_b.Cells k2).B == ((k1 : Nat) : Int))))), (6, .int .i64 ((k2 : Nat) : Int))]) (fun _ => [box b1 [.int .i64 a_b.Size, (sl v0a)], ownF (sl x1l) s1]) ?_ ?_
          · skip
            refine wc_region ?_
            refine mv rfl rfl ?_
            refine mv rfl rfl ?_
            refine wl_fork (t := 24) rfl (fun h2 => ?_) fun h2 => ?_
            · skip
              refine wl_guard_off (j := 1) rfl rfl rfl rfl rfl ?_
              refine wl_guard_off (j := 1) rfl rfl rfl rfl rfl ?_
              refine wl_guard_off (j := 1) rfl rfl rfl rfl rfl ?_
              refine wl_guard_off (j := 1) rfl rfl rfl rfl rfl ?_
              refine wl_guard_off (j := 1) rfl rfl rfl rfl rfl ?_
              refine wl_guard_off (j := 1) rfl rfl rfl rfl rfl ?_
              refine wl_guard_off (j := 1) rfl rfl rfl rfl rfl ?_
              refine wl_guard_off (j := 1) rfl rfl rfl rfl rfl ?_
              refine wl_pure (po_pick_t rfl rfl) rfl ?_
              refine mv rfl rfl ?_
              refine wl_guard_off (j := 11) rfl rfl rfl rfl rfl ?_
              refine wl_guard_off (j := 11) rfl rfl rfl rfl rfl ?_
              refine wl_guard_off (j := 11) rfl rfl rfl rfl rfl ?_
              refine wl_guard_off (j := 11) rfl rfl rfl rfl rfl ?_
              refine wl_guard_off (j := 11) rfl rfl rfl rfl rfl ?_
              refine wl_guard_off (j := 11) rfl rfl rfl rfl rfl ?_
              refine wl_guard_off (j := 11) rfl rfl rfl rfl rfl ?_
              refine wl_guard_off (j := 11) rfl rfl rfl rfl rfl ?_
              refine wl_pure (po_pick_t rfl rfl) rfl ?_
              refine asg rfl rfl ?_
              refine wl_nil ?_
              exact wq_meet () trivial (sub_cons rfl (sub_cons rfl (sub_cons rfl (sub_b rfl (by rw [h2]; rfl) (sub_cons rfl sub_nil))))) (some_cons pick0 (some_cons pick0 some_nil))
            refine wl_guard_on (j := 1) rfl rfl rfl (wl_pure (po_fld fo_31_1 rfl) rfl ?_)
            refine wl_guard_on (j := 1) rfl rfl rfl (wl_pure (v := (sl v0a)) (po_load_box tk_29 pick0 rfl rfl) rfl ?_)
            refine wl_guard_on (j := 1) rfl rfl rfl (mv rfl rfl ?_)
            refine wl_guard_on (j := 1) rfl rfl rfl (wl_pure (po_ixn (k := k2) (rds_arg r0) el_29 rfl rfl hk2) rfl ?_)
            refine wl_guard_on (j := 1) rfl rfl rfl (wl_pure (po_sfldr (rds_arg r0) hk2 fo_75_1 rfl) rfl ?_)
            refine wl_guard_on (j := 1) rfl rfl rfl (wl_pure (v := .int .i64 ((gx a_b.Cells k2).A)) (po_ldf (rds_arg r0) tk_3 rfl hk2 rfl) rfl ?_)
            refine wl_guard_on (j := 1) rfl rfl rfl (mv rfl rfl ?_)
            refine wl_guard_on (j := 1) rfl rfl rfl (wl_pure (po_eql rfl rfl) rfl ?_)
            refine wl_pure (po_pick_f rfl rfl) rfl ?_
            refine mv rfl rfl ?_
            refine wl_fork (t := 34) rfl (fun h3 => ?_) fun h3 => ?_
            · skip
              refine wl_guard_off (j := 11) rfl rfl rfl rfl rfl ?_
              refine wl_guard_off (j := 11) rfl rfl rfl rfl rfl ?_
              refine wl_guard_off (j := 11) rfl rfl rfl rfl rfl ?_
              refine wl_guard_off (j := 11) rfl rfl rfl rfl rfl ?_
              refine wl_guard_off (j := 11) rfl rfl rfl rfl rfl ?_
              refine wl_guard_off (j := 11) rfl rfl rfl rfl rfl ?_
              refine wl_guard_off (j := 11) rfl rfl rfl rfl rfl ?_
              refine wl_guard_off (j := 11) rfl rfl rfl rfl rfl ?_
              refine wl_pure (po_pick_t rfl rfl) rfl ?_
              refine asg rfl rfl ?_
              refine wl_nil ?_
              exact wq_meet () trivial (sub_cons rfl (sub_cons rfl (sub_cons rfl (sub_b rfl (by rw [h2, h3]; rfl) (sub_cons rfl sub_nil))))) (some_cons pick0 (some_cons pick0 some_nil))
            refine wl_guard_on (j := 11) rfl rfl rfl (wl_pure (po_fld fo_31_1 rfl) rfl ?_)
            refine wl_guard_on (j := 11) rfl rfl rfl (wl_pure (v := (sl v0a)) (po_load_box tk_29 pick0 rfl rfl) rfl ?_)
            refine wl_guard_on (j := 11) rfl rfl rfl (mv rfl rfl ?_)
            refine wl_guard_on (j := 11) rfl rfl rfl (wl_pure (po_ixn (k := k2) (rds_arg r0) el_29 rfl rfl hk2) rfl ?_)
            refine wl_guard_on (j := 11) rfl rfl rfl (wl_pure (po_sfldr (rds_arg r0) hk2 fo_75_2 rfl) rfl ?_)
            refine wl_guard_on (j := 11) rfl rfl rfl (wl_pure (v := .int .i64 ((gx a_b.Cells k2).B)) (po_ldf (rds_arg r0) tk_3 rfl hk2 rfl) rfl ?_)
            refine wl_guard_on (j := 11) rfl rfl rfl (mv rfl rfl ?_)
            refine wl_guard_on (j := 11) rfl rfl rfl (wl_pure (po_eql rfl rfl) rfl ?_)
            refine wl_pure (po_pick_f rfl rfl) rfl ?_
            refine asg rfl rfl ?_
            refine wl_nil ?_
            exact wq_meet () trivial (sub_cons rfl (sub_cons rfl (sub_cons rfl (sub_b rfl (by rw [h2, h3]; rfl) (sub_cons rfl sub_nil))))) (some_cons pick0 (some_cons pick0 some_nil))
          intro _ _
          refine wq_block ?_
          refine wq_then ?_
          refine wc_region ?_
          refine mv rfl rfl ?_
          refine wl_pure (po_inc rfl rfl (by omega)) rfl ?_
          refine asg rfl rfl ?_
          refine wl_nil ?_
          exact wq_rnd hk2 (stpN l2 t2) () (sub_cons rfl (sub_cons rfl (sub_cons rfl (sub_cons rfl (sub_cons rfl sub_nil))))) (some_cons pick0 (some_cons pick0 some_nil))
        have c2 : (decide (((k2 : Nat) : Int) < ((a_b.Cells.length : Nat) : Int))) = false := decide_eq_false (by omega)
        have en1 := forO_end l2 hk2
        refine wc_seq ?_
        refine wcr ?_
        refine mv rfl rfl ?_
        refine wl_pure (po_fld fo_31_1 rfl) rfl ?_
        refine wl_pure (v := (sl v0a)) (po_load_box tk_29 pick0 rfl rfl) rfl ?_
        refine wl_pure (po_lenr (rds_arg r0) el_29 rfl) rfl ?_
        refine wl_pure (po_lss rfl rfl) rfl ?_
        refine wnt ?_
        refine wc_cond_f rfl c2 ?_
        refine wc_exit ?_
        refine wq_then_exit ?_
        refine wq_then_exit ?_
        refine wq_block_exit ?_
        exact wj_meet _ () (Sum.inl.inj en1) (sub_cons rfl (sub_cons rfl (sub_cons rfl (sub_cons rfl sub_nil)))) (some_cons pick0 (some_cons pick0 some_nil))
      intro e2 _ hp
      obtain rfl : e2 = y2 := hp.symm
      refine wq_then ?_
      refine wcr ?_
      refine mv rfl rfl ?_
      refine wnt ?_
      refine bdO t1 fun y2 t2 t1 => ?_
      refine wj (J := List Int) (X := Hd) (fun z => y2 = z) (fun _ x => [(1, ptr b1 0), (3, (sl x)), (4, .int .i64 ((k1 : Nat) : Int))]) (fun z x => [box b1 [.int .i64 a_b.Size, (sl v0a)], ownF (sl x) z]) ?_ ?_
      · skip
        refine wcO t2 rfl (fun h4 t2 => ?_) fun h4 t2 => ?_
        · skip
          refine wc_region ?_
          refine mv rfl rfl ?_
          refine mv rfl rfl ?_
          refine wl_eff (eo_buildSlice rfl (sb_55_1 ((k1 : Nat) : Int))) rfl fun b3 => ?_
          refine gdO t2 fun g2 t2 => ?_
          refine wl_eff (eo_append (xs := s1) (ys := ([((k1 : Nat) : Int)] : List Int)) ak_55 (pickS (pickS pick0)) rfl rfl (slin_rd fun _ g => Rg.on (rds_own (pick_box_own pick0 (n := 1) (xs := ([((k1 : Nat) : Int)] : List Int)) rfl rfl (by unfold maxLen; omega))) g) g2) rfl fun x5 => ?_
          refine asg rfl rfl ?_
          refine wl_nil ?_
          exact wj_meet _ x5 (mtE t2) (sub_cons rfl (sub_cons rfl (sub_cons rfl sub_nil))) (some_cons (pickS (pickS pick0)) (some_cons pick0 some_nil))
        refine wc_skip ?_
        exact wj_meet _ x1l (mtE t2) (sub_cons rfl (sub_cons rfl (sub_cons rfl sub_nil))) (some_cons pick0 (some_cons pick0 some_nil))
      intro j2 x4 hp
      obtain rfl : j2 = y2 := hp.symm
      refine wq_block ?_
      refine wq_then ?_
      refine wc_region ?_
      refine mv rfl rfl ?_
      refine wl_pure (po_inc rfl rfl (by omega)) rfl ?_
      refine asg rfl rfl ?_
      refine wl_nil ?_
      exact wq_rnd hk1 (stpN l1 t1) x4 (sub_cons rfl (sub_cons rfl (sub_cons rfl sub_nil))) (some_cons pick0 (some_cons pick0 some_nil))
    have c1 : (decide (((k1 : Nat) : Int) < 6)) = false := decide_eq_false (by omega)
    have en2 := forO_end l1 hk1
    refine wc_seq ?_
    refine wcr ?_
    refine mv rfl rfl ?_
    refine wl_pure (po_lss rfl rfl) rfl ?_
    refine wnt ?_
    refine wc_cond_f rfl c1 ?_
    refine wc_exit ?_
    refine wq_then_exit ?_
    refine wq_then_exit ?_
    refine wq_block_exit ?_
    exact wj_meet _ x1l (Sum.inl.inj en2) (sub_cons rfl sub_nil) (some_cons (pickS pick0) some_nil)
  intro e1 x1 hp
  obtain rfl : e1 = y1 := hp.symm
  refine wq_then ?_
  refine wcr ?_
  refine mv rfl rfl ?_
  refine asg rfl rfl ?_
  refine wnt ?_
  refine wc_ret ?_
  obtain rfl := Option.some.inj t0
  exact wq_ret1 rfl rfl fun w hw => ⟨x1, rfl, hw.weak (some_cons pick0 some_nil)⟩

theorem c_spec_l29Ok (w : World) (a_b : GBlock) (v0a : Hd) (r0 : rdF w (dm w []) (sl v0a) a_b.Cells) (a_d : GBlock) (v1a : Hd) (r1 : rdF w (dm w []) (sl v1a) a_d.Cells) {r : Bool} (t0 : spec_l29Ok a_b a_d = some r) : Calls Tryz.prog 46 #[.agg #[.int .i64 a_b.Size, (sl v0a)], .agg #[.int .i64 a_d.Size, (sl v1a)]] w fun e w' => e = .returned (.bool r) ∧ SH w [] [] w' := by
  refine calls_of_wc (args := [_, _]) Tryz.func46 rfl Tryz.ntmps46 rfl ?_
  unfold spec_l29Ok at t0
  refine wcr ?_
  refine wl_eff (eo_box rfl rfl) rfl fun b1 => ?_
  refine wl_eff (eo_box rfl rfl) rfl fun b2 => ?_
  refine asg rfl rfl ?_
  refine wnt ?_
  refine wc_seq ?_
  refine bdO t0 fun y1 t1 t0 => ?_
  refine wj (J := Bool) (X := Unit) (fun z => y1 = z) (fun z _ => [(4, .bool z)]) (fun _ _ => []) ?_ ?_
  · skip
    refine wc_region ?_
    refine wl_pure (v := .agg #[.int .i64 a_b.Size, (sl v0a)]) (po_load_boxs tk_31 (pickS pick0) rfl rfl rfl) rfl ?_
    refine bdO t1 fun v1 hv1 t1 => ?_
    refine wl_call (co_c0 fa_42 rfl fun w hw => c_spec_BlockOk w a_b v0a (Rg.on (rds_arg r0) hw) hv1) rfl fun _ => ?_
    refine mv rfl rfl ?_
    refine wlO_ (t := 7) t1 rfl (fun h1 t1 => ?_) fun h1 t1 => ?_
    · skip
      refine wl_guard_on (j := 2) rfl rfl rfl (wl_pure (v := .agg #[.int .i64 a_d.Size, (sl v1a)]) (po_load_boxs tk_31 pick0 rfl rfl rfl) rfl ?_)
      refine bdO t1 fun v2 hv2 t1 => ?_
      refine wl_guard_on (j := 2) rfl rfl rfl (wl_call (co_c0 fa_42 rfl fun w hw => c_spec_BlockOk w a_d v1a (Rg.on (rds_arg r1) hw) hv2) rfl (fun _ => ?_))
      refine wl_pure (po_pick_t rfl rfl) rfl ?_
      refine mv rfl rfl ?_
      refine wlO_ (t := 11) t1 rfl (fun h2 t1 => ?_) fun h2 t1 => ?_
      · skip
        refine wl_guard_on (j := 6) rfl rfl rfl (wl_pure (po_fld fo_31_0 rfl) rfl ?_)
        refine wl_guard_on (j := 6) rfl rfl rfl (wl_pure (v := .int .i64 a_b.Size) (po_load_box tk_3 (pickS pick0) rfl rfl) rfl ?_)
        refine wl_guard_on (j := 6) rfl rfl rfl (wl_pure (po_fld fo_31_0 rfl) rfl ?_)
        refine wl_guard_on (j := 6) rfl rfl rfl (wl_pure (v := .int .i64 a_d.Size) (po_load_box tk_3 pick0 rfl rfl) rfl ?_)
        refine wl_guard_on (j := 6) rfl rfl rfl (wl_pure (po_eql rfl rfl) rfl ?_)
        refine wl_pure (po_pick_t rfl rfl) rfl ?_
        refine asg rfl rfl ?_
        refine wl_nil ?_
        exact wj_meet _ () (mtE t1) (sub_cons rfl sub_nil) some_nil
      refine wl_guard_off (j := 6) rfl rfl rfl rfl rfl ?_
      refine wl_guard_off (j := 6) rfl rfl rfl rfl rfl ?_
      refine wl_guard_off (j := 6) rfl rfl rfl rfl rfl ?_
      refine wl_guard_off (j := 6) rfl rfl rfl rfl rfl ?_
      refine wl_guard_off (j := 6) rfl rfl rfl rfl rfl ?_
      refine wl_pure (po_pick_f rfl rfl) rfl ?_
      refine asg rfl rfl ?_
      refine wl_nil ?_
      exact wj_meet _ () (mtE t1) (sub_cons rfl sub_nil) some_nil
    refine wl_guard_off (j := 2) rfl rfl rfl rfl rfl ?_
    refine wl_guard_off (j := 2) rfl rfl rfl rfl rfl ?_
    refine wl_pure (po_pick_f rfl rfl) rfl ?_
    refine mv rfl rfl ?_
    refine wl_guard_off (j := 6) rfl rfl rfl rfl rfl ?_
    refine wl_guard_off (j := 6) rfl rfl rfl rfl rfl ?_
    refine wl_guard_off (j := 6) rfl rfl rfl rfl rfl ?_
    refine wl_guard_off (j := 6) rfl rfl rfl rfl rfl ?_
    refine wl_guard_off (j := 6) rfl rfl rfl rfl rfl ?_
    refine wl_pure (po_pick_f rfl rfl) rfl ?_
    refine asg rfl rfl ?_
    refine wl_nil ?_
    exact wj_meet _ () (mtE t1) (sub_cons rfl sub_nil) some_nil
  intro j1 _ hp
  obtain rfl : j1 = y1 := hp.symm
  refine wq_then ?_
  refine wc_ret ?_
  obtain rfl := Option.some.inj t0
  exact wq_ret1 rfl rfl fun w hw => ⟨rfl, hw.weak some_nil⟩

theorem c_spec_ColorAt (w : World) (a_c : GCell) (a_side : Int) {r : Int} (t0 : spec_ColorAt a_c a_side = some r) : Calls Tryz.prog 64 #[.agg #[.int .i64 a_c.Split, .int .i64 a_c.A, .int .i64 a_c.B], .int .i64 a_side] w fun e w' => e = .returned (.int .i64 r) ∧ SH w [] [] w' := by
  refine calls_of_wc (args := [_, _]) Tryz.func64 rfl Tryz.ntmps64 rfl ?_
  unfold spec_ColorAt at t0
  refine wcr ?_
  refine wl_eff (eo_box rfl rfl) rfl fun b1 => ?_
  refine asg rfl rfl ?_
  refine wnt ?_
  refine wc_seq ?_
  refine wc_seq ?_
  refine bdO t0 fun y1 t1 t0 => ?_
  refine wj (J := Bool) (X := Unit) (fun z => y1 = z) (fun z _ => [(1, .int .i64 a_side), (2, ptr b1 0), (12, .bool z)]) (fun _ _ => [box b1 [.int .i64 a_c.Split, .int .i64 a_c.A, .int .i64 a_c.B]]) ?_ ?_
  · skip
    refine wc_region ?_
    refine wl_pure (v := .agg #[.int .i64 a_c.Split, .int .i64 a_c.A, .int .i64 a_c.B]) (po_load_boxs tk_75 pick0 rfl rfl rfl) rfl ?_
    refine bdO t1 fun v1 hv1 t1 => ?_
    refine wl_call (co_c0 fa_61 rfl fun w hw => c_spec_CellOk w a_c hv1) rfl fun _ => ?_
    refine wl_pure (po_not rfl) rfl ?_
    refine mv rfl rfl ?_
    refine wlO_ (t := 8) t1 rfl (fun h1 t1 => ?_) fun h1 t1 => ?_
    · skip
      refine wl_guard_off (j := 3) rfl rfl rfl rfl rfl ?_
      refine wl_guard_off (j := 3) rfl rfl rfl rfl rfl ?_
      refine wl_guard_off (j := 3) rfl rfl rfl rfl rfl ?_
      refine wl_pure (po_pick_t rfl rfl) rfl ?_
      refine wl_nil ?_
      exact wj_meet _ () (mtE t1) (sub_cons rfl (sub_cons rfl (sub_cons rfl sub_nil))) (some_cons pick0 some_nil)
    refine wl_guard_on (j := 3) rfl rfl rfl (mv rfl rfl ?_)
    refine bdO t1 fun v2 hv2 t1 => ?_
    refine wl_guard_on (j := 3) rfl rfl rfl (wl_call (co_c0 fa_41 rfl fun w hw => c_spec_l01In w a_side 0 3 hv2) rfl (fun _ => ?_))
    refine wl_guard_on (j := 3) rfl rfl rfl (wl_pure (po_not rfl) rfl ?_)
    refine wl_pure (po_pick_f rfl rfl) rfl ?_
    refine wl_nil ?_
    exact wj_meet _ () (mtE t1) (sub_cons rfl (sub_cons rfl (sub_cons rfl sub_nil))) (some_cons pick0 some_nil)
  intro j1 _ hp
  obtain rfl : j1 = y1 := hp.symm
  refine wq_then ?_
  refine wcO t0 rfl (fun h2 t0 => ?_) fun h2 t0 => ?_
  · skip
    refine wcr ?_
    refine asg rfl rfl ?_
    refine wnt ?_
    refine wc_ret ?_
    refine wq_then_ret ?_
    obtain rfl := Option.some.inj t0
    exact wq_ret1 rfl rfl fun w hw => ⟨rfl, hw.weak some_nil⟩
  refine wc_skip ?_
  refine wq_then ?_
  refine wc_seq ?_
  refine wc_seq ?_
  refine wc_join (X := Unit) (fun _ => True) (fun _ => [(2, ptr b1 0), (32, .bool ((a_side == 0) || (bif (a_side == 1) then ((a_c.Split == 1) || ((a_side == 3) && (a_c.Split == 2))) else ((a_side == 3) && (a_c.Split == 2)))))]) (fun _ => [box b1 [.int .i64 a_c.Split, .int .i64 a_c.A, .int .i64 a_c.B]]) ?_ ?_
  · skip
    refine wc_region ?_
    refine mv rfl rfl ?_
    refine wl_pure (po_eql rfl rfl) rfl ?_
    refine mv rfl rfl ?_
    refine wl_fork (t := 15) rfl (fun h3 => ?_) fun h3 => ?_
    · skip
      refine wl_guard_off (j := 2) rfl rfl rfl rfl rfl ?_
      refine wl_guard_off (j := 2) rfl rfl rfl rfl rfl ?_
      refine wl_guard_off (j := 2) rfl rfl rfl rfl rfl ?_
      refine wl_guard_undef (j := 5) rfl rfl rfl rfl ?_
      refine wl_guard_undef (j := 5) rfl rfl rfl rfl ?_
      refine wl_guard_undef (j := 5) rfl rfl rfl rfl ?_
      refine wl_guard_off (j := 2) rfl rfl rfl rfl rfl ?_
      refine wl_pure (po_pick_t rfl rfl) rfl ?_
      refine mv rfl rfl ?_
      refine wl_guard_off (j := 11) rfl rfl rfl rfl rfl ?_
      refine wl_guard_off (j := 11) rfl rfl rfl rfl rfl ?_
      refine wl_guard_off (j := 11) rfl rfl rfl rfl rfl ?_
      refine wl_guard_undef (j := 14) rfl rfl rfl rfl ?_
      refine wl_guard_undef (j := 14) rfl rfl rfl rfl ?_
      refine wl_guard_undef (j := 14) rfl rfl rfl rfl ?_
      refine wl_guard_off (j := 11) rfl rfl rfl rfl rfl ?_
      refine wl_pure (po_pick_t rfl rfl) rfl ?_
      refine wl_nil ?_
      exact wq_meet () trivial (sub_cons rfl (sub_b rfl (by rw [h3]; rfl) sub_nil)) (some_cons pick0 some_nil)
    refine wl_guard_on (j := 2) rfl rfl rfl (mv rfl rfl ?_)
    refine wl_guard_on (j := 2) rfl rfl rfl (wl_pure (po_eql rfl rfl) rfl ?_)
    refine wl_guard_on (j := 2) rfl rfl rfl (mv rfl rfl ?_)
    refine wl_fork (t := 18) rfl (fun h4 => ?_) fun h4 => ?_
    · skip
      refine wl_guard_on (j := 5) rfl rfl rfl (wl_pure (po_fld fo_75_0 rfl) rfl ?_)
      refine wl_guard_on (j := 5) rfl rfl rfl (wl_pure (v := .int .i64 a_c.Split) (po_load_box tk_3 pick0 rfl rfl) rfl ?_)
      refine wl_guard_on (j := 5) rfl rfl rfl (wl_pure (po_eql rfl rfl) rfl ?_)
      refine wl_guard_on (j := 2) rfl rfl rfl (wl_pure (po_pick_t rfl rfl) rfl ?_)
      refine wl_pure (po_pick_f rfl rfl) rfl ?_
      refine mv rfl rfl ?_
      refine wl_fork (t := 24) rfl (fun h5 => ?_) fun h5 => ?_
      · skip
        refine wl_guard_off (j := 11) rfl rfl rfl rfl rfl ?_
        refine wl_guard_off (j := 11) rfl rfl rfl rfl rfl ?_
        refine wl_guard_off (j := 11) rfl rfl rfl rfl rfl ?_
        refine wl_guard_undef (j := 14) rfl rfl rfl rfl ?_
        refine wl_guard_undef (j := 14) rfl rfl rfl rfl ?_
        refine wl_guard_undef (j := 14) rfl rfl rfl rfl ?_
        refine wl_guard_off (j := 11) rfl rfl rfl rfl rfl ?_
        refine wl_pure (po_pick_t rfl rfl) rfl ?_
        refine wl_nil ?_
        exact wq_meet () trivial (sub_cons rfl (sub_b rfl (by rw [h3, h4, h5]; rfl) sub_nil)) (some_cons pick0 some_nil)
      refine wl_guard_on (j := 11) rfl rfl rfl (mv rfl rfl ?_)
      refine wl_guard_on (j := 11) rfl rfl rfl (wl_pure (po_eql rfl rfl) rfl ?_)
      refine wl_guard_on (j := 11) rfl rfl rfl (mv rfl rfl ?_)
      refine wl_fork (t := 27) rfl (fun h6 => ?_) fun h6 => ?_
      · skip
        refine wl_guard_on (j := 14) rfl rfl rfl (wl_pure (po_fld fo_75_0 rfl) rfl ?_)
        refine wl_guard_on (j := 14) rfl rfl rfl (wl_pure (v := .int .i64 a_c.Split) (po_load_box tk_3 pick0 rfl rfl) rfl ?_)
        refine wl_guard_on (j := 14) rfl rfl rfl (wl_pure (po_eql rfl rfl) rfl ?_)
        refine wl_guard_on (j := 11) rfl rfl rfl (wl_pure (po_pick_t rfl rfl) rfl ?_)
        refine wl_pure (po_pick_f rfl rfl) rfl ?_
        refine wl_nil ?_
        exact wq_meet () trivial (sub_cons rfl (sub_b rfl (by rw [h3, h4, h5, h6]; rfl) sub_nil)) (some_cons pick0 some_nil)
      refine wl_guard_off (j := 14) rfl rfl rfl rfl rfl ?_
      refine wl_guard_off (j := 14) rfl rfl rfl rfl rfl ?_
      refine wl_guard_off (j := 14) rfl rfl rfl rfl rfl ?_
      refine wl_guard_on (j := 11) rfl rfl rfl (wl_pure (po_pick_f rfl rfl) rfl ?_)
      refine wl_pure (po_pick_f rfl rfl) rfl ?_
      refine wl_nil ?_
      exact wq_meet () trivial (sub_cons rfl (sub_b rfl (by rw [h3, h4, h5, h6]; rfl) sub_nil)) (some_cons pick0 some_nil)
    refine wl_guard_off (j := 5) rfl rfl rfl rfl rfl ?_
    refine wl_guard_off (j := 5) rfl rfl rfl rfl rfl ?_
    refine wl_guard_off (j := 5) rfl rfl rfl rfl rfl ?_
    refine wl_guard_on (j := 2) rfl rfl rfl (wl_pure (po_pick_f rfl rfl) rfl ?_)
    refine wl_pure (po_pick_f rfl rfl) rfl ?_
    refine mv rfl rfl ?_
    refine wl_guard_on (j := 11) rfl rfl rfl (mv rfl rfl ?_)
    refine wl_guard_on (j := 11) rfl rfl rfl (wl_pure (po_eql rfl rfl) rfl ?_)
    refine wl_guard_on (j := 11) rfl rfl rfl (mv rfl rfl ?_)
    refine wl_fork (t := 27) rfl (fun h7 => ?_) fun h7 => ?_
    · skip
      refine wl_guard_on (j := 14) rfl rfl rfl (wl_pure (po_fld fo_75_0 rfl) rfl ?_)
      refine wl_guard_on (j := 14) rfl rfl rfl (wl_pure (v := .int .i64 a_c.Split) (po_load_box tk_3 pick0 rfl rfl) rfl ?_)
      refine wl_guard_on (j := 14) rfl rfl rfl (wl_pure (po_eql rfl rfl) rfl ?_)
      refine wl_guard_on (j := 11) rfl rfl rfl (wl_pure (po_pick_t rfl rfl) rfl ?_)
      refine wl_pure (po_pick_f rfl rfl) rfl ?_
      refine wl_nil ?_
      exact wq_meet () trivial (sub_cons rfl (sub_b rfl (by rw [h3, h4, h7]; rfl) sub_nil)) (some_cons pick0 some_nil)
    refine wl_guard_off (j := 14) rfl rfl rfl rfl rfl ?_
    refine wl_guard_off (j := 14) rfl rfl rfl rfl rfl ?_
    refine wl_guard_off (j := 14) rfl rfl rfl rfl rfl ?_
    refine wl_guard_on (j := 11) rfl rfl rfl (wl_pure (po_pick_f rfl rfl) rfl ?_)
    refine wl_pure (po_pick_f rfl rfl) rfl ?_
    refine wl_nil ?_
    exact wq_meet () trivial (sub_cons rfl (sub_b rfl (by rw [h3, h4, h7]; rfl) sub_nil)) (some_cons pick0 some_nil)
  intro _ _
  refine wq_then ?_
  refine wcO t0 rfl (fun h8 t0 => ?_) fun h8 t0 => ?_
  · skip
    refine wcr ?_
    refine wl_pure (po_fld fo_75_1 rfl) rfl ?_
    refine wl_pure (v := .int .i64 a_c.A) (po_load_box tk_3 pick0 rfl rfl) rfl ?_
    refine asg rfl rfl ?_
    refine wnt ?_
    refine wc_ret ?_
    refine wq_then_ret ?_
    obtain rfl := Option.some.inj t0
    exact wq_ret1 rfl rfl fun w hw => ⟨rfl, hw.weak some_nil⟩
  refine wc_skip ?_
  refine wq_then ?_
  refine wcr ?_
  refine wl_pure (po_fld fo_75_2 rfl) rfl ?_
  refine wl_pure (v := .int .i64 a_c.B) (po_load_box tk_3 pick0 rfl rfl) rfl ?_
  refine asg rfl rfl ?_
  refine wnt ?_
  refine wc_ret ?_
  obtain rfl := Option.some.inj t0
  exact wq_ret1 rfl rfl fun w hw => ⟨rfl, hw.weak some_nil⟩

theorem c_spec_l29Table (w : World) (a_b : GBlock) (v0a : Hd) (r0 : rdF w (dm w []) (sl v0a) a_b.Cells) (a_d : GBlock) (v1a : Hd) (r1 : rdF w (dm w []) (sl v1a) a_d.Cells) {r : List (List Int)} (t0 : spec_l29Table a_b a_d = some r) : Calls Tryz.prog 48 #[.agg #[.int .i64 a_b.Size, (sl v0a)], .agg #[.int .i64 a_d.Size, (sl v1a)]] w fun e w' => ∃ x : Hd × (List Value), e = .returned ((sl x.1)) ∧ SH w [] [own (sl x.1) x.2 r] w' := by
  refine calls_of_wc (args := [_, _]) Tryz.func48 rfl Tryz.ntmps48 rfl ?_
  unfold spec_l29Table at t0
  refine wcr ?_
  refine wl_eff (eo_box rfl rfl) rfl fun b1 => ?_
  refine wl_eff (eo_box rfl rfl) rfl fun b2 => ?_
  refine asg rfl rfl ?_
  refine wnt ?_
  refine wcr ?_
  refine wl_eff (eo_buildSlice rfl sb_44_0) rfl fun b3 => ?_
  refine asg rfl rfl ?_
  refine wnt ?_
  refine wc_seq ?_
  refine wcr ?_
  refine asg rfl rfl ?_
  refine wnt ?_
  refine lpO_inv t0 fun y1 l1 t0 => ?_
  refine wj (J := List (List Int)) (X := Hd × (List Value)) (fun z => y1 = z) (fun _ x => [(2, ptr b1 0), (3, ptr b2 0), (5, (sl x.1))]) (fun z x => [box b2 [.int .i64 a_d.Size, (sl v1a)], box b1 [.int .i64 a_b.Size, (sl v0a)], own (sl x.1) x.2 z]) ?_ ?_
  · skip
    refine wc_block ?_
    refine wc_forO (X := Hd × (List Value)) l1 (fun k1 s1 x1l => [(2, ptr b1 0), (3, ptr b2 0), (5, (sl x1l.1)), (6, .int .i64 ((k1 : Nat) : Int))]) (fun k1 s1 x1l => [box b2 [.int .i64 a_d.Size, (sl v1a)], box b1 [.int .i64 a_b.Size, (sl v0a)], own (sl x1l.1) x1l.2 s1]) ((⟨some ⟨b3, 0, none⟩, 0, 0⟩ : Hd), []) (sub_cons rfl (sub_cons rfl (sub_cons rfl (sub_cons rfl sub_nil)))) (some_cons (pickS pick0) (some_cons (pickS pick0) (some_cons (pick_box_nil pick0) some_nil))) fun k1 s1 x1l hN1 l1 => ?_
    by_cases hk1 : k1 < 6
    · skip
      refine forO_step l1 hk1 fun _ t1 l1 => ?_
      unfold spec_l29Table_L1 at t1
      have c1 : (decide (((k1 : Nat) : Int) < 6)) = true := decide_eq_true (by omega)
      refine wc_seq ?_
      refine wcr ?_
      refine mv rfl rfl ?_
      refine wl_pure (po_lss rfl rfl) rfl ?_
      refine wnt ?_
      refine wc_cond_t rfl c1 ?_
      refine wc_skip ?_
      refine wq_then ?_
      refine wc_seq ?_
      refine wc_block ?_
      refine wc_region ?_
      refine mv rfl rfl ?_
      refine wl_eff (eo_make_ (n := 6) (0 : Int) mk_55 rfl rfl rfl (by omega) rfl) rfl fun x2 => ?_
      refine wl_eff (eo_buildSlice rfl (sb_44_1 x2)) rfl fun b4 => ?_
      refine gdO t1 fun g1 t1 => ?_
      refine wl_eff (eo_append_one (us := x1l.2) (xs := s1) ak_44 (pickS (pickS (pickS (pickS pick0)))) (pow_LF (pickS pick0)) pick0 rfl rfl rfl g1) rfl fun x3 => ?_
      refine asg rfl rfl ?_
      refine wl_nil ?_
      refine wq_block ?_
      refine wq_then ?_
      refine wc_region ?_
      refine mv rfl rfl ?_
      refine wl_pure (po_inc rfl rfl (by omega)) rfl ?_
      refine asg rfl rfl ?_
      refine wl_nil ?_
      exact wq_rnd hk1 (stpN l1 t1) (x3, (x1l.2 ++ [(sl x2)])) (sub_cons rfl (sub_cons rfl (sub_cons rfl (sub_cons rfl sub_nil)))) (some_cons (pickS (pickS pick0)) (some_cons (pickS (pickS pick0)) (some_cons pick0 some_nil)))
    have c1 : (decide (((k1 : Nat) : Int) < 6)) = false := decide_eq_false (by omega)
    have en1 := forO_end l1 hk1
    refine wc_seq ?_
    refine wcr ?_
    refine mv rfl rfl ?_
    refine wl_pure (po_lss rfl rfl) rfl ?_
    refine wnt ?_
    refine wc_cond_f rfl c1 ?_
    refine wc_exit ?_
    refine wq_then_exit ?_
    refine wq_then_exit ?_
    refine wq_block_exit ?_
    exact wj_meet _ (x1l.1, x1l.2) (Sum.inl.inj en1) (sub_cons rfl (sub_cons rfl (sub_cons rfl sub_nil))) (some_cons pick0 (some_cons pick0 (some_cons pick0 some_nil)))
  intro e1 x1 hp
  obtain rfl : e1 = y1 := hp.symm
  refine wq_then ?_
  refine wc_seq ?_
  refine wcr ?_
  refine asg rfl rfl ?_
  refine wnt ?_
  refine gdO t0 fun g2 t0 => ?_
  refine lpO_inv t0 fun y1 l1 t0 => ?_
  refine wj (J := List (List Int)) (X := List Value) (fun z => y1 = z) (fun _ _ => [(5, (sl x1.1))]) (fun z x => [own (sl x1.1) x z]) ?_ ?_
  · skip
    refine wc_block ?_
    refine wc_forO (X := List Value) l1 (fun k2 s2 x2l => [(2, ptr b1 0), (3, ptr b2 0), (5, (sl x1.1)), (7, .int .i64 ((k2 : Nat) : Int))]) (fun k2 s2 x2l => [box b2 [.int .i64 a_d.Size, (sl v1a)], box b1 [.int .i64 a_b.Size, (sl v0a)], own (sl x1.1) x2l s2]) x1.2 (sub_cons rfl (sub_cons rfl (sub_cons rfl (sub_cons rfl sub_nil)))) (some_cons pick0 (some_cons pick0 (some_cons pick0 some_nil))) fun k2 s2 x2l hN2 l1 => ?_
    by_cases hk2 : k2 < a_b.Cells.length
    · skip
      refine forO_step l1 hk2 fun _ t1 l1 => ?_
      unfold spec_l29Table_L2 at t1
      have c2 : (decide (((k2 : Nat) : Int) < ((a_b.Cells.length : Nat) : Int))) = true := decide_eq_true (by omega)
      refine wc_seq ?_
      refine wcr ?_
      refine mv rfl rfl ?_
      refine wl_pure (po_fld fo_31_1 rfl) rfl ?_
      refine wl_pure (v := (sl v0a)) (po_load_box tk_29 (pickS pick0) rfl rfl) rfl ?_
      refine wl_pure (po_lenr (rds_arg r0) el_29 rfl) rfl ?_
      refine wl_pure (po_lss rfl rfl) rfl ?_
      refine wnt ?_
      refine wc_cond_t rfl c2 ?_
      refine wc_skip ?_
      refine wq_then ?_
      refine wc_seq ?_
      refine wc_block ?_
      refine wcr ?_
      refine asg rfl rfl ?_
      refine wnt ?_
      refine lpO_inv t1 fun y2 l2 t1 => ?_
      refine wj (J := List (List Int)) (X := List Value) (fun z => y2 = z) (fun _ _ => [(2, ptr b1 0), (3, ptr b2 0), (5, (sl x1.1)), (7, .int .i64 ((k2 : Nat) : Int))]) (fun z x => [box b2 [.int .i64 a_d.Size, (sl v1a)], box b1 [.int .i64 a_b.Size, (sl v0a)], own (sl x1.1) x z]) ?_ ?_
      · skip
        refine wc_block ?_
        refine wc_forO (X := List Value) l2 (fun k3 s3 x3l => [(2, ptr b1 0), (3, ptr b2 0), (5, (sl x1.1)), (7, .int .i64 ((k2 : Nat) : Int)), (8, .int .i64 ((k3 : Nat) : Int))]) (fun k3 s3 x3l => [box b2 [.int .i64 a_d.Size, (sl v1a)], box b1 [.int .i64 a_b.Size, (sl v0a)], own (sl x1.1) x3l s3]) x2l (sub_cons rfl (sub_cons rfl (sub_cons rfl (sub_cons rfl (sub_cons rfl sub_nil))))) (some_cons pick0 (some_cons pick0 (some_cons pick0 some_nil))) fun k3 s3 x3l hN3 l2 => ?_
        by_cases hk3 : k3 < 4
        · skip
          refine forO_step l2 hk3 fun _ t2 l2 => ?_
          unfold spec_l29Table_L3 at t2
          have c3 : (decide (((k3 : Nat) : Int) < 4)) = true := decide_eq_true (by omega)
          refine wc_seq ?_
          refine wcr ?_
          refine mv rfl rfl ?_
          refine wl_pure (po_lss rfl rfl) rfl ?_
          refine wnt ?_
          refine wc_cond_t rfl c3 ?_
          refine wc_skip ?_
          refine wq_then ?_
          refine wc_seq ?_
          refine wc_block ?_
          refine wcr ?_
          refine wl_pure (po_fld fo_31_1 rfl) rfl ?_
          refine wl_pure (v := (sl v1a)) (po_load_box tk_29 pick0 rfl rfl) rfl ?_
          refine mv rfl rfl ?_
          refine gdO t2 fun g3 t2 => ?_
          refine wl_pure (po_ixn (k := k2) (rds_arg r1) el_29 rfl rfl g3) rfl ?_
          refine wl_pure (v := .agg #[.int .i64 ((gx a_d.Cells k2).Split), .int .i64 ((gx a_d.Cells k2).A), .int .i64 ((gx a_d.Cells k2).B)]) (po_ldfs (rds_arg r1) tk_75 rfl g3 rfl rfl rfl) rfl ?_
          refine mv rfl rfl ?_
          refine bdO t2 fun v1 hv1 t2 => ?_
          refine wl_call (co_c0 fa_64 rfl fun w hw => c_spec_ColorAt w (gx a_d.Cells k2) ((k3 : Nat) : Int) hv1) rfl fun _ => ?_
          refine asg rfl rfl ?_
          refine wnt ?_
          refine wcr ?_
          refine wl_pure (po_fld fo_31_1 rfl) rfl ?_
          refine wl_pure (v := (sl v0a)) (po_load_box tk_29 (pickS pick0) rfl rfl) rfl ?_
          refine mv rfl rfl ?_
          refine wl_pure (po_ixn (k := k2) (rds_arg r0) el_29 rfl rfl hk2) rfl ?_
          refine wl_pure (v := .agg #[.int .i64 ((gx a_b.Cells k2).Split), .int .i64 ((gx a_b.Cells k2).A), .int .i64 ((gx a_b.Cells k2).B)]) (po_ldfs (rds_arg r0) tk_75 rfl hk2 rfl rfl rfl) rfl ?_
          refine mv rfl rfl ?_
          refine bdO t2 fun v2 hv2 t2 => ?_
          refine wl_call (co_c0 fa_64 rfl fun w hw => c_spec_ColorAt w (gx a_b.Cells k2) ((k3 : Nat) : Int) hv2) rfl fun _ => ?_
          refine asg rfl rfl ?_
          refine wnt ?_
          refine wc_draw [box b2 [.int .i64 a_d.Size, (sl v1a)], box b1 [.int .i64 a_b.Size, (sl v0a)], own (sl x1.1) x3l s3] 14 mixed ?_
          refine wa_pure 0 rfl (po_move rfl) (some_cons pick0 (some_cons pick0 (some_cons pick0 some_nil))) rfl (by kernel_rfl) (fun _ _ _ h => h) ?_
          refine wa_pure 1 rfl (po_move rfl) (some_cons pick0 (some_cons pick0 (some_cons pick0 some_nil))) rfl (by kernel_rfl) (fun _ _ _ h => h) ?_
          refine gdO t2 fun g4 t2 => ?_
          refine wa_pure 2 rfl (po_ixr (rds_own (pickS (pickS pick0))) el_44 rfl rfl g4.1 g4.2) (some_cons pick0 (some_cons pick0 (some_cons pick0 some_nil))) rfl (by kernel_rfl) (fun _ _ _ h => h) ?_
          refine wa_elem (rds_own (pickS (pickS pick0))) (ix_lt g4) ?_
          rintro ⟨_, _, he1⟩
          obtain ⟨w1, hc1, _⟩ := rd_LF.1 he1
          refine wa_pure (v := (sl w1)) 3 rfl (po_ldn (rds_own (pickS (pickS pick0))) tk_55 rfl hc1 rfl) (some_cons pick0 (some_cons pick0 (some_cons pick0 some_nil))) rfl (by kernel_rfl) (fun _ _ _ h => h) ?_
          refine wa_pure 4 rfl (po_move rfl) (some_cons pick0 (some_cons pick0 (some_cons pick0 some_nil))) rfl (by kernel_rfl) (fun _ _ _ h => h) ?_
          refine wa_pure 5 rfl (po_move rfl) (some_cons pick0 (some_cons pick0 (some_cons pick0 some_nil))) rfl (by kernel_rfl) (fun _ _ _ h => h) ?_
          refine wa_pure 6 rfl (po_move rfl) (some_cons pick0 (some_cons pick0 (some_cons pick0 some_nil))) rfl (by kernel_rfl) (fun _ _ _ h => h) ?_
          refine wa_pure 7 rfl (po_ixr (rds_own (pickS (pickS pick0))) el_44 rfl rfl g4.1 g4.2) (some_cons pick0 (some_cons pick0 (some_cons pick0 some_nil))) rfl (by kernel_rfl) (fun _ _ _ h => h) ?_
          refine wa_pure (v := (sl w1)) 8 rfl (po_ldn (rds_own (pickS (pickS pick0))) tk_55 rfl hc1 rfl) (some_cons pick0 (some_cons pick0 (some_cons pick0 some_nil))) rfl (by kernel_rfl) (fun _ _ _ h => h) ?_
          refine wa_pure 9 rfl (po_move rfl) (some_cons pick0 (some_cons pick0 (some_cons pick0 some_nil))) rfl (by kernel_rfl) (fun _ _ _ h => h) ?_
          refine gdO t2 fun g5 t2 => ?_
          refine wa_pure 10 rfl (po_ixr (er_LF hc1 (rds_own (pickS (pickS pick0))) (ix_lt g4)) el_55 rfl rfl g5.1 g5.2) (some_cons pick0 (some_cons pick0 (some_cons pick0 some_nil))) rfl (by kernel_rfl) (fun _ _ _ h => h) ?_
          refine wa_pure (v := .int .i64 (gx (gx s3 ((v1).toNat)) ((v2).toNat))) 11 rfl (po_ldf (er_LF hc1 (rds_own (pickS (pickS pick0))) (ix_lt g4)) tk_3 rfl (ix_lt g5) rfl) (some_cons pick0 (some_cons pick0 (some_cons pick0 some_nil))) rfl (by kernel_rfl) (fun _ _ _ h => h) ?_
          refine wa_pure 12 rfl (po_add rfl rfl) (some_cons pick0 (some_cons pick0 (some_cons pick0 some_nil))) rfl (by kernel_rfl) (fun _ _ _ h => h) ?_
          refine wa_pure 13 rfl (po_ixr (er_LF hc1 (rds_own (pickS (pickS pick0))) (ix_lt g4)) el_55 rfl rfl g5.1 g5.2) (some_cons pick0 (some_cons pick0 (some_cons pick0 some_nil))) rfl (by kernel_rfl) (fun _ _ _ h => h) ?_
          refine wa_1 (i := 14) (by kernel_rfl) ?_
          refine ws_ent (Ent.trans un_LF (take_elem (pickS (pickS pick0)) (ix_lt g4) hc1)) ?_
          refine ws_skipop rfl (so_own (x' := (wr ((gx (gx s3 ((v1).toNat)) ((v2).toNat)) + 1))) tk_3 pick0 rfl rfl rfl rfl rfl rfl (ix_lt g5) rfl) (sts_past (by kernel_rfl)) ?_
          refine wa_ent (put_elem (pickS pick0) (pow_LF pick0) (ix_lt g4) hc1) ?_
          refine wa_done (by kernel_rfl) ?_
          refine wq_block ?_
          refine wq_then ?_
          refine wc_region ?_
          refine mv rfl rfl ?_
          refine wl_pure (po_inc rfl rfl (by omega)) rfl ?_
          refine asg rfl rfl ?_
          refine wl_nil ?_
          exact wq_rnd hk3 (stpN l2 t2) x3l (sub_cons rfl (sub_cons rfl (sub_cons rfl (sub_cons rfl (sub_cons rfl sub_nil))))) (some_cons (pickS pick0) (some_cons (pickS pick0) (some_cons pick0 some_nil)))
        have c3 : (decide (((k3 : Nat) : Int) < 4)) = false := decide_eq_false (by omega)
        have en2 := forO_end l2 hk3
        refine wc_seq ?_
        refine wcr ?_
        refine mv rfl rfl ?_
        refine wl_pure (po_lss rfl rfl) rfl ?_
        refine wnt ?_
        refine wc_cond_f rfl c3 ?_
        refine wc_exit ?_
        refine wq_then_exit ?_
        refine wq_then_exit ?_
        refine wq_block_exit ?_
        exact wj_meet _ x3l (Sum.inl.inj en2) (sub_cons rfl (sub_cons rfl (sub_cons rfl (sub_cons rfl sub_nil)))) (some_cons pick0 (some_cons pick0 (some_cons pick0 some_nil)))
      intro e3 x5 hp
      obtain rfl : e3 = y2 := hp.symm
      refine wq_block ?_
      refine wq_then ?_
      refine wc_region ?_
      refine mv rfl rfl ?_
      refine wl_pure (po_inc rfl rfl (by omega)) rfl ?_
      refine asg rfl rfl ?_
      refine wl_nil ?_
      exact wq_rnd hk2 (stpN l1 t1) x5 (sub_cons rfl (sub_cons rfl (sub_cons rfl (sub_cons rfl sub_nil)))) (some_cons pick0 (some_cons pick0 (some_cons pick0 some_nil)))
    have c2 : (decide (((k2 : Nat) : Int) < ((a_b.Cells.length : Nat) : Int))) = false := decide_eq_false (by omega)
    have en3 := forO_end l1 hk2
    refine wc_seq ?_
    refine wcr ?_
    refine mv rfl rfl ?_
    refine wl_pure (po_fld fo_31_1 rfl) rfl ?_
    refine wl_pure (v := (sl v0a)) (po_load_box tk_29 (pickS pick0) rfl rfl) rfl ?_
    refine wl_pure (po_lenr (rds_arg r0) el_29 rfl) rfl ?_
    refine wl_pure (po_lss rfl rfl) rfl ?_
    refine wnt ?_
    refine wc_cond_f rfl c2 ?_
    refine wc_exit ?_
    refine wq_then_exit ?_
    refine wq_then_exit ?_
    refine wq_block_exit ?_
    exact wj_meet _ x2l (Sum.inl.inj en3) (sub_cons rfl sub_nil) (some_cons (pickS (pickS pick0)) some_nil)
  intro e2 x4 hp
  obtain rfl : e2 = y1 := hp.symm
  refine wq_then ?_
  refine wcr ?_
  refine mv rfl rfl ?_
  refine asg rfl rfl ?_
  refine wnt ?_
  refine wc_ret ?_
  obtain rfl := Option.some.inj t0
  exact wq_ret1 rfl rfl fun w hw => ⟨(x1.1, x4), rfl, hw.weak (some_cons pick0 some_nil)⟩

theorem c_spec_l29Best : ∀ (fuel : Nat) (w : World) (a_t : List (List Int)) (v0a : Hd) (u0a : List Value) (r0 : RdL w (dm w []) (sl v0a) u0a a_t) (a_l : List Int) (v1a : Hd) (r1 : rdF w (dm w []) (sl v1a) a_l) (a_at : Int) (a_used : Int) {r : Int} (t0 : spec_l29Best fuel a_t a_l a_at a_used = some r), Calls Tryz.prog 47 #[(sl v0a), (sl v1a), .int .i64 a_at, .int .i64 a_used] w fun e w' => e = .returned (.int .i64 r) ∧ SH w [] [] w' := by
  intro fuel
  induction fuel with
  | zero => intros; rename_i t0; exact nomatch t0
  | succ fuel ih =>
    intro w a_t v0a u0a r0 a_l v1a r1 a_at a_used r t0
    refine calls_of_wc (args := [_, _, _, _]) Tryz.func47 rfl Tryz.ntmps47 rfl ?_
    unfold spec_l29Best at t0
    refine wcr ?_
    refine asg rfl rfl ?_
    refine wnt ?_
    refine wc_seq ?_
    refine wcr ?_
    refine mv rfl rfl ?_
    refine mv rfl rfl ?_
    refine wl_pure (po_lenr (rds_arg r1) el_55 rfl) rfl ?_
    refine wl_pure (po_eql rfl rfl) rfl ?_
    refine wnt ?_
    refine wcO t0 rfl (fun h1 t0 => ?_) fun h1 t0 => ?_
    · skip
      refine wcr ?_
      refine asg rfl rfl ?_
      refine wnt ?_
      refine wc_ret ?_
      refine wq_then_ret ?_
      obtain rfl := Option.some.inj t0
      exact wq_ret1 rfl rfl fun w hw => ⟨rfl, hw.weak some_nil⟩
    refine wc_skip ?_
    refine wq_then ?_
    refine wcr ?_
    refine asg rfl rfl ?_
    refine wnt ?_
    refine wc_seq ?_
    refine wcr ?_
    refine asg rfl rfl ?_
    refine wnt ?_
    refine lpO_inv t0 fun y1 l1 t0 => ?_
    refine wj (J := Int) (X := Unit) (fun z => y1 = z) (fun z _ => [(9, .int .i64 z)]) (fun _ _ => []) ?_ ?_
    · skip
      refine wc_block ?_
      refine wc_forO (X := Unit) l1 (fun k1 s1 x1l => [(0, (sl v0a)), (1, (sl v1a)), (2, .int .i64 a_at), (3, .int .i64 a_used), (9, .int .i64 s1), (10, .int .i64 ((k1 : Nat) : Int))]) (fun k1 s1 x1l => []) () (sub_cons rfl (sub_cons rfl (sub_cons rfl (sub_cons rfl (sub_cons rfl (sub_cons rfl sub_nil)))))) some_nil fun k1 s1 x1l hN1 l1 => ?_
      by_cases hk1 : k1 < 6
      · skip
        refine forO_step l1 hk1 fun _ t1 l1 => ?_
        unfold spec_l29Best_L1 at t1
        have c1 : (decide (((k1 : Nat) : Int) < 6)) = true := decide_eq_true (by omega)
        refine wc_seq ?_
        refine wcr ?_
        refine mv rfl rfl ?_
        refine wl_pure (po_lss rfl rfl) rfl ?_
        refine wnt ?_
        refine wc_cond_t rfl c1 ?_
        refine wc_skip ?_
        refine wq_then ?_
        refine wc_seq ?_
        refine wc_block ?_
        refine wcr ?_
        refine mv rfl rfl ?_
        refine mv rfl rfl ?_
        refine gdO t1 fun g1 t1 => ?_
        refine wl_pure (po_shr rfl rfl g1) rfl ?_
        refine wl_pure (po_and rfl rfl) rfl ?_
        refine wl_pure (po_eql rfl rfl) rfl ?_
        refine wnt ?_
        refine bdO t1 fun y2 t2 t1 => ?_
        refine wj (J := Int) (X := Unit) (fun z => y2 = z) (fun z _ => [(0, (sl v0a)), (1, (sl v1a)), (2, .int .i64 a_at), (3, .int .i64 a_used), (9, .int .i64 z), (10, .int .i64 ((k1 : Nat) : Int))]) (fun _ _ => []) ?_ ?_
        · skip
          refine wcO t2 rfl (fun h2 t2 => ?_) fun h2 t2 => ?_
          · skip
            refine wc_draw [] 23 mixed ?_
            refine wa_pure 0 rfl (po_move rfl) some_nil rfl (by kernel_rfl) (fun _ _ _ h => h) ?_
            refine wa_pure 1 rfl (po_move rfl) some_nil rfl (by kernel_rfl) (fun _ _ _ h => h) ?_
            refine wa_pure 2 rfl (po_move rfl) some_nil rfl (by kernel_rfl) (fun _ _ _ h => h) ?_
            refine wa_pure 3 rfl (po_move rfl) some_nil rfl (by kernel_rfl) (fun _ _ _ h => h) ?_
            refine gdO t2 fun g2 t2 => ?_
            refine wa_pure 4 rfl (po_ixr (rds_arg r1) el_55 rfl rfl g2.1 g2.2) some_nil rfl (by kernel_rfl) (fun _ _ _ h => h) ?_
            refine wa_pure (v := .int .i64 (gx a_l ((a_at).toNat))) 5 rfl (po_ldf (rds_arg r1) tk_3 rfl (ix_lt g2) rfl) some_nil rfl (by kernel_rfl) (fun _ _ _ h => h) ?_
            refine gdO t2 fun g3 t2 => ?_
            refine wa_pure 6 rfl (po_ixr (rds_arg r0) el_44 rfl rfl g3.1 g3.2) some_nil rfl (by kernel_rfl) (fun _ _ _ h => h) ?_
            refine wa_elem (rds_arg r0) (ix_lt g3) ?_
            rintro ⟨_, _, he1⟩
            obtain ⟨w1, hc1, _⟩ := rd_LF.1 he1
            refine wa_pure (v := (sl w1)) 7 rfl (po_ldn (rds_arg r0) tk_55 rfl hc1 rfl) some_nil rfl (by kernel_rfl) (fun _ _ _ h => h) ?_
            refine wa_pure 8 rfl (po_move rfl) some_nil rfl (by kernel_rfl) (fun _ _ _ h => h) ?_
            refine gdO t2 fun g4 t2 => ?_
            refine wa_pure 9 rfl (po_ixn (k := k1) (er_LF hc1 (rds_arg r0) (ix_lt g3)) el_55 rfl rfl g4) some_nil rfl (by kernel_rfl) (fun _ _ _ h => h) ?_
            refine wa_pure (v := .int .i64 (gx (gx a_t (((gx a_l ((a_at).toNat))).toNat)) k1)) 10 rfl (po_ldf (er_LF hc1 (rds_arg r0) (ix_lt g3)) tk_3 rfl g4 rfl) some_nil rfl (by kernel_rfl) (fun _ _ _ h => h) ?_
            refine wa_pure 11 rfl (po_move rfl) some_nil rfl (by kernel_rfl) (fun _ _ _ h => h) ?_
            refine wa_pure 12 rfl (po_move rfl) some_nil rfl (by kernel_rfl) (fun _ _ _ h => h) ?_
            refine wa_pure 13 rfl (po_move rfl) some_nil rfl (by kernel_rfl) (fun _ _ _ h => h) ?_
            refine wa_pure 14 rfl (po_add rfl rfl) some_nil rfl (by kernel_rfl) (fun _ _ _ h => h) ?_
            refine wa_pure 15 rfl (po_move rfl) some_nil rfl (by kernel_rfl) (fun _ _ _ h => h) ?_
            refine wa_pure 16 rfl (po_move rfl) some_nil rfl (by kernel_rfl) (fun _ _ _ h => h) ?_
            refine wa_pure 17 rfl (po_shl rfl rfl g1) some_nil rfl (by kernel_rfl) (fun _ _ _ h => h) ?_
            refine wa_pure 18 rfl (po_or rfl rfl) some_nil rfl (by kernel_rfl) (fun _ _ _ h => h) ?_
            refine wa_1 (i := 19) (by kernel_rfl) ?_
            refine bdO t2 fun v1 hv1 t2 => ?_
            refine ws_call rfl (co_c0 fa_47 rfl fun w hw => ih w a_t v0a u0a (Rg.on (rds_arg r0) hw) a_l v1a (Rg.on (rds_arg r1) hw) (wr (a_at + 1)) (orI a_used (shlI 1 ((k1 : Nat) : Int))) hv1) (fun _ => (sts_some some_nil)) rfl fun _ => ?_
            refine wa_pure 20 rfl (po_add rfl rfl) some_nil rfl (by kernel_rfl) (fun _ _ _ h => h) ?_
            refine wa_pure 21 rfl (po_max rfl rfl) some_nil rfl (by kernel_rfl) (fun _ _ _ h => h) ?_
            refine wa_pure 22 rfl (po_assign rfl) some_nil rfl (by kernel_rfl) (fun _ _ _ h => h) ?_
            refine wa_done (by kernel_rfl) ?_
            exact wj_meet _ () (mtE t2) (sub_cons rfl (sub_cons rfl (sub_cons rfl (sub_cons rfl (sub_cons rfl (sub_cons rfl sub_nil)))))) some_nil
          refine wc_skip ?_
          exact wj_meet _ () (mtE t2) (sub_cons rfl (sub_cons rfl (sub_cons rfl (sub_cons rfl (sub_cons rfl (sub_cons rfl sub_nil)))))) some_nil
        intro j1 _ hp
        obtain rfl : j1 = y2 := hp.symm
        refine wq_block ?_
        refine wq_then ?_
        refine wc_region ?_
        refine mv rfl rfl ?_
        refine wl_pure (po_inc rfl rfl (by omega)) rfl ?_
        refine asg rfl rfl ?_
        refine wl_nil ?_
        exact wq_rnd hk1 (stpN l1 t1) () (sub_cons rfl (sub_cons rfl (sub_cons rfl (sub_cons rfl (sub_cons rfl (sub_cons rfl sub_nil)))))) some_nil
      have c1 : (decide (((k1 : Nat) : Int) < 6)) = false := decide_eq_false (by omega)
      have en1 := forO_end l1 hk1
      refine wc_seq ?_
      refine wcr ?_
      refine mv rfl rfl ?_
      refine wl_pure (po_lss rfl rfl) rfl ?_
      refine wnt ?_
      refine wc_cond_f rfl c1 ?_
      refine wc_exit ?_
      refine wq_then_exit ?_
      refine wq_then_exit ?_
      refine wq_block_exit ?_
      exact wj_meet _ () (Sum.inl.inj en1) (sub_cons rfl sub_nil) some_nil
    intro e1 _ hp
    obtain rfl : e1 = y1 := hp.symm
    refine wq_then ?_
    refine wcr ?_
    refine mv rfl rfl ?_
    refine asg rfl rfl ?_
    refine wnt ?_
    refine wc_ret ?_
    obtain rfl := Option.some.inj t0
    exact wq_ret1 rfl rfl fun w hw => ⟨rfl, hw.weak some_nil⟩

theorem c_spec_PatternLikeness (w : World) (a_b : GBlock) (v0a : Hd) (r0 : rdF w (dm w []) (sl v0a) a_b.Cells) (a_d : GBlock) (v1a : Hd) (r1 : rdF w (dm w []) (sl v1a) a_d.Cells) {r : Int} (t0 : spec_PatternLikeness a_b a_d = some r) : Calls Tryz.prog 28 #[.agg #[.int .i64 a_b.Size, (sl v0a)], .agg #[.int .i64 a_d.Size, (sl v1a)]] w fun e w' => e = .returned (.int .i64 r) ∧ SH w [] [] w' := by
  refine calls_of_wc (args := [_, _]) Tryz.func28 rfl Tryz.ntmps28 rfl ?_
  unfold spec_PatternLikeness at t0
  refine wcr ?_
  refine wl_eff (eo_box rfl rfl) rfl fun b1 => ?_
  refine wl_eff (eo_box rfl rfl) rfl fun b2 => ?_
  refine asg rfl rfl ?_
  refine wnt ?_
  refine wcr ?_
  refine wl_pure (v := .agg #[.int .i64 a_d.Size, (sl v1a)]) (po_load_boxs tk_31 pick0 rfl rfl rfl) rfl ?_
  refine bdO t0 fun v1 hv1 t0 => ?_
  refine wl_call (co_c1 fa_45 rfl fun w hw => c_spec_ColorsOf w a_d v1a (Rg.on (rds_arg r1) hw) hv1) rfl fun x1 => ?_
  refine asg rfl rfl ?_
  refine wnt ?_
  refine wcr ?_
  refine asg rfl rfl ?_
  refine wnt ?_
  refine wc_seq ?_
  refine wc_seq ?_
  refine bdO t0 fun y1 t1 t0 => ?_
  refine wj (J := Bool) (X := Unit) (fun z => y1 = z) (fun z _ => [(2, ptr b1 0), (3, ptr b2 0), (5, (sl x1)), (6, .int .i64 0), (18, .bool z)]) (fun _ _ => [box b2 [.int .i64 a_d.Size, (sl v1a)], box b1 [.int .i64 a_b.Size, (sl v0a)], ownF (sl x1) v1]) ?_ ?_
  · skip
    refine wc_region ?_
    refine wl_pure (v := .agg #[.int .i64 a_b.Size, (sl v0a)]) (po_load_boxs tk_31 (pickS (pickS pick0)) rfl rfl rfl) rfl ?_
    refine wl_pure (v := .agg #[.int .i64 a_d.Size, (sl v1a)]) (po_load_boxs tk_31 (pickS pick0) rfl rfl rfl) rfl ?_
    refine bdO t1 fun v2 hv2 t1 => ?_
    refine wl_call (co_c0 fa_46 rfl fun w hw => c_spec_l29Ok w a_b v0a (Rg.on (rds_arg r0) hw) a_d v1a (Rg.on (rds_arg r1) hw) hv2) rfl fun _ => ?_
    refine wl_pure (po_not rfl) rfl ?_
    refine mv rfl rfl ?_
    refine wlO_ (t := 14) t1 rfl (fun h1 t1 => ?_) fun h1 t1 => ?_
    · skip
      refine wl_guard_off (j := 4) rfl rfl rfl rfl rfl ?_
      refine wl_guard_off (j := 4) rfl rfl rfl rfl rfl ?_
      refine wl_guard_off (j := 4) rfl rfl rfl rfl rfl ?_
      refine wl_pure (po_pick_t rfl rfl) rfl ?_
      refine wl_nil ?_
      exact wj_meet _ () (mtE t1) (sub_cons rfl (sub_cons rfl (sub_cons rfl (sub_cons rfl (sub_cons rfl sub_nil))))) (some_cons (pickS pick0) (some_cons (pickS pick0) (some_cons pick0 some_nil)))
    refine wl_guard_on (j := 4) rfl rfl rfl (mv rfl rfl ?_)
    refine wl_guard_on (j := 4) rfl rfl rfl (wl_pure (po_lenr (rds_own pick0) el_55 rfl) rfl ?_)
    refine wl_guard_on (j := 4) rfl rfl rfl (wl_pure (po_gtr rfl rfl) rfl ?_)
    refine wl_pure (po_pick_f rfl rfl) rfl ?_
    refine wl_nil ?_
    exact wj_meet _ () (mtE t1) (sub_cons rfl (sub_cons rfl (sub_cons rfl (sub_cons rfl (sub_cons rfl sub_nil))))) (some_cons (pickS pick0) (some_cons (pickS pick0) (some_cons pick0 some_nil)))
  intro j1 _ hp
  obtain rfl : j1 = y1 := hp.symm
  refine wq_then ?_
  refine wcO t0 rfl (fun h2 t0 => ?_) fun h2 t0 => ?_
  · skip
    refine wcr ?_
    refine asg rfl rfl ?_
    refine wnt ?_
    refine wc_ret ?_
    refine wq_then_ret ?_
    obtain rfl := Option.some.inj t0
    exact wq_ret1 rfl rfl fun w hw => ⟨rfl, hw.weak some_nil⟩
  refine wc_skip ?_
  refine wq_then ?_
  refine wc_seq ?_
  refine wcr ?_
  refine asg rfl rfl ?_
  refine wnt ?_
  refine lpO_inv t0 fun y1 l1 t0 => ?_
  refine wj (J := Int) (X := Unit) (fun z => y1 = z) (fun z _ => [(6, .int .i64 z)]) (fun _ _ => []) ?_ ?_
  · skip
    refine wc_block ?_
    refine wc_forO (X := Unit) l1 (fun k1 s1 x1l => [(2, ptr b1 0), (3, ptr b2 0), (5, (sl x1)), (6, .int .i64 s1), (7, .int .i64 ((k1 : Nat) : Int))]) (fun k1 s1 x1l => [box b2 [.int .i64 a_d.Size, (sl v1a)], box b1 [.int .i64 a_b.Size, (sl v0a)], ownF (sl x1) v1]) () (sub_cons rfl (sub_cons rfl (sub_cons rfl (sub_cons rfl (sub_cons rfl sub_nil))))) (some_cons pick0 (some_cons pick0 (some_cons pick0 some_nil))) fun k1 s1 x1l hN1 l1 => ?_
    by_cases hk1 : k1 < 8
    · skip
      refine forO_step l1 hk1 fun _ t1 l1 => ?_
      unfold spec_PatternLikeness_L1 at t1
      have c1 : (decide (((k1 : Nat) : Int) < 8)) = true := decide_eq_true (by omega)
      refine wc_seq ?_
      refine wcr ?_
      refine mv rfl rfl ?_
      refine wl_pure (po_lss rfl rfl) rfl ?_
      refine wnt ?_
      refine wc_cond_t rfl c1 ?_
      refine wc_skip ?_
      refine wq_then ?_
      refine wc_seq ?_
      refine wc_block ?_
      refine wc_draw [box b2 [.int .i64 a_d.Size, (sl v1a)], box b1 [.int .i64 a_b.Size, (sl v0a)], ownF (sl x1) v1] 10 mixed ?_
      refine wa_pure 0 rfl (po_move rfl) (some_cons pick0 (some_cons pick0 (some_cons pick0 some_nil))) rfl (by kernel_rfl) (fun _ _ _ h => h) ?_
      refine wa_pure (v := .agg #[.int .i64 a_b.Size, (sl v0a)]) 1 rfl (po_load_boxs tk_31 (pickS pick0) rfl rfl rfl) (some_cons pick0 (some_cons pick0 (some_cons pick0 some_nil))) rfl (by kernel_rfl) (fun _ _ _ h => h) ?_
      refine wa_pure (v := .agg #[.int .i64 a_d.Size, (sl v1a)]) 2 rfl (po_load_boxs tk_31 pick0 rfl rfl rfl) (some_cons pick0 (some_cons pick0 (some_cons pick0 some_nil))) rfl (by kernel_rfl) (fun _ _ _ h => h) ?_
      refine wa_pure 3 rfl (po_move rfl) (some_cons pick0 (some_cons pick0 (some_cons pick0 some_nil))) rfl (by kernel_rfl) (fun _ _ _ h => h) ?_
      refine wa_pure 6 rfl (po_move rfl) (some_cons pick0 (some_cons pick0 (some_cons pick0 some_nil))) rfl (by kernel_rfl) (fun _ _ _ h => h) ?_
      refine wa_1 (i := 4) (by kernel_rfl) ?_
      refine bdO t1 fun v3 hv3 t1 => ?_
      refine ws_call rfl (co_c1 fa_49 rfl fun w hw => c_spec_SeenFrom w a_d v1a (Rg.on (rds_arg r1) hw) ((k1 : Nat) : Int) hv3) (fun _ => (sts_some (some_cons (pickS pick0) (some_cons (pickS pick0) (some_cons (pickS pick0) some_nil))))) rfl fun x4 => ?_
      refine wa_1 (i := 5) (by kernel_rfl) ?_
      refine bdO t1 fun v4 hv4 t1 => ?_
      refine ws_call rfl (co_c1 fa_48 rfl fun w hw => c_spec_l29Table w a_b v0a (Rg.on (rds_arg r0) hw) v3 x4 (Rg.on (rds_own pick0) hw) hv4) (fun _ => (sts_some (some_cons (pickS (pickS pick0)) (some_cons (pickS (pickS pick0)) (some_cons (pickS (pickS pick0)) some_nil))))) rfl fun x5 => ?_
      refine wa_1 (i := 7) (by kernel_rfl) ?_
      refine bdO t1 fun v5 hv5 t1 => ?_
      refine ws_call rfl (co_c0 fa_47 rfl fun w hw => c_spec_l29Best (v1.length + 1) w v4 x5.1 x5.2 (Rg.on (rds_own pick0) hw) v1 x1 (Rg.on (rds_own (pickS (pickS (pickS (pickS pick0))))) hw) 0 0 hv5) (fun _ => (sts_some (some_cons (pickS (pickS pick0)) (some_cons (pickS (pickS pick0)) (some_cons (pickS (pickS pick0)) some_nil))))) rfl fun _ => ?_
      refine wa_pure 8 rfl (po_max rfl rfl) (some_cons (pickS (pickS pick0)) (some_cons (pickS (pickS pick0)) (some_cons (pickS (pickS pick0)) some_nil))) rfl (by kernel_rfl) (fun _ _ _ h => h) ?_
      refine wa_pure 9 rfl (po_assign rfl) (some_cons (pickS (pickS pick0)) (some_cons (pickS (pickS pick0)) (some_cons (pickS (pickS pick0)) some_nil))) rfl (by kernel_rfl) (fun _ _ _ h => h) ?_
      refine wa_done (by kernel_rfl) ?_
      refine wq_block ?_
      refine wq_then ?_
      refine wc_region ?_
      refine mv rfl rfl ?_
      refine wl_pure (po_inc rfl rfl (by omega)) rfl ?_
      refine asg rfl rfl ?_
      refine wl_nil ?_
      exact wq_rnd hk1 (stpN l1 t1) () (sub_cons rfl (sub_cons rfl (sub_cons rfl (sub_cons rfl (sub_cons rfl sub_nil))))) (some_cons (pickS (pickS pick0)) (some_cons (pickS (pickS pick0)) (some_cons (pickS (pickS pick0)) some_nil)))
    have c1 : (decide (((k1 : Nat) : Int) < 8)) = false := decide_eq_false (by omega)
    have en1 := forO_end l1 hk1
    refine wc_seq ?_
    refine wcr ?_
    refine mv rfl rfl ?_
    refine wl_pure (po_lss rfl rfl) rfl ?_
    refine wnt ?_
    refine wc_cond_f rfl c1 ?_
    refine wc_exit ?_
    refine wq_then_exit ?_
    refine wq_then_exit ?_
    refine wq_block_exit ?_
    exact wj_meet _ () (Sum.inl.inj en1) (sub_cons rfl sub_nil) some_nil
  intro e1 _ hp
  obtain rfl : e1 = y1 := hp.symm
  refine wq_then ?_
  refine wcr ?_
  refine mv rfl rfl ?_
  refine asg rfl rfl ?_
  refine wnt ?_
  refine wc_ret ?_
  obtain rfl := Option.some.inj t0
  exact wq_ret1 rfl rfl fun w hw => ⟨rfl, hw.weak some_nil⟩

theorem c_spec_VerdictOn (w : World) (a_e : GEntry) (v0a : Hd) (r0 : rdF w (dm w []) (sl v0a) a_e.Block.Cells) (a_f : GEntry) (v1a : Hd) (r1 : rdF w (dm w []) (sl v1a) a_f.Block.Cells) {r : Int} (t0 : spec_VerdictOn a_e a_f = some r) : Calls Tryz.prog 8 #[.agg #[.int .i64 a_e.Owner, .int .i64 a_e.Day, .int .i64 a_e.Block.Size, (sl v0a)], .agg #[.int .i64 a_f.Owner, .int .i64 a_f.Day, .int .i64 a_f.Block.Size, (sl v1a)]] w fun e w' => e = .returned (.int .i64 r) ∧ SH w [] [] w' := by
  refine calls_of_wc (args := [_, _]) Tryz.func8 rfl Tryz.ntmps8 rfl ?_
  unfold spec_VerdictOn at t0
  refine wcr ?_
  refine wl_eff (eo_box rfl rfl) rfl fun b1 => ?_
  refine wl_eff (eo_box rfl rfl) rfl fun b2 => ?_
  refine asg rfl rfl ?_
  refine wnt ?_
  refine wc_seq ?_
  refine wc_block ?_
  refine wc_seq ?_
  refine bdO t0 fun y1 t1 t0 => ?_
  refine wj (J := Bool) (X := Unit) (fun z => y1 = z) (fun z _ => [(2, ptr b1 0), (3, ptr b2 0), (5, .bool z)]) (fun _ _ => [box b2 [.int .i64 a_f.Owner, .int .i64 a_f.Day, .int .i64 a_f.Block.Size, (sl v1a)], box b1 [.int .i64 a_e.Owner, .int .i64 a_e.Day, .int .i64 a_e.Block.Size, (sl v0a)]]) ?_ ?_
  · skip
    refine wc_region ?_
    refine wl_pure (v := .agg #[.int .i64 a_e.Owner, .int .i64 a_e.Day, .int .i64 a_e.Block.Size, (sl v0a)]) (po_load_boxs tk_33 (pickS pick0) rfl rfl rfl) rfl ?_
    refine bdO t1 fun v1 hv1 t1 => ?_
    refine wl_call (co_c0 fa_26 rfl fun w hw => c_spec_EntryOk w a_e v0a (Rg.on (rds_arg r0) hw) hv1) rfl fun _ => ?_
    refine wl_pure (po_not rfl) rfl ?_
    refine mv rfl rfl ?_
    refine wlO_ (t := 9) t1 rfl (fun h1 t1 => ?_) fun h1 t1 => ?_
    · skip
      refine wl_guard_off (j := 3) rfl rfl rfl rfl rfl ?_
      refine wl_guard_off (j := 3) rfl rfl rfl rfl rfl ?_
      refine wl_guard_off (j := 3) rfl rfl rfl rfl rfl ?_
      refine wl_pure (po_pick_t rfl rfl) rfl ?_
      refine mv rfl rfl ?_
      refine wl_guard_off (j := 8) rfl rfl rfl rfl rfl ?_
      refine wl_guard_off (j := 8) rfl rfl rfl rfl rfl ?_
      refine wl_guard_off (j := 8) rfl rfl rfl rfl rfl ?_
      refine wl_guard_off (j := 8) rfl rfl rfl rfl rfl ?_
      refine wl_guard_off (j := 8) rfl rfl rfl rfl rfl ?_
      refine wl_guard_off (j := 8) rfl rfl rfl rfl rfl ?_
      refine wl_guard_off (j := 8) rfl rfl rfl rfl rfl ?_
      refine wl_pure (po_pick_t rfl rfl) rfl ?_
      refine asg rfl rfl ?_
      refine wl_nil ?_
      exact wj_meet _ () (mtE t1) (sub_cons rfl (sub_cons rfl (sub_cons rfl sub_nil))) (some_cons pick0 (some_cons pick0 some_nil))
    refine wl_guard_on (j := 3) rfl rfl rfl (wl_pure (v := .agg #[.int .i64 a_f.Owner, .int .i64 a_f.Day, .int .i64 a_f.Block.Size, (sl v1a)]) (po_load_boxs tk_33 pick0 rfl rfl rfl) rfl ?_)
    refine bdO t1 fun v2 hv2 t1 => ?_
    refine wl_guard_on (j := 3) rfl rfl rfl (wl_call (co_c0 fa_26 rfl fun w hw => c_spec_EntryOk w a_f v1a (Rg.on (rds_arg r1) hw) hv2) rfl (fun _ => ?_))
    refine wl_guard_on (j := 3) rfl rfl rfl (wl_pure (po_not rfl) rfl ?_)
    refine wl_pure (po_pick_f rfl rfl) rfl ?_
    refine mv rfl rfl ?_
    refine wlO_ (t := 14) t1 rfl (fun h2 t1 => ?_) fun h2 t1 => ?_
    · skip
      refine wl_guard_off (j := 8) rfl rfl rfl rfl rfl ?_
      refine wl_guard_off (j := 8) rfl rfl rfl rfl rfl ?_
      refine wl_guard_off (j := 8) rfl rfl rfl rfl rfl ?_
      refine wl_guard_off (j := 8) rfl rfl rfl rfl rfl ?_
      refine wl_guard_off (j := 8) rfl rfl rfl rfl rfl ?_
      refine wl_guard_off (j := 8) rfl rfl rfl rfl rfl ?_
      refine wl_guard_off (j := 8) rfl rfl rfl rfl rfl ?_
      refine wl_pure (po_pick_t rfl rfl) rfl ?_
      refine asg rfl rfl ?_
      refine wl_nil ?_
      exact wj_meet _ () (mtE t1) (sub_cons rfl (sub_cons rfl (sub_cons rfl sub_nil))) (some_cons pick0 (some_cons pick0 some_nil))
    refine wl_guard_on (j := 8) rfl rfl rfl (wl_pure (po_fld fo_33_2 rfl) rfl ?_)
    refine wl_guard_on (j := 8) rfl rfl rfl (wl_pure (po_fld fo_31_0 rfl) rfl ?_)
    refine wl_guard_on (j := 8) rfl rfl rfl (wl_pure (v := .int .i64 a_e.Block.Size) (po_load_box tk_3 (pickS pick0) rfl rfl) rfl ?_)
    refine wl_guard_on (j := 8) rfl rfl rfl (wl_pure (po_fld fo_33_2 rfl) rfl ?_)
    refine wl_guard_on (j := 8) rfl rfl rfl (wl_pure (po_fld fo_31_0 rfl) rfl ?_)
    refine wl_guard_on (j := 8) rfl rfl rfl (wl_pure (v := .int .i64 a_f.Block.Size) (po_load_box tk_3 pick0 rfl rfl) rfl ?_)
    refine wl_guard_on (j := 8) rfl rfl rfl (wl_pure (po_neq rfl rfl) rfl ?_)
    refine wl_pure (po_pick_f rfl rfl) rfl ?_
    refine asg rfl rfl ?_
    refine wl_nil ?_
    exact wj_meet _ () (mtE t1) (sub_cons rfl (sub_cons rfl (sub_cons rfl sub_nil))) (some_cons pick0 (some_cons pick0 some_nil))
  intro j1 _ hp
  obtain rfl : j1 = y1 := hp.symm
  refine wq_then ?_
  refine wcO t0 rfl (fun h3 t0 => ?_) fun h3 t0 => ?_
  · skip
    refine wcr ?_
    refine asg rfl rfl ?_
    refine wnt ?_
    refine wc_ret ?_
    refine wq_block_ret ?_
    refine wq_then_ret ?_
    obtain rfl := Option.some.inj t0
    exact wq_ret1 rfl rfl fun w hw => ⟨rfl, hw.weak some_nil⟩
  refine wcr ?_
  refine wl_pure (po_fld fo_33_2 rfl) rfl ?_
  refine wl_pure (v := .agg #[.int .i64 a_e.Block.Size, (sl v0a)]) (po_load_boxs tk_31 (pickS pick0) rfl rfl rfl) rfl ?_
  refine wl_pure (po_fld fo_33_2 rfl) rfl ?_
  refine wl_pure (v := .agg #[.int .i64 a_f.Block.Size, (sl v1a)]) (po_load_boxs tk_31 pick0 rfl rfl rfl) rfl ?_
  refine bdO t0 fun v3 hv3 t0 => ?_
  refine wl_call (co_c0 fa_27 rfl fun w hw => c_spec_ArePatternsSame w a_e.Block v0a (Rg.on (rds_arg r0) hw) a_f.Block v1a (Rg.on (rds_arg r1) hw) hv3) rfl fun _ => ?_
  refine asg rfl rfl ?_
  refine wnt ?_
  refine wcO t0 rfl (fun h4 t0 => ?_) fun h4 t0 => ?_
  · skip
    refine wcr ?_
    refine asg rfl rfl ?_
    refine wnt ?_
    refine wc_ret ?_
    refine wq_block_ret ?_
    refine wq_then_ret ?_
    obtain rfl := Option.some.inj t0
    exact wq_ret1 rfl rfl fun w hw => ⟨rfl, hw.weak some_nil⟩
  refine wc_seq ?_
  refine wc_draw [box b2 [.int .i64 a_f.Owner, .int .i64 a_f.Day, .int .i64 a_f.Block.Size, (sl v1a)], box b1 [.int .i64 a_e.Owner, .int .i64 a_e.Day, .int .i64 a_e.Block.Size, (sl v0a)]] 13 mixed ?_
  refine wa_pure 0 rfl (po_fld fo_33_2 rfl) (some_cons pick0 (some_cons pick0 some_nil)) rfl (by kernel_rfl) (fun _ _ _ h => h) ?_
  refine wa_pure (v := .agg #[.int .i64 a_e.Block.Size, (sl v0a)]) 1 rfl (po_load_boxs tk_31 (pickS pick0) rfl rfl rfl) (some_cons pick0 (some_cons pick0 some_nil)) rfl (by kernel_rfl) (fun _ _ _ h => h) ?_
  refine wa_pure 2 rfl (po_fld fo_33_2 rfl) (some_cons pick0 (some_cons pick0 some_nil)) rfl (by kernel_rfl) (fun _ _ _ h => h) ?_
  refine wa_pure (v := .agg #[.int .i64 a_f.Block.Size, (sl v1a)]) 3 rfl (po_load_boxs tk_31 pick0 rfl rfl rfl) (some_cons pick0 (some_cons pick0 some_nil)) rfl (by kernel_rfl) (fun _ _ _ h => h) ?_
  refine wa_pure 6 rfl (po_fld fo_33_2 rfl) (some_cons pick0 (some_cons pick0 some_nil)) rfl (by kernel_rfl) (fun _ _ _ h => h) ?_
  refine wa_pure 7 rfl (po_fld fo_31_1 rfl) (some_cons pick0 (some_cons pick0 some_nil)) rfl (by kernel_rfl) (fun _ _ _ h => h) ?_
  refine wa_pure (v := (sl v0a)) 8 rfl (po_load_box tk_29 (pickS pick0) rfl rfl) (some_cons pick0 (some_cons pick0 some_nil)) rfl (by kernel_rfl) (fun _ _ _ h => h) ?_
  refine wa_pure 9 rfl (po_lenr (rds_arg r0) el_29 rfl) (some_cons pick0 (some_cons pick0 some_nil)) rfl (by kernel_rfl) (fun _ _ _ h => h) ?_
  refine wa_pure 10 rfl (po_mul rfl rfl) (some_cons pick0 (some_cons pick0 some_nil)) rfl (by kernel_rfl) (fun _ _ _ h => h) ?_
  refine wa_1 (i := 4) (by kernel_rfl) ?_
  refine bdO t0 fun v4 hv4 t0 => ?_
  refine ws_call rfl (co_c0 fa_28 rfl fun w hw => c_spec_PatternLikeness w a_e.Block v0a (Rg.on (rds_arg r0) hw) a_f.Block v1a (Rg.on (rds_arg r1) hw) hv4) (fun _ => (sts_some (some_cons pick0 (some_cons pick0 some_nil)))) rfl fun _ => ?_
  refine wa_pure 5 rfl (po_mul rfl rfl) (some_cons pick0 (some_cons pick0 some_nil)) rfl (by kernel_rfl) (fun _ _ _ h => h) ?_
  refine wa_pure 11 rfl (po_geq rfl rfl) (some_cons pick0 (some_cons pick0 some_nil)) rfl (by kernel_rfl) (fun _ _ _ h => h) ?_
  refine wa_pure 12 rfl (po_assign rfl) (some_cons pick0 (some_cons pick0 some_nil)) rfl (by kernel_rfl) (fun _ _ _ h => h) ?_
  refine wa_done (by kernel_rfl) ?_
  refine wq_then ?_
  refine wcO t0 rfl (fun h5 t0 => ?_) fun h5 t0 => ?_
  · skip
    refine wcr ?_
    refine asg rfl rfl ?_
    refine wnt ?_
    refine wc_ret ?_
    refine wq_block_ret ?_
    refine wq_then_ret ?_
    obtain rfl := Option.some.inj t0
    exact wq_ret1 rfl rfl fun w hw => ⟨rfl, hw.weak some_nil⟩
  refine wc_skip ?_
  refine wq_block ?_
  refine wq_then ?_
  refine wcr ?_
  refine asg rfl rfl ?_
  refine wnt ?_
  refine wc_ret ?_
  obtain rfl := Option.some.inj t0
  exact wq_ret1 rfl rfl fun w hw => ⟨rfl, hw.weak some_nil⟩

end Go.Proofs.YtlfhlajpdmcnaabGreatDoor
