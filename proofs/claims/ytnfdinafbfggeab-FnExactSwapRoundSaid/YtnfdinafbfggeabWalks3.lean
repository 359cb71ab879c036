/-
  Each Go function computes its Lean function (part 3).
-/
import Derived.Test.YtnfdinafbfggeabWalks2
namespace Go.Proofs.Ytnfdinafbfggeab
open Go Go.RowKit Go.Proofs
set_option maxRecDepth 100000

theorem c_laws_eqEntryS (w : World) (a_a : List GEntry) (v0a : Hd) (u0a : List Value) (r0 : RdL w (dm w []) (sl v0a) u0a a_a) (a_b : List GEntry) (v1a : Hd) (u1a : List Value) (r1 : RdL w (dm w []) (sl v1a) u1a a_b) {r : Bool} (t0 : laws_eqEntryS a_a a_b = some r) : Calls Try.prog 46 #[(sl v0a), (sl v1a)] w fun e w' => e = .returned (.bool r) ∧ SH w [] [] w' := by
  refine calls_of_wc (args := [_, _]) Try.func46 rfl Try.ntmps46 rfl ?_
  unfold laws_eqEntryS at t0
  refine wcr ?_
  refine asg rfl rfl ?_
  refine wnt ?_
  refine wc_seq ?_
  refine wcr ?_
  refine mv rfl rfl ?_
  refine wl_pure (po_lenr (rds_arg r0) el_35 rfl) rfl ?_
  refine mv rfl rfl ?_
  refine wl_pure (po_lenr (rds_arg r1) el_35 rfl) rfl ?_
  refine wl_pure (po_neq rfl rfl) rfl ?_
  refine wnt ?_
  refine wcO t0 rfl (fun h1 t0 => ?_) fun h1 t0 => ?_
  · skip
    refine wcr ?_
    refine asg rfl rfl ?_
    refine wnt ?_
    refine wc_ret ?_
    refine wq_then_ret ?_
    obtain rfl := Option.some.inj t0
    exact wq_ret1 rfl rfl fun w hw => ⟨rfl, hw.weak some_nil⟩
  refine wc_skip ?_
  refine wq_then ?_
  refine wc_seq ?_
  refine wcr ?_
  refine asg rfl rfl ?_
  refine wnt ?_
  refine gdO t0 fun g1 t0 => ?_
  refine sqO t0 fun y1 l1 t0 => ?_
  refine wj (J := Unit) (X := Unit) (fun z => y1 = .inl z) (fun _ _ => []) (fun _ _ => []) ?_ ?_
  · skip
    refine wc_block ?_
    refine wc_forO (X := Unit) l1 (fun k1 s1 x1l => [(0, (sl v0a)), (1, (sl v1a)), (5, .int .i64 ((k1 : Nat) : Int))]) (fun k1 s1 x1l => []) () (sub_cons rfl (sub_cons rfl (sub_cons rfl sub_nil))) some_nil fun k1 s1 x1l hN1 l1 => ?_
    by_cases hk1 : k1 < a_a.length
    · skip
      refine forO_step l1 hk1 fun _ t1 l1 => ?_
      unfold laws_eqEntryS_L1 at t1
      have c1 : (decide (((k1 : Nat) : Int) < ((a_a.length : Nat) : Int))) = true := decide_eq_true (by omega)
      refine wc_seq ?_
      refine wcr ?_
      refine mv rfl rfl ?_
      refine mv rfl rfl ?_
      refine wl_pure (po_lenr (rds_arg r0) el_35 rfl) rfl ?_
      refine wl_pure (po_lss rfl rfl) rfl ?_
      refine wnt ?_
      refine wc_cond_t rfl c1 ?_
      refine wc_skip ?_
      refine wq_then ?_
      refine wc_seq ?_
      refine wc_block ?_
      refine wc_seq ?_
      refine wc_draw [] 10 mixed ?_
      refine wa_pure 0 rfl (po_move rfl) some_nil rfl (by kernel_rfl) (fun _ _ _ h => h) ?_
      refine wa_pure 1 rfl (po_move rfl) some_nil rfl (by kernel_rfl) (fun _ _ _ h => h) ?_
      refine wa_pure 2 rfl (po_ixn (k := k1) (rds_arg r0) el_35 rfl rfl hk1) some_nil rfl (by kernel_rfl) (fun _ _ _ h => h) ?_
      refine wa_elem (rds_arg r0) hk1 ?_
      rintro ⟨_, _, he1⟩
      obtain ⟨w1, hc1, _⟩ := rd_GEntry.1 he1
      refine wa_pure (v := .agg #[.int .i64 ((gx a_a k1).Owner), .int .i64 ((gx a_a k1).Day), .int .i64 (((gx a_a k1).Block).Size), (sl w1)]) 3 rfl (po_ldns (rds_arg r0) tk_88 rfl hc1 rfl rfl rfl) some_nil rfl (by kernel_rfl) (fun _ _ _ h => h) ?_
      refine wa_pure 4 rfl (po_move rfl) some_nil rfl (by kernel_rfl) (fun _ _ _ h => h) ?_
      refine wa_pure 5 rfl (po_move rfl) some_nil rfl (by kernel_rfl) (fun _ _ _ h => h) ?_
      refine gdO t1 fun g2 t1 => ?_
      refine wa_pure 6 rfl (po_ixn (k := k1) (rds_arg r1) el_35 rfl rfl g2) some_nil rfl (by kernel_rfl) (fun _ _ _ h => h) ?_
      refine wa_elem (rds_arg r1) g2 ?_
      rintro ⟨_, _, he2⟩
      obtain ⟨w2, hc2, _⟩ := rd_GEntry.1 he2
      refine wa_pure (v := .agg #[.int .i64 ((gx a_b k1).Owner), .int .i64 ((gx a_b k1).Day), .int .i64 (((gx a_b k1).Block).Size), (sl w2)]) 7 rfl (po_ldns (rds_arg r1) tk_88 rfl hc2 rfl rfl rfl) some_nil rfl (by kernel_rfl) (fun _ _ _ h => h) ?_
      refine wa_1 (i := 8) (by kernel_rfl) ?_
      refine bdO t1 fun v1 hv1 t1 => ?_
      refine ws_call rfl (co_c0 fa_98 rfl fun w hw => c_laws_eqEntry w (gx a_a k1) w1 (Rg.on (er_GEntry_0 hc1 (rds_arg r0) hk1) hw) (gx a_b k1) w2 (Rg.on (er_GEntry_0 hc2 (rds_arg r1) g2) hw) hv1) (fun _ => (sts_some some_nil)) rfl fun _ => ?_
      refine wa_pure 9 rfl (po_not rfl) some_nil rfl (by kernel_rfl) (fun _ _ _ h => h) ?_
      refine wa_done (by kernel_rfl) ?_
      refine wq_then ?_
      refine wcO t1 rfl (fun h2 t1 => ?_) fun h2 t1 => ?_
      · skip
        refine wcr ?_
        refine asg rfl rfl ?_
        refine wnt ?_
        refine wc_ret ?_
        refine wq_block_ret ?_
        refine wq_then_ret ?_
        refine wq_then_ret ?_
        refine wq_block_ret ?_
        refine wq_then_ret ?_
        refine wq_then_ret ?_
        replace t0 := lpR t0 l1 t1
        obtain rfl := Option.some.inj t0
        exact wq_ret1 rfl rfl fun w hw => ⟨rfl, hw.weak some_nil⟩
      refine wc_skip ?_
      refine wq_block ?_
      refine wq_then ?_
      refine wc_region ?_
      refine mv rfl rfl ?_
      refine wl_pure (po_inc rfl rfl (by omega)) rfl ?_
      refine asg rfl rfl ?_
      refine wl_nil ?_
      exact wq_rnd hk1 (stpN l1 t1) () (sub_cons rfl (sub_cons rfl (sub_cons rfl sub_nil))) some_nil
    have c1 : (decide (((k1 : Nat) : Int) < ((a_a.length : Nat) : Int))) = false := decide_eq_false (by omega)
    have en1 := forO_end l1 hk1
    refine wc_seq ?_
    refine wcr ?_
    refine mv rfl rfl ?_
    refine mv rfl rfl ?_
    refine wl_pure (po_lenr (rds_arg r0) el_35 rfl) rfl ?_
    refine wl_pure (po_lss rfl rfl) rfl ?_
    refine wnt ?_
    refine wc_cond_f rfl c1 ?_
    refine wc_exit ?_
    refine wq_then_exit ?_
    refine wq_then_exit ?_
    refine wq_block_exit ?_
    exact wj_meet _ () en1 sub_nil some_nil
  intro e1 _ hp
  replace t0 := sqE (j := e1) t0 hp
  refine wq_then ?_
  refine wcr ?_
  refine asg rfl rfl ?_
  refine wnt ?_
  refine wc_ret ?_
  obtain rfl := Option.some.inj t0
  exact wq_ret1 rfl rfl fun w hw => ⟨rfl, hw.weak some_nil⟩

theorem c_laws_eqBooking (w : World) (a_a : GBooking) (a_b : GBooking) {r : Bool} (t0 : laws_eqBooking a_a a_b = some r) : Calls Try.prog 99 #[.agg #[.int .i64 a_a.Day, .int .i64 a_a.From, .int .i64 a_a.To, .int .i64 a_a.Sum], .agg #[.int .i64 a_b.Day, .int .i64 a_b.From, .int .i64 a_b.To, .int .i64 a_b.Sum]] w fun e w' => e = .returned (.bool r) ∧ SH w [] [] w' := by
  refine calls_of_wc (args := [_, _]) Try.func99 rfl Try.ntmps99 rfl ?_
  unfold laws_eqBooking at t0
  refine wcr ?_
  refine wl_eff (eo_box rfl rfl) rfl fun b1 => ?_
  refine wl_eff (eo_box rfl rfl) rfl fun b2 => ?_
  refine asg rfl rfl ?_
  refine wnt ?_
  refine wc_seq ?_
  refine wcr ?_
  refine wl_pure (po_fld fo_92_0 rfl) rfl ?_
  refine wl_pure (v := .int .i64 a_a.Day) (po_load_box tk_3 (pickS pick0) rfl rfl) rfl ?_
  refine wl_pure (po_fld fo_92_0 rfl) rfl ?_
  refine wl_pure (v := .int .i64 a_b.Day) (po_load_box tk_3 pick0 rfl rfl) rfl ?_
  refine wl_pure (po_neq rfl rfl) rfl ?_
  refine wnt ?_
  refine wcO t0 rfl (fun h1 t0 => ?_) fun h1 t0 => ?_
  · skip
    refine wcr ?_
    refine asg rfl rfl ?_
    refine wnt ?_
    refine wc_ret ?_
    refine wq_then_ret ?_
    obtain rfl := Option.some.inj t0
    exact wq_ret1 rfl rfl fun w hw => ⟨rfl, hw.weak some_nil⟩
  refine wc_skip ?_
  refine wq_then ?_
  refine wc_seq ?_
  refine wcr ?_
  refine wl_pure (po_fld fo_92_1 rfl) rfl ?_
  refine wl_pure (v := .int .i64 a_a.From) (po_load_box tk_3 (pickS pick0) rfl rfl) rfl ?_
  refine wl_pure (po_fld fo_92_1 rfl) rfl ?_
  refine wl_pure (v := .int .i64 a_b.From) (po_load_box tk_3 pick0 rfl rfl) rfl ?_
  refine wl_pure (po_neq rfl rfl) rfl ?_
  refine wnt ?_
  refine wcO t0 rfl (fun h2 t0 => ?_) fun h2 t0 => ?_
  · skip
    refine wcr ?_
    refine asg rfl rfl ?_
    refine wnt ?_
    refine wc_ret ?_
    refine wq_then_ret ?_
    obtain rfl := Option.some.inj t0
    exact wq_ret1 rfl rfl fun w hw => ⟨rfl, hw.weak some_nil⟩
  refine wc_skip ?_
  refine wq_then ?_
  refine wc_seq ?_
  refine wcr ?_
  refine wl_pure (po_fld fo_92_2 rfl) rfl ?_
  refine wl_pure (v := .int .i64 a_a.To) (po_load_box tk_3 (pickS pick0) rfl rfl) rfl ?_
  refine wl_pure (po_fld fo_92_2 rfl) rfl ?_
  refine wl_pure (v := .int .i64 a_b.To) (po_load_box tk_3 pick0 rfl rfl) rfl ?_
  refine wl_pure (po_neq rfl rfl) rfl ?_
  refine wnt ?_
  refine wcO t0 rfl (fun h3 t0 => ?_) fun h3 t0 => ?_
  · skip
    refine wcr ?_
    refine asg rfl rfl ?_
    refine wnt ?_
    refine wc_ret ?_
    refine wq_then_ret ?_
    obtain rfl := Option.some.inj t0
    exact wq_ret1 rfl rfl fun w hw => ⟨rfl, hw.weak some_nil⟩
  refine wc_skip ?_
  refine wq_then ?_
  refine wc_seq ?_
  refine wcr ?_
  refine wl_pure (po_fld fo_92_3 rfl) rfl ?_
  refine wl_pure (v := .int .i64 a_a.Sum) (po_load_box tk_3 (pickS pick0) rfl rfl) rfl ?_
  refine wl_pure (po_fld fo_92_3 rfl) rfl ?_
  refine wl_pure (v := .int .i64 a_b.Sum) (po_load_box tk_3 pick0 rfl rfl) rfl ?_
  refine wl_pure (po_neq rfl rfl) rfl ?_
  refine wnt ?_
  refine wcO t0 rfl (fun h4 t0 => ?_) fun h4 t0 => ?_
  · skip
    refine wcr ?_
    refine asg rfl rfl ?_
    refine wnt ?_
    refine wc_ret ?_
    refine wq_then_ret ?_
    obtain rfl := Option.some.inj t0
    exact wq_ret1 rfl rfl fun w hw => ⟨rfl, hw.weak some_nil⟩
  refine wc_skip ?_
  refine wq_then ?_
  refine wcr ?_
  refine asg rfl rfl ?_
  refine wnt ?_
  refine wc_ret ?_
  obtain rfl := Option.some.inj t0
  exact wq_ret1 rfl rfl fun w hw => ⟨rfl, hw.weak some_nil⟩

theorem c_laws_eqBookingS (w : World) (a_a : List GBooking) (v0a : Hd) (r0 : rdF w (dm w []) (sl v0a) a_a) (a_b : List GBooking) (v1a : Hd) (r1 : rdF w (dm w []) (sl v1a) a_b) {r : Bool} (t0 : laws_eqBookingS a_a a_b = some r) : Calls Try.prog 47 #[(sl v0a), (sl v1a)] w fun e w' => e = .returned (.bool r) ∧ SH w [] [] w' := by
  refine calls_of_wc (args := [_, _]) Try.func47 rfl Try.ntmps47 rfl ?_
  unfold laws_eqBookingS at t0
  refine wcr ?_
  refine asg rfl rfl ?_
  refine wnt ?_
  refine wc_seq ?_
  refine wcr ?_
  refine mv rfl rfl ?_
  refine wl_pure (po_lenr (rds_arg r0) el_36 rfl) rfl ?_
  refine mv rfl rfl ?_
  refine wl_pure (po_lenr (rds_arg r1) el_36 rfl) rfl ?_
  refine wl_pure (po_neq rfl rfl) rfl ?_
  refine wnt ?_
  refine wcO t0 rfl (fun h1 t0 => ?_) fun h1 t0 => ?_
  · skip
    refine wcr ?_
    refine asg rfl rfl ?_
    refine wnt ?_
    refine wc_ret ?_
    refine wq_then_ret ?_
    obtain rfl := Option.some.inj t0
    exact wq_ret1 rfl rfl fun w hw => ⟨rfl, hw.weak some_nil⟩
  refine wc_skip ?_
  refine wq_then ?_
  refine wc_seq ?_
  refine wcr ?_
  refine asg rfl rfl ?_
  refine wnt ?_
  refine gdO t0 fun g1 t0 => ?_
  refine sqO t0 fun y1 l1 t0 => ?_
  refine wj (J := Unit) (X := Unit) (fun z => y1 = .inl z) (fun _ _ => []) (fun _ _ => []) ?_ ?_
  · skip
    refine wc_block ?_
    refine wc_forO (X := Unit) l1 (fun k1 s1 x1l => [(0, (sl v0a)), (1, (sl v1a)), (5, .int .i64 ((k1 : Nat) : Int))]) (fun k1 s1 x1l => []) () (sub_cons rfl (sub_cons rfl (sub_cons rfl sub_nil))) some_nil fun k1 s1 x1l hN1 l1 => ?_
    by_cases hk1 : k1 < a_a.length
    · skip
      refine forO_step l1 hk1 fun _ t1 l1 => ?_
      unfold laws_eqBookingS_L1 at t1
      have c1 : (decide (((k1 : Nat) : Int) < ((a_a.length : Nat) : Int))) = true := decide_eq_true (by omega)
      refine wc_seq ?_
      refine wcr ?_
      refine mv rfl rfl ?_
      refine mv rfl rfl ?_
      refine wl_pure (po_lenr (rds_arg r0) el_36 rfl) rfl ?_
      refine wl_pure (po_lss rfl rfl) rfl ?_
      refine wnt ?_
      refine wc_cond_t rfl c1 ?_
      refine wc_skip ?_
      refine wq_then ?_
      refine wc_seq ?_
      refine wc_block ?_
      refine wc_seq ?_
      refine wc_draw [] 10 mixed ?_
      refine wa_pure 0 rfl (po_move rfl) some_nil rfl (by kernel_rfl) (fun _ _ _ h => h) ?_
      refine wa_pure 1 rfl (po_move rfl) some_nil rfl (by kernel_rfl) (fun _ _ _ h => h) ?_
      refine wa_pure 2 rfl (po_ixn (k := k1) (rds_arg r0) el_36 rfl rfl hk1) some_nil rfl (by kernel_rfl) (fun _ _ _ h => h) ?_
      refine wa_pure (v := .agg #[.int .i64 ((gx a_a k1).Day), .int .i64 ((gx a_a k1).From), .int .i64 ((gx a_a k1).To), .int .i64 ((gx a_a k1).Sum)]) 3 rfl (po_ldfs (rds_arg r0) tk_92 rfl hk1 rfl rfl rfl) some_nil rfl (by kernel_rfl) (fun _ _ _ h => h) ?_
      refine wa_pure 4 rfl (po_move rfl) some_nil rfl (by kernel_rfl) (fun _ _ _ h => h) ?_
      refine wa_pure 5 rfl (po_move rfl) some_nil rfl (by kernel_rfl) (fun _ _ _ h => h) ?_
      refine gdO t1 fun g2 t1 => ?_
      refine wa_pure 6 rfl (po_ixn (k := k1) (rds_arg r1) el_36 rfl rfl g2) some_nil rfl (by kernel_rfl) (fun _ _ _ h => h) ?_
      refine wa_pure (v := .agg #[.int .i64 ((gx a_b k1).Day), .int .i64 ((gx a_b k1).From), .int .i64 ((gx a_b k1).To), .int .i64 ((gx a_b k1).Sum)]) 7 rfl (po_ldfs (rds_arg r1) tk_92 rfl g2 rfl rfl rfl) some_nil rfl (by kernel_rfl) (fun _ _ _ h => h) ?_
      refine wa_1 (i := 8) (by kernel_rfl) ?_
      refine bdO t1 fun v1 hv1 t1 => ?_
      refine ws_call rfl (co_c0 fa_99 rfl fun w hw => c_laws_eqBooking w (gx a_a k1) (gx a_b k1) hv1) (fun _ => (sts_some some_nil)) rfl fun _ => ?_
      refine wa_pure 9 rfl (po_not rfl) some_nil rfl (by kernel_rfl) (fun _ _ _ h => h) ?_
      refine wa_done (by kernel_rfl) ?_
      refine wq_then ?_
      refine wcO t1 rfl (fun h2 t1 => ?_) fun h2 t1 => ?_
      · skip
        refine wcr ?_
        refine asg rfl rfl ?_
        refine wnt ?_
        refine wc_ret ?_
        refine wq_block_ret ?_
        refine wq_then_ret ?_
        refine wq_then_ret ?_
        refine wq_block_ret ?_
        refine wq_then_ret ?_
        refine wq_then_ret ?_
        replace t0 := lpR t0 l1 t1
        obtain rfl := Option.some.inj t0
        exact wq_ret1 rfl rfl fun w hw => ⟨rfl, hw.weak some_nil⟩
      refine wc_skip ?_
      refine wq_block ?_
      refine wq_then ?_
      refine wc_region ?_
      refine mv rfl rfl ?_
      refine wl_pure (po_inc rfl rfl (by omega)) rfl ?_
      refine asg rfl rfl ?_
      refine wl_nil ?_
      exact wq_rnd hk1 (stpN l1 t1) () (sub_cons rfl (sub_cons rfl (sub_cons rfl sub_nil))) some_nil
    have c1 : (decide (((k1 : Nat) : Int) < ((a_a.length : Nat) : Int))) = false := decide_eq_false (by omega)
    have en1 := forO_end l1 hk1
    refine wc_seq ?_
    refine wcr ?_
    refine mv rfl rfl ?_
    refine mv rfl rfl ?_
    refine wl_pure (po_lenr (rds_arg r0) el_36 rfl) rfl ?_
    refine wl_pure (po_lss rfl rfl) rfl ?_
    refine wnt ?_
    refine wc_cond_f rfl c1 ?_
    refine wc_exit ?_
    refine wq_then_exit ?_
    refine wq_then_exit ?_
    refine wq_block_exit ?_
    exact wj_meet _ () en1 sub_nil some_nil
  intro e1 _ hp
  replace t0 := sqE (j := e1) t0 hp
  refine wq_then ?_
  refine wcr ?_
  refine asg rfl rfl ?_
  refine wnt ?_
  refine wc_ret ?_
  obtain rfl := Option.some.inj t0
  exact wq_ret1 rfl rfl fun w hw => ⟨rfl, hw.weak some_nil⟩

theorem c_laws_eqGuild (w : World) (a_a : GGuild) (v0a : Hd) (r0 : rdF w (dm w []) (sl v0a) a_a.Members) (v1a : Hd) (r1 : rdF w (dm w []) (sl v1a) a_a.Stock) (v2a : Hd) (u2a : List Value) (r2 : RdL w (dm w []) (sl v2a) u2a a_a.Entries) (v3a : Hd) (r3 : rdF w (dm w []) (sl v3a) a_a.Books) (a_b : GGuild) (v4a : Hd) (r4 : rdF w (dm w []) (sl v4a) a_b.Members) (v5a : Hd) (r5 : rdF w (dm w []) (sl v5a) a_b.Stock) (v6a : Hd) (u6a : List Value) (r6 : RdL w (dm w []) (sl v6a) u6a a_b.Entries) (v7a : Hd) (r7 : rdF w (dm w []) (sl v7a) a_b.Books) {r : Bool} (t0 : laws_eqGuild a_a a_b = some r) : Calls Try.prog 16 #[.agg #[(sl v0a), (sl v1a), (sl v2a), (sl v3a), .int .i64 a_a.Round, .int .i64 a_a.Year], .agg #[(sl v4a), (sl v5a), (sl v6a), (sl v7a), .int .i64 a_b.Round, .int .i64 a_b.Year]] w fun e w' => e = .returned (.bool r) ∧ SH w [] [] w' := by
  refine calls_of_wc (args := [_, _]) Try.func16 rfl Try.ntmps16 rfl ?_
  unfold laws_eqGuild at t0
  refine wcr ?_
  refine wl_eff (eo_box rfl rfl) rfl fun b1 => ?_
  refine wl_eff (eo_box rfl rfl) rfl fun b2 => ?_
  refine asg rfl rfl ?_
  refine wnt ?_
  refine wc_seq ?_
  refine wcr ?_
  refine wl_pure (po_fld fo_38_0 rfl) rfl ?_
  refine wl_pure (v := (sl v0a)) (po_load_box tk_33 (pickS pick0) rfl rfl) rfl ?_
  refine wl_pure (po_fld fo_38_0 rfl) rfl ?_
  refine wl_pure (v := (sl v4a)) (po_load_box tk_33 pick0 rfl rfl) rfl ?_
  refine bdO t0 fun v1 hv1 t0 => ?_
  refine wl_call (co_c0 fa_44 rfl fun w hw => c_laws_eqMemberS w a_a.Members v0a (Rg.on (rds_arg r0) hw) a_b.Members v4a (Rg.on (rds_arg r4) hw) hv1) rfl fun _ => ?_
  refine wl_pure (po_not rfl) rfl ?_
  refine wnt ?_
  refine wcO t0 rfl (fun h1 t0 => ?_) fun h1 t0 => ?_
  · skip
    refine wcr ?_
    refine asg rfl rfl ?_
    refine wnt ?_
    refine wc_ret ?_
    refine wq_then_ret ?_
    obtain rfl := Option.some.inj t0
    exact wq_ret1 rfl rfl fun w hw => ⟨rfl, hw.weak some_nil⟩
  refine wc_skip ?_
  refine wq_then ?_
  refine wc_seq ?_
  refine wcr ?_
  refine wl_pure (po_fld fo_38_1 rfl) rfl ?_
  refine wl_pure (v := (sl v1a)) (po_load_box tk_34 (pickS pick0) rfl rfl) rfl ?_
  refine wl_pure (po_fld fo_38_1 rfl) rfl ?_
  refine wl_pure (v := (sl v5a)) (po_load_box tk_34 pick0 rfl rfl) rfl ?_
  refine bdO t0 fun v2 hv2 t0 => ?_
  refine wl_call (co_c0 fa_45 rfl fun w hw => c_laws_eqIntS w a_a.Stock v1a (Rg.on (rds_arg r1) hw) a_b.Stock v5a (Rg.on (rds_arg r5) hw) hv2) rfl fun _ => ?_
  refine wl_pure (po_not rfl) rfl ?_
  refine wnt ?_
  refine wcO t0 rfl (fun h2 t0 => ?_) fun h2 t0 => ?_
  · skip
    refine wcr ?_
    refine asg rfl rfl ?_
    refine wnt ?_
    refine wc_ret ?_
    refine wq_then_ret ?_
    obtain rfl := Option.some.inj t0
    exact wq_ret1 rfl rfl fun w hw => ⟨rfl, hw.weak some_nil⟩
  refine wc_skip ?_
  refine wq_then ?_
  refine wc_seq ?_
  refine wcr ?_
  refine wl_pure (po_fld fo_38_2 rfl) rfl ?_
  refine wl_pure (v := (sl v2a)) (po_load_box tk_35 (pickS pick0) rfl rfl) rfl ?_
  refine wl_pure (po_fld fo_38_2 rfl) rfl ?_
  refine wl_pure (v := (sl v6a)) (po_load_box tk_35 pick0 rfl rfl) rfl ?_
  refine bdO t0 fun v3 hv3 t0 => ?_
  refine wl_call (co_c0 fa_46 rfl fun w hw => c_laws_eqEntryS w a_a.Entries v2a u2a (Rg.on (rds_arg r2) hw) a_b.Entries v6a u6a (Rg.on (rds_arg r6) hw) hv3) rfl fun _ => ?_
  refine wl_pure (po_not rfl) rfl ?_
  refine wnt ?_
  refine wcO t0 rfl (fun h3 t0 => ?_) fun h3 t0 => ?_
  · skip
    refine wcr ?_
    refine asg rfl rfl ?_
    refine wnt ?_
    refine wc_ret ?_
    refine wq_then_ret ?_
    obtain rfl := Option.some.inj t0
    exact wq_ret1 rfl rfl fun w hw => ⟨rfl, hw.weak some_nil⟩
  refine wc_skip ?_
  refine wq_then ?_
  refine wc_seq ?_
  refine wcr ?_
  refine wl_pure (po_fld fo_38_3 rfl) rfl ?_
  refine wl_pure (v := (sl v3a)) (po_load_box tk_36 (pickS pick0) rfl rfl) rfl ?_
  refine wl_pure (po_fld fo_38_3 rfl) rfl ?_
  refine wl_pure (v := (sl v7a)) (po_load_box tk_36 pick0 rfl rfl) rfl ?_
  refine bdO t0 fun v4 hv4 t0 => ?_
  refine wl_call (co_c0 fa_47 rfl fun w hw => c_laws_eqBookingS w a_a.Books v3a (Rg.on (rds_arg r3) hw) a_b.Books v7a (Rg.on (rds_arg r7) hw) hv4) rfl fun _ => ?_
  refine wl_pure (po_not rfl) rfl ?_
  refine wnt ?_
  refine wcO t0 rfl (fun h4 t0 => ?_) fun h4 t0 => ?_
  · skip
    refine wcr ?_
    refine asg rfl rfl ?_
    refine wnt ?_
    refine wc_ret ?_
    refine wq_then_ret ?_
    obtain rfl := Option.some.inj t0
    exact wq_ret1 rfl rfl fun w hw => ⟨rfl, hw.weak some_nil⟩
  refine wc_skip ?_
  refine wq_then ?_
  refine wc_seq ?_
  refine wcr ?_
  refine wl_pure (po_fld fo_38_4 rfl) rfl ?_
  refine wl_pure (v := .int .i64 a_a.Round) (po_load_box tk_3 (pickS pick0) rfl rfl) rfl ?_
  refine wl_pure (po_fld fo_38_4 rfl) rfl ?_
  refine wl_pure (v := .int .i64 a_b.Round) (po_load_box tk_3 pick0 rfl rfl) rfl ?_
  refine wl_pure (po_neq rfl rfl) rfl ?_
  refine wnt ?_
  refine wcO t0 rfl (fun h5 t0 => ?_) fun h5 t0 => ?_
  · skip
    refine wcr ?_
    refine asg rfl rfl ?_
    refine wnt ?_
    refine wc_ret ?_
    refine wq_then_ret ?_
    obtain rfl := Option.some.inj t0
    exact wq_ret1 rfl rfl fun w hw => ⟨rfl, hw.weak some_nil⟩
  refine wc_skip ?_
  refine wq_then ?_
  refine wc_seq ?_
  refine wcr ?_
  refine wl_pure (po_fld fo_38_5 rfl) rfl ?_
  refine wl_pure (v := .int .i64 a_a.Year) (po_load_box tk_3 (pickS pick0) rfl rfl) rfl ?_
  refine wl_pure (po_fld fo_38_5 rfl) rfl ?_
  refine wl_pure (v := .int .i64 a_b.Year) (po_load_box tk_3 pick0 rfl rfl) rfl ?_
  refine wl_pure (po_neq rfl rfl) rfl ?_
  refine wnt ?_
  refine wcO t0 rfl (fun h6 t0 => ?_) fun h6 t0 => ?_
  · skip
    refine wcr ?_
    refine asg rfl rfl ?_
    refine wnt ?_
    refine wc_ret ?_
    refine wq_then_ret ?_
    obtain rfl := Option.some.inj t0
    exact wq_ret1 rfl rfl fun w hw => ⟨rfl, hw.weak some_nil⟩
  refine wc_skip ?_
  refine wq_then ?_
  refine wcr ?_
  refine asg rfl rfl ?_
  refine wnt ?_
  refine wc_ret ?_
  obtain rfl := Option.some.inj t0
  exact wq_ret1 rfl rfl fun w hw => ⟨rfl, hw.weak some_nil⟩

theorem c_laws_markMemberS (w : World) (fp : List Nat) (a_a : List GMember) (v0a : Hd) (a_k : Int) (o : Ow w [ownF (sl v0a) a_a] fp) {r : Int × (List GMember)} (t0 : laws_markMemberS a_a a_k = some r) : Calls Try.prog 48 #[(sl v0a), .int .i64 a_k] w fun e w' => ∃ _x : Unit, e = .returned (.int .i64 r.1) ∧ SH w fp [ownF (sl v0a) r.2] w' := by
  refine calls_of_wc_own (args := [_, _]) o Try.func48 rfl Try.ntmps48 rfl ?_
  unfold laws_markMemberS at t0
  refine wcr ?_
  refine asg rfl rfl ?_
  refine wnt ?_
  refine wc_seq ?_
  refine wcr ?_
  refine asg rfl rfl ?_
  refine wnt ?_
  refine gdO t0 fun g1 t0 => ?_
  refine wc_hl (rds_own pick0) fun hl1 => ?_
  refine lpO_inv t0 fun y1 l1 t0 => ?_
  refine wj (J := (List GMember) × Int) (X := Unit) (fun z => y1 = z) (fun z _ => [(0, (sl v0a)), (1, .int .i64 z.2)]) (fun z _ => [ownF (sl v0a) z.1]) ?_ ?_
  · skip
    refine wc_block ?_
    refine wc_forO (X := Unit) l1 (fun k1 s1 x1l => [(0, (sl v0a)), (1, .int .i64 s1.2), (5, .int .i64 ((k1 : Nat) : Int))]) (fun k1 s1 x1l => [ownF (sl v0a) s1.1]) () (sub_cons rfl (sub_cons rfl (sub_cons rfl sub_nil))) (some_cons pick0 some_nil) fun k1 s1 x1l hN1 l1 => ?_
    refine wc_hl (rds_own pick0) fun hl2 => ?_
    by_cases hk1 : k1 < a_a.length
    · skip
      refine forO_step l1 hk1 fun _ t1 l1 => ?_
      unfold laws_markMemberS_L1 at t1
      have c1 : (decide (((k1 : Nat) : Int) < ((s1.1.length : Nat) : Int))) = true := decide_eq_true (by omega)
      have hq1 : k1 < s1.1.length := by omega
      refine wc_seq ?_
      refine wcr ?_
      refine mv rfl rfl ?_
      refine mv rfl rfl ?_
      refine wl_pure (po_lenr (rds_own pick0) el_33 rfl) rfl ?_
      refine wl_pure (po_lss rfl rfl) rfl ?_
      refine wnt ?_
      refine wc_cond_t rfl c1 ?_
      refine wc_skip ?_
      refine wq_then ?_
      refine wc_seq ?_
      refine wc_block ?_
      refine wcr ?_
      refine mv rfl rfl ?_
      refine mv rfl rfl ?_
      refine mv rfl rfl ?_
      refine wl_pure (po_ixn (k := k1) (rds_own pick0) el_33 rfl rfl hq1) rfl ?_
      refine wl_pure (po_sfldr (rds_own pick0) hq1 fo_113_0 rfl) rfl ?_
      refine wl_skipop (so_own (x' := (GMember.mk s1.2 ((gx s1.1 k1).Since) ((gx s1.1 k1).Paid))) tk_3 pick0 rfl rfl rfl rfl rfl rfl hq1 rfl) ?_
      refine wnt ?_
      refine wcr ?_
      refine mv rfl rfl ?_
      refine wl_pure (po_add rfl rfl) rfl ?_
      refine asg rfl rfl ?_
      refine wnt ?_
      refine wcr ?_
      refine mv rfl rfl ?_
      refine mv rfl rfl ?_
      refine mv rfl rfl ?_
      refine wl_pure (po_ixn (k := k1) (rds_own pick0) el_33 rfl rfl (set_lt hq1)) rfl ?_
      refine wl_pure (po_sfldr (rds_own pick0) (set_lt hq1) fo_113_1 rfl) rfl ?_
      refine wl_skipop (so_own2 (X := s1.1) (e := (GMember.mk s1.2 ((gx s1.1 k1).Since) ((gx s1.1 k1).Paid))) (x' := (GMember.mk s1.2 (wr (s1.2 + 1)) ((gx s1.1 k1).Paid))) tk_3 pick0 rfl rfl rfl rfl rfl rfl hq1 rfl) ?_
      refine wnt ?_
      refine wcr ?_
      refine mv rfl rfl ?_
      refine wl_pure (po_add rfl rfl) rfl ?_
      refine asg rfl rfl ?_
      refine wnt ?_
      refine wcr ?_
      refine mv rfl rfl ?_
      refine mv rfl rfl ?_
      refine mv rfl rfl ?_
      refine wl_pure (po_ixn (k := k1) (rds_own pick0) el_33 rfl rfl (set_lt hq1)) rfl ?_
      refine wl_pure (po_sfldr (rds_own pick0) (set_lt hq1) fo_113_2 rfl) rfl ?_
      refine wl_skipop (so_own2 (X := s1.1) (e := (GMember.mk s1.2 (wr (s1.2 + 1)) ((gx s1.1 k1).Paid))) (x' := (GMember.mk s1.2 (wr (s1.2 + 1)) (wr ((wr (s1.2 + 1)) + 1)))) tk_3 pick0 rfl rfl rfl rfl rfl rfl hq1 rfl) ?_
      refine wnt ?_
      refine wc_region ?_
      refine mv rfl rfl ?_
      refine wl_pure (po_add rfl rfl) rfl ?_
      refine asg rfl rfl ?_
      refine wl_nil ?_
      refine wq_block ?_
      refine wq_then ?_
      refine wc_region ?_
      refine mv rfl rfl ?_
      refine wl_pure (po_inc rfl rfl (by omega)) rfl ?_
      refine asg rfl rfl ?_
      refine wl_nil ?_
      exact wq_rnd hk1 (stpN l1 t1) () (sub_cons rfl (sub_cons rfl (sub_cons rfl sub_nil))) (some_cons pick0 some_nil)
    have c1 : (decide (((k1 : Nat) : Int) < ((s1.1.length : Nat) : Int))) = false := decide_eq_false (by omega)
    have en1 := forO_end l1 hk1
    refine wc_seq ?_
    refine wcr ?_
    refine mv rfl rfl ?_
    refine mv rfl rfl ?_
    refine wl_pure (po_lenr (rds_own pick0) el_33 rfl) rfl ?_
    refine wl_pure (po_lss rfl rfl) rfl ?_
    refine wnt ?_
    refine wc_cond_f rfl c1 ?_
    refine wc_exit ?_
    refine wq_then_exit ?_
    refine wq_then_exit ?_
    refine wq_block_exit ?_
    exact wj_meet _ () (Sum.inl.inj en1) (sub_cons rfl (sub_cons rfl sub_nil)) (some_cons pick0 some_nil)
  intro e1 _ hp
  obtain rfl : e1 = y1 := hp.symm
  refine wq_then ?_
  refine wcr ?_
  refine mv rfl rfl ?_
  refine asg rfl rfl ?_
  refine wnt ?_
  refine wc_ret ?_
  obtain rfl := Option.some.inj t0
  exact wq_ret1 rfl rfl fun w hw => ⟨(), rfl, hw.weak (some_cons pick0 some_nil)⟩

theorem c_laws_markIntS (w : World) (fp : List Nat) (a_a : List Int) (v0a : Hd) (a_k : Int) (o : Ow w [ownF (sl v0a) a_a] fp) {r : Int × (List Int)} (t0 : laws_markIntS a_a a_k = some r) : Calls Try.prog 49 #[(sl v0a), .int .i64 a_k] w fun e w' => ∃ _x : Unit, e = .returned (.int .i64 r.1) ∧ SH w fp [ownF (sl v0a) r.2] w' := by
  refine calls_of_wc_own (args := [_, _]) o Try.func49 rfl Try.ntmps49 rfl ?_
  unfold laws_markIntS at t0
  refine wcr ?_
  refine asg rfl rfl ?_
  refine wnt ?_
  refine wc_seq ?_
  refine wcr ?_
  refine asg rfl rfl ?_
  refine wnt ?_
  refine gdO t0 fun g1 t0 => ?_
  refine wc_hl (rds_own pick0) fun hl1 => ?_
  refine lpO_inv t0 fun y1 l1 t0 => ?_
  refine wj (J := (List Int) × Int) (X := Unit) (fun z => y1 = z) (fun z _ => [(0, (sl v0a)), (1, .int .i64 z.2)]) (fun z _ => [ownF (sl v0a) z.1]) ?_ ?_
  · skip
    refine wc_block ?_
    refine wc_forO (X := Unit) l1 (fun k1 s1 x1l => [(0, (sl v0a)), (1, .int .i64 s1.2), (5, .int .i64 ((k1 : Nat) : Int))]) (fun k1 s1 x1l => [ownF (sl v0a) s1.1]) () (sub_cons rfl (sub_cons rfl (sub_cons rfl sub_nil))) (some_cons pick0 some_nil) fun k1 s1 x1l hN1 l1 => ?_
    refine wc_hl (rds_own pick0) fun hl2 => ?_
    by_cases hk1 : k1 < a_a.length
    · skip
      refine forO_step l1 hk1 fun _ t1 l1 => ?_
      unfold laws_markIntS_L1 at t1
      have c1 : (decide (((k1 : Nat) : Int) < ((s1.1.length : Nat) : Int))) = true := decide_eq_true (by omega)
      have hq1 : k1 < s1.1.length := by omega
      refine wc_seq ?_
      refine wcr ?_
      refine mv rfl rfl ?_
      refine mv rfl rfl ?_
      refine wl_pure (po_lenr (rds_own pick0) el_34 rfl) rfl ?_
      refine wl_pure (po_lss rfl rfl) rfl ?_
      refine wnt ?_
      refine wc_cond_t rfl c1 ?_
      refine wc_skip ?_
      refine wq_then ?_
      refine wc_seq ?_
      refine wc_block ?_
      refine wcr ?_
      refine mv rfl rfl ?_
      refine mv rfl rfl ?_
      refine mv rfl rfl ?_
      refine wl_pure (po_ixn (k := k1) (rds_own pick0) el_34 rfl rfl hq1) rfl ?_
      refine wl_skipop (so_own (x' := s1.2) tk_3 pick0 rfl rfl rfl rfl rfl rfl hq1 rfl) ?_
      refine wnt ?_
      refine wc_region ?_
      refine mv rfl rfl ?_
      refine wl_pure (po_add rfl rfl) rfl ?_
      refine asg rfl rfl ?_
      refine wl_nil ?_
      refine wq_block ?_
      refine wq_then ?_
      refine wc_region ?_
      refine mv rfl rfl ?_
      refine wl_pure (po_inc rfl rfl (by omega)) rfl ?_
      refine asg rfl rfl ?_
      refine wl_nil ?_
      exact wq_rnd hk1 (stpN l1 t1) () (sub_cons rfl (sub_cons rfl (sub_cons rfl sub_nil))) (some_cons pick0 some_nil)
    have c1 : (decide (((k1 : Nat) : Int) < ((s1.1.length : Nat) : Int))) = false := decide_eq_false (by omega)
    have en1 := forO_end l1 hk1
    refine wc_seq ?_
    refine wcr ?_
    refine mv rfl rfl ?_
    refine mv rfl rfl ?_
    refine wl_pure (po_lenr (rds_own pick0) el_34 rfl) rfl ?_
    refine wl_pure (po_lss rfl rfl) rfl ?_
    refine wnt ?_
    refine wc_cond_f rfl c1 ?_
    refine wc_exit ?_
    refine wq_then_exit ?_
    refine wq_then_exit ?_
    refine wq_block_exit ?_
    exact wj_meet _ () (Sum.inl.inj en1) (sub_cons rfl (sub_cons rfl sub_nil)) (some_cons pick0 some_nil)
  intro e1 _ hp
  obtain rfl : e1 = y1 := hp.symm
  refine wq_then ?_
  refine wcr ?_
  refine mv rfl rfl ?_
  refine asg rfl rfl ?_
  refine wnt ?_
  refine wc_ret ?_
  obtain rfl := Option.some.inj t0
  exact wq_ret1 rfl rfl fun w hw => ⟨(), rfl, hw.weak (some_cons pick0 some_nil)⟩

theorem c_laws_markCellS (w : World) (fp : List Nat) (a_a : List GCell) (v0a : Hd) (a_k : Int) (o : Ow w [ownF (sl v0a) a_a] fp) {r : Int × (List GCell)} (t0 : laws_markCellS a_a a_k = some r) : Calls Try.prog 100 #[(sl v0a), .int .i64 a_k] w fun e w' => ∃ _x : Unit, e = .returned (.int .i64 r.1) ∧ SH w fp [ownF (sl v0a) r.2] w' := by
  refine calls_of_wc_own (args := [_, _]) o Try.func100 rfl Try.ntmps100 rfl ?_
  unfold laws_markCellS at t0
  refine wcr ?_
  refine asg rfl rfl ?_
  refine wnt ?_
  refine wc_seq ?_
  refine wcr ?_
  refine asg rfl rfl ?_
  refine wnt ?_
  refine gdO t0 fun g1 t0 => ?_
  refine wc_hl (rds_own pick0) fun hl1 => ?_
  refine lpO_inv t0 fun y1 l1 t0 => ?_
  refine wj (J := (List GCell) × Int) (X := Unit) (fun z => y1 = z) (fun z _ => [(0, (sl v0a)), (1, .int .i64 z.2)]) (fun z _ => [ownF (sl v0a) z.1]) ?_ ?_
  · skip
    refine wc_block ?_
    refine wc_forO (X := Unit) l1 (fun k1 s1 x1l => [(0, (sl v0a)), (1, .int .i64 s1.2), (5, .int .i64 ((k1 : Nat) : Int))]) (fun k1 s1 x1l => [ownF (sl v0a) s1.1]) () (sub_cons rfl (sub_cons rfl (sub_cons rfl sub_nil))) (some_cons pick0 some_nil) fun k1 s1 x1l hN1 l1 => ?_
    refine wc_hl (rds_own pick0) fun hl2 => ?_
    by_cases hk1 : k1 < a_a.length
    · skip
      refine forO_step l1 hk1 fun _ t1 l1 => ?_
      unfold laws_markCellS_L1 at t1
      have c1 : (decide (((k1 : Nat) : Int) < ((s1.1.length : Nat) : Int))) = true := decide_eq_true (by omega)
      have hq1 : k1 < s1.1.length := by omega
      refine wc_seq ?_
      refine wcr ?_
      refine mv rfl rfl ?_
      refine mv rfl rfl ?_
      refine wl_pure (po_lenr (rds_own pick0) el_27 rfl) rfl ?_
      refine wl_pure (po_lss rfl rfl) rfl ?_
      refine wnt ?_
      refine wc_cond_t rfl c1 ?_
      refine wc_skip ?_
      refine wq_then ?_
      refine wc_seq ?_
      refine wc_block ?_
      refine wcr ?_
      refine mv rfl rfl ?_
      refine mv rfl rfl ?_
      refine mv rfl rfl ?_
      refine wl_pure (po_ixn (k := k1) (rds_own pick0) el_27 rfl rfl hq1) rfl ?_
      refine wl_pure (po_sfldr (rds_own pick0) hq1 fo_99_0 rfl) rfl ?_
      refine wl_skipop (so_own (x' := (GCell.mk s1.2 ((gx s1.1 k1).A) ((gx s1.1 k1).B))) tk_3 pick0 rfl rfl rfl rfl rfl rfl hq1 rfl) ?_
      refine wnt ?_
      refine wcr ?_
      refine mv rfl rfl ?_
      refine wl_pure (po_add rfl rfl) rfl ?_
      refine asg rfl rfl ?_
      refine wnt ?_
      refine wcr ?_
      refine mv rfl rfl ?_
      refine mv rfl rfl ?_
      refine mv rfl rfl ?_
      refine wl_pure (po_ixn (k := k1) (rds_own pick0) el_27 rfl rfl (set_lt hq1)) rfl ?_
      refine wl_pure (po_sfldr (rds_own pick0) (set_lt hq1) fo_99_1 rfl) rfl ?_
      refine wl_skipop (so_own2 (X := s1.1) (e := (GCell.mk s1.2 ((gx s1.1 k1).A) ((gx s1.1 k1).B))) (x' := (GCell.mk s1.2 (wr (s1.2 + 1)) ((gx s1.1 k1).B))) tk_3 pick0 rfl rfl rfl rfl rfl rfl hq1 rfl) ?_
      refine wnt ?_
      refine wcr ?_
      refine mv rfl rfl ?_
      refine wl_pure (po_add rfl rfl) rfl ?_
      refine asg rfl rfl ?_
      refine wnt ?_
      refine wcr ?_
      refine mv rfl rfl ?_
      refine mv rfl rfl ?_
      refine mv rfl rfl ?_
      refine wl_pure (po_ixn (k := k1) (rds_own pick0) el_27 rfl rfl (set_lt hq1)) rfl ?_
      refine wl_pure (po_sfldr (rds_own pick0) (set_lt hq1) fo_99_2 rfl) rfl ?_
      refine wl_skipop (so_own2 (X := s1.1) (e := (GCell.mk s1.2 (wr (s1.2 + 1)) ((gx s1.1 k1).B))) (x' := (GCell.mk s1.2 (wr (s1.2 + 1)) (wr ((wr (s1.2 + 1)) + 1)))) tk_3 pick0 rfl rfl rfl rfl rfl rfl hq1 rfl) ?_
      refine wnt ?_
      refine wc_region ?_
      refine mv rfl rfl ?_
      refine wl_pure (po_add rfl rfl) rfl ?_
      refine asg rfl rfl ?_
      refine wl_nil ?_
      refine wq_block ?_
      refine wq_then ?_
      refine wc_region ?_
      refine mv rfl rfl ?_
      refine wl_pure (po_inc rfl rfl (by omega)) rfl ?_
      refine asg rfl rfl ?_
      refine wl_nil ?_
      exact wq_rnd hk1 (stpN l1 t1) () (sub_cons rfl (sub_cons rfl (sub_cons rfl sub_nil))) (some_cons pick0 some_nil)
    have c1 : (decide (((k1 : Nat) : Int) < ((s1.1.length : Nat) : Int))) = false := decide_eq_false (by omega)
    have en1 := forO_end l1 hk1
    refine wc_seq ?_
    refine wcr ?_
    refine mv rfl rfl ?_
    refine mv rfl rfl ?_
    refine wl_pure (po_lenr (rds_own pick0) el_27 rfl) rfl ?_
    refine wl_pure (po_lss rfl rfl) rfl ?_
    refine wnt ?_
    refine wc_cond_f rfl c1 ?_
    refine wc_exit ?_
    refine wq_then_exit ?_
    refine wq_then_exit ?_
    refine wq_block_exit ?_
    exact wj_meet _ () (Sum.inl.inj en1) (sub_cons rfl (sub_cons rfl sub_nil)) (some_cons pick0 some_nil)
  intro e1 _ hp
  obtain rfl : e1 = y1 := hp.symm
  refine wq_then ?_
  refine wcr ?_
  refine mv rfl rfl ?_
  refine asg rfl rfl ?_
  refine wnt ?_
  refine wc_ret ?_
  obtain rfl := Option.some.inj t0
  exact wq_ret1 rfl rfl fun w hw => ⟨(), rfl, hw.weak (some_cons pick0 some_nil)⟩

theorem c_laws_markEntryS (w : World) (fp : List Nat) (a_a : List GEntry) (v0a : Hd) (u0a : List Value) (a_k : Int) (o : Ow w [own (sl v0a) u0a a_a] fp) {r : Int × (List GEntry)} (t0 : laws_markEntryS a_a a_k = some r) : Calls Try.prog 50 #[(sl v0a), .int .i64 a_k] w fun e w' => ∃ x : List Value, e = .returned (.int .i64 r.1) ∧ SH w fp [own (sl v0a) x r.2] w' := by
  refine calls_of_wc_own (args := [_, _]) o Try.func50 rfl Try.ntmps50 rfl ?_
  unfold laws_markEntryS at t0
  refine wcr ?_
  refine asg rfl rfl ?_
  refine wnt ?_
  refine wc_seq ?_
  refine wcr ?_
  refine asg rfl rfl ?_
  refine wnt ?_
  refine gdO t0 fun g1 t0 => ?_
  refine wc_hl (rds_own pick0) fun hl1 => ?_
  refine lpO_inv t0 fun y1 l1 t0 => ?_
  refine wj (J := (List GEntry) × Int) (X := List Value) (fun z => y1 = z) (fun z _ => [(0, (sl v0a)), (1, .int .i64 z.2)]) (fun z x => [own (sl v0a) x z.1]) ?_ ?_
  · skip
    refine wc_block ?_
    refine wc_forO (X := List Value) l1 (fun k1 s1 x1l => [(0, (sl v0a)), (1, .int .i64 s1.2), (5, .int .i64 ((k1 : Nat) : Int))]) (fun k1 s1 x1l => [own (sl v0a) x1l s1.1]) u0a (sub_cons rfl (sub_cons rfl (sub_cons rfl sub_nil))) (some_cons pick0 some_nil) fun k1 s1 x1l hN1 l1 => ?_
    refine wc_hl (rds_own pick0) fun hl2 => ?_
    by_cases hk1 : k1 < a_a.length
    · skip
      refine forO_step l1 hk1 fun _ t1 l1 => ?_
      unfold laws_markEntryS_L1 at t1
      have c1 : (decide (((k1 : Nat) : Int) < ((s1.1.length : Nat) : Int))) = true := decide_eq_true (by omega)
      have hq1 : k1 < s1.1.length := by omega
      refine wc_seq ?_
      refine wcr ?_
      refine mv rfl rfl ?_
      refine mv rfl rfl ?_
      refine wl_pure (po_lenr (rds_own pick0) el_35 rfl) rfl ?_
      refine wl_pure (po_lss rfl rfl) rfl ?_
      refine wnt ?_
      refine wc_cond_t rfl c1 ?_
      refine wc_skip ?_
      refine wq_then ?_
      refine wc_seq ?_
      refine wc_block ?_
      refine wcr ?_
      refine mv rfl rfl ?_
      refine mv rfl rfl ?_
      refine mv rfl rfl ?_
      refine wl_pure (po_ixn (k := k1) (rds_own pick0) el_35 rfl rfl hq1) rfl ?_
      refine wl_pure (po_sfldr (rds_own pick0) hq1 fo_88_0 rfl) rfl ?_
      refine wl_elem (rds_own pick0) hq1 ?_
      rintro ⟨_, _, he1⟩
      obtain ⟨w1, hc1, _⟩ := rd_GEntry.1 he1
      refine wl_ent (Ent.trans un_GEntry (take_elem pick0 hq1 hc1)) ?_
      refine wl_lenh (pickS pick0) fun hl3 => ?_
      refine wl_skipop (so_hol tk_3 (pickS pick0) rfl rfl rfl rfl rfl rfl hq1) ?_
      have hc2 := chunk_putp (o := 0) (vs := [.int .i64 s1.2]) hl3 hq1 rfl hc1 (cells' := [.int .i64 s1.2, .int .i64 ((gx s1.1 k1).Day), .int .i64 (((gx s1.1 k1).Block).Size), (sl w1)]) rfl
      refine wl_ent (put_elem pick0 (pow_GEntry (x := (GEntry.mk s1.2 ((gx s1.1 k1).Day) ((gx s1.1 k1).Block))) pick0) hq1 hc2) ?_
      refine wnt ?_
      refine wcr ?_
      refine mv rfl rfl ?_
      refine wl_pure (po_add rfl rfl) rfl ?_
      refine asg rfl rfl ?_
      refine wnt ?_
      refine wcr ?_
      refine mv rfl rfl ?_
      refine mv rfl rfl ?_
      refine mv rfl rfl ?_
      refine wl_pure (po_ixn (k := k1) (rds_own pick0) el_35 rfl rfl (set_lt hq1)) rfl ?_
      refine wl_pure (po_sfldr (rds_own pick0) (set_lt hq1) fo_88_1 rfl) rfl ?_
      refine wl_ent (Ent.trans un_GEntry (take_set pick0 hq1 hc2)) ?_
      refine wl_lenh (pickS pick0) fun hl4 => ?_
      refine wl_skipop (so_hol tk_3 (pickS pick0) rfl rfl rfl rfl rfl rfl hq1) ?_
      have hc3 := chunk_putp (o := 1) (vs := [.int .i64 (wr (s1.2 + 1))]) hl4 hq1 rfl hc2 (cells' := [.int .i64 s1.2, .int .i64 (wr (s1.2 + 1)), .int .i64 (((gx s1.1 k1).Block).Size), (sl w1)]) rfl
      refine wl_ent (put_elem pick0 (pow_GEntry (x := (GEntry.mk s1.2 (wr (s1.2 + 1)) ((gx s1.1 k1).Block))) pick0) hq1 hc3) ?_
      refine wnt ?_
      refine wcr ?_
      refine mv rfl rfl ?_
      refine wl_pure (po_add rfl rfl) rfl ?_
      refine asg rfl rfl ?_
      refine wnt ?_
      refine wcr ?_
      refine mv rfl rfl ?_
      refine mv rfl rfl ?_
      refine mv rfl rfl ?_
      refine wl_pure (po_ixn (k := k1) (rds_own pick0) el_35 rfl rfl (set_lt hq1)) rfl ?_
      refine wl_pure (po_sfldr (rds_own pick0) (set_lt hq1) fo_88_2 rfl) rfl ?_
      refine wl_pure (po_sfldr (rds_own pick0) (set_lt hq1) fo_29_0 rfl) rfl ?_
      refine wl_ent (Ent.trans un_GEntry (take_set pick0 hq1 hc3)) ?_
      refine wl_lenh (pickS pick0) fun hl5 => ?_
      refine wl_skipop (so_hol tk_3 (pickS pick0) rfl rfl rfl rfl rfl rfl hq1) ?_
      have hc4 := chunk_putp (o := 2) (vs := [.int .i64 (wr ((wr (s1.2 + 1)) + 1))]) hl5 hq1 rfl hc3 (cells' := [.int .i64 s1.2, .int .i64 (wr (s1.2 + 1)), .int .i64 (wr ((wr (s1.2 + 1)) + 1)), (sl w1)]) rfl
      refine wl_ent (put_elem pick0 (pow_GEntry (x := (GEntry.mk s1.2 (wr (s1.2 + 1)) (GBlock.mk (wr ((wr (s1.2 + 1)) + 1)) (((gx s1.1 k1).Block).Cells)))) pick0) hq1 hc4) ?_
      refine wnt ?_
      refine wcr ?_
      refine mv rfl rfl ?_
      refine wl_pure (po_add rfl rfl) rfl ?_
      refine asg rfl rfl ?_
      refine wnt ?_
      refine wc_region ?_
      refine mv rfl rfl ?_
      refine mv rfl rfl ?_
      refine wl_pure (po_ixn (k := k1) (rds_own pick0) el_35 rfl rfl (set_lt hq1)) rfl ?_
      refine wl_pure (po_sfldr (rds_own pick0) (set_lt hq1) fo_88_2 rfl) rfl ?_
      refine wl_pure (po_sfldr (rds_own pick0) (set_lt hq1) fo_29_1 rfl) rfl ?_
      refine wl_pure (v := (sl w1)) (po_ldn (rds_own pick0) tk_27 rfl hc4 rfl) rfl ?_
      refine mv rfl rfl ?_
      refine wl_ent (Ent.trans un_GEntry (take_set pick0 hq1 hc4)) ?_
      refine bdO t1 fun v1 hv1 t1 => ?_
      refine wl_call (co_o1 [ownF (sl w1) (((gx s1.1 k1).Block).Cells)] fa_100 (some_cons pick0 some_refl) rfl fun w fp hw => c_laws_markCellS w fp (((gx s1.1 k1).Block).Cells) w1 (wr ((wr ((wr (s1.2 + 1)) + 1)) + 1)) hw.ow hv1) rfl fun _ => ?_
      refine wl_ent (put_elem (pickS pick0) (pow_GEntry (x := (GEntry.mk s1.2 (wr (s1.2 + 1)) (GBlock.mk (wr ((wr (s1.2 + 1)) + 1)) v1.2))) pick0) hq1 hc4) ?_
      refine asg rfl rfl ?_
      refine wl_nil ?_
      refine wq_block ?_
      refine wq_then ?_
      refine wc_region ?_
      refine mv rfl rfl ?_
      refine wl_pure (po_inc rfl rfl (by omega)) rfl ?_
      refine asg rfl rfl ?_
      refine wl_nil ?_
      exact wq_rnd hk1 (stpN l1 t1) (put_ (put_ (put_ x1l (k1 * (Rep.sz GEntry) + 0) [.int .i64 s1.2]) (k1 * (Rep.sz GEntry) + 1) [.int .i64 (wr (s1.2 + 1))]) (k1 * (Rep.sz GEntry) + 2) [.int .i64 (wr ((wr (s1.2 + 1)) + 1))]) (sub_cons rfl (sub_cons rfl (sub_cons rfl sub_nil))) (some_cons pick0 some_nil)
    have c1 : (decide (((k1 : Nat) : Int) < ((s1.1.length : Nat) : Int))) = false := decide_eq_false (by omega)
    have en1 := forO_end l1 hk1
    refine wc_seq ?_
    refine wcr ?_
    refine mv rfl rfl ?_
    refine mv rfl rfl ?_
    refine wl_pure (po_lenr (rds_own pick0) el_35 rfl) rfl ?_
    refine wl_pure (po_lss rfl rfl) rfl ?_
    refine wnt ?_
    refine wc_cond_f rfl c1 ?_
    refine wc_exit ?_
    refine wq_then_exit ?_
    refine wq_then_exit ?_
    refine wq_block_exit ?_
    exact wj_meet _ x1l (Sum.inl.inj en1) (sub_cons rfl (sub_cons rfl sub_nil)) (some_cons pick0 some_nil)
  intro e1 x1 hp
  obtain rfl : e1 = y1 := hp.symm
  refine wq_then ?_
  refine wcr ?_
  refine mv rfl rfl ?_
  refine asg rfl rfl ?_
  refine wnt ?_
  refine wc_ret ?_
  obtain rfl := Option.some.inj t0
  exact wq_ret1 rfl rfl fun w hw => ⟨x1, rfl, hw.weak (some_cons pick0 some_nil)⟩

theorem c_laws_markBookingS (w : World) (fp : List Nat) (a_a : List GBooking) (v0a : Hd) (a_k : Int) (o : Ow w [ownF (sl v0a) a_a] fp) {r : Int × (List GBooking)} (t0 : laws_markBookingS a_a a_k = some r) : Calls Try.prog 51 #[(sl v0a), .int .i64 a_k] w fun e w' => ∃ _x : Unit, e = .returned (.int .i64 r.1) ∧ SH w fp [ownF (sl v0a) r.2] w' := by
  refine calls_of_wc_own (args := [_, _]) o Try.func51 rfl Try.ntmps51 rfl ?_
  unfold laws_markBookingS at t0
  refine wcr ?_
  refine asg rfl rfl ?_
  refine wnt ?_
  refine wc_seq ?_
  refine wcr ?_
  refine asg rfl rfl ?_
  refine wnt ?_
  refine gdO t0 fun g1 t0 => ?_
  refine wc_hl (rds_own pick0) fun hl1 => ?_
  refine lpO_inv t0 fun y1 l1 t0 => ?_
  refine wj (J := (List GBooking) × Int) (X := Unit) (fun z => y1 = z) (fun z _ => [(0, (sl v0a)), (1, .int .i64 z.2)]) (fun z _ => [ownF (sl v0a) z.1]) ?_ ?_
  · skip
    refine wc_block ?_
    refine wc_forO (X := Unit) l1 (fun k1 s1 x1l => [(0, (sl v0a)), (1, .int .i64 s1.2), (5, .int .i64 ((k1 : Nat) : Int))]) (fun k1 s1 x1l => [ownF (sl v0a) s1.1]) () (sub_cons rfl (sub_cons rfl (sub_cons rfl sub_nil))) (some_cons pick0 some_nil) fun k1 s1 x1l hN1 l1 => ?_
    refine wc_hl (rds_own pick0) fun hl2 => ?_
    by_cases hk1 : k1 < a_a.length
    · skip
      refine forO_step l1 hk1 fun _ t1 l1 => ?_
      unfold laws_markBookingS_L1 at t1
      have c1 : (decide (((k1 : Nat) : Int) < ((s1.1.length : Nat) : Int))) = true := decide_eq_true (by omega)
      have hq1 : k1 < s1.1.length := by omega
      refine wc_seq ?_
      refine wcr ?_
      refine mv rfl rfl ?_
      refine mv rfl rfl ?_
      refine wl_pure (po_lenr (rds_own pick0) el_36 rfl) rfl ?_
      refine wl_pure (po_lss rfl rfl) rfl ?_
      refine wnt ?_
      refine wc_cond_t rfl c1 ?_
      refine wc_skip ?_
      refine wq_then ?_
      refine wc_seq ?_
      refine wc_block ?_
      refine wcr ?_
      refine mv rfl rfl ?_
      refine mv rfl rfl ?_
      refine mv rfl rfl ?_
      refine wl_pure (po_ixn (k := k1) (rds_own pick0) el_36 rfl rfl hq1) rfl ?_
      refine wl_pure (po_sfldr (rds_own pick0) hq1 fo_92_0 rfl) rfl ?_
      refine wl_skipop (so_own (x' := (GBooking.mk s1.2 ((gx s1.1 k1).From) ((gx s1.1 k1).To) ((gx s1.1 k1).Sum))) tk_3 pick0 rfl rfl rfl rfl rfl rfl hq1 rfl) ?_
      refine wnt ?_
      refine wcr ?_
      refine mv rfl rfl ?_
      refine wl_pure (po_add rfl rfl) rfl ?_
      refine asg rfl rfl ?_
      refine wnt ?_
      refine wcr ?_
      refine mv rfl rfl ?_
      refine mv rfl rfl ?_
      refine mv rfl rfl ?_
      refine wl_pure (po_ixn (k := k1) (rds_own pick0) el_36 rfl rfl (set_lt hq1)) rfl ?_
      refine wl_pure (po_sfldr (rds_own pick0) (set_lt hq1) fo_92_1 rfl) rfl ?_
      refine wl_skipop (so_own2 (X := s1.1) (e := (GBooking.mk s1.2 ((gx s1.1 k1).From) ((gx s1.1 k1).To) ((gx s1.1 k1).Sum))) (x' := (GBooking.mk s1.2 (wr (s1.2 + 1)) ((gx s1.1 k1).To) ((gx s1.1 k1).Sum))) tk_3 pick0 rfl rfl rfl rfl rfl rfl hq1 rfl) ?_
      refine wnt ?_
      refine wcr ?_
      refine mv rfl rfl ?_
      refine wl_pure (po_add rfl rfl) rfl ?_
      refine asg rfl rfl ?_
      refine wnt ?_
      refine wcr ?_
      refine mv rfl rfl ?_
      refine mv rfl rfl ?_
      refine mv rfl rfl ?_
      refine wl_pure (po_ixn (k := k1) (rds_own pick0) el_36 rfl rfl (set_lt hq1)) rfl ?_
      refine wl_pure (po_sfldr (rds_own pick0) (set_lt hq1) fo_92_2 rfl) rfl ?_
      refine wl_skipop (so_own2 (X := s1.1) (e := (GBooking.mk s1.2 (wr (s1.2 + 1)) ((gx s1.1 k1).To) ((gx s1.1 k1).Sum))) (x' := (GBooking.mk s1.2 (wr (s1.2 + 1)) (wr ((wr (s1.2 + 1)) + 1)) ((gx s1.1 k1).Sum))) tk_3 pick0 rfl rfl rfl rfl rfl rfl hq1 rfl) ?_
      refine wnt ?_
      refine wcr ?_
      refine mv rfl rfl ?_
      refine wl_pure (po_add rfl rfl) rfl ?_
      refine asg rfl rfl ?_
      refine wnt ?_
      refine wcr ?_
      refine mv rfl rfl ?_
      refine mv rfl rfl ?_
      refine mv rfl rfl ?_
      refine wl_pure (po_ixn (k := k1) (rds_own pick0) el_36 rfl rfl (set_lt hq1)) rfl ?_
      refine wl_pure (po_sfldr (rds_own pick0) (set_lt hq1) fo_92_3 rfl) rfl ?_
      refine wl_skipop (so_own2 (X := s1.1) (e := (GBooking.mk s1.2 (wr (s1.2 + 1)) (wr ((wr (s1.2 + 1)) + 1)) ((gx s1.1 k1).Sum))) (x' := (GBooking.mk s1.2 (wr (s1.2 + 1)) (wr ((wr (s1.2 + 1)) + 1)) (wr ((wr ((wr (s1.2 + 1)) + 1)) + 1)))) tk_3 pick0 rfl rfl rfl rfl rfl rfl hq1 rfl) ?_
      refine wnt ?_
      refine wc_region ?_
      refine mv rfl rfl ?_
      refine wl_pure (po_add rfl rfl) rfl ?_
      refine asg rfl rfl ?_
      refine wl_nil ?_
      refine wq_block ?_
      refine wq_then ?_
      refine wc_region ?_
      refine mv rfl rfl ?_
      refine wl_pure (po_inc rfl rfl (by omega)) rfl ?_
      refine asg rfl rfl ?_
      refine wl_nil ?_
      exact wq_rnd hk1 (stpN l1 t1) () (sub_cons rfl (sub_cons rfl (sub_cons rfl sub_nil))) (some_cons pick0 some_nil)
    have c1 : (decide (((k1 : Nat) : Int) < ((s1.1.length : Nat) : Int))) = false := decide_eq_false (by omega)
    have en1 := forO_end l1 hk1
    refine wc_seq ?_
    refine wcr ?_
    refine mv rfl rfl ?_
    refine mv rfl rfl ?_
    refine wl_pure (po_lenr (rds_own pick0) el_36 rfl) rfl ?_
    refine wl_pure (po_lss rfl rfl) rfl ?_
    refine wnt ?_
    refine wc_cond_f rfl c1 ?_
    refine wc_exit ?_
    refine wq_then_exit ?_
    refine wq_then_exit ?_
    refine wq_block_exit ?_
    exact wj_meet _ () (Sum.inl.inj en1) (sub_cons rfl (sub_cons rfl sub_nil)) (some_cons pick0 some_nil)
  intro e1 _ hp
  obtain rfl : e1 = y1 := hp.symm
  refine wq_then ?_
  refine wcr ?_
  refine mv rfl rfl ?_
  refine asg rfl rfl ?_
  refine wnt ?_
  refine wc_ret ?_
  obtain rfl := Option.some.inj t0
  exact wq_ret1 rfl rfl fun w hw => ⟨(), rfl, hw.weak (some_cons pick0 some_nil)⟩

theorem c_laws_markGuild (w : World) (fp : List Nat) (a_a : GGuild) (v0a : Hd) (v1a : Hd) (v2a : Hd) (u2a : List Value) (v3a : Hd) (a_k : Int) (o : Ow w [ownF (sl v0a) a_a.Members, ownF (sl v1a) a_a.Stock, own (sl v2a) u2a a_a.Entries, ownF (sl v3a) a_a.Books] fp) {r : Int × (List GMember) × (List Int) × (List GEntry) × (List GBooking)} (t0 : laws_markGuild a_a a_k = some r) : Calls Try.prog 17 #[.agg #[(sl v0a), (sl v1a), (sl v2a), (sl v3a), .int .i64 a_a.Round, .int .i64 a_a.Year], .int .i64 a_k] w fun e w' => ∃ x : List Value, e = .returned (.int .i64 r.1) ∧ SH w fp [ownF (sl v0a) r.2.1, ownF (sl v1a) r.2.2.1, own (sl v2a) x r.2.2.2.1, ownF (sl v3a) r.2.2.2.2] w' := by
  refine calls_of_wc_own (args := [_, _]) o Try.func17 rfl Try.ntmps17 rfl ?_
  unfold laws_markGuild at t0
  refine wcr ?_
  refine wl_eff (eo_box rfl rfl) rfl fun b1 => ?_
  refine asg rfl rfl ?_
  refine wnt ?_
  refine wcr ?_
  refine wl_pure (po_fld fo_38_0 rfl) rfl ?_
  refine wl_pure (v := (sl v0a)) (po_load_box tk_33 pick0 rfl rfl) rfl ?_
  refine mv rfl rfl ?_
  refine bdO t0 fun v1 hv1 t0 => ?_
  refine wl_call (co_o1 [ownF (sl v0a) a_a.Members] fa_48 (some_cons (pickS pick0) some_refl) rfl fun w fp hw => c_laws_markMemberS w fp a_a.Members v0a a_k hw.ow hv1) rfl fun _ => ?_
  refine asg rfl rfl ?_
  refine wnt ?_
  refine wcr ?_
  refine wl_pure (po_fld fo_38_1 rfl) rfl ?_
  refine wl_pure (v := (sl v1a)) (po_load_box tk_34 (pickS pick0) rfl rfl) rfl ?_
  refine mv rfl rfl ?_
  refine bdO t0 fun v2 hv2 t0 => ?_
  refine wl_call (co_o1 [ownF (sl v1a) a_a.Stock] fa_49 (some_cons (pickS (pickS pick0)) some_refl) rfl fun w fp hw => c_laws_markIntS w fp a_a.Stock v1a v1.1 hw.ow hv2) rfl fun _ => ?_
  refine asg rfl rfl ?_
  refine wnt ?_
  refine wcr ?_
  refine wl_pure (po_fld fo_38_2 rfl) rfl ?_
  refine wl_pure (v := (sl v2a)) (po_load_box tk_35 (pickS (pickS pick0)) rfl rfl) rfl ?_
  refine mv rfl rfl ?_
  refine bdO t0 fun v3 hv3 t0 => ?_
  refine wl_call (co_o1 [own (sl v2a) u2a a_a.Entries] fa_50 (some_cons (pickS (pickS (pickS pick0))) some_refl) rfl fun w fp hw => c_laws_markEntryS w fp a_a.Entries v2a u2a v2.1 hw.ow hv3) rfl fun x1 => ?_
  refine asg rfl rfl ?_
  refine wnt ?_
  refine wcr ?_
  refine wl_pure (po_fld fo_38_3 rfl) rfl ?_
  refine wl_pure (v := (sl v3a)) (po_load_box tk_36 (pickS (pickS (pickS pick0))) rfl rfl) rfl ?_
  refine mv rfl rfl ?_
  refine bdO t0 fun v4 hv4 t0 => ?_
  refine wl_call (co_o1 [ownF (sl v3a) a_a.Books] fa_51 (some_cons (pickS (pickS (pickS (pickS pick0)))) some_refl) rfl fun w fp hw => c_laws_markBookingS w fp a_a.Books v3a v3.1 hw.ow hv4) rfl fun _ => ?_
  refine asg rfl rfl ?_
  refine wnt ?_
  refine wcr ?_
  refine mv rfl rfl ?_
  refine asg rfl rfl ?_
  refine wnt ?_
  refine wc_ret ?_
  obtain rfl := Option.some.inj t0
  exact wq_ret1 rfl rfl fun w hw => ⟨x1, rfl, hw.weak (some_cons (pickS (pickS (pickS pick0))) (some_cons (pickS (pickS pick0)) (some_cons (pickS pick0) (some_cons pick0 some_nil))))⟩

theorem c_laws_heldMemberS (w : World) (a_a : List GMember) (v0a : Hd) (r0 : rdF w (dm w []) (sl v0a) a_a) (a_k : Int) {r : Int} (t0 : laws_heldMemberS a_a a_k = some r) : Calls Try.prog 52 #[(sl v0a), .int .i64 a_k] w fun e w' => e = .returned (.int .i64 r) ∧ SH w [] [] w' := by
  refine calls_of_wc (args := [_, _]) Try.func52 rfl Try.ntmps52 rfl ?_
  unfold laws_heldMemberS at t0
  refine wcr ?_
  refine asg rfl rfl ?_
  refine wnt ?_
  refine wc_seq ?_
  refine wcr ?_
  refine asg rfl rfl ?_
  refine wnt ?_
  refine gdO t0 fun g1 t0 => ?_
  refine sqO t0 fun y1 l1 t0 => ?_
  refine wj (J := Int) (X := Unit) (fun z => y1 = .inl z) (fun z _ => [(1, .int .i64 z)]) (fun _ _ => []) ?_ ?_
  · skip
    refine wc_block ?_
    refine wc_forO (X := Unit) l1 (fun k1 s1 x1l => [(0, (sl v0a)), (1, .int .i64 s1), (5, .int .i64 ((k1 : Nat) : Int))]) (fun k1 s1 x1l => []) () (sub_cons rfl (sub_cons rfl (sub_cons rfl sub_nil))) some_nil fun k1 s1 x1l hN1 l1 => ?_
    by_cases hk1 : k1 < a_a.length
    · skip
      refine forO_step l1 hk1 fun _ t1 l1 => ?_
      unfold laws_heldMemberS_L1 at t1
      have c1 : (decide (((k1 : Nat) : Int) < ((a_a.length : Nat) : Int))) = true := decide_eq_true (by omega)
      refine wc_seq ?_
      refine wcr ?_
      refine mv rfl rfl ?_
      refine mv rfl rfl ?_
      refine wl_pure (po_lenr (rds_arg r0) el_33 rfl) rfl ?_
      refine wl_pure (po_lss rfl rfl) rfl ?_
      refine wnt ?_
      refine wc_cond_t rfl c1 ?_
      refine wc_skip ?_
      refine wq_then ?_
      refine wc_seq ?_
      refine wc_block ?_
      refine wc_seq ?_
      refine wcr ?_
      refine mv rfl rfl ?_
      refine mv rfl rfl ?_
      refine wl_pure (po_ixn (k := k1) (rds_arg r0) el_33 rfl rfl hk1) rfl ?_
      refine wl_pure (po_sfldr (rds_arg r0) hk1 fo_113_0 rfl) rfl ?_
      refine wl_pure (v := .int .i64 ((gx a_a k1).Number)) (po_ldf (rds_arg r0) tk_3 rfl hk1 rfl) rfl ?_
      refine mv rfl rfl ?_
      refine wl_pure (po_neq rfl rfl) rfl ?_
      refine wnt ?_
      refine wcO t1 rfl (fun h1 t1 => ?_) fun h1 t1 => ?_
      · skip
        refine wcr ?_
        refine asg rfl rfl ?_
        refine wnt ?_
        refine wc_ret ?_
        refine wq_then_ret ?_
        refine wq_block_ret ?_
        refine wq_then_ret ?_
        refine wq_then_ret ?_
        refine wq_block_ret ?_
        refine wq_then_ret ?_
        refine wq_then_ret ?_
        replace t0 := lpR t0 l1 t1
        obtain rfl := Option.some.inj t0
        exact wq_ret1 rfl rfl fun w hw => ⟨rfl, hw.weak some_nil⟩
      refine wc_skip ?_
      refine wq_then ?_
      refine wcr ?_
      refine mv rfl rfl ?_
      refine wl_pure (po_add rfl rfl) rfl ?_
      refine asg rfl rfl ?_
      refine wnt ?_
      refine wc_seq ?_
      refine wcr ?_
      refine mv rfl rfl ?_
      refine mv rfl rfl ?_
      refine wl_pure (po_ixn (k := k1) (rds_arg r0) el_33 rfl rfl hk1) rfl ?_
      refine wl_pure (po_sfldr (rds_arg r0) hk1 fo_113_1 rfl) rfl ?_
      refine wl_pure (v := .int .i64 ((gx a_a k1).Since)) (po_ldf (rds_arg r0) tk_3 rfl hk1 rfl) rfl ?_
      refine mv rfl rfl ?_
      refine wl_pure (po_neq rfl rfl) rfl ?_
      refine wnt ?_
      refine wcO t1 rfl (fun h2 t1 => ?_) fun h2 t1 => ?_
      · skip
        refine wcr ?_
        refine asg rfl rfl ?_
        refine wnt ?_
        refine wc_ret ?_
        refine wq_then_ret ?_
        refine wq_block_ret ?_
        refine wq_then_ret ?_
        refine wq_then_ret ?_
        refine wq_block_ret ?_
        refine wq_then_ret ?_
        refine wq_then_ret ?_
        replace t0 := lpR t0 l1 t1
        obtain rfl := Option.some.inj t0
        exact wq_ret1 rfl rfl fun w hw => ⟨rfl, hw.weak some_nil⟩
      refine wc_skip ?_
      refine wq_then ?_
      refine wcr ?_
      refine mv rfl rfl ?_
      refine wl_pure (po_add rfl rfl) rfl ?_
      refine asg rfl rfl ?_
      refine wnt ?_
      refine wc_seq ?_
      refine wcr ?_
      refine mv rfl rfl ?_
      refine mv rfl rfl ?_
      refine wl_pure (po_ixn (k := k1) (rds_arg r0) el_33 rfl rfl hk1) rfl ?_
      refine wl_pure (po_sfldr (rds_arg r0) hk1 fo_113_2 rfl) rfl ?_
      refine wl_pure (v := .int .i64 ((gx a_a k1).Paid)) (po_ldf (rds_arg r0) tk_3 rfl hk1 rfl) rfl ?_
      refine mv rfl rfl ?_
      refine wl_pure (po_neq rfl rfl) rfl ?_
      refine wnt ?_
      refine wcO t1 rfl (fun h3 t1 => ?_) fun h3 t1 => ?_
      · skip
        refine wcr ?_
        refine asg rfl rfl ?_
        refine wnt ?_
        refine wc_ret ?_
        refine wq_then_ret ?_
        refine wq_block_ret ?_
        refine wq_then_ret ?_
        refine wq_then_ret ?_
        refine wq_block_ret ?_
        refine wq_then_ret ?_
        refine wq_then_ret ?_
        replace t0 := lpR t0 l1 t1
        obtain rfl := Option.some.inj t0
        exact wq_ret1 rfl rfl fun w hw => ⟨rfl, hw.weak some_nil⟩
      refine wc_skip ?_
      refine wq_then ?_
      refine wc_region ?_
      refine mv rfl rfl ?_
      refine wl_pure (po_add rfl rfl) rfl ?_
      refine asg rfl rfl ?_
      refine wl_nil ?_
      refine wq_block ?_
      refine wq_then ?_
      refine wc_region ?_
      refine mv rfl rfl ?_
      refine wl_pure (po_inc rfl rfl (by omega)) rfl ?_
      refine asg rfl rfl ?_
      refine wl_nil ?_
      exact wq_rnd hk1 (stpN l1 t1) () (sub_cons rfl (sub_cons rfl (sub_cons rfl sub_nil))) some_nil
    have c1 : (decide (((k1 : Nat) : Int) < ((a_a.length : Nat) : Int))) = false := decide_eq_false (by omega)
    have en1 := forO_end l1 hk1
    refine wc_seq ?_
    refine wcr ?_
    refine mv rfl rfl ?_
    refine mv rfl rfl ?_
    refine wl_pure (po_lenr (rds_arg r0) el_33 rfl) rfl ?_
    refine wl_pure (po_lss rfl rfl) rfl ?_
    refine wnt ?_
    refine wc_cond_f rfl c1 ?_
    refine wc_exit ?_
    refine wq_then_exit ?_
    refine wq_then_exit ?_
    refine wq_block_exit ?_
    exact wj_meet _ () en1 (sub_cons rfl sub_nil) some_nil
  intro e1 _ hp
  replace t0 := sqE (j := e1) t0 hp
  refine wq_then ?_
  refine wcr ?_
  refine mv rfl rfl ?_
  refine asg rfl rfl ?_
  refine wnt ?_
  refine wc_ret ?_
  obtain rfl := Option.some.inj t0
  exact wq_ret1 rfl rfl fun w hw => ⟨rfl, hw.weak some_nil⟩

theorem c_laws_heldIntS (w : World) (a_a : List Int) (v0a : Hd) (r0 : rdF w (dm w []) (sl v0a) a_a) (a_k : Int) {r : Int} (t0 : laws_heldIntS a_a a_k = some r) : Calls Try.prog 53 #[(sl v0a), .int .i64 a_k] w fun e w' => e = .returned (.int .i64 r) ∧ SH w [] [] w' := by
  refine calls_of_wc (args := [_, _]) Try.func53 rfl Try.ntmps53 rfl ?_
  unfold laws_heldIntS at t0
  refine wcr ?_
  refine asg rfl rfl ?_
  refine wnt ?_
  refine wc_seq ?_
  refine wcr ?_
  refine asg rfl rfl ?_
  refine wnt ?_
  refine gdO t0 fun g1 t0 => ?_
  refine sqO t0 fun y1 l1 t0 => ?_
  refine wj (J := Int) (X := Unit) (fun z => y1 = .inl z) (fun z _ => [(1, .int .i64 z)]) (fun _ _ => []) ?_ ?_
  · skip
    refine wc_block ?_
    refine wc_forO (X := Unit) l1 (fun k1 s1 x1l => [(0, (sl v0a)), (1, .int .i64 s1), (5, .int .i64 ((k1 : Nat) : Int))]) (fun k1 s1 x1l => []) () (sub_cons rfl (sub_cons rfl (sub_cons rfl sub_nil))) some_nil fun k1 s1 x1l hN1 l1 => ?_
    by_cases hk1 : k1 < a_a.length
    · skip
      refine forO_step l1 hk1 fun _ t1 l1 => ?_
      unfold laws_heldIntS_L1 at t1
      have c1 : (decide (((k1 : Nat) : Int) < ((a_a.length : Nat) : Int))) = true := decide_eq_true (by omega)
      refine wc_seq ?_
      refine wcr ?_
      refine mv rfl rfl ?_
      refine mv rfl rfl ?_
      refine wl_pure (po_lenr (rds_arg r0) el_34 rfl) rfl ?_
      refine wl_pure (po_lss rfl rfl) rfl ?_
      refine wnt ?_
      refine wc_cond_t rfl c1 ?_
      refine wc_skip ?_
      refine wq_then ?_
      refine wc_seq ?_
      refine wc_block ?_
      refine wc_seq ?_
      refine wcr ?_
      refine mv rfl rfl ?_
      refine mv rfl rfl ?_
      refine wl_pure (po_ixn (k := k1) (rds_arg r0) el_34 rfl rfl hk1) rfl ?_
      refine wl_pure (v := .int .i64 (gx a_a k1)) (po_ldf (rds_arg r0) tk_3 rfl hk1 rfl) rfl ?_
      refine mv rfl rfl ?_
      refine wl_pure (po_neq rfl rfl) rfl ?_
      refine wnt ?_
      refine wcO t1 rfl (fun h1 t1 => ?_) fun h1 t1 => ?_
      · skip
        refine wcr ?_
        refine asg rfl rfl ?_
        refine wnt ?_
        refine wc_ret ?_
        refine wq_then_ret ?_
        refine wq_block_ret ?_
        refine wq_then_ret ?_
        refine wq_then_ret ?_
        refine wq_block_ret ?_
        refine wq_then_ret ?_
        refine wq_then_ret ?_
        replace t0 := lpR t0 l1 t1
        obtain rfl := Option.some.inj t0
        exact wq_ret1 rfl rfl fun w hw => ⟨rfl, hw.weak some_nil⟩
      refine wc_skip ?_
      refine wq_then ?_
      refine wc_region ?_
      refine mv rfl rfl ?_
      refine wl_pure (po_add rfl rfl) rfl ?_
      refine asg rfl rfl ?_
      refine wl_nil ?_
      refine wq_block ?_
      refine wq_then ?_
      refine wc_region ?_
      refine mv rfl rfl ?_
      refine wl_pure (po_inc rfl rfl (by omega)) rfl ?_
      refine asg rfl rfl ?_
      refine wl_nil ?_
      exact wq_rnd hk1 (stpN l1 t1) () (sub_cons rfl (sub_cons rfl (sub_cons rfl sub_nil))) some_nil
    have c1 : (decide (((k1 : Nat) : Int) < ((a_a.length : Nat) : Int))) = false := decide_eq_false (by omega)
    have en1 := forO_end l1 hk1
    refine wc_seq ?_
    refine wcr ?_
    refine mv rfl rfl ?_
    refine mv rfl rfl ?_
    refine wl_pure (po_lenr (rds_arg r0) el_34 rfl) rfl ?_
    refine wl_pure (po_lss rfl rfl) rfl ?_
    refine wnt ?_
    refine wc_cond_f rfl c1 ?_
    refine wc_exit ?_
    refine wq_then_exit ?_
    refine wq_then_exit ?_
    refine wq_block_exit ?_
    exact wj_meet _ () en1 (sub_cons rfl sub_nil) some_nil
  intro e1 _ hp
  replace t0 := sqE (j := e1) t0 hp
  refine wq_then ?_
  refine wcr ?_
  refine mv rfl rfl ?_
  refine asg rfl rfl ?_
  refine wnt ?_
  refine wc_ret ?_
  obtain rfl := Option.some.inj t0
  exact wq_ret1 rfl rfl fun w hw => ⟨rfl, hw.weak some_nil⟩

theorem c_laws_heldCellS (w : World) (a_a : List GCell) (v0a : Hd) (r0 : rdF w (dm w []) (sl v0a) a_a) (a_k : Int) {r : Int} (t0 : laws_heldCellS a_a a_k = some r) : Calls Try.prog 101 #[(sl v0a), .int .i64 a_k] w fun e w' => e = .returned (.int .i64 r) ∧ SH w [] [] w' := by
  refine calls_of_wc (args := [_, _]) Try.func101 rfl Try.ntmps101 rfl ?_
  unfold laws_heldCellS at t0
  refine wcr ?_
  refine asg rfl rfl ?_
  refine wnt ?_
  refine wc_seq ?_
  refine wcr ?_
  refine asg rfl rfl ?_
  refine wnt ?_
  refine gdO t0 fun g1 t0 => ?_
  refine sqO t0 fun y1 l1 t0 => ?_
  refine wj (J := Int) (X := Unit) (fun z => y1 = .inl z) (fun z _ => [(1, .int .i64 z)]) (fun _ _ => []) ?_ ?_
  · skip
    refine wc_block ?_
    refine wc_forO (X := Unit) l1 (fun k1 s1 x1l => [(0, (sl v0a)), (1, .int .i64 s1), (5, .int .i64 ((k1 : Nat) : Int))]) (fun k1 s1 x1l => []) () (sub_cons rfl (sub_cons rfl (sub_cons rfl sub_nil))) some_nil fun k1 s1 x1l hN1 l1 => ?_
    by_cases hk1 : k1 < a_a.length
    · skip
      refine forO_step l1 hk1 fun _ t1 l1 => ?_
      unfold laws_heldCellS_L1 at t1
      have c1 : (decide (((k1 : Nat) : Int) < ((a_a.length : Nat) : Int))) = true := decide_eq_true (by omega)
      refine wc_seq ?_
      refine wcr ?_
      refine mv rfl rfl ?_
      refine mv rfl rfl ?_
      refine wl_pure (po_lenr (rds_arg r0) el_27 rfl) rfl ?_
      refine wl_pure (po_lss rfl rfl) rfl ?_
      refine wnt ?_
      refine wc_cond_t rfl c1 ?_
      refine wc_skip ?_
      refine wq_then ?_
      refine wc_seq ?_
      refine wc_block ?_
      refine wc_seq ?_
      refine wcr ?_
      refine mv rfl rfl ?_
      refine mv rfl rfl ?_
      refine wl_pure (po_ixn (k := k1) (rds_arg r0) el_27 rfl rfl hk1) rfl ?_
      refine wl_pure (po_sfldr (rds_arg r0) hk1 fo_99_0 rfl) rfl ?_
      refine wl_pure (v := .int .i64 ((gx a_a k1).Split)) (po_ldf (rds_arg r0) tk_3 rfl hk1 rfl) rfl ?_
      refine mv rfl rfl ?_
      refine wl_pure (po_neq rfl rfl) rfl ?_
      refine wnt ?_
      refine wcO t1 rfl (fun h1 t1 => ?_) fun h1 t1 => ?_
      · skip
        refine wcr ?_
        refine asg rfl rfl ?_
        refine wnt ?_
        refine wc_ret ?_
        refine wq_then_ret ?_
        refine wq_block_ret ?_
        refine wq_then_ret ?_
        refine wq_then_ret ?_
        refine wq_block_ret ?_
        refine wq_then_ret ?_
        refine wq_then_ret ?_
        replace t0 := lpR t0 l1 t1
        obtain rfl := Option.some.inj t0
        exact wq_ret1 rfl rfl fun w hw => ⟨rfl, hw.weak some_nil⟩
      refine wc_skip ?_
      refine wq_then ?_
      refine wcr ?_
      refine mv rfl rfl ?_
      refine wl_pure (po_add rfl rfl) rfl ?_
      refine asg rfl rfl ?_
      refine wnt ?_
      refine wc_seq ?_
      refine wcr ?_
      refine mv rfl rfl ?_
      refine mv rfl rfl ?_
      refine wl_pure (po_ixn (k := k1) (rds_arg r0) el_27 rfl rfl hk1) rfl ?_
      refine wl_pure (po_sfldr (rds_arg r0) hk1 fo_99_1 rfl) rfl ?_
      refine wl_pure (v := .int .i64 ((gx a_a k1).A)) (po_ldf (rds_arg r0) tk_3 rfl hk1 rfl) rfl ?_
      refine mv rfl rfl ?_
      refine wl_pure (po_neq rfl rfl) rfl ?_
      refine wnt ?_
      refine wcO t1 rfl (fun h2 t1 => ?_) fun h2 t1 => ?_
      · skip
        refine wcr ?_
        refine asg rfl rfl ?_
        refine wnt ?_
        refine wc_ret ?_
        refine wq_then_ret ?_
        refine wq_block_ret ?_
        refine wq_then_ret ?_
        refine wq_then_ret ?_
        refine wq_block_ret ?_
        refine wq_then_ret ?_
        refine wq_then_ret ?_
        replace t0 := lpR t0 l1 t1
        obtain rfl := Option.some.inj t0
        exact wq_ret1 rfl rfl fun w hw => ⟨rfl, hw.weak some_nil⟩
      refine wc_skip ?_
      refine wq_then ?_
      refine wcr ?_
      refine mv rfl rfl ?_
      refine wl_pure (po_add rfl rfl) rfl ?_
      refine asg rfl rfl ?_
      refine wnt ?_
      refine wc_seq ?_
      refine wcr ?_
      refine mv rfl rfl ?_
      refine mv rfl rfl ?_
      refine wl_pure (po_ixn (k := k1) (rds_arg r0) el_27 rfl rfl hk1) rfl ?_
      refine wl_pure (po_sfldr (rds_arg r0) hk1 fo_99_2 rfl) rfl ?_
      refine wl_pure (v := .int .i64 ((gx a_a k1).B)) (po_ldf (rds_arg r0) tk_3 rfl hk1 rfl) rfl ?_
      refine mv rfl rfl ?_
      refine wl_pure (po_neq rfl rfl) rfl ?_
      refine wnt ?_
      refine wcO t1 rfl (fun h3 t1 => ?_) fun h3 t1 => ?_
      · skip
        refine wcr ?_
        refine asg rfl rfl ?_
        refine wnt ?_
        refine wc_ret ?_
        refine wq_then_ret ?_
        refine wq_block_ret ?_
        refine wq_then_ret ?_
        refine wq_then_ret ?_
        refine wq_block_ret ?_
        refine wq_then_ret ?_
        refine wq_then_ret ?_
        replace t0 := lpR t0 l1 t1
        obtain rfl := Option.some.inj t0
        exact wq_ret1 rfl rfl fun w hw => ⟨rfl, hw.weak some_nil⟩
      refine wc_skip ?_
      refine wq_then ?_
      refine wc_region ?_
      refine mv rfl rfl ?_
      refine wl_pure (po_add rfl rfl) rfl ?_
      refine asg rfl rfl ?_
      refine wl_nil ?_
      refine wq_block ?_
      refine wq_then ?_
      refine wc_region ?_
      refine mv rfl rfl ?_
      refine wl_pure (po_inc rfl rfl (by omega)) rfl ?_
      refine asg rfl rfl ?_
      refine wl_nil ?_
      exact wq_rnd hk1 (stpN l1 t1) () (sub_cons rfl (sub_cons rfl (sub_cons rfl sub_nil))) some_nil
    have c1 : (decide (((k1 : Nat) : Int) < ((a_a.length : Nat) : Int))) = false := decide_eq_false (by omega)
    have en1 := forO_end l1 hk1
    refine wc_seq ?_
    refine wcr ?_
    refine mv rfl rfl ?_
    refine mv rfl rfl ?_
    refine wl_pure (po_lenr (rds_arg r0) el_27 rfl) rfl ?_
    refine wl_pure (po_lss rfl rfl) rfl ?_
    refine wnt ?_
    refine wc_cond_f rfl c1 ?_
    refine wc_exit ?_
    refine wq_then_exit ?_
    refine wq_then_exit ?_
    refine wq_block_exit ?_
    exact wj_meet _ () en1 (sub_cons rfl sub_nil) some_nil
  intro e1 _ hp
  replace t0 := sqE (j := e1) t0 hp
  refine wq_then ?_
  refine wcr ?_
  refine mv rfl rfl ?_
  refine asg rfl rfl ?_
  refine wnt ?_
  refine wc_ret ?_
  obtain rfl := Option.some.inj t0
  exact wq_ret1 rfl rfl fun w hw => ⟨rfl, hw.weak some_nil⟩

theorem c_laws_heldEntryS (w : World) (a_a : List GEntry) (v0a : Hd) (u0a : List Value) (r0 : RdL w (dm w []) (sl v0a) u0a a_a) (a_k : Int) {r : Int} (t0 : laws_heldEntryS a_a a_k = some r) : Calls Try.prog 54 #[(sl v0a), .int .i64 a_k] w fun e w' => e = .returned (.int .i64 r) ∧ SH w [] [] w' := by
  refine calls_of_wc (args := [_, _]) Try.func54 rfl Try.ntmps54 rfl ?_
  unfold laws_heldEntryS at t0
  refine wcr ?_
  refine asg rfl rfl ?_
  refine wnt ?_
  refine wc_seq ?_
  refine wcr ?_
  refine asg rfl rfl ?_
  refine wnt ?_
  refine gdO t0 fun g1 t0 => ?_
  refine sqO t0 fun y1 l1 t0 => ?_
  refine wj (J := Int) (X := Unit) (fun z => y1 = .inl z) (fun z _ => [(1, .int .i64 z)]) (fun _ _ => []) ?_ ?_
  · skip
    refine wc_block ?_
    refine wc_forO (X := Unit) l1 (fun k1 s1 x1l => [(0, (sl v0a)), (1, .int .i64 s1), (5, .int .i64 ((k1 : Nat) : Int))]) (fun k1 s1 x1l => []) () (sub_cons rfl (sub_cons rfl (sub_cons rfl sub_nil))) some_nil fun k1 s1 x1l hN1 l1 => ?_
    by_cases hk1 : k1 < a_a.length
    · skip
      refine forO_step l1 hk1 fun _ t1 l1 => ?_
      unfold laws_heldEntryS_L1 at t1
      have c1 : (decide (((k1 : Nat) : Int) < ((a_a.length : Nat) : Int))) = true := decide_eq_true (by omega)
      refine wc_seq ?_
      refine wcr ?_
      refine mv rfl rfl ?_
      refine mv rfl rfl ?_
      refine wl_pure (po_lenr (rds_arg r0) el_35 rfl) rfl ?_
      refine wl_pure (po_lss rfl rfl) rfl ?_
      refine wnt ?_
      refine wc_cond_t rfl c1 ?_
      refine wc_skip ?_
      refine wq_then ?_
      refine wc_seq ?_
      refine wc_block ?_
      refine wc_seq ?_
      refine wcr ?_
      refine mv rfl rfl ?_
      refine mv rfl rfl ?_
      refine wl_pure (po_ixn (k := k1) (rds_arg r0) el_35 rfl rfl hk1) rfl ?_
      refine wl_pure (po_sfldr (rds_arg r0) hk1 fo_88_0 rfl) rfl ?_
      refine wl_elem (rds_arg r0) hk1 ?_
      rintro ⟨_, _, he1⟩
      obtain ⟨w1, hc1, _⟩ := rd_GEntry.1 he1
      refine wl_pure (v := .int .i64 ((gx a_a k1).Owner)) (po_ldn (rds_arg r0) tk_3 rfl hc1 rfl) rfl ?_
      refine mv rfl rfl ?_
      refine wl_pure (po_neq rfl rfl) rfl ?_
      refine wnt ?_
      refine wcO t1 rfl (fun h1 t1 => ?_) fun h1 t1 => ?_
      · skip
        refine wcr ?_
        refine asg rfl rfl ?_
        refine wnt ?_
        refine wc_ret ?_
        refine wq_then_ret ?_
        refine wq_block_ret ?_
        refine wq_then_ret ?_
        refine wq_then_ret ?_
        refine wq_block_ret ?_
        refine wq_then_ret ?_
        refine wq_then_ret ?_
        replace t0 := lpR t0 l1 t1
        obtain rfl := Option.some.inj t0
        exact wq_ret1 rfl rfl fun w hw => ⟨rfl, hw.weak some_nil⟩
      refine wc_skip ?_
      refine wq_then ?_
      refine wcr ?_
      refine mv rfl rfl ?_
      refine wl_pure (po_add rfl rfl) rfl ?_
      refine asg rfl rfl ?_
      refine wnt ?_
      refine wc_seq ?_
      refine wcr ?_
      refine mv rfl rfl ?_
      refine mv rfl rfl ?_
      refine wl_pure (po_ixn (k := k1) (rds_arg r0) el_35 rfl rfl hk1) rfl ?_
      refine wl_pure (po_sfldr (rds_arg r0) hk1 fo_88_1 rfl) rfl ?_
      refine wl_pure (v := .int .i64 ((gx a_a k1).Day)) (po_ldn (rds_arg r0) tk_3 rfl hc1 rfl) rfl ?_
      refine mv rfl rfl ?_
      refine wl_pure (po_neq rfl rfl) rfl ?_
      refine wnt ?_
      refine wcO t1 rfl (fun h2 t1 => ?_) fun h2 t1 => ?_
      · skip
        refine wcr ?_
        refine asg rfl rfl ?_
        refine wnt ?_
        refine wc_ret ?_
        refine wq_then_ret ?_
        refine wq_block_ret ?_
        refine wq_then_ret ?_
        refine wq_then_ret ?_
        refine wq_block_ret ?_
        refine wq_then_ret ?_
        refine wq_then_ret ?_
        replace t0 := lpR t0 l1 t1
        obtain rfl := Option.some.inj t0
        exact wq_ret1 rfl rfl fun w hw => ⟨rfl, hw.weak some_nil⟩
      refine wc_skip ?_
      refine wq_then ?_
      refine wcr ?_
      refine mv rfl rfl ?_
      refine wl_pure (po_add rfl rfl) rfl ?_
      refine asg rfl rfl ?_
      refine wnt ?_
      refine wc_seq ?_
      refine wcr ?_
      refine mv rfl rfl ?_
      refine mv rfl rfl ?_
      refine wl_pure (po_ixn (k := k1) (rds_arg r0) el_35 rfl rfl hk1) rfl ?_
      refine wl_pure (po_sfldr (rds_arg r0) hk1 fo_88_2 rfl) rfl ?_
      refine wl_pure (po_sfldr (rds_arg r0) hk1 fo_29_0 rfl) rfl ?_
      refine wl_pure (v := .int .i64 (((gx a_a k1).Block).Size)) (po_ldn (rds_arg r0) tk_3 rfl hc1 rfl) rfl ?_
      refine mv rfl rfl ?_
      refine wl_pure (po_neq rfl rfl) rfl ?_
      refine wnt ?_
      refine wcO t1 rfl (fun h3 t1 => ?_) fun h3 t1 => ?_
      · skip
        refine wcr ?_
        refine asg rfl rfl ?_
        refine wnt ?_
        refine wc_ret ?_
        refine wq_then_ret ?_
        refine wq_block_ret ?_
        refine wq_then_ret ?_
        refine wq_then_ret ?_
        refine wq_block_ret ?_
        refine wq_then_ret ?_
        refine wq_then_ret ?_
        replace t0 := lpR t0 l1 t1
        obtain rfl := Option.some.inj t0
        exact wq_ret1 rfl rfl fun w hw => ⟨rfl, hw.weak some_nil⟩
      refine wc_skip ?_
      refine wq_then ?_
      refine wcr ?_
      refine mv rfl rfl ?_
      refine wl_pure (po_add rfl rfl) rfl ?_
      refine asg rfl rfl ?_
      refine wnt ?_
      refine wcr ?_
      refine mv rfl rfl ?_
      refine mv rfl rfl ?_
      refine wl_pure (po_ixn (k := k1) (rds_arg r0) el_35 rfl rfl hk1) rfl ?_
      refine wl_pure (po_sfldr (rds_arg r0) hk1 fo_88_2 rfl) rfl ?_
      refine wl_pure (po_sfldr (rds_arg r0) hk1 fo_29_1 rfl) rfl ?_
      refine wl_pure (v := (sl w1)) (po_ldn (rds_arg r0) tk_27 rfl hc1 rfl) rfl ?_
      refine mv rfl rfl ?_
      refine bdO t1 fun v1 hv1 t1 => ?_
      refine wl_call (co_c0 fa_101 rfl fun w hw => c_laws_heldCellS w (((gx a_a k1).Block).Cells) w1 (Rg.on (er_GEntry_0 hc1 (rds_arg r0) hk1) hw) (wr ((wr ((wr (s1 + 1)) + 1)) + 1)) hv1) rfl fun _ => ?_
      refine asg rfl rfl ?_
      refine wnt ?_
      refine wcr ?_
      refine mv rfl rfl ?_
      refine wl_pure (po_lss rfl rfl) rfl ?_
      refine wnt ?_
      refine wcO t1 rfl (fun h4 t1 => ?_) fun h4 t1 => ?_
      · skip
        refine wcr ?_
        refine asg rfl rfl ?_
        refine wnt ?_
        refine wc_ret ?_
        refine wq_block_ret ?_
        refine wq_then_ret ?_
        refine wq_then_ret ?_
        refine wq_block_ret ?_
        refine wq_then_ret ?_
        refine wq_then_ret ?_
        replace t0 := lpR t0 l1 t1
        obtain rfl := Option.some.inj t0
        exact wq_ret1 rfl rfl fun w hw => ⟨rfl, hw.weak some_nil⟩
      refine wc_skip ?_
      refine wq_block ?_
      refine wq_then ?_
      refine wc_region ?_
      refine mv rfl rfl ?_
      refine wl_pure (po_inc rfl rfl (by omega)) rfl ?_
      refine asg rfl rfl ?_
      refine wl_nil ?_
      exact wq_rnd hk1 (stpN l1 t1) () (sub_cons rfl (sub_cons rfl (sub_cons rfl sub_nil))) some_nil
    have c1 : (decide (((k1 : Nat) : Int) < ((a_a.length : Nat) : Int))) = false := decide_eq_false (by omega)
    have en1 := forO_end l1 hk1
    refine wc_seq ?_
    refine wcr ?_
    refine mv rfl rfl ?_
    refine mv rfl rfl ?_
    refine wl_pure (po_lenr (rds_arg r0) el_35 rfl) rfl ?_
    refine wl_pure (po_lss rfl rfl) rfl ?_
    refine wnt ?_
    refine wc_cond_f rfl c1 ?_
    refine wc_exit ?_
    refine wq_then_exit ?_
    refine wq_then_exit ?_
    refine wq_block_exit ?_
    exact wj_meet _ () en1 (sub_cons rfl sub_nil) some_nil
  intro e1 _ hp
  replace t0 := sqE (j := e1) t0 hp
  refine wq_then ?_
  refine wcr ?_
  refine mv rfl rfl ?_
  refine asg rfl rfl ?_
  refine wnt ?_
  refine wc_ret ?_
  obtain rfl := Option.some.inj t0
  exact wq_ret1 rfl rfl fun w hw => ⟨rfl, hw.weak some_nil⟩

theorem c_laws_heldBookingS (w : World) (a_a : List GBooking) (v0a : Hd) (r0 : rdF w (dm w []) (sl v0a) a_a) (a_k : Int) {r : Int} (t0 : laws_heldBookingS a_a a_k = some r) : Calls Try.prog 55 #[(sl v0a), .int .i64 a_k] w fun e w' => e = .returned (.int .i64 r) ∧ SH w [] [] w' := by
  refine calls_of_wc (args := [_, _]) Try.func55 rfl Try.ntmps55 rfl ?_
  unfold laws_heldBookingS at t0
  refine wcr ?_
  refine asg rfl rfl ?_
  refine wnt ?_
  refine wc_seq ?_
  refine wcr ?_
  refine asg rfl rfl ?_
  refine wnt ?_
  refine gdO t0 fun g1 t0 => ?_
  refine sqO t0 fun y1 l1 t0 => ?_
  refine wj (J := Int) (X := Unit) (fun z => y1 = .inl z) (fun z _ => [(1, .int .i64 z)]) (fun _ _ => []) ?_ ?_
  · skip
    refine wc_block ?_
    refine wc_forO (X := Unit) l1 (fun k1 s1 x1l => [(0, (sl v0a)), (1, .int .i64 s1), (5, .int .i64 ((k1 : Nat) : Int))]) (fun k1 s1 x1l => []) () (sub_cons rfl (sub_cons rfl (sub_cons rfl sub_nil))) some_nil fun k1 s1 x1l hN1 l1 => ?_
    by_cases hk1 : k1 < a_a.length
    · skip
      refine forO_step l1 hk1 fun _ t1 l1 => ?_
      unfold laws_heldBookingS_L1 at t1
      have c1 : (decide (((k1 : Nat) : Int) < ((a_a.length : Nat) : Int))) = true := decide_eq_true (by omega)
      refine wc_seq ?_
      refine wcr ?_
      refine mv rfl rfl ?_
      refine mv rfl rfl ?_
      refine wl_pure (po_lenr (rds_arg r0) el_36 rfl) rfl ?_
      refine wl_pure (po_lss rfl rfl) rfl ?_
      refine wnt ?_
      refine wc_cond_t rfl c1 ?_
      refine wc_skip ?_
      refine wq_then ?_
      refine wc_seq ?_
      refine wc_block ?_
      refine wc_seq ?_
      refine wcr ?_
      refine mv rfl rfl ?_
      refine mv rfl rfl ?_
      refine wl_pure (po_ixn (k := k1) (rds_arg r0) el_36 rfl rfl hk1) rfl ?_
      refine wl_pure (po_sfldr (rds_arg r0) hk1 fo_92_0 rfl) rfl ?_
      refine wl_pure (v := .int .i64 ((gx a_a k1).Day)) (po_ldf (rds_arg r0) tk_3 rfl hk1 rfl) rfl ?_
      refine mv rfl rfl ?_
      refine wl_pure (po_neq rfl rfl) rfl ?_
      refine wnt ?_
      refine wcO t1 rfl (fun h1 t1 => ?_) fun h1 t1 => ?_
      · skip
        refine wcr ?_
        refine asg rfl rfl ?_
        refine wnt ?_
        refine wc_ret ?_
        refine wq_then_ret ?_
        refine wq_block_ret ?_
        refine wq_then_ret ?_
        refine wq_then_ret ?_
        refine wq_block_ret ?_
        refine wq_then_ret ?_
        refine wq_then_ret ?_
        replace t0 := lpR t0 l1 t1
        obtain rfl := Option.some.inj t0
        exact wq_ret1 rfl rfl fun w hw => ⟨rfl, hw.weak some_nil⟩
      refine wc_skip ?_
      refine wq_then ?_
      refine wcr ?_
      refine mv rfl rfl ?_
      refine wl_pure (po_add rfl rfl) rfl ?_
      refine asg rfl rfl ?_
      refine wnt ?_
      refine wc_seq ?_
      refine wcr ?_
      refine mv rfl rfl ?_
      refine mv rfl rfl ?_
      refine wl_pure (po_ixn (k := k1) (rds_arg r0) el_36 rfl rfl hk1) rfl ?_
      refine wl_pure (po_sfldr (rds_arg r0) hk1 fo_92_1 rfl) rfl ?_
      refine wl_pure (v := .int .i64 ((gx a_a k1).From)) (po_ldf (rds_arg r0) tk_3 rfl hk1 rfl) rfl ?_
      refine mv rfl rfl ?_
      refine wl_pure (po_neq rfl rfl) rfl ?_
      refine wnt ?_
      refine wcO t1 rfl (fun h2 t1 => ?_) fun h2 t1 => ?_
      · skip
        refine wcr ?_
        refine asg rfl rfl ?_
        refine wnt ?_
        refine wc_ret ?_
        refine wq_then_ret ?_
        refine wq_block_ret ?_
        refine wq_then_ret ?_
        refine wq_then_ret ?_
        refine wq_block_ret ?_
        refine wq_then_ret ?_
        refine wq_then_ret ?_
        replace t0 := lpR t0 l1 t1
        obtain rfl := Option.some.inj t0
        exact wq_ret1 rfl rfl fun w hw => ⟨rfl, hw.weak some_nil⟩
      refine wc_skip ?_
      refine wq_then ?_
      refine wcr ?_
      refine mv rfl rfl ?_
      refine wl_pure (po_add rfl rfl) rfl ?_
      refine asg rfl rfl ?_
      refine wnt ?_
      refine wc_seq ?_
      refine wcr ?_
      refine mv rfl rfl ?_
      refine mv rfl rfl ?_
      refine wl_pure (po_ixn (k := k1) (rds_arg r0) el_36 rfl rfl hk1) rfl ?_
      refine wl_pure (po_sfldr (rds_arg r0) hk1 fo_92_2 rfl) rfl ?_
      refine wl_pure (v := .int .i64 ((gx a_a k1).To)) (po_ldf (rds_arg r0) tk_3 rfl hk1 rfl) rfl ?_
      refine mv rfl rfl ?_
      refine wl_pure (po_neq rfl rfl) rfl ?_
      refine wnt ?_
      refine wcO t1 rfl (fun h3 t1 => ?_) fun h3 t1 => ?_
      · skip
        refine wcr ?_
        refine asg rfl rfl ?_
        refine wnt ?_
        refine wc_ret ?_
        refine wq_then_ret ?_
        refine wq_block_ret ?_
        refine wq_then_ret ?_
        refine wq_then_ret ?_
        refine wq_block_ret ?_
        refine wq_then_ret ?_
        refine wq_then_ret ?_
        replace t0 := lpR t0 l1 t1
        obtain rfl := Option.some.inj t0
        exact wq_ret1 rfl rfl fun w hw => ⟨rfl, hw.weak some_nil⟩
      refine wc_skip ?_
      refine wq_then ?_
      refine wcr ?_
      refine mv rfl rfl ?_
      refine wl_pure (po_add rfl rfl) rfl ?_
      refine asg rfl rfl ?_
      refine wnt ?_
      refine wc_seq ?_
      refine wcr ?_
      refine mv rfl rfl ?_
      refine mv rfl rfl ?_
      refine wl_pure (po_ixn (k := k1) (rds_arg r0) el_36 rfl rfl hk1) rfl ?_
      refine wl_pure (po_sfldr (rds_arg r0) hk1 fo_92_3 rfl) rfl ?_
      refine wl_pure (v := .int .i64 ((gx a_a k1).Sum)) (po_ldf (rds_arg r0) tk_3 rfl hk1 rfl) rfl ?_
      refine mv rfl rfl ?_
      refine wl_pure (po_neq rfl rfl) rfl ?_
      refine wnt ?_
      refine wcO t1 rfl (fun h4 t1 => ?_) fun h4 t1 => ?_
      · skip
        refine wcr ?_
        refine asg rfl rfl ?_
        refine wnt ?_
        refine wc_ret ?_
        refine wq_then_ret ?_
        refine wq_block_ret ?_
        refine wq_then_ret ?_
        refine wq_then_ret ?_
        refine wq_block_ret ?_
        refine wq_then_ret ?_
        refine wq_then_ret ?_
        replace t0 := lpR t0 l1 t1
        obtain rfl := Option.some.inj t0
        exact wq_ret1 rfl rfl fun w hw => ⟨rfl, hw.weak some_nil⟩
      refine wc_skip ?_
      refine wq_then ?_
      refine wc_region ?_
      refine mv rfl rfl ?_
      refine wl_pure (po_add rfl rfl) rfl ?_
      refine asg rfl rfl ?_
      refine wl_nil ?_
      refine wq_block ?_
      refine wq_then ?_
      refine wc_region ?_
      refine mv rfl rfl ?_
      refine wl_pure (po_inc rfl rfl (by omega)) rfl ?_
      refine asg rfl rfl ?_
      refine wl_nil ?_
      exact wq_rnd hk1 (stpN l1 t1) () (sub_cons rfl (sub_cons rfl (sub_cons rfl sub_nil))) some_nil
    have c1 : (decide (((k1 : Nat) : Int) < ((a_a.length : Nat) : Int))) = false := decide_eq_false (by omega)
    have en1 := forO_end l1 hk1
    refine wc_seq ?_
    refine wcr ?_
    refine mv rfl rfl ?_
    refine mv rfl rfl ?_
    refine wl_pure (po_lenr (rds_arg r0) el_36 rfl) rfl ?_
    refine wl_pure (po_lss rfl rfl) rfl ?_
    refine wnt ?_
    refine wc_cond_f rfl c1 ?_
    refine wc_exit ?_
    refine wq_then_exit ?_
    refine wq_then_exit ?_
    refine wq_block_exit ?_
    exact wj_meet _ () en1 (sub_cons rfl sub_nil) some_nil
  intro e1 _ hp
  replace t0 := sqE (j := e1) t0 hp
  refine wq_then ?_
  refine wcr ?_
  refine mv rfl rfl ?_
  refine asg rfl rfl ?_
  refine wnt ?_
  refine wc_ret ?_
  obtain rfl := Option.some.inj t0
  exact wq_ret1 rfl rfl fun w hw => ⟨rfl, hw.weak some_nil⟩

theorem c_laws_heldGuild (w : World) (a_a : GGuild) (v0a : Hd) (r0 : rdF w (dm w []) (sl v0a) a_a.Members) (v1a : Hd) (r1 : rdF w (dm w []) (sl v1a) a_a.Stock) (v2a : Hd) (u2a : List Value) (r2 : RdL w (dm w []) (sl v2a) u2a a_a.Entries) (v3a : Hd) (r3 : rdF w (dm w []) (sl v3a) a_a.Books) (a_k : Int) {r : Int} (t0 : laws_heldGuild a_a a_k = some r) : Calls Try.prog 18 #[.agg #[(sl v0a), (sl v1a), (sl v2a), (sl v3a), .int .i64 a_a.Round, .int .i64 a_a.Year], .int .i64 a_k] w fun e w' => e = .returned (.int .i64 r) ∧ SH w [] [] w' := by
  refine calls_of_wc (args := [_, _]) Try.func18 rfl Try.ntmps18 rfl ?_
  unfold laws_heldGuild at t0
  refine wcr ?_
  refine wl_eff (eo_box rfl rfl) rfl fun b1 => ?_
  refine asg rfl rfl ?_
  refine wnt ?_
  refine wcr ?_
  refine wl_pure (po_fld fo_38_0 rfl) rfl ?_
  refine wl_pure (v := (sl v0a)) (po_load_box tk_33 pick0 rfl rfl) rfl ?_
  refine mv rfl rfl ?_
  refine bdO t0 fun v1 hv1 t0 => ?_
  refine wl_call (co_c0 fa_52 rfl fun w hw => c_laws_heldMemberS w a_a.Members v0a (Rg.on (rds_arg r0) hw) a_k hv1) rfl fun _ => ?_
  refine asg rfl rfl ?_
  refine wnt ?_
  refine wc_seq ?_
  refine wcr ?_
  refine mv rfl rfl ?_
  refine wl_pure (po_lss rfl rfl) rfl ?_
  refine wnt ?_
  refine wcO t0 rfl (fun h1 t0 => ?_) fun h1 t0 => ?_
  · skip
    refine wcr ?_
    refine asg rfl rfl ?_
    refine wnt ?_
    refine wc_ret ?_
    refine wq_then_ret ?_
    obtain rfl := Option.some.inj t0
    exact wq_ret1 rfl rfl fun w hw => ⟨rfl, hw.weak some_nil⟩
  refine wc_skip ?_
  refine wq_then ?_
  refine wcr ?_
  refine wl_pure (po_fld fo_38_1 rfl) rfl ?_
  refine wl_pure (v := (sl v1a)) (po_load_box tk_34 pick0 rfl rfl) rfl ?_
  refine mv rfl rfl ?_
  refine bdO t0 fun v2 hv2 t0 => ?_
  refine wl_call (co_c0 fa_53 rfl fun w hw => c_laws_heldIntS w a_a.Stock v1a (Rg.on (rds_arg r1) hw) v1 hv2) rfl fun _ => ?_
  refine asg rfl rfl ?_
  refine wnt ?_
  refine wc_seq ?_
  refine wcr ?_
  refine mv rfl rfl ?_
  refine wl_pure (po_lss rfl rfl) rfl ?_
  refine wnt ?_
  refine wcO t0 rfl (fun h2 t0 => ?_) fun h2 t0 => ?_
  · skip
    refine wcr ?_
    refine asg rfl rfl ?_
    refine wnt ?_
    refine wc_ret ?_
    refine wq_then_ret ?_
    obtain rfl := Option.some.inj t0
    exact wq_ret1 rfl rfl fun w hw => ⟨rfl, hw.weak some_nil⟩
  refine wc_skip ?_
  refine wq_then ?_
  refine wcr ?_
  refine wl_pure (po_fld fo_38_2 rfl) rfl ?_
  refine wl_pure (v := (sl v2a)) (po_load_box tk_35 pick0 rfl rfl) rfl ?_
  refine mv rfl rfl ?_
  refine bdO t0 fun v3 hv3 t0 => ?_
  refine wl_call (co_c0 fa_54 rfl fun w hw => c_laws_heldEntryS w a_a.Entries v2a u2a (Rg.on (rds_arg r2) hw) v2 hv3) rfl fun _ => ?_
  refine asg rfl rfl ?_
  refine wnt ?_
  refine wc_seq ?_
  refine wcr ?_
  refine mv rfl rfl ?_
  refine wl_pure (po_lss rfl rfl) rfl ?_
  refine wnt ?_
  refine wcO t0 rfl (fun h3 t0 => ?_) fun h3 t0 => ?_
  · skip
    refine wcr ?_
    refine asg rfl rfl ?_
    refine wnt ?_
    refine wc_ret ?_
    refine wq_then_ret ?_
    obtain rfl := Option.some.inj t0
    exact wq_ret1 rfl rfl fun w hw => ⟨rfl, hw.weak some_nil⟩
  refine wc_skip ?_
  refine wq_then ?_
  refine wcr ?_
  refine wl_pure (po_fld fo_38_3 rfl) rfl ?_
  refine wl_pure (v := (sl v3a)) (po_load_box tk_36 pick0 rfl rfl) rfl ?_
  refine mv rfl rfl ?_
  refine bdO t0 fun v4 hv4 t0 => ?_
  refine wl_call (co_c0 fa_55 rfl fun w hw => c_laws_heldBookingS w a_a.Books v3a (Rg.on (rds_arg r3) hw) v3 hv4) rfl fun _ => ?_
  refine asg rfl rfl ?_
  refine wnt ?_
  refine wc_seq ?_
  refine wcr ?_
  refine mv rfl rfl ?_
  refine wl_pure (po_lss rfl rfl) rfl ?_
  refine wnt ?_
  refine wcO t0 rfl (fun h4 t0 => ?_) fun h4 t0 => ?_
  · skip
    refine wcr ?_
    refine asg rfl rfl ?_
    refine wnt ?_
    refine wc_ret ?_
    refine wq_then_ret ?_
    obtain rfl := Option.some.inj t0
    exact wq_ret1 rfl rfl fun w hw => ⟨rfl, hw.weak some_nil⟩
  refine wc_skip ?_
  refine wq_then ?_
  refine wcr ?_
  refine mv rfl rfl ?_
  refine asg rfl rfl ?_
  refine wnt ?_
  refine wc_ret ?_
  obtain rfl := Option.some.inj t0
  exact wq_ret1 rfl rfl fun w hw => ⟨rfl, hw.weak some_nil⟩

theorem c_laws_FnExactSwapRound (w : World) (a_aG : GGuild) (v0a : Hd) (r0 : rdF w (dm w []) (sl v0a) a_aG.Members) (v1a : Hd) (r1 : rdF w (dm w []) (sl v1a) a_aG.Stock) (v2a : Hd) (u2a : List Value) (r2 : RdL w (dm w []) (sl v2a) u2a a_aG.Entries) (v3a : Hd) (r3 : rdF w (dm w []) (sl v3a) a_aG.Books) {r : Bool} (t0 : laws_FnExactSwapRound a_aG = some r) : Calls Try.prog 5 #[.agg #[(sl v0a), (sl v1a), (sl v2a), (sl v3a), .int .i64 a_aG.Round, .int .i64 a_aG.Year]] w fun e w' => e = .returned (.bool r) ∧ SH w [] [] w' := by
  refine calls_of_wc (args := [_]) Try.func5 rfl Try.ntmps5 rfl ?_
  unfold laws_FnExactSwapRound at t0
  refine wcr ?_
  refine wl_eff (eo_box rfl rfl) rfl fun b1 => ?_
  refine asg rfl rfl ?_
  refine wnt ?_
  refine wcr ?_
  refine asg rfl rfl ?_
  refine wnt ?_
  refine wcr ?_
  refine wl_pure (v := .agg #[(sl v0a), (sl v1a), (sl v2a), (sl v3a), .int .i64 a_aG.Round, .int .i64 a_aG.Year]) (po_load_boxs tk_47 pick0 rfl rfl rfl) rfl ?_
  refine mv rfl rfl ?_
  refine bdO t0 fun v1 hv1 t0 => ?_
  refine wl_call (co_c0 fa_19 rfl fun w hw => c_laws_szGuild w a_aG v0a (Rg.on (rds_arg r0) hw) v1a (Rg.on (rds_arg r1) hw) v2a u2a (Rg.on (rds_arg r2) hw) v3a (Rg.on (rds_arg r3) hw) 1048576 hv1) rfl fun _ => ?_
  refine asg rfl rfl ?_
  refine wnt ?_
  refine wc_seq ?_
  refine wcr ?_
  refine mv rfl rfl ?_
  refine wl_pure (po_lss rfl rfl) rfl ?_
  refine wnt ?_
  refine wcO t0 rfl (fun h1 t0 => ?_) fun h1 t0 => ?_
  · skip
    refine wcr ?_
    refine asg rfl rfl ?_
    refine wnt ?_
    refine wc_ret ?_
    refine wq_then_ret ?_
    obtain rfl := Option.some.inj t0
    exact wq_ret1 rfl rfl fun w hw => ⟨rfl, hw.weak some_nil⟩
  refine wc_skip ?_
  refine wq_then ?_
  refine wcr ?_
  refine wl_pure (v := .agg #[(sl v0a), (sl v1a), (sl v2a), (sl v3a), .int .i64 a_aG.Round, .int .i64 a_aG.Year]) (po_load_boxs tk_47 pick0 rfl rfl rfl) rfl ?_
  refine bdO t0 fun v2 hv2 t0 => ?_
  refine wl_call (co_c4 fa_21 rfl fun w hw => c_laws_toGuild w a_aG v0a (Rg.on (rds_arg r0) hw) v1a (Rg.on (rds_arg r1) hw) v2a u2a (Rg.on (rds_arg r2) hw) v3a (Rg.on (rds_arg r3) hw) hv2) rfl fun x1 => ?_
  refine bdO t0 fun v3 hv3 t0 => ?_
  refine wl_call (co_c4 fa_20 rfl fun w hw => c_spec_SwapRound w v2 x1.1 (Rg.on (rds_own pick0) hw) x1.2.1 (Rg.on (rds_own (pickS pick0)) hw) x1.2.2.1 x1.2.2.2.1 (Rg.on (rds_own (pickS (pickS pick0))) hw) x1.2.2.2.2 (Rg.on (rds_own (pickS (pickS (pickS pick0)))) hw) hv3) rfl fun x2 => ?_
  refine mv rfl rfl ?_
  refine wl_pure (po_extract rfl rfl) rfl ?_
  refine wl_pure (po_extract rfl rfl) rfl ?_
  refine wl_eff (eo_alloc (cs := [(sl (⟨none, 0, 0⟩ : Hd)), (sl (⟨none, 0, 0⟩ : Hd)), (sl (⟨none, 0, 0⟩ : Hd)), (sl (⟨none, 0, 0⟩ : Hd)), .int .i64 0, .int .i64 0]) za_38) rfl fun b2 => ?_
  refine wl_skipop (so_box (cs' := [(sl x2.1), (sl x2.2.1), (sl x2.2.2.1), (sl x2.2.2.2.2), .int .i64 v3.1.Round, .int .i64 v3.1.Year]) tk_38 pick0 rfl rfl rfl rfl rfl rfl rfl) ?_
  refine asg rfl rfl ?_
  refine wnt ?_
  refine wcr ?_
  refine wl_pure (v := .agg #[(sl v0a), (sl v1a), (sl v2a), (sl v3a), .int .i64 a_aG.Round, .int .i64 a_aG.Year]) (po_load_boxs tk_47 (pickS (pickS (pickS (pickS (pickS (pickS (pickS (pickS (pickS pick0))))))))) rfl rfl rfl) rfl ?_
  refine bdO t0 fun v4 hv4 t0 => ?_
  refine wl_call (co_c4 fa_21 rfl fun w hw => c_laws_toGuild w a_aG v0a (Rg.on (rds_arg r0) hw) v1a (Rg.on (rds_arg r1) hw) v2a u2a (Rg.on (rds_arg r2) hw) v3a (Rg.on (rds_arg r3) hw) hv4) rfl fun x3 => ?_
  refine wl_eff (eo_alloc (cs := [(sl (⟨none, 0, 0⟩ : Hd)), (sl (⟨none, 0, 0⟩ : Hd)), (sl (⟨none, 0, 0⟩ : Hd)), (sl (⟨none, 0, 0⟩ : Hd)), .int .i64 0, .int .i64 0]) za_38) rfl fun b3 => ?_
  refine wl_skipop (so_box (cs' := [(sl x3.1), (sl x3.2.1), (sl x3.2.2.1), (sl x3.2.2.2.2), .int .i64 v4.Round, .int .i64 v4.Year]) tk_38 pick0 rfl rfl rfl rfl rfl rfl rfl) ?_
  refine wnt ?_
  refine wcr ?_
  refine wl_pure (v := .agg #[(sl x3.1), (sl x3.2.1), (sl x3.2.2.1), (sl x3.2.2.2.2), .int .i64 v4.Round, .int .i64 v4.Year]) (po_load_boxs tk_38 pick0 rfl rfl rfl) rfl ?_
  refine bdO t0 fun v5 hv5 t0 => ?_
  refine wl_call (co_c4 fa_22 rfl fun w hw => c_impl_SwapRound w v4 x3.1 (Rg.on (rds_own (pickS pick0)) hw) x3.2.1 (Rg.on (rds_own (pickS (pickS pick0))) hw) x3.2.2.1 x3.2.2.2.1 (Rg.on (rds_own (pickS (pickS (pickS pick0)))) hw) x3.2.2.2.2 (Rg.on (rds_own (pickS (pickS (pickS (pickS pick0))))) hw) hv5) rfl fun x4 => ?_
  refine mv rfl rfl ?_
  refine wl_pure (po_extract rfl rfl) rfl ?_
  refine wl_pure (po_extract rfl rfl) rfl ?_
  refine wl_eff (eo_alloc (cs := [(sl (⟨none, 0, 0⟩ : Hd)), (sl (⟨none, 0, 0⟩ : Hd)), (sl (⟨none, 0, 0⟩ : Hd)), (sl (⟨none, 0, 0⟩ : Hd)), .int .i64 0, .int .i64 0]) za_38) rfl fun b4 => ?_
  refine wl_skipop (so_box (cs' := [(sl x4.1), (sl x4.2.1), (sl x4.2.2.1), (sl x4.2.2.2.2), .int .i64 v5.1.Round, .int .i64 v5.1.Year]) tk_38 pick0 rfl rfl rfl rfl rfl rfl rfl) ?_
  refine asg rfl rfl ?_
  refine wnt ?_
  refine wc_seq ?_
  refine wc_seq ?_
  refine bdO t0 fun y1 t1 t0 => ?_
  refine wj (J := Bool) (X := Unit) (fun z => y1 = z) (fun z _ => [(1, ptr b1 0), (4, ptr b2 0), (5, .bool v3.2), (6, ptr b3 0), (7, ptr b4 0), (8, .bool v5.2), (40, .bool z)]) (fun _ _ => [box b4 [(sl x4.1), (sl x4.2.1), (sl x4.2.2.1), (sl x4.2.2.2.2), .int .i64 v5.1.Round, .int .i64 v5.1.Year], box b3 [(sl x3.1), (sl x3.2.1), (sl x3.2.2.1), (sl x3.2.2.2.2), .int .i64 v4.Round, .int .i64 v4.Year], box b2 [(sl x2.1), (sl x2.2.1), (sl x2.2.2.1), (sl x2.2.2.2.2), .int .i64 v3.1.Round, .int .i64 v3.1.Year], box b1 [(sl v0a), (sl v1a), (sl v2a), (sl v3a), .int .i64 a_aG.Round, .int .i64 a_aG.Year], ownF (sl x4.1) v5.1.Members, ownF (sl x4.2.1) v5.1.Stock, own (sl x4.2.2.1) x4.2.2.2.1 v5.1.Entries, ownF (sl x4.2.2.2.2) v5.1.Books, ownF (sl x3.1) v4.Members, ownF (sl x3.2.1) v4.Stock, own (sl x3.2.2.1) x3.2.2.2.1 v4.Entries, ownF (sl x3.2.2.2.2) v4.Books, ownF (sl x2.1) v3.1.Members, ownF (sl x2.2.1) v3.1.Stock, own (sl x2.2.2.1) x2.2.2.2.1 v3.1.Entries, ownF (sl x2.2.2.2.2) v3.1.Books]) ?_ ?_
  · skip
    refine wc_region ?_
    refine wl_pure (v := .agg #[(sl x4.1), (sl x4.2.1), (sl x4.2.2.1), (sl x4.2.2.2.2), .int .i64 v5.1.Round, .int .i64 v5.1.Year]) (po_load_boxs tk_38 pick0 rfl rfl rfl) rfl ?_
    refine wl_pure (v := .agg #[(sl x2.1), (sl x2.2.1), (sl x2.2.2.1), (sl x2.2.2.2.2), .int .i64 v3.1.Round, .int .i64 v3.1.Year]) (po_load_boxs tk_38 (pickS (pickS (pickS (pickS (pickS (pickS (pickS (pickS (pickS (pickS pick0)))))))))) rfl rfl rfl) rfl ?_
    refine bdO t1 fun v6 hv6 t1 => ?_
    refine wl_call (co_c0 fa_16 rfl fun w hw => c_laws_eqGuild w v5.1 x4.1 (Rg.on (rds_own (pickS pick0)) hw) x4.2.1 (Rg.on (rds_own (pickS (pickS pick0))) hw) x4.2.2.1 x4.2.2.2.1 (Rg.on (rds_own (pickS (pickS (pickS pick0)))) hw) x4.2.2.2.2 (Rg.on (rds_own (pickS (pickS (pickS (pickS pick0))))) hw) v3.1 x2.1 (Rg.on (rds_own (pickS (pickS (pickS (pickS (pickS (pickS (pickS (pickS (pickS (pickS (pickS pick0)))))))))))) hw) x2.2.1 (Rg.on (rds_own (pickS (pickS (pickS (pickS (pickS (pickS (pickS (pickS (pickS (pickS (pickS (pickS pick0))))))))))))) hw) x2.2.2.1 x2.2.2.2.1 (Rg.on (rds_own (pickS (pickS (pickS (pickS (pickS (pickS (pickS (pickS (pickS (pickS (pickS (pickS (pickS pick0)))))))))))))) hw) x2.2.2.2.2 (Rg.on (rds_own (pickS (pickS (pickS (pickS (pickS (pickS (pickS (pickS (pickS (pickS (pickS (pickS (pickS (pickS pick0))))))))))))))) hw) hv6) rfl fun _ => ?_
    refine wl_pure (po_not rfl) rfl ?_
    refine mv rfl rfl ?_
    refine wlO_ (t := 36) t1 rfl (fun h2 t1 => ?_) fun h2 t1 => ?_
    · skip
      refine wl_guard_off (j := 4) rfl rfl rfl rfl rfl ?_
      refine wl_guard_off (j := 4) rfl rfl rfl rfl rfl ?_
      refine wl_guard_off (j := 4) rfl rfl rfl rfl rfl ?_
      refine wl_pure (po_pick_t rfl rfl) rfl ?_
      refine wl_nil ?_
      exact wj_meet _ () (mtE t1) (sub_cons rfl (sub_cons rfl (sub_cons rfl (sub_cons rfl (sub_cons rfl (sub_cons rfl (sub_cons rfl sub_nil))))))) (some_cons pick0 (some_cons (pickS (pickS (pickS (pickS pick0)))) (some_cons (pickS (pickS (pickS (pickS (pickS (pickS (pickS (pickS pick0)))))))) (some_cons (pickS (pickS (pickS (pickS (pickS (pickS (pickS (pickS (pickS (pickS (pickS (pickS (pickS (pickS (pickS (pickS pick0)))))))))))))))) (some_cons pick0 (some_cons pick0 (some_cons pick0 (some_cons pick0 (some_cons pick0 (some_cons pick0 (some_cons pick0 (some_cons pick0 (some_cons pick0 (some_cons pick0 (some_cons pick0 (some_cons pick0 some_nil))))))))))))))))
    refine wl_guard_on (j := 4) rfl rfl rfl (mv rfl rfl ?_)
    refine wl_guard_on (j := 4) rfl rfl rfl (mv rfl rfl ?_)
    refine wl_guard_on (j := 4) rfl rfl rfl (wl_pure (po_neq_bool ub_4 rfl rfl) rfl ?_)
    refine wl_pure (po_pick_f rfl rfl) rfl ?_
    refine wl_nil ?_
    exact wj_meet _ () (mtE t1) (sub_cons rfl (sub_cons rfl (sub_cons rfl (sub_cons rfl (sub_cons rfl (sub_cons rfl (sub_cons rfl sub_nil))))))) (some_cons pick0 (some_cons (pickS (pickS (pickS (pickS pick0)))) (some_cons (pickS (pickS (pickS (pickS (pickS (pickS (pickS (pickS pick0)))))))) (some_cons (pickS (pickS (pickS (pickS (pickS (pickS (pickS (pickS (pickS (pickS (pickS (pickS (pickS (pickS (pickS (pickS pick0)))))))))))))))) (some_cons pick0 (some_cons pick0 (some_cons pick0 (some_cons pick0 (some_cons pick0 (some_cons pick0 (some_cons pick0 (some_cons pick0 (some_cons pick0 (some_cons pick0 (some_cons pick0 (some_cons pick0 some_nil))))))))))))))))
  intro j1 _ hp
  obtain rfl : j1 = y1 := hp.symm
  refine wq_then ?_
  refine wcO t0 rfl (fun h3 t0 => ?_) fun h3 t0 => ?_
  · skip
    refine wcr ?_
    refine asg rfl rfl ?_
    refine wnt ?_
    refine wc_ret ?_
    refine wq_then_ret ?_
    obtain rfl := Option.some.inj t0
    exact wq_ret1 rfl rfl fun w hw => ⟨rfl, hw.weak some_nil⟩
  refine wc_skip ?_
  refine wq_then ?_
  refine wc_seq ?_
  refine wc_seq ?_
  refine wc_draw [box b4 [(sl x4.1), (sl x4.2.1), (sl x4.2.2.1), (sl x4.2.2.2.2), .int .i64 v5.1.Round, .int .i64 v5.1.Year], box b3 [(sl x3.1), (sl x3.2.1), (sl x3.2.2.1), (sl x3.2.2.2.2), .int .i64 v4.Round, .int .i64 v4.Year], box b2 [(sl x2.1), (sl x2.2.1), (sl x2.2.2.1), (sl x2.2.2.2.2), .int .i64 v3.1.Round, .int .i64 v3.1.Year], box b1 [(sl v0a), (sl v1a), (sl v2a), (sl v3a), .int .i64 a_aG.Round, .int .i64 a_aG.Year], ownF (sl x4.1) v5.1.Members, ownF (sl x4.2.1) v5.1.Stock, own (sl x4.2.2.1) x4.2.2.2.1 v5.1.Entries, ownF (sl x4.2.2.2.2) v5.1.Books, ownF (sl x3.1) v4.Members, ownF (sl x3.2.1) v4.Stock, own (sl x3.2.2.1) x3.2.2.2.1 v4.Entries, ownF (sl x3.2.2.2.2) v4.Books, ownF (sl x2.1) v3.1.Members, ownF (sl x2.2.1) v3.1.Stock, own (sl x2.2.2.1) x2.2.2.2.1 v3.1.Entries, ownF (sl x2.2.2.2.2) v3.1.Books] 5 mixed ?_
  refine wa_pure (v := .agg #[(sl x3.1), (sl x3.2.1), (sl x3.2.2.1), (sl x3.2.2.2.2), .int .i64 v4.Round, .int .i64 v4.Year]) 0 rfl (po_load_boxs tk_38 (pickS pick0) rfl rfl rfl) (some_cons pick0 (some_cons pick0 (some_cons pick0 (some_cons pick0 (some_cons pick0 (some_cons pick0 (some_cons pick0 (some_cons pick0 (some_cons pick0 (some_cons pick0 (some_cons pick0 (some_cons pick0 (some_cons pick0 (some_cons pick0 (some_cons pick0 (some_cons pick0 some_nil)))))))))))))))) rfl (by kernel_rfl) (fun _ _ _ h => h) ?_
  refine wa_pure (v := .agg #[(sl v0a), (sl v1a), (sl v2a), (sl v3a), .int .i64 a_aG.Round, .int .i64 a_aG.Year]) 1 rfl (po_load_boxs tk_47 (pickS (pickS (pickS pick0))) rfl rfl rfl) (some_cons pick0 (some_cons pick0 (some_cons pick0 (some_cons pick0 (some_cons pick0 (some_cons pick0 (some_cons pick0 (some_cons pick0 (some_cons pick0 (some_cons pick0 (some_cons pick0 (some_cons pick0 (some_cons pick0 (some_cons pick0 (some_cons pick0 (some_cons pick0 some_nil)))))))))))))))) rfl (by kernel_rfl) (fun _ _ _ h => h) ?_
  refine wa_1 (i := 2) (by kernel_rfl) ?_
  refine bdO t0 fun v7 hv7 t0 => ?_
  refine ws_call rfl (co_c4 fa_21 rfl fun w hw => c_laws_toGuild w a_aG v0a (Rg.on (rds_arg r0) hw) v1a (Rg.on (rds_arg r1) hw) v2a u2a (Rg.on (rds_arg r2) hw) v3a (Rg.on (rds_arg r3) hw) hv7) (fun _ => (sts_some (some_cons (pickS (pickS (pickS (pickS pick0)))) (some_cons (pickS (pickS (pickS (pickS pick0)))) (some_cons (pickS (pickS (pickS (pickS pick0)))) (some_cons (pickS (pickS (pickS (pickS pick0)))) (some_cons (pickS (pickS (pickS (pickS pick0)))) (some_cons (pickS (pickS (pickS (pickS pick0)))) (some_cons (pickS (pickS (pickS (pickS pick0)))) (some_cons (pickS (pickS (pickS (pickS pick0)))) (some_cons (pickS (pickS (pickS (pickS pick0)))) (some_cons (pickS (pickS (pickS (pickS pick0)))) (some_cons (pickS (pickS (pickS (pickS pick0)))) (some_cons (pickS (pickS (pickS (pickS pick0)))) (some_cons (pickS (pickS (pickS (pickS pick0)))) (some_cons (pickS (pickS (pickS (pickS pick0)))) (some_cons (pickS (pickS (pickS (pickS pick0)))) (some_cons (pickS (pickS (pickS (pickS pick0)))) some_nil)))))))))))))))))) rfl fun x6 => ?_
  refine wa_1 (i := 3) (by kernel_rfl) ?_
  refine bdO t0 fun v8 hv8 t0 => ?_
  refine ws_call rfl (co_c0 fa_16 rfl fun w hw => c_laws_eqGuild w v4 x3.1 (Rg.on (rds_own (pickS (pickS (pickS (pickS (pickS (pickS (pickS (pickS (pickS (pickS (pickS (pickS pick0))))))))))))) hw) x3.2.1 (Rg.on (rds_own (pickS (pickS (pickS (pickS (pickS (pickS (pickS (pickS (pickS (pickS (pickS (pickS (pickS pick0)))))))))))))) hw) x3.2.2.1 x3.2.2.2.1 (Rg.on (rds_own (pickS (pickS (pickS (pickS (pickS (pickS (pickS (pickS (pickS (pickS (pickS (pickS (pickS (pickS pick0))))))))))))))) hw) x3.2.2.2.2 (Rg.on (rds_own (pickS (pickS (pickS (pickS (pickS (pickS (pickS (pickS (pickS (pickS (pickS (pickS (pickS (pickS (pickS pick0)))))))))))))))) hw) v7 x6.1 (Rg.on (rds_own pick0) hw) x6.2.1 (Rg.on (rds_own (pickS pick0)) hw) x6.2.2.1 x6.2.2.2.1 (Rg.on (rds_own (pickS (pickS pick0))) hw) x6.2.2.2.2 (Rg.on (rds_own (pickS (pickS (pickS pick0)))) hw) hv8) (fun _ => (sts_some (some_cons (pickS (pickS (pickS (pickS pick0)))) (some_cons (pickS (pickS (pickS (pickS pick0)))) (some_cons (pickS (pickS (pickS (pickS pick0)))) (some_cons (pickS (pickS (pickS (pickS pick0)))) (some_cons (pickS (pickS (pickS (pickS pick0)))) (some_cons (pickS (pickS (pickS (pickS pick0)))) (some_cons (pickS (pickS (pickS (pickS pick0)))) (some_cons (pickS (pickS (pickS (pickS pick0)))) (some_cons (pickS (pickS (pickS (pickS pick0)))) (some_cons (pickS (pickS (pickS (pickS pick0)))) (some_cons (pickS (pickS (pickS (pickS pick0)))) (some_cons (pickS (pickS (pickS (pickS pick0)))) (some_cons (pickS (pickS (pickS (pickS pick0)))) (some_cons (pickS (pickS (pickS (pickS pick0)))) (some_cons (pickS (pickS (pickS (pickS pick0)))) (some_cons (pickS (pickS (pickS (pickS pick0)))) some_nil)))))))))))))))))) rfl fun _ => ?_
  refine wa_pure 4 rfl (po_not rfl) (some_cons (pickS (pickS (pickS (pickS pick0)))) (some_cons (pickS (pickS (pickS (pickS pick0)))) (some_cons (pickS (pickS (pickS (pickS pick0)))) (some_cons (pickS (pickS (pickS (pickS pick0)))) (some_cons (pickS (pickS (pickS (pickS pick0)))) (some_cons (pickS (pickS (pickS (pickS pick0)))) (some_cons (pickS (pickS (pickS (pickS pick0)))) (some_cons (pickS (pickS (pickS (pickS pick0)))) (some_cons (pickS (pickS (pickS (pickS pick0)))) (some_cons (pickS (pickS (pickS (pickS pick0)))) (some_cons (pickS (pickS (pickS (pickS pick0)))) (some_cons (pickS (pickS (pickS (pickS pick0)))) (some_cons (pickS (pickS (pickS (pickS pick0)))) (some_cons (pickS (pickS (pickS (pickS pick0)))) (some_cons (pickS (pickS (pickS (pickS pick0)))) (some_cons (pickS (pickS (pickS (pickS pick0)))) some_nil)))))))))))))))) rfl (by kernel_rfl) (fun _ _ _ h => h) ?_
  refine wa_done (by kernel_rfl) ?_
  refine wq_then ?_
  refine wcO t0 rfl (fun h4 t0 => ?_) fun h4 t0 => ?_
  · skip
    refine wcr ?_
    refine asg rfl rfl ?_
    refine wnt ?_
    refine wc_ret ?_
    refine wq_then_ret ?_
    obtain rfl := Option.some.inj t0
    exact wq_ret1 rfl rfl fun w hw => ⟨rfl, hw.weak some_nil⟩
  refine wc_skip ?_
  refine wq_then ?_
  refine wcr ?_
  refine asg rfl rfl ?_
  refine wnt ?_
  refine wcr ?_
  refine wl_pure (v := .agg #[(sl x3.1), (sl x3.2.1), (sl x3.2.2.1), (sl x3.2.2.2.2), .int .i64 v4.Round, .int .i64 v4.Year]) (po_load_boxs tk_38 (pickS (pickS (pickS (pickS (pickS pick0))))) rfl rfl rfl) rfl ?_
  refine mv rfl rfl ?_
  refine bdO t0 fun v9 hv9 t0 => ?_
  refine wl_call (co_o4 [ownF (sl x3.1) v4.Members, ownF (sl x3.2.1) v4.Stock, own (sl x3.2.2.1) x3.2.2.2.1 v4.Entries, ownF (sl x3.2.2.2.2) v4.Books] fa_17 (some_cons (pickS (pickS (pickS (pickS (pickS (pickS (pickS (pickS (pickS (pickS (pickS (pickS pick0)))))))))))) (some_cons (pickS (pickS (pickS (pickS (pickS (pickS (pickS (pickS (pickS (pickS (pickS (pickS pick0)))))))))))) (some_cons (pickS (pickS (pickS (pickS (pickS (pickS (pickS (pickS (pickS (pickS (pickS (pickS pick0)))))))))))) (some_cons (pickS (pickS (pickS (pickS (pickS (pickS (pickS (pickS (pickS (pickS (pickS (pickS pick0)))))))))))) some_refl)))) rfl fun w fp hw => c_laws_markGuild w fp v4 x3.1 x3.2.1 x3.2.2.1 x3.2.2.2.1 x3.2.2.2.2 1 hw.ow hv9) rfl fun x7 => ?_
  refine asg rfl rfl ?_
  refine wnt ?_
  refine wc_seq ?_
  refine wc_seq ?_
  refine bdO t0 fun y1 t1 t0 => ?_
  refine wj (J := Bool) (X := Unit) (fun z => y1 = z) (fun z _ => [(1, ptr b1 0), (4, ptr b2 0), (5, .bool v3.2), (7, ptr b4 0), (61, .bool z)]) (fun _ _ => [box b4 [(sl x4.1), (sl x4.2.1), (sl x4.2.2.1), (sl x4.2.2.2.2), .int .i64 v5.1.Round, .int .i64 v5.1.Year], box b2 [(sl x2.1), (sl x2.2.1), (sl x2.2.2.1), (sl x2.2.2.2.2), .int .i64 v3.1.Round, .int .i64 v3.1.Year], box b1 [(sl v0a), (sl v1a), (sl v2a), (sl v3a), .int .i64 a_aG.Round, .int .i64 a_aG.Year], ownF (sl x4.1) v5.1.Members, ownF (sl x4.2.1) v5.1.Stock, own (sl x4.2.2.1) x4.2.2.2.1 v5.1.Entries, ownF (sl x4.2.2.2.2) v5.1.Books, ownF (sl x2.1) v3.1.Members, ownF (sl x2.2.1) v3.1.Stock, own (sl x2.2.2.1) x2.2.2.2.1 v3.1.Entries, ownF (sl x2.2.2.2.2) v3.1.Books]) ?_ ?_
  · skip
    refine wc_region ?_
    refine mv rfl rfl ?_
    refine wl_pure (po_lss rfl rfl) rfl ?_
    refine mv rfl rfl ?_
    refine wlO_ (t := 51) t1 rfl (fun h5 t1 => ?_) fun h5 t1 => ?_
    · skip
      refine wl_guard_off (j := 2) rfl rfl rfl rfl rfl ?_
      refine wl_guard_off (j := 2) rfl rfl rfl rfl rfl ?_
      refine wl_guard_off (j := 2) rfl rfl rfl rfl rfl ?_
      refine wl_guard_off (j := 2) rfl rfl rfl rfl rfl ?_
      refine wl_pure (po_pick_t rfl rfl) rfl ?_
      refine mv rfl rfl ?_
      refine wl_guard_off (j := 8) rfl rfl rfl rfl rfl ?_
      refine wl_guard_off (j := 8) rfl rfl rfl rfl rfl ?_
      refine wl_guard_off (j := 8) rfl rfl rfl rfl rfl ?_
      refine wl_pure (po_pick_t rfl rfl) rfl ?_
      refine wl_nil ?_
      exact wj_meet _ () (mtE t1) (sub_cons rfl (sub_cons rfl (sub_cons rfl (sub_cons rfl (sub_cons rfl sub_nil))))) (some_cons (pickS (pickS (pickS (pickS (pickS (pickS (pickS (pickS pick0)))))))) (some_cons (pickS (pickS (pickS (pickS (pickS (pickS (pickS (pickS (pickS pick0))))))))) (some_cons (pickS (pickS (pickS (pickS (pickS (pickS (pickS (pickS (pickS pick0))))))))) (some_cons (pickS (pickS (pickS (pickS (pickS (pickS (pickS (pickS (pickS pick0))))))))) (some_cons (pickS (pickS (pickS (pickS (pickS (pickS (pickS (pickS (pickS pick0))))))))) (some_cons (pickS (pickS (pickS (pickS (pickS (pickS (pickS (pickS (pickS pick0))))))))) (some_cons (pickS (pickS (pickS (pickS (pickS (pickS (pickS (pickS (pickS pick0))))))))) (some_cons (pickS (pickS (pickS (pickS (pickS (pickS (pickS (pickS (pickS pick0))))))))) (some_cons (pickS (pickS (pickS (pickS (pickS (pickS (pickS (pickS (pickS pick0))))))))) (some_cons (pickS (pickS (pickS (pickS (pickS (pickS (pickS (pickS (pickS pick0))))))))) (some_cons (pickS (pickS (pickS (pickS (pickS (pickS (pickS (pickS (pickS pick0))))))))) some_nil)))))))))))
    refine wl_guard_on (j := 2) rfl rfl rfl (wl_pure (v := .agg #[(sl x4.1), (sl x4.2.1), (sl x4.2.2.1), (sl x4.2.2.2.2), .int .i64 v5.1.Round, .int .i64 v5.1.Year]) (po_load_boxs tk_38 (pickS (pickS (pickS (pickS (pickS (pickS (pickS (pickS pick0)))))))) rfl rfl rfl) rfl ?_)
    refine wl_guard_on (j := 2) rfl rfl rfl (wl_pure (v := .agg #[(sl x2.1), (sl x2.2.1), (sl x2.2.2.1), (sl x2.2.2.2.2), .int .i64 v3.1.Round, .int .i64 v3.1.Year]) (po_load_boxs tk_38 (pickS (pickS (pickS (pickS (pickS (pickS (pickS (pickS (pickS (pickS pick0)))))))))) rfl rfl rfl) rfl ?_)
    refine bdO t1 fun v10 hv10 t1 => ?_
    refine wl_guard_on (j := 2) rfl rfl rfl (wl_call (co_c0 fa_16 rfl fun w hw => c_laws_eqGuild w v5.1 x4.1 (Rg.on (rds_own (pickS (pickS (pickS (pickS (pickS (pickS (pickS (pickS (pickS (pickS (pickS (pickS pick0))))))))))))) hw) x4.2.1 (Rg.on (rds_own (pickS (pickS (pickS (pickS (pickS (pickS (pickS (pickS (pickS (pickS (pickS (pickS (pickS pick0)))))))))))))) hw) x4.2.2.1 x4.2.2.2.1 (Rg.on (rds_own (pickS (pickS (pickS (pickS (pickS (pickS (pickS (pickS (pickS (pickS (pickS (pickS (pickS (pickS pick0))))))))))))))) hw) x4.2.2.2.2 (Rg.on (rds_own (pickS (pickS (pickS (pickS (pickS (pickS (pickS (pickS (pickS (pickS (pickS (pickS (pickS (pickS (pickS pick0)))))))))))))))) hw) v3.1 x2.1 (Rg.on (rds_own (pickS (pickS (pickS (pickS (pickS (pickS (pickS (pickS (pickS (pickS (pickS (pickS (pickS (pickS (pickS (pickS pick0))))))))))))))))) hw) x2.2.1 (Rg.on (rds_own (pickS (pickS (pickS (pickS (pickS (pickS (pickS (pickS (pickS (pickS (pickS (pickS (pickS (pickS (pickS (pickS (pickS pick0)))))))))))))))))) hw) x2.2.2.1 x2.2.2.2.1 (Rg.on (rds_own (pickS (pickS (pickS (pickS (pickS (pickS (pickS (pickS (pickS (pickS (pickS (pickS (pickS (pickS (pickS (pickS (pickS (pickS pick0))))))))))))))))))) hw) x2.2.2.2.2 (Rg.on (rds_own (pickS (pickS (pickS (pickS (pickS (pickS (pickS (pickS (pickS (pickS (pickS (pickS (pickS (pickS (pickS (pickS (pickS (pickS (pickS pick0)))))))))))))))))))) hw) hv10) rfl (fun _ => ?_))
    refine wl_guard_on (j := 2) rfl rfl rfl (wl_pure (po_not rfl) rfl ?_)
    refine wl_pure (po_pick_f rfl rfl) rfl ?_
    refine mv rfl rfl ?_
    refine wlO_ (t := 57) t1 rfl (fun h6 t1 => ?_) fun h6 t1 => ?_
    · skip
      refine wl_guard_off (j := 8) rfl rfl rfl rfl rfl ?_
      refine wl_guard_off (j := 8) rfl rfl rfl rfl rfl ?_
      refine wl_guard_off (j := 8) rfl rfl rfl rfl rfl ?_
      refine wl_pure (po_pick_t rfl rfl) rfl ?_
      refine wl_nil ?_
      exact wj_meet _ () (mtE t1) (sub_cons rfl (sub_cons rfl (sub_cons rfl (sub_cons rfl (sub_cons rfl sub_nil))))) (some_cons (pickS (pickS (pickS (pickS (pickS (pickS (pickS (pickS pick0)))))))) (some_cons (pickS (pickS (pickS (pickS (pickS (pickS (pickS (pickS (pickS pick0))))))))) (some_cons (pickS (pickS (pickS (pickS (pickS (pickS (pickS (pickS (pickS pick0))))))))) (some_cons (pickS (pickS (pickS (pickS (pickS (pickS (pickS (pickS (pickS pick0))))))))) (some_cons (pickS (pickS (pickS (pickS (pickS (pickS (pickS (pickS (pickS pick0))))))))) (some_cons (pickS (pickS (pickS (pickS (pickS (pickS (pickS (pickS (pickS pick0))))))))) (some_cons (pickS (pickS (pickS (pickS (pickS (pickS (pickS (pickS (pickS pick0))))))))) (some_cons (pickS (pickS (pickS (pickS (pickS (pickS (pickS (pickS (pickS pick0))))))))) (some_cons (pickS (pickS (pickS (pickS (pickS (pickS (pickS (pickS (pickS pick0))))))))) (some_cons (pickS (pickS (pickS (pickS (pickS (pickS (pickS (pickS (pickS pick0))))))))) (some_cons (pickS (pickS (pickS (pickS (pickS (pickS (pickS (pickS (pickS pick0))))))))) some_nil)))))))))))
    refine wl_guard_on (j := 8) rfl rfl rfl (mv rfl rfl ?_)
    refine wl_guard_on (j := 8) rfl rfl rfl (mv rfl rfl ?_)
    refine wl_guard_on (j := 8) rfl rfl rfl (wl_pure (po_neq_bool ub_4 rfl rfl) rfl ?_)
    refine wl_pure (po_pick_f rfl rfl) rfl ?_
    refine wl_nil ?_
    exact wj_meet _ () (mtE t1) (sub_cons rfl (sub_cons rfl (sub_cons rfl (sub_cons rfl (sub_cons rfl sub_nil))))) (some_cons (pickS (pickS (pickS (pickS (pickS (pickS (pickS (pickS pick0)))))))) (some_cons (pickS (pickS (pickS (pickS (pickS (pickS (pickS (pickS (pickS pick0))))))))) (some_cons (pickS (pickS (pickS (pickS (pickS (pickS (pickS (pickS (pickS pick0))))))))) (some_cons (pickS (pickS (pickS (pickS (pickS (pickS (pickS (pickS (pickS pick0))))))))) (some_cons (pickS (pickS (pickS (pickS (pickS (pickS (pickS (pickS (pickS pick0))))))))) (some_cons (pickS (pickS (pickS (pickS (pickS (pickS (pickS (pickS (pickS pick0))))))))) (some_cons (pickS (pickS (pickS (pickS (pickS (pickS (pickS (pickS (pickS pick0))))))))) (some_cons (pickS (pickS (pickS (pickS (pickS (pickS (pickS (pickS (pickS pick0))))))))) (some_cons (pickS (pickS (pickS (pickS (pickS (pickS (pickS (pickS (pickS pick0))))))))) (some_cons (pickS (pickS (pickS (pickS (pickS (pickS (pickS (pickS (pickS pick0))))))))) (some_cons (pickS (pickS (pickS (pickS (pickS (pickS (pickS (pickS (pickS pick0))))))))) some_nil)))))))))))
  intro j2 _ hp
  obtain rfl : j2 = y1 := hp.symm
  refine wq_then ?_
  refine wcO t0 rfl (fun h7 t0 => ?_) fun h7 t0 => ?_
  · skip
    refine wcr ?_
    refine asg rfl rfl ?_
    refine wnt ?_
    refine wc_ret ?_
    refine wq_then_ret ?_
    obtain rfl := Option.some.inj t0
    exact wq_ret1 rfl rfl fun w hw => ⟨rfl, hw.weak some_nil⟩
  refine wc_skip ?_
  refine wq_then ?_
  refine wcr ?_
  refine asg rfl rfl ?_
  refine wnt ?_
  refine wcr ?_
  refine wl_pure (v := .agg #[(sl x4.1), (sl x4.2.1), (sl x4.2.2.1), (sl x4.2.2.2.2), .int .i64 v5.1.Round, .int .i64 v5.1.Year]) (po_load_boxs tk_38 pick0 rfl rfl rfl) rfl ?_
  refine mv rfl rfl ?_
  refine bdO t0 fun v11 hv11 t0 => ?_
  refine wl_call (co_o4 [ownF (sl x4.1) v5.1.Members, ownF (sl x4.2.1) v5.1.Stock, own (sl x4.2.2.1) x4.2.2.2.1 v5.1.Entries, ownF (sl x4.2.2.2.2) v5.1.Books] fa_17 (some_cons (pickS (pickS (pickS pick0))) (some_cons (pickS (pickS (pickS pick0))) (some_cons (pickS (pickS (pickS pick0))) (some_cons (pickS (pickS (pickS pick0))) some_refl)))) rfl fun w fp hw => c_laws_markGuild w fp v5.1 x4.1 x4.2.1 x4.2.2.1 x4.2.2.2.1 x4.2.2.2.2 1 hw.ow hv11) rfl fun x9 => ?_
  refine asg rfl rfl ?_
  refine wnt ?_
  refine wcr ?_
  refine asg rfl rfl ?_
  refine wnt ?_
  refine wcr ?_
  refine wl_pure (v := .agg #[(sl x4.1), (sl x4.2.1), (sl x4.2.2.1), (sl x4.2.2.2.2), .int .i64 v5.1.Round, .int .i64 v5.1.Year]) (po_load_boxs tk_38 (pickS (pickS (pickS (pickS pick0)))) rfl rfl rfl) rfl ?_
  refine mv rfl rfl ?_
  refine bdO t0 fun v12 hv12 t0 => ?_
  refine wl_call (co_c0 fa_18 rfl fun w hw => c_laws_heldGuild w (GGuild.mk v11.2.1 v11.2.2.1 v11.2.2.2.1 v11.2.2.2.2 v5.1.Round v5.1.Year) x4.1 (Rg.on (rds_own pick0) hw) x4.2.1 (Rg.on (rds_own (pickS pick0)) hw) x4.2.2.1 x9 (Rg.on (rds_own (pickS (pickS pick0))) hw) x4.2.2.2.2 (Rg.on (rds_own (pickS (pickS (pickS pick0)))) hw) 1 hv12) rfl fun _ => ?_
  refine asg rfl rfl ?_
  refine wnt ?_
  refine wc_seq ?_
  refine wcr ?_
  refine mv rfl rfl ?_
  refine wl_pure (po_lss rfl rfl) rfl ?_
  refine wnt ?_
  refine wcO t0 rfl (fun h8 t0 => ?_) fun h8 t0 => ?_
  · skip
    refine wcr ?_
    refine asg rfl rfl ?_
    refine wnt ?_
    refine wc_ret ?_
    refine wq_then_ret ?_
    obtain rfl := Option.some.inj t0
    exact wq_ret1 rfl rfl fun w hw => ⟨rfl, hw.weak some_nil⟩
  refine wc_skip ?_
  refine wq_then ?_
  refine wc_seq ?_
  refine wcr ?_
  refine mv rfl rfl ?_
  refine mv rfl rfl ?_
  refine wl_pure (po_neq rfl rfl) rfl ?_
  refine wnt ?_
  refine wcO t0 rfl (fun h9 t0 => ?_) fun h9 t0 => ?_
  · skip
    refine wcr ?_
    refine asg rfl rfl ?_
    refine wnt ?_
    refine wc_ret ?_
    refine wq_then_ret ?_
    obtain rfl := Option.some.inj t0
    exact wq_ret1 rfl rfl fun w hw => ⟨rfl, hw.weak some_nil⟩
  refine wc_skip ?_
  refine wq_then ?_
  refine wcr ?_
  refine wl_pure (v := .agg #[(sl v0a), (sl v1a), (sl v2a), (sl v3a), .int .i64 a_aG.Round, .int .i64 a_aG.Year]) (po_load_boxs tk_47 (pickS (pickS (pickS (pickS (pickS (pickS pick0)))))) rfl rfl rfl) rfl ?_
  refine bdO t0 fun v13 hv13 t0 => ?_
  refine wl_call (co_c4 fa_21 rfl fun w hw => c_laws_toGuild w a_aG v0a (Rg.on (rds_arg r0) hw) v1a (Rg.on (rds_arg r1) hw) v2a u2a (Rg.on (rds_arg r2) hw) v3a (Rg.on (rds_arg r3) hw) hv13) rfl fun x10 => ?_
  refine bdO t0 fun v14 hv14 t0 => ?_
  refine wl_call (co_c4 fa_22 rfl fun w hw => c_impl_SwapRound w v13 x10.1 (Rg.on (rds_own pick0) hw) x10.2.1 (Rg.on (rds_own (pickS pick0)) hw) x10.2.2.1 x10.2.2.2.1 (Rg.on (rds_own (pickS (pickS pick0))) hw) x10.2.2.2.2 (Rg.on (rds_own (pickS (pickS (pickS pick0)))) hw) hv14) rfl fun x11 => ?_
  refine mv rfl rfl ?_
  refine wl_pure (po_extract rfl rfl) rfl ?_
  refine wl_pure (po_extract rfl rfl) rfl ?_
  refine wl_eff (eo_alloc (cs := [(sl (⟨none, 0, 0⟩ : Hd)), (sl (⟨none, 0, 0⟩ : Hd)), (sl (⟨none, 0, 0⟩ : Hd)), (sl (⟨none, 0, 0⟩ : Hd)), .int .i64 0, .int .i64 0]) za_38) rfl fun b5 => ?_
  refine wl_skipop (so_box (cs' := [(sl x11.1), (sl x11.2.1), (sl x11.2.2.1), (sl x11.2.2.2.2), .int .i64 v14.1.Round, .int .i64 v14.1.Year]) tk_38 pick0 rfl rfl rfl rfl rfl rfl rfl) ?_
  refine asg rfl rfl ?_
  refine wnt ?_
  refine wc_seq ?_
  refine wc_seq ?_
  refine bdO t0 fun y1 t1 t0 => ?_
  refine wj (J := Bool) (X := Unit) (fun z => y1 = z) (fun z _ => [(7, ptr b4 0), (10, .int .i64 v11.1), (87, .bool z)]) (fun _ _ => [box b4 [(sl x4.1), (sl x4.2.1), (sl x4.2.2.1), (sl x4.2.2.2.2), .int .i64 v5.1.Round, .int .i64 v5.1.Year], ownF (sl x4.1) v11.2.1, ownF (sl x4.2.1) v11.2.2.1, own (sl x4.2.2.1) x9 v11.2.2.2.1, ownF (sl x4.2.2.2.2) v11.2.2.2.2]) ?_ ?_
  · skip
    refine wc_region ?_
    refine wl_pure (v := .agg #[(sl x11.1), (sl x11.2.1), (sl x11.2.2.1), (sl x11.2.2.2.2), .int .i64 v14.1.Round, .int .i64 v14.1.Year]) (po_load_boxs tk_38 pick0 rfl rfl rfl) rfl ?_
    refine wl_pure (v := .agg #[(sl x2.1), (sl x2.2.1), (sl x2.2.2.1), (sl x2.2.2.2.2), .int .i64 v3.1.Round, .int .i64 v3.1.Year]) (po_load_boxs tk_38 (pickS (pickS (pickS (pickS (pickS (pickS (pickS (pickS (pickS (pickS (pickS (pickS (pickS (pickS pick0)))))))))))))) rfl rfl rfl) rfl ?_
    refine bdO t1 fun v15 hv15 t1 => ?_
    refine wl_call (co_c0 fa_16 rfl fun w hw => c_laws_eqGuild w v14.1 x11.1 (Rg.on (rds_own (pickS pick0)) hw) x11.2.1 (Rg.on (rds_own (pickS (pickS pick0))) hw) x11.2.2.1 x11.2.2.2.1 (Rg.on (rds_own (pickS (pickS (pickS pick0)))) hw) x11.2.2.2.2 (Rg.on (rds_own (pickS (pickS (pickS (pickS pick0))))) hw) v3.1 x2.1 (Rg.on (rds_own (pickS (pickS (pickS (pickS (pickS (pickS (pickS (pickS (pickS (pickS (pickS (pickS (pickS (pickS (pickS (pickS pick0))))))))))))))))) hw) x2.2.1 (Rg.on (rds_own (pickS (pickS (pickS (pickS (pickS (pickS (pickS (pickS (pickS (pickS (pickS (pickS (pickS (pickS (pickS (pickS (pickS pick0)))))))))))))))))) hw) x2.2.2.1 x2.2.2.2.1 (Rg.on (rds_own (pickS (pickS (pickS (pickS (pickS (pickS (pickS (pickS (pickS (pickS (pickS (pickS (pickS (pickS (pickS (pickS (pickS (pickS pick0))))))))))))))))))) hw) x2.2.2.2.2 (Rg.on (rds_own (pickS (pickS (pickS (pickS (pickS (pickS (pickS (pickS (pickS (pickS (pickS (pickS (pickS (pickS (pickS (pickS (pickS (pickS (pickS pick0)))))))))))))))))))) hw) hv15) rfl fun _ => ?_
    refine wl_pure (po_not rfl) rfl ?_
    refine mv rfl rfl ?_
    refine wlO_ (t := 83) t1 rfl (fun h10 t1 => ?_) fun h10 t1 => ?_
    · skip
      refine wl_guard_off (j := 4) rfl rfl rfl rfl rfl ?_
      refine wl_guard_off (j := 4) rfl rfl rfl rfl rfl ?_
      refine wl_guard_off (j := 4) rfl rfl rfl rfl rfl ?_
      refine wl_pure (po_pick_t rfl rfl) rfl ?_
      refine wl_nil ?_
      exact wj_meet _ () (mtE t1) (sub_cons rfl (sub_cons rfl (sub_cons rfl sub_nil))) (some_cons (pickS (pickS (pickS (pickS (pickS (pickS (pickS (pickS (pickS (pickS (pickS (pickS (pickS pick0))))))))))))) (some_cons (pickS (pickS (pickS (pickS (pickS (pickS (pickS (pickS (pickS pick0))))))))) (some_cons (pickS (pickS (pickS (pickS (pickS (pickS (pickS (pickS (pickS pick0))))))))) (some_cons (pickS (pickS (pickS (pickS (pickS (pickS (pickS (pickS (pickS pick0))))))))) (some_cons (pickS (pickS (pickS (pickS (pickS (pickS (pickS (pickS (pickS pick0))))))))) some_nil)))))
    refine wl_guard_on (j := 4) rfl rfl rfl (mv rfl rfl ?_)
    refine wl_guard_on (j := 4) rfl rfl rfl (mv rfl rfl ?_)
    refine wl_guard_on (j := 4) rfl rfl rfl (wl_pure (po_neq_bool ub_4 rfl rfl) rfl ?_)
    refine wl_pure (po_pick_f rfl rfl) rfl ?_
    refine wl_nil ?_
    exact wj_meet _ () (mtE t1) (sub_cons rfl (sub_cons rfl (sub_cons rfl sub_nil))) (some_cons (pickS (pickS (pickS (pickS (pickS (pickS (pickS (pickS (pickS (pickS (pickS (pickS (pickS pick0))))))))))))) (some_cons (pickS (pickS (pickS (pickS (pickS (pickS (pickS (pickS (pickS pick0))))))))) (some_cons (pickS (pickS (pickS (pickS (pickS (pickS (pickS (pickS (pickS pick0))))))))) (some_cons (pickS (pickS (pickS (pickS (pickS (pickS (pickS (pickS (pickS pick0))))))))) (some_cons (pickS (pickS (pickS (pickS (pickS (pickS (pickS (pickS (pickS pick0))))))))) some_nil)))))
  intro j3 _ hp
  obtain rfl : j3 = y1 := hp.symm
  refine wq_then ?_
  refine wcO t0 rfl (fun h11 t0 => ?_) fun h11 t0 => ?_
  · skip
    refine wcr ?_
    refine asg rfl rfl ?_
    refine wnt ?_
    refine wc_ret ?_
    refine wq_then_ret ?_
    obtain rfl := Option.some.inj t0
    exact wq_ret1 rfl rfl fun w hw => ⟨rfl, hw.weak some_nil⟩
  refine wc_skip ?_
  refine wq_then ?_
  refine wcr ?_
  refine asg rfl rfl ?_
  refine wnt ?_
  refine wcr ?_
  refine wl_pure (v := .agg #[(sl x4.1), (sl x4.2.1), (sl x4.2.2.1), (sl x4.2.2.2.2), .int .i64 v5.1.Round, .int .i64 v5.1.Year]) (po_load_boxs tk_38 pick0 rfl rfl rfl) rfl ?_
  refine mv rfl rfl ?_
  refine bdO t0 fun v16 hv16 t0 => ?_
  refine wl_call (co_c0 fa_18 rfl fun w hw => c_laws_heldGuild w (GGuild.mk v11.2.1 v11.2.2.1 v11.2.2.2.1 v11.2.2.2.2 v5.1.Round v5.1.Year) x4.1 (Rg.on (rds_own (pickS pick0)) hw) x4.2.1 (Rg.on (rds_own (pickS (pickS pick0))) hw) x4.2.2.1 x9 (Rg.on (rds_own (pickS (pickS (pickS pick0)))) hw) x4.2.2.2.2 (Rg.on (rds_own (pickS (pickS (pickS (pickS pick0))))) hw) 1 hv16) rfl fun _ => ?_
  refine asg rfl rfl ?_
  refine wnt ?_
  refine wc_seq ?_
  refine wcr ?_
  refine mv rfl rfl ?_
  refine wl_pure (po_lss rfl rfl) rfl ?_
  refine wnt ?_
  refine wcO t0 rfl (fun h12 t0 => ?_) fun h12 t0 => ?_
  · skip
    refine wcr ?_
    refine asg rfl rfl ?_
    refine wnt ?_
    refine wc_ret ?_
    refine wq_then_ret ?_
    obtain rfl := Option.some.inj t0
    exact wq_ret1 rfl rfl fun w hw => ⟨rfl, hw.weak some_nil⟩
  refine wc_skip ?_
  refine wq_then ?_
  refine wc_seq ?_
  refine wcr ?_
  refine mv rfl rfl ?_
  refine mv rfl rfl ?_
  refine wl_pure (po_neq rfl rfl) rfl ?_
  refine wnt ?_
  refine wcO t0 rfl (fun h13 t0 => ?_) fun h13 t0 => ?_
  · skip
    refine wcr ?_
    refine asg rfl rfl ?_
    refine wnt ?_
    refine wc_ret ?_
    refine wq_then_ret ?_
    obtain rfl := Option.some.inj t0
    exact wq_ret1 rfl rfl fun w hw => ⟨rfl, hw.weak some_nil⟩
  refine wc_skip ?_
  refine wq_then ?_
  refine wcr ?_
  refine asg rfl rfl ?_
  refine wnt ?_
  refine wc_ret ?_
  obtain rfl := Option.some.inj t0
  exact wq_ret1 rfl rfl fun w hw => ⟨rfl, hw.weak some_nil⟩

end Go.Proofs.Ytnfdinafbfggeab
