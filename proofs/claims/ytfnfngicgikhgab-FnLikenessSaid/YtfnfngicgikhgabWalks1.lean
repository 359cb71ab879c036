/-
  Each Go function computes its Lean function (part 1).
-/
import Derived.Test.YtfnfngicgikhgabFacts
namespace Go.Proofs.Ytfnfngicgikhgab
open Go Go.RowKit Go.Proofs
set_option maxRecDepth 100000

theorem c_laws_big (w : World) (a_code : List UInt8) (v0a : Hd) (r0 : rdF w (dm w []) (sl v0a) a_code) {r : Bool} (t0 : laws_big a_code = some r) : Calls Try.prog 4 #[(sl v0a)] w fun e w' => e = .returned (.bool r) ∧ SH w [] [] w' := by
  refine calls_of_wc (args := [_]) Try.func4 rfl Try.ntmps4 rfl ?_
  unfold laws_big at t0
  refine wcr ?_
  refine asg rfl rfl ?_
  refine wnt ?_
  refine wcr ?_
  refine mv rfl rfl ?_
  refine wl_pure (po_lenr (rds_arg r0) el_22 rfl) rfl ?_
  refine wl_pure (po_gtr rfl rfl) rfl ?_
  refine asg rfl rfl ?_
  refine wnt ?_
  refine wc_ret ?_
  obtain rfl := Option.some.inj t0
  exact wq_ret1 rfl rfl fun w hw => ⟨rfl, hw.weak some_nil⟩

theorem c_spec_l01New (w : World) (a_code : List UInt8) (v0a : Hd) (r0 : rdF w (dm w []) (sl v0a) a_code) {r : Int × Int} (t0 : spec_l01New a_code = some r) : Calls Try.prog 17 #[(sl v0a)] w fun e w' => ∃ x : Nat, e = .returned (ptr x 0) ∧ SH w [] [box x [(sl v0a), .int .i64 r.1, .int .i64 r.2]] w' := by
  refine calls_of_wc (args := [_]) Try.func17 rfl Try.ntmps17 rfl ?_
  unfold spec_l01New at t0
  refine wcr ?_
  refine asg rfl rfl ?_
  refine wnt ?_
  refine wcr ?_
  refine mv rfl rfl ?_
  refine wl_pure (po_lenr (rds_arg r0) el_22 rfl) rfl ?_
  refine wl_pure (po_add rfl rfl) rfl ?_
  refine asg rfl rfl ?_
  refine wnt ?_
  refine wc_seq ?_
  refine wcr ?_
  refine asg rfl rfl ?_
  refine wnt ?_
  refine gdO t0 fun g1 t0 => ?_
  refine lpO_inv t0 fun y1 l1 t0 => ?_
  refine wj (J := Int) (X := Unit) (fun z => y1 = z) (fun z _ => [(0, (sl v0a)), (3, .int .i64 z)]) (fun _ _ => []) ?_ ?_
  · skip
    refine wc_block ?_
    refine wc_forO (X := Unit) l1 (fun k1 s1 x1l => [(0, (sl v0a)), (3, .int .i64 s1), (4, .int .i64 ((k1 : Nat) : Int))]) (fun k1 s1 x1l => []) () (sub_cons rfl (sub_cons rfl (sub_cons rfl sub_nil))) some_nil fun k1 s1 x1l hN1 l1 => ?_
    by_cases hk1 : k1 < a_code.length
    · skip
      refine forO_step l1 hk1 fun _ t1 l1 => ?_
      unfold spec_l01New_L1 at t1
      have c1 : (decide (((k1 : Nat) : Int) < ((a_code.length : Nat) : Int))) = true := decide_eq_true (by omega)
      refine wc_seq ?_
      refine wcr ?_
      refine mv rfl rfl ?_
      refine mv rfl rfl ?_
      refine wl_pure (po_lenr (rds_arg r0) el_22 rfl) rfl ?_
      refine wl_pure (po_lss rfl rfl) rfl ?_
      refine mv rfl rfl ?_
      refine wl_know (t := 12) rfl c1 ?_
      refine wl_guard_on (j := 4) rfl rfl rfl (mv rfl rfl ?_)
      refine wl_guard_on (j := 4) rfl rfl rfl (wl_pure (po_lss rfl rfl) rfl ?_)
      refine wl_pure (po_pick_t rfl rfl) rfl ?_
      refine wnt ?_
      refine wcO t1 rfl (fun h1 t1 => ?_) fun h1 t1 => ?_
      · skip
        refine wc_skip ?_
        refine wq_then ?_
        refine wc_seq ?_
        refine wc_block ?_
        refine wc_region ?_
        refine mv rfl rfl ?_
        refine wl_pure (po_mul rfl rfl) rfl ?_
        refine mv rfl rfl ?_
        refine mv rfl rfl ?_
        refine wl_pure (po_ixn (k := k1) (rds_arg r0) el_22 rfl rfl hk1) rfl ?_
        refine wl_pure (v := .int .u8 ((gx a_code k1).toNat : Int)) (po_ldf (rds_arg r0) tk_5 rfl hk1 rfl) rfl ?_
        refine wl_pure (po_u8int isU8_5 isInt_3 rfl) rfl ?_
        refine wl_pure (po_add rfl rfl) rfl ?_
        refine wl_pure (po_add rfl rfl) rfl ?_
        refine wl_pure (po_and rfl rfl) rfl ?_
        refine asg rfl rfl ?_
        refine wl_nil ?_
        refine wq_block ?_
        refine wq_then ?_
        refine wc_region ?_
        refine mv rfl rfl ?_
        refine wl_pure (po_inc rfl rfl (by omega)) rfl ?_
        refine asg rfl rfl ?_
        refine wl_nil ?_
        exact wq_rnd hk1 (stpN l1 t1) () (sub_cons rfl (sub_cons rfl (sub_cons rfl sub_nil))) some_nil
      refine wc_exit ?_
      refine wq_then_exit ?_
      refine wq_then_exit ?_
      refine wq_block_exit ?_
      exact wj_meet _ () (Sum.inl.inj (stpB l1 t1)) (sub_cons rfl (sub_cons rfl sub_nil)) some_nil
    have c1 : (decide (((k1 : Nat) : Int) < ((a_code.length : Nat) : Int))) = false := decide_eq_false (by omega)
    have en1 := forO_end l1 hk1
    refine wc_seq ?_
    refine wcr ?_
    refine mv rfl rfl ?_
    refine mv rfl rfl ?_
    refine wl_pure (po_lenr (rds_arg r0) el_22 rfl) rfl ?_
    refine wl_pure (po_lss rfl rfl) rfl ?_
    refine mv rfl rfl ?_
    refine wl_know (t := 12) rfl c1 ?_
    refine wl_guard_off (j := 4) rfl rfl rfl rfl rfl ?_
    refine wl_guard_off (j := 4) rfl rfl rfl rfl rfl ?_
    refine wl_pure (po_pick_f rfl rfl) rfl ?_
    refine wnt ?_
    refine wc_cond_f rfl rfl ?_
    refine wc_exit ?_
    refine wq_then_exit ?_
    refine wq_then_exit ?_
    refine wq_block_exit ?_
    exact wj_meet _ () (Sum.inl.inj en1) (sub_cons rfl (sub_cons rfl sub_nil)) some_nil
  intro e1 _ hp
  obtain rfl : e1 = y1 := hp.symm
  refine wq_then ?_
  refine wcr ?_
  refine mv rfl rfl ?_
  refine mv rfl rfl ?_
  refine wl_pure (po_build rfl (bd_57_0_2 v0a e1)) rfl ?_
  refine wl_eff (eo_box rfl rfl) rfl fun b1 => ?_
  refine asg rfl rfl ?_
  refine wnt ?_
  refine wc_ret ?_
  obtain rfl := Option.some.inj t0
  exact wq_ret1 rfl rfl fun w hw => ⟨b1, rfl, hw.weak (some_cons pick0 some_nil)⟩

theorem c_spec_l01Byte (w : World) (fp : List Nat) (b0p : Nat) (a_c0 : List UInt8) (v0a : Hd) (r0 : rdF w (dm w fp) (sl v0a) a_c0) (a_c1 : Int) (a_c2 : Int) (o : Ow w [box b0p [(sl v0a), .int .i64 a_c1, .int .i64 a_c2]] fp) {r : Int × Int × Int} (t0 : spec_l01Byte a_c0 a_c1 a_c2 = some r) : Calls Try.prog 54 #[ptr b0p 0] w fun e w' => ∃ _x : Unit, e = .returned (.int .i64 r.1) ∧ SH w fp [box b0p [(sl v0a), .int .i64 r.2.1, .int .i64 r.2.2]] w' := by
  refine calls_of_wc_own (args := [_]) o Try.func54 rfl Try.ntmps54 rfl ?_
  unfold spec_l01Byte at t0
  refine wcr ?_
  refine asg rfl rfl ?_
  refine wnt ?_
  refine wcr ?_
  refine mv rfl rfl ?_
  refine mv rfl rfl ?_
  refine wl_pure (po_nilCheck rfl) rfl ?_
  refine wl_pure (po_fld fo_57_2 rfl) rfl ?_
  refine wl_pure (v := .int .i64 a_c2) (po_load_box tk_3 pick0 rfl rfl) rfl ?_
  refine wl_pure (po_mul rfl rfl) rfl ?_
  refine wl_pure (po_add rfl rfl) rfl ?_
  refine wl_pure (po_nilCheck rfl) rfl ?_
  refine wl_pure (po_fld fo_57_2 rfl) rfl ?_
  refine wl_skipop (so_box (cs' := [(sl v0a), .int .i64 a_c1, .int .i64 (wr ((wr (a_c2 * 6364136223846793005)) + 1442695040888963407))]) tk_3 pick0 rfl rfl rfl rfl rfl rfl rfl) ?_
  refine wnt ?_
  refine wc_seq ?_
  refine wc_draw [box b0p [(sl v0a), .int .i64 a_c1, .int .i64 (wr ((wr (a_c2 * 6364136223846793005)) + 1442695040888963407))]] 13 mixed ?_
  refine wa_pure 0 rfl (po_move rfl) (some_cons pick0 some_nil) rfl (by kernel_rfl) (fun _ _ _ h => h) ?_
  refine wa_pure 1 rfl (po_nilCheck rfl) (some_cons pick0 some_nil) rfl (by kernel_rfl) (fun _ _ _ h => h) ?_
  refine wa_pure 2 rfl (po_fld fo_57_2 rfl) (some_cons pick0 some_nil) rfl (by kernel_rfl) (fun _ _ _ h => h) ?_
  refine wa_pure (v := .int .i64 (wr ((wr (a_c2 * 6364136223846793005)) + 1442695040888963407))) 3 rfl (po_load_box tk_3 pick0 rfl rfl) (some_cons pick0 some_nil) rfl (by kernel_rfl) (fun _ _ _ h => h) ?_
  refine wa_pure 4 rfl (po_shr rfl rfl (by decide)) (some_cons pick0 some_nil) rfl (by kernel_rfl) (fun _ _ _ h => h) ?_
  refine wa_pure 5 rfl (po_move rfl) (some_cons pick0 some_nil) rfl (by kernel_rfl) (fun _ _ _ h => h) ?_
  refine wa_pure 6 rfl (po_nilCheck rfl) (some_cons pick0 some_nil) rfl (by kernel_rfl) (fun _ _ _ h => h) ?_
  refine wa_pure 7 rfl (po_fld fo_57_2 rfl) (some_cons pick0 some_nil) rfl (by kernel_rfl) (fun _ _ _ h => h) ?_
  refine wa_pure (v := .int .i64 (wr ((wr (a_c2 * 6364136223846793005)) + 1442695040888963407))) 8 rfl (po_load_box tk_3 pick0 rfl rfl) (some_cons pick0 some_nil) rfl (by kernel_rfl) (fun _ _ _ h => h) ?_
  refine wa_pure 9 rfl (po_shr rfl rfl (by decide)) (some_cons pick0 some_nil) rfl (by kernel_rfl) (fun _ _ _ h => h) ?_
  refine wa_pure 10 rfl (po_xor rfl rfl) (some_cons pick0 some_nil) rfl (by kernel_rfl) (fun _ _ _ h => h) ?_
  refine wa_pure 11 rfl (po_and rfl rfl) (some_cons pick0 some_nil) rfl (by kernel_rfl) (fun _ _ _ h => h) ?_
  refine wa_pure 12 rfl (po_assign rfl) (some_cons pick0 some_nil) rfl (by kernel_rfl) (fun _ _ _ h => h) ?_
  refine wa_done (by kernel_rfl) ?_
  refine wq_then ?_
  refine wc_seq ?_
  refine wc_seq ?_
  refine wc_draw [box b0p [(sl v0a), .int .i64 a_c1, .int .i64 (wr ((wr (a_c2 * 6364136223846793005)) + 1442695040888963407))]] 10 mixed ?_
  refine wa_pure 0 rfl (po_move rfl) (some_cons pick0 some_nil) rfl (by kernel_rfl) (fun _ _ _ h => h) ?_
  refine wa_pure 1 rfl (po_nilCheck rfl) (some_cons pick0 some_nil) rfl (by kernel_rfl) (fun _ _ _ h => h) ?_
  refine wa_pure 2 rfl (po_fld fo_57_1 rfl) (some_cons pick0 some_nil) rfl (by kernel_rfl) (fun _ _ _ h => h) ?_
  refine wa_pure (v := .int .i64 a_c1) 3 rfl (po_load_box tk_3 pick0 rfl rfl) (some_cons pick0 some_nil) rfl (by kernel_rfl) (fun _ _ _ h => h) ?_
  refine wa_pure 4 rfl (po_move rfl) (some_cons pick0 some_nil) rfl (by kernel_rfl) (fun _ _ _ h => h) ?_
  refine wa_pure 5 rfl (po_nilCheck rfl) (some_cons pick0 some_nil) rfl (by kernel_rfl) (fun _ _ _ h => h) ?_
  refine wa_pure 6 rfl (po_fld fo_57_0 rfl) (some_cons pick0 some_nil) rfl (by kernel_rfl) (fun _ _ _ h => h) ?_
  refine wa_pure (v := (sl v0a)) 7 rfl (po_load_box tk_22 pick0 rfl rfl) (some_cons pick0 some_nil) rfl (by kernel_rfl) (fun _ _ _ h => h) ?_
  refine wa_pure 8 rfl (po_lenr (rds_arg r0) el_22 rfl) (some_cons pick0 some_nil) rfl (by kernel_rfl) (fun _ _ _ h => h) ?_
  refine wa_pure 9 rfl (po_lss rfl rfl) (some_cons pick0 some_nil) rfl (by kernel_rfl) (fun _ _ _ h => h) ?_
  refine wa_done (by kernel_rfl) ?_
  refine wq_then ?_
  refine bdO t0 fun y1 t1 t0 => ?_
  refine wj (J := Int × Int) (X := Unit) (fun z => y1 = z) (fun z _ => [(3, .int .i64 z.1)]) (fun z _ => [box b0p [(sl v0a), .int .i64 z.2, .int .i64 (wr ((wr (a_c2 * 6364136223846793005)) + 1442695040888963407))]]) ?_ ?_
  · skip
    refine wcO t1 rfl (fun h1 t1 => ?_) fun h1 t1 => ?_
    · skip
      refine wc_seq ?_
      refine wc_draw [box b0p [(sl v0a), .int .i64 a_c1, .int .i64 (wr ((wr (a_c2 * 6364136223846793005)) + 1442695040888963407))]] 15 mixed ?_
      refine wa_pure 0 rfl (po_move rfl) (some_cons pick0 some_nil) rfl (by kernel_rfl) (fun _ _ _ h => h) ?_
      refine wa_pure 1 rfl (po_move rfl) (some_cons pick0 some_nil) rfl (by kernel_rfl) (fun _ _ _ h => h) ?_
      refine wa_pure 2 rfl (po_nilCheck rfl) (some_cons pick0 some_nil) rfl (by kernel_rfl) (fun _ _ _ h => h) ?_
      refine wa_pure 3 rfl (po_fld fo_57_0 rfl) (some_cons pick0 some_nil) rfl (by kernel_rfl) (fun _ _ _ h => h) ?_
      refine wa_pure (v := (sl v0a)) 4 rfl (po_load_box tk_22 pick0 rfl rfl) (some_cons pick0 some_nil) rfl (by kernel_rfl) (fun _ _ _ h => h) ?_
      refine wa_pure 5 rfl (po_move rfl) (some_cons pick0 some_nil) rfl (by kernel_rfl) (fun _ _ _ h => h) ?_
      refine wa_pure 6 rfl (po_nilCheck rfl) (some_cons pick0 some_nil) rfl (by kernel_rfl) (fun _ _ _ h => h) ?_
      refine wa_pure 7 rfl (po_fld fo_57_1 rfl) (some_cons pick0 some_nil) rfl (by kernel_rfl) (fun _ _ _ h => h) ?_
      refine wa_pure (v := .int .i64 a_c1) 8 rfl (po_load_box tk_3 pick0 rfl rfl) (some_cons pick0 some_nil) rfl (by kernel_rfl) (fun _ _ _ h => h) ?_
      refine gdO t1 fun g1 t1 => ?_
      refine wa_pure 9 rfl (po_ixr (rds_arg r0) el_22 rfl rfl g1.1 g1.2) (some_cons pick0 some_nil) rfl (by kernel_rfl) (fun _ _ _ h => h) ?_
      refine wa_pure (v := .int .u8 ((gx a_c0 ((a_c1).toNat)).toNat : Int)) 10 rfl (po_ldf (rds_arg r0) tk_5 rfl (ix_lt g1) rfl) (some_cons pick0 some_nil) rfl (by kernel_rfl) (fun _ _ _ h => h) ?_
      refine wa_pure 11 rfl (po_u8int isU8_5 isInt_3 rfl) (some_cons pick0 some_nil) rfl (by kernel_rfl) (fun _ _ _ h => h) ?_
      refine wa_pure 12 rfl (po_add rfl rfl) (some_cons pick0 some_nil) rfl (by kernel_rfl) (fun _ _ _ h => h) ?_
      refine wa_pure 13 rfl (po_and rfl rfl) (some_cons pick0 some_nil) rfl (by kernel_rfl) (fun _ _ _ h => h) ?_
      refine wa_pure 14 rfl (po_assign rfl) (some_cons pick0 some_nil) rfl (by kernel_rfl) (fun _ _ _ h => h) ?_
      refine wa_done (by kernel_rfl) ?_
      refine wq_then ?_
      refine wc_region ?_
      refine mv rfl rfl ?_
      refine mv rfl rfl ?_
      refine wl_pure (po_nilCheck rfl) rfl ?_
      refine wl_pure (po_fld fo_57_1 rfl) rfl ?_
      refine wl_pure (v := .int .i64 a_c1) (po_load_box tk_3 pick0 rfl rfl) rfl ?_
      refine wl_pure (po_add rfl rfl) rfl ?_
      refine wl_pure (po_nilCheck rfl) rfl ?_
      refine wl_pure (po_fld fo_57_1 rfl) rfl ?_
      refine wl_skipop (so_box (cs' := [(sl v0a), .int .i64 (wr (a_c1 + 1)), .int .i64 (wr ((wr (a_c2 * 6364136223846793005)) + 1442695040888963407))]) tk_3 pick0 rfl rfl rfl rfl rfl rfl rfl) ?_
      refine wl_nil ?_
      exact wj_meet _ () (mtE t1) (sub_cons rfl sub_nil) (some_cons pick0 some_nil)
    refine wc_skip ?_
    exact wj_meet _ () (mtE t1) (sub_cons rfl sub_nil) (some_cons pick0 some_nil)
  intro j1 _ hp
  obtain rfl : j1 = y1 := hp.symm
  refine wq_then ?_
  refine wcr ?_
  refine mv rfl rfl ?_
  refine asg rfl rfl ?_
  refine wnt ?_
  refine wc_ret ?_
  obtain rfl := Option.some.inj t0
  exact wq_ret1 rfl rfl fun w hw => ⟨(), rfl, hw.weak (some_cons pick0 some_nil)⟩

theorem c_spec_l01Below (w : World) (fp : List Nat) (b0p : Nat) (a_c0 : List UInt8) (v0a : Hd) (r0 : rdF w (dm w fp) (sl v0a) a_c0) (a_c1 : Int) (a_c2 : Int) (a_n : Int) (o : Ow w [box b0p [(sl v0a), .int .i64 a_c1, .int .i64 a_c2]] fp) {r : Int × Int × Int} (t0 : spec_l01Below a_c0 a_c1 a_c2 a_n = some r) : Calls Try.prog 34 #[ptr b0p 0, .int .i64 a_n] w fun e w' => ∃ _x : Unit, e = .returned (.int .i64 r.1) ∧ SH w fp [box b0p [(sl v0a), .int .i64 r.2.1, .int .i64 r.2.2]] w' := by
  refine calls_of_wc_own (args := [_, _]) o Try.func34 rfl Try.ntmps34 rfl ?_
  unfold spec_l01Below at t0
  refine wcr ?_
  refine asg rfl rfl ?_
  refine wnt ?_
  refine wc_seq ?_
  refine wcr ?_
  refine mv rfl rfl ?_
  refine wl_pure (po_leq rfl rfl) rfl ?_
  refine wnt ?_
  refine wcO t0 rfl (fun h1 t0 => ?_) fun h1 t0 => ?_
  · skip
    refine wcr ?_
    refine asg rfl rfl ?_
    refine wnt ?_
    refine wc_ret ?_
    refine wq_then_ret ?_
    obtain rfl := Option.some.inj t0
    exact wq_ret1 rfl rfl fun w hw => ⟨(), rfl, hw.weak (some_cons pick0 some_nil)⟩
  refine wc_skip ?_
  refine wq_then ?_
  refine wc_seq ?_
  refine wcr ?_
  refine mv rfl rfl ?_
  refine wl_pure (po_leq rfl rfl) rfl ?_
  refine wnt ?_
  refine wcO t0 rfl (fun h2 t0 => ?_) fun h2 t0 => ?_
  · skip
    refine wcr ?_
    refine mv rfl rfl ?_
    refine bdO t0 fun v1 hv1 t0 => ?_
    refine wl_call (co_o1 [box b0p [(sl v0a), .int .i64 a_c1, .int .i64 a_c2]] fa_54 (some_cons pick0 some_refl) rfl fun w fp hw => c_spec_l01Byte w fp b0p a_c0 v0a ((rdo_arg r0) w fp hw) a_c1 a_c2 hw.ow hv1) rfl fun _ => ?_
    refine mv rfl rfl ?_
    refine gdO t0 fun g1 t0 => ?_
    refine wl_pure (po_rem rfl rfl g1) rfl ?_
    refine asg rfl rfl ?_
    refine wnt ?_
    refine wc_ret ?_
    refine wq_then_ret ?_
    obtain rfl := Option.some.inj t0
    exact wq_ret1 rfl rfl fun w hw => ⟨(), rfl, hw.weak (some_cons pick0 some_nil)⟩
  refine wc_skip ?_
  refine wq_then ?_
  refine wcr ?_
  refine mv rfl rfl ?_
  refine bdO t0 fun v2 hv2 t0 => ?_
  refine wl_call (co_o1 [box b0p [(sl v0a), .int .i64 a_c1, .int .i64 a_c2]] fa_54 (some_cons pick0 some_refl) rfl fun w fp hw => c_spec_l01Byte w fp b0p a_c0 v0a ((rdo_arg r0) w fp hw) a_c1 a_c2 hw.ow hv2) rfl fun _ => ?_
  refine asg rfl rfl ?_
  refine wnt ?_
  refine wcr ?_
  refine mv rfl rfl ?_
  refine bdO t0 fun v3 hv3 t0 => ?_
  refine wl_call (co_o1 [box b0p [(sl v0a), .int .i64 v2.2.1, .int .i64 v2.2.2]] fa_54 (some_cons pick0 some_refl) rfl fun w fp hw => c_spec_l01Byte w fp b0p a_c0 v0a ((rdo_arg r0) w fp hw) v2.2.1 v2.2.2 hw.ow hv3) rfl fun _ => ?_
  refine asg rfl rfl ?_
  refine wnt ?_
  refine wcr ?_
  refine mv rfl rfl ?_
  refine bdO t0 fun v4 hv4 t0 => ?_
  refine wl_call (co_o1 [box b0p [(sl v0a), .int .i64 v3.2.1, .int .i64 v3.2.2]] fa_54 (some_cons pick0 some_refl) rfl fun w fp hw => c_spec_l01Byte w fp b0p a_c0 v0a ((rdo_arg r0) w fp hw) v3.2.1 v3.2.2 hw.ow hv4) rfl fun _ => ?_
  refine asg rfl rfl ?_
  refine wnt ?_
  refine wcr ?_
  refine mv rfl rfl ?_
  refine bdO t0 fun v5 hv5 t0 => ?_
  refine wl_call (co_o1 [box b0p [(sl v0a), .int .i64 v4.2.1, .int .i64 v4.2.2]] fa_54 (some_cons pick0 some_refl) rfl fun w fp hw => c_spec_l01Byte w fp b0p a_c0 v0a ((rdo_arg r0) w fp hw) v4.2.1 v4.2.2 hw.ow hv5) rfl fun _ => ?_
  refine asg rfl rfl ?_
  refine wnt ?_
  refine wcr ?_
  refine mv rfl rfl ?_
  refine wl_pure (po_mul rfl rfl) rfl ?_
  refine mv rfl rfl ?_
  refine wl_pure (po_mul rfl rfl) rfl ?_
  refine wl_pure (po_add rfl rfl) rfl ?_
  refine mv rfl rfl ?_
  refine wl_pure (po_mul rfl rfl) rfl ?_
  refine wl_pure (po_add rfl rfl) rfl ?_
  refine mv rfl rfl ?_
  refine wl_pure (po_add rfl rfl) rfl ?_
  refine mv rfl rfl ?_
  refine gdO t0 fun g2 t0 => ?_
  refine wl_pure (po_rem rfl rfl g2) rfl ?_
  refine asg rfl rfl ?_
  refine wnt ?_
  refine wc_ret ?_
  obtain rfl := Option.some.inj t0
  exact wq_ret1 rfl rfl fun w hw => ⟨(), rfl, hw.weak (some_cons pick0 some_nil)⟩

theorem c_spec_l01In (w : World) (a_x : Int) (a_least : Int) (a_most : Int) {r : Bool} (t0 : spec_l01In a_x a_least a_most = some r) : Calls Try.prog 23 #[.int .i64 a_x, .int .i64 a_least, .int .i64 a_most] w fun e w' => e = .returned (.bool r) ∧ SH w [] [] w' := by
  refine calls_of_wc (args := [_, _, _]) Try.func23 rfl Try.ntmps23 rfl ?_
  unfold spec_l01In at t0
  refine wcr ?_
  refine asg rfl rfl ?_
  refine wnt ?_
  refine wc_seq ?_
  refine wc_join (X := Unit) (fun _ => True) (fun _ => [(6, .bool ((decide (a_x ≥ a_least)) && (decide (a_x ≤ a_most))))]) (fun _ => []) ?_ ?_
  · skip
    refine wc_region ?_
    refine mv rfl rfl ?_
    refine mv rfl rfl ?_
    refine wl_pure (po_geq rfl rfl) rfl ?_
    refine mv rfl rfl ?_
    refine wl_fork (t := 10) rfl (fun h1 => ?_) fun h1 => ?_
    · skip
      refine wl_guard_on (j := 3) rfl rfl rfl (mv rfl rfl ?_)
      refine wl_guard_on (j := 3) rfl rfl rfl (mv rfl rfl ?_)
      refine wl_guard_on (j := 3) rfl rfl rfl (wl_pure (po_leq rfl rfl) rfl ?_)
      refine wl_pure (po_pick_t rfl rfl) rfl ?_
      refine asg rfl rfl ?_
      refine wl_nil ?_
      exact wq_meet () trivial (sub_b rfl (by rw [h1]; rfl) sub_nil) some_nil
    refine wl_guard_off (j := 3) rfl rfl rfl rfl rfl ?_
    refine wl_guard_off (j := 3) rfl rfl rfl rfl rfl ?_
    refine wl_guard_off (j := 3) rfl rfl rfl rfl rfl ?_
    refine wl_pure (po_pick_f rfl rfl) rfl ?_
    refine asg rfl rfl ?_
    refine wl_nil ?_
    exact wq_meet () trivial (sub_b rfl (by rw [h1]; rfl) sub_nil) some_nil
  intro _ _
  refine wq_then ?_
  refine wc_ret ?_
  obtain rfl := Option.some.inj t0
  exact wq_ret1 rfl rfl fun w hw => ⟨rfl, hw.weak some_nil⟩

theorem c_spec_WholeCell (w : World) (a_a : Int) {r : GCell} (t0 : spec_WholeCell a_a = some r) : Calls Try.prog 72 #[.int .i64 a_a] w fun e w' => e = .returned (.agg #[.int .i64 r.Split, .int .i64 r.A, .int .i64 r.B]) ∧ SH w [] [] w' := by
  refine calls_of_wc (args := [_]) Try.func72 rfl Try.ntmps72 rfl ?_
  unfold spec_WholeCell at t0
  refine wcr ?_
  refine wl_eff (eo_alloc (cs := [.int .i64 0, .int .i64 0, .int .i64 0]) za_33) rfl fun b1 => ?_
  refine wnt ?_
  refine wc_seq ?_
  refine wcr ?_
  refine mv rfl rfl ?_
  refine bdO t0 fun v1 hv1 t0 => ?_
  refine wl_call (co_c0 fa_23 rfl fun w hw => c_spec_l01In w a_a 0 5 hv1) rfl fun _ => ?_
  refine wl_pure (po_not rfl) rfl ?_
  refine wnt ?_
  refine wcO t0 rfl (fun h1 t0 => ?_) fun h1 t0 => ?_
  · skip
    refine wcr ?_
    refine wl_pure (po_build rfl bd_33) rfl ?_
    refine wl_skipop (so_box (cs' := [.int .i64 0, .int .i64 0, .int .i64 0]) tk_33 pick0 rfl rfl rfl rfl rfl rfl rfl) ?_
    refine wnt ?_
    refine wc_ret ?_
    refine wq_then_ret ?_
    obtain rfl := Option.some.inj t0
    exact wq_retc rfl tk_33 rfl pick0 rfl fun w hw => ⟨rfl, hw.weak some_nil⟩
  refine wc_skip ?_
  refine wq_then ?_
  refine wcr ?_
  refine mv rfl rfl ?_
  refine mv rfl rfl ?_
  refine wl_pure (po_build rfl (bd_33_1_2 a_a a_a)) rfl ?_
  refine wl_skipop (so_box (cs' := [.int .i64 0, .int .i64 a_a, .int .i64 a_a]) tk_33 pick0 rfl rfl rfl rfl rfl rfl rfl) ?_
  refine wnt ?_
  refine wc_ret ?_
  obtain rfl := Option.some.inj t0
  exact wq_retc rfl tk_33 rfl pick0 rfl fun w hw => ⟨rfl, hw.weak some_nil⟩

theorem c_spec_StarBlock (w : World)  {r : GBlock} (t0 : spec_StarBlock = some r) : Calls Try.prog 70 #[] w fun e w' => ∃ x : Hd, e = .returned (.agg #[.int .i64 r.Size, (sl x)]) ∧ SH w [] [ownF (sl x) r.Cells] w' := by
  refine calls_of_wc (args := []) Try.func70 rfl Try.ntmps70 rfl ?_
  unfold spec_StarBlock at t0
  refine wcr ?_
  refine wl_eff (eo_alloc (cs := [.int .i64 0, (sl (⟨none, 0, 0⟩ : Hd))]) za_26) rfl fun b1 => ?_
  refine wnt ?_
  refine wcr ?_
  refine bdO t0 fun v1 hv1 t0 => ?_
  refine wl_call (co_c0 fa_72 rfl fun w hw => c_spec_WholeCell w 1 hv1) rfl fun _ => ?_
  refine wl_eff (eo_alloc (cs := [.int .i64 0, .int .i64 0, .int .i64 0]) za_33) rfl fun b2 => ?_
  refine wl_skipop (so_box (cs' := [.int .i64 v1.Split, .int .i64 v1.A, .int .i64 v1.B]) tk_33 pick0 rfl rfl rfl rfl rfl rfl rfl) ?_
  refine wnt ?_
  refine wcr ?_
  refine wl_pure (po_build rfl (bd_33_0_1_2 1 0 1)) rfl ?_
  refine wl_pure (v := .agg #[.int .i64 v1.Split, .int .i64 v1.A, .int .i64 v1.B]) (po_load_boxs tk_33 pick0 rfl rfl rfl) rfl ?_
  refine wl_pure (po_build rfl (bd_33_0_1_2 2 1 0)) rfl ?_
  refine wl_pure (v := .agg #[.int .i64 v1.Split, .int .i64 v1.A, .int .i64 v1.B]) (po_load_boxs tk_33 pick0 rfl rfl rfl) rfl ?_
  refine wl_pure (v := .agg #[.int .i64 v1.Split, .int .i64 v1.A, .int .i64 v1.B]) (po_load_boxs tk_33 pick0 rfl rfl rfl) rfl ?_
  refine wl_pure (v := .agg #[.int .i64 v1.Split, .int .i64 v1.A, .int .i64 v1.B]) (po_load_boxs tk_33 pick0 rfl rfl rfl) rfl ?_
  refine wl_pure (po_build rfl (bd_33_0_1_2 2 0 1)) rfl ?_
  refine wl_pure (v := .agg #[.int .i64 v1.Split, .int .i64 v1.A, .int .i64 v1.B]) (po_load_boxs tk_33 pick0 rfl rfl rfl) rfl ?_
  refine wl_pure (po_build rfl (bd_33_0_1_2 1 1 0)) rfl ?_
  refine wl_eff (eo_buildSlice (qs := [(0, .agg #[.int .i64 1, .int .i64 0, .int .i64 1]), (1, .agg #[.int .i64 v1.Split, .int .i64 v1.A, .int .i64 v1.B]), (2, .agg #[.int .i64 2, .int .i64 1, .int .i64 0]), (3, .agg #[.int .i64 v1.Split, .int .i64 v1.A, .int .i64 v1.B]), (4, .agg #[.int .i64 v1.Split, .int .i64 v1.A, .int .i64 v1.B]), (5, .agg #[.int .i64 v1.Split, .int .i64 v1.A, .int .i64 v1.B]), (6, .agg #[.int .i64 2, .int .i64 0, .int .i64 1]), (7, .agg #[.int .i64 v1.Split, .int .i64 v1.A, .int .i64 v1.B]), (8, .agg #[.int .i64 1, .int .i64 1, .int .i64 0])]) rfl (sb_24_9 1 0 1 v1.Split v1.A v1.B 2 1 0 v1.Split v1.A v1.B v1.Split v1.A v1.B v1.Split v1.A v1.B 2 0 1 v1.Split v1.A v1.B 1 1 0)) rfl fun b3 => ?_
  refine wl_pure (po_build rfl (bd_26_0_1 3 (⟨some ⟨b3, 0, none⟩, 9, 9⟩ : Hd))) rfl ?_
  refine wl_skipop (so_box (cs' := [.int .i64 3, (sl (⟨some ⟨b3, 0, none⟩, 9, 9⟩ : Hd))]) tk_26 (pickS (pickS pick0)) rfl rfl rfl rfl rfl rfl rfl) ?_
  refine wnt ?_
  refine wc_ret ?_
  obtain rfl := Option.some.inj t0
  exact wq_retc rfl tk_26 rfl pick0 rfl fun w hw => ⟨(⟨some ⟨b3, 0, none⟩, 9, 9⟩ : Hd), rfl, hw.weak (some_cons (pick_box_own (pickS pick0) (n := 9) (xs := ([(GCell.mk 1 0 1), v1, (GCell.mk 2 1 0), v1, v1, v1, (GCell.mk 2 0 1), v1, (GCell.mk 1 1 0)] : List GCell)) rfl rfl (by unfold maxLen; omega)) some_nil)⟩

theorem c_spec_PlainBlock (w : World) (a_size : Int) (a_a : Int) {r : GBlock × Bool} (t0 : spec_PlainBlock a_size a_a = some r) : Calls Try.prog 71 #[.int .i64 a_size, .int .i64 a_a] w fun e w' => ∃ x : Hd, e = .returned (.tuple #[.agg #[.int .i64 r.1.Size, (sl x)], .bool r.2]) ∧ SH w [] [ownF (sl x) r.1.Cells] w' := by
  refine calls_of_wc (args := [_, _]) Try.func71 rfl Try.ntmps71 rfl ?_
  unfold spec_PlainBlock at t0
  refine wcr ?_
  refine wl_eff (eo_alloc (cs := [.int .i64 0, (sl (⟨none, 0, 0⟩ : Hd))]) za_26) rfl fun b1 => ?_
  refine asg rfl rfl ?_
  refine wnt ?_
  refine wc_seq ?_
  refine wc_seq ?_
  refine bdO t0 fun y1 t1 t0 => ?_
  refine wj (J := Bool) (X := Unit) (fun z => y1 = z) (fun z _ => [(0, .int .i64 a_size), (1, .int .i64 a_a), (4, ptr b1 0), (15, .bool z)]) (fun _ _ => [box b1 [.int .i64 0, (sl (⟨none, 0, 0⟩ : Hd))]]) ?_ ?_
  · skip
    refine wc_region ?_
    refine mv rfl rfl ?_
    refine bdO t1 fun v1 hv1 t1 => ?_
    refine wl_call (co_c0 fa_23 rfl fun w hw => c_spec_l01In w a_size 1 4 hv1) rfl fun _ => ?_
    refine wl_pure (po_not rfl) rfl ?_
    refine mv rfl rfl ?_
    refine wlO_ (t := 11) t1 rfl (fun h1 t1 => ?_) fun h1 t1 => ?_
    · skip
      refine wl_guard_off (j := 3) rfl rfl rfl rfl rfl ?_
      refine wl_guard_off (j := 3) rfl rfl rfl rfl rfl ?_
      refine wl_guard_off (j := 3) rfl rfl rfl rfl rfl ?_
      refine wl_pure (po_pick_t rfl rfl) rfl ?_
      refine wl_nil ?_
      exact wj_meet _ () (mtE t1) (sub_cons rfl (sub_cons rfl (sub_cons rfl (sub_cons rfl sub_nil)))) (some_cons pick0 some_nil)
    refine wl_guard_on (j := 3) rfl rfl rfl (mv rfl rfl ?_)
    refine bdO t1 fun v2 hv2 t1 => ?_
    refine wl_guard_on (j := 3) rfl rfl rfl (wl_call (co_c0 fa_23 rfl fun w hw => c_spec_l01In w a_a 0 5 hv2) rfl (fun _ => ?_))
    refine wl_guard_on (j := 3) rfl rfl rfl (wl_pure (po_not rfl) rfl ?_)
    refine wl_pure (po_pick_f rfl rfl) rfl ?_
    refine wl_nil ?_
    exact wj_meet _ () (mtE t1) (sub_cons rfl (sub_cons rfl (sub_cons rfl (sub_cons rfl sub_nil)))) (some_cons pick0 some_nil)
  intro j1 _ hp
  obtain rfl : j1 = y1 := hp.symm
  refine wq_then ?_
  refine wcO t0 rfl (fun h2 t0 => ?_) fun h2 t0 => ?_
  · skip
    refine wcr ?_
    refine wl_pure (po_build rfl bd_26) rfl ?_
    refine wl_skipop (so_box (cs' := [.int .i64 0, (sl (⟨none, 0, 0⟩ : Hd))]) tk_26 pick0 rfl rfl rfl rfl rfl rfl rfl) ?_
    refine asg rfl rfl ?_
    refine wnt ?_
    refine wc_ret ?_
    refine wq_then_ret ?_
    obtain rfl := Option.some.inj t0
    exact wq_retc1 rfl tk_26 rfl rfl pick0 rfl fun w hw => ⟨(⟨none, 0, 0⟩ : Hd), rfl, hw.weak (some_cons pick_nil some_nil)⟩
  refine wc_skip ?_
  refine wq_then ?_
  refine wcr ?_
  refine mv rfl rfl ?_
  refine wl_pure (po_build rfl (bd_26_0 a_size)) rfl ?_
  refine wl_eff (eo_alloc (cs := [.int .i64 0, (sl (⟨none, 0, 0⟩ : Hd))]) za_26) rfl fun b2 => ?_
  refine wl_skipop (so_box (cs' := [.int .i64 a_size, (sl (⟨none, 0, 0⟩ : Hd))]) tk_26 pick0 rfl rfl rfl rfl rfl rfl rfl) ?_
  refine wnt ?_
  refine wc_seq ?_
  refine wcr ?_
  refine asg rfl rfl ?_
  refine wnt ?_
  refine gdO t0 fun g1 t0 => ?_
  refine lpO_inv t0 fun y1 l1 t0 => ?_
  refine wj (J := List GCell) (X := Hd) (fun z => y1 = z) (fun _ _ => [(4, ptr b1 0), (6, ptr b2 0)]) (fun z x => [box b2 [.int .i64 a_size, (sl x)], box b1 [.int .i64 0, (sl (⟨none, 0, 0⟩ : Hd))], ownF (sl x) z]) ?_ ?_
  · skip
    refine wc_block ?_
    refine wc_forO (X := Hd) l1 (fun k1 s1 x1l => [(0, .int .i64 a_size), (1, .int .i64 a_a), (4, ptr b1 0), (6, ptr b2 0), (7, .int .i64 ((k1 : Nat) : Int))]) (fun k1 s1 x1l => [box b2 [.int .i64 a_size, (sl x1l)], box b1 [.int .i64 0, (sl (⟨none, 0, 0⟩ : Hd))], ownF (sl x1l) s1]) (⟨none, 0, 0⟩ : Hd) (sub_cons rfl (sub_cons rfl (sub_cons rfl (sub_cons rfl (sub_cons rfl sub_nil))))) (some_cons pick0 (some_cons pick0 (some_cons pick_nil some_nil))) fun k1 s1 x1l hN1 l1 => ?_
    by_cases hk1 : k1 < ((wr (a_size * a_size))).toNat
    · skip
      refine forO_step l1 hk1 fun _ t1 l1 => ?_
      unfold spec_PlainBlock_L1 at t1
      have c1 : (decide (((k1 : Nat) : Int) < (wr (a_size * a_size)))) = true := decide_eq_true (by omega)
      refine wc_seq ?_
      refine wcr ?_
      refine mv rfl rfl ?_
      refine mv rfl rfl ?_
      refine mv rfl rfl ?_
      refine wl_pure (po_mul rfl rfl) rfl ?_
      refine wl_pure (po_lss rfl rfl) rfl ?_
      refine wnt ?_
      refine wc_cond_t rfl c1 ?_
      refine wc_skip ?_
      refine wq_then ?_
      refine wc_seq ?_
      refine wc_block ?_
      refine wc_draw [box b2 [.int .i64 a_size, (sl x1l)], box b1 [.int .i64 0, (sl (⟨none, 0, 0⟩ : Hd))]] 7 mixed ?_
      refine wa_pure 0 rfl (po_fld fo_26_1 rfl) (some_cons pick0 (some_cons pick0 some_nil)) rfl (by kernel_rfl) (fun _ _ _ h => h) ?_
      refine wa_pure (v := (sl x1l)) 1 rfl (po_load_box tk_24 pick0 rfl rfl) (some_cons pick0 (some_cons pick0 some_nil)) rfl (by kernel_rfl) (fun _ _ _ h => h) ?_
      refine wa_pure 2 rfl (po_move rfl) (some_cons pick0 (some_cons pick0 some_nil)) rfl (by kernel_rfl) (fun _ _ _ h => h) ?_
      refine wa_1 (i := 3) (by kernel_rfl) ?_
      refine bdO t1 fun v3 hv3 t1 => ?_
      refine ws_call rfl (co_c0 fa_72 rfl fun w hw => c_spec_WholeCell w a_a hv3) (fun _ => (sts_some (some_cons pick0 (some_cons pick0 some_nil)))) rfl fun _ => ?_
      refine wa_1 (i := 4) (by kernel_rfl) ?_
      refine ws_eff rfl (eo_buildSlice rfl (sb_24_1 v3.Split v3.A v3.B)) (fun _ => (sts_some (some_cons (pickS pick0) (some_cons (pickS pick0) some_nil)))) rfl fun b3 => ?_
      refine wa_1 (i := 5) (by kernel_rfl) ?_
      refine gdO t1 fun g2 t1 => ?_
      refine ws_eff rfl (eo_append (xs := s1) (ys := ([v3] : List GCell)) ak_24 (pickS (pickS (pickS pick0))) rfl rfl (slin_rd fun _ g => Rg.on (rds_own (pick_box_own pick0 (n := 1) (xs := ([v3] : List GCell)) rfl rfl (by unfold maxLen; omega))) g) g2) (fun _ => (sts_some (some_cons (pickS (pickS pick0)) (some_cons (pickS (pickS pick0)) some_nil)))) rfl fun x3 => ?_
      refine wa_pure 6 rfl (po_fld fo_26_1 rfl) (some_cons (pickS (pickS pick0)) (some_cons (pickS (pickS pick0)) some_nil)) rfl (by kernel_rfl) (fun _ _ _ h => h) ?_
      refine wa_1 (i := 7) (by kernel_rfl) ?_
      refine ws_skipop rfl (so_box (cs' := [.int .i64 a_size, (sl x3)]) tk_24 (pickS (pickS pick0)) rfl rfl rfl rfl rfl rfl rfl) (sts_past (by kernel_rfl)) ?_
      refine wa_done (by kernel_rfl) ?_
      refine wq_block ?_
      refine wq_then ?_
      refine wc_region ?_
      refine mv rfl rfl ?_
      refine wl_pure (po_inc rfl rfl (by omega)) rfl ?_
      refine asg rfl rfl ?_
      refine wl_nil ?_
      exact wq_rnd hk1 (stpN l1 t1) x3 (sub_cons rfl (sub_cons rfl (sub_cons rfl (sub_cons rfl (sub_cons rfl sub_nil))))) (some_cons pick0 (some_cons (pickS (pickS pick0)) (some_cons pick0 some_nil)))
    have c1 : (decide (((k1 : Nat) : Int) < (wr (a_size * a_size)))) = false := decide_eq_false (by omega)
    have en1 := forO_end l1 hk1
    refine wc_seq ?_
    refine wcr ?_
    refine mv rfl rfl ?_
    refine mv rfl rfl ?_
    refine mv rfl rfl ?_
    refine wl_pure (po_mul rfl rfl) rfl ?_
    refine wl_pure (po_lss rfl rfl) rfl ?_
    refine wnt ?_
    refine wc_cond_f rfl c1 ?_
    refine wc_exit ?_
    refine wq_then_exit ?_
    refine wq_then_exit ?_
    refine wq_block_exit ?_
    exact wj_meet _ x1l (Sum.inl.inj en1) (sub_cons rfl (sub_cons rfl sub_nil)) (some_cons pick0 (some_cons pick0 (some_cons pick0 some_nil)))
  intro e1 x2 hp
  obtain rfl : e1 = y1 := hp.symm
  refine wq_then ?_
  refine wcr ?_
  refine wl_pure (v := .agg #[.int .i64 a_size, (sl x2)]) (po_load_boxs tk_26 pick0 rfl rfl rfl) rfl ?_
  refine wl_skipop (so_box (cs' := [.int .i64 a_size, (sl x2)]) tk_26 (pickS pick0) rfl rfl rfl rfl rfl rfl rfl) ?_
  refine asg rfl rfl ?_
  refine wnt ?_
  refine wc_ret ?_
  obtain rfl := Option.some.inj t0
  exact wq_retc1 rfl tk_26 rfl rfl pick0 rfl fun w hw => ⟨x2, rfl, hw.weak (some_cons (pickS (pickS pick0)) some_nil)⟩

theorem c_spec_CellOk (w : World) (a_c : GCell) {r : Bool} (t0 : spec_CellOk a_c = some r) : Calls Try.prog 24 #[.agg #[.int .i64 a_c.Split, .int .i64 a_c.A, .int .i64 a_c.B]] w fun e w' => e = .returned (.bool r) ∧ SH w [] [] w' := by
  refine calls_of_wc (args := [_]) Try.func24 rfl Try.ntmps24 rfl ?_
  unfold spec_CellOk at t0
  refine wcr ?_
  refine wl_eff (eo_box rfl rfl) rfl fun b1 => ?_
  refine asg rfl rfl ?_
  refine wnt ?_
  refine wc_seq ?_
  refine wc_seq ?_
  refine bdO t0 fun y1 t1 t0 => ?_
  refine wj (J := Bool) (X := Unit) (fun z => y1 = z) (fun z _ => [(1, ptr b1 0), (18, .bool z)]) (fun _ _ => [box b1 [.int .i64 a_c.Split, .int .i64 a_c.A, .int .i64 a_c.B]]) ?_ ?_
  · skip
    refine wc_region ?_
    refine wl_pure (po_fld fo_33_0 rfl) rfl ?_
    refine wl_pure (v := .int .i64 a_c.Split) (po_load_box tk_3 pick0 rfl rfl) rfl ?_
    refine bdO t1 fun v1 hv1 t1 => ?_
    refine wl_call (co_c0 fa_23 rfl fun w hw => c_spec_l01In w a_c.Split 0 2 hv1) rfl fun _ => ?_
    refine wl_pure (po_not rfl) rfl ?_
    refine mv rfl rfl ?_
    refine wlO_ (t := 7) t1 rfl (fun h1 t1 => ?_) fun h1 t1 => ?_
    · skip
      refine wl_guard_off (j := 4) rfl rfl rfl rfl rfl ?_
      refine wl_guard_off (j := 4) rfl rfl rfl rfl rfl ?_
      refine wl_guard_off (j := 4) rfl rfl rfl rfl rfl ?_
      refine wl_guard_off (j := 4) rfl rfl rfl rfl rfl ?_
      refine wl_pure (po_pick_t rfl rfl) rfl ?_
      refine mv rfl rfl ?_
      refine wl_guard_off (j := 10) rfl rfl rfl rfl rfl ?_
      refine wl_guard_off (j := 10) rfl rfl rfl rfl rfl ?_
      refine wl_guard_off (j := 10) rfl rfl rfl rfl rfl ?_
      refine wl_guard_off (j := 10) rfl rfl rfl rfl rfl ?_
      refine wl_pure (po_pick_t rfl rfl) rfl ?_
      refine wl_nil ?_
      exact wj_meet _ () (mtE t1) (sub_cons rfl (sub_cons rfl sub_nil)) (some_cons pick0 some_nil)
    refine wl_guard_on (j := 4) rfl rfl rfl (wl_pure (po_fld fo_33_1 rfl) rfl ?_)
    refine wl_guard_on (j := 4) rfl rfl rfl (wl_pure (v := .int .i64 a_c.A) (po_load_box tk_3 pick0 rfl rfl) rfl ?_)
    refine bdO t1 fun v2 hv2 t1 => ?_
    refine wl_guard_on (j := 4) rfl rfl rfl (wl_call (co_c0 fa_23 rfl fun w hw => c_spec_l01In w a_c.A 0 5 hv2) rfl (fun _ => ?_))
    refine wl_guard_on (j := 4) rfl rfl rfl (wl_pure (po_not rfl) rfl ?_)
    refine wl_pure (po_pick_f rfl rfl) rfl ?_
    refine mv rfl rfl ?_
    refine wlO_ (t := 13) t1 rfl (fun h2 t1 => ?_) fun h2 t1 => ?_
    · skip
      refine wl_guard_off (j := 10) rfl rfl rfl rfl rfl ?_
      refine wl_guard_off (j := 10) rfl rfl rfl rfl rfl ?_
      refine wl_guard_off (j := 10) rfl rfl rfl rfl rfl ?_
      refine wl_guard_off (j := 10) rfl rfl rfl rfl rfl ?_
      refine wl_pure (po_pick_t rfl rfl) rfl ?_
      refine wl_nil ?_
      exact wj_meet _ () (mtE t1) (sub_cons rfl (sub_cons rfl sub_nil)) (some_cons pick0 some_nil)
    refine wl_guard_on (j := 10) rfl rfl rfl (wl_pure (po_fld fo_33_2 rfl) rfl ?_)
    refine wl_guard_on (j := 10) rfl rfl rfl (wl_pure (v := .int .i64 a_c.B) (po_load_box tk_3 pick0 rfl rfl) rfl ?_)
    refine bdO t1 fun v3 hv3 t1 => ?_
    refine wl_guard_on (j := 10) rfl rfl rfl (wl_call (co_c0 fa_23 rfl fun w hw => c_spec_l01In w a_c.B 0 5 hv3) rfl (fun _ => ?_))
    refine wl_guard_on (j := 10) rfl rfl rfl (wl_pure (po_not rfl) rfl ?_)
    refine wl_pure (po_pick_f rfl rfl) rfl ?_
    refine wl_nil ?_
    exact wj_meet _ () (mtE t1) (sub_cons rfl (sub_cons rfl sub_nil)) (some_cons pick0 some_nil)
  intro j1 _ hp
  obtain rfl : j1 = y1 := hp.symm
  refine wq_then ?_
  refine wcO t0 rfl (fun h3 t0 => ?_) fun h3 t0 => ?_
  · skip
    refine wcr ?_
    refine asg rfl rfl ?_
    refine wnt ?_
    refine wc_ret ?_
    refine wq_then_ret ?_
    obtain rfl := Option.some.inj t0
    exact wq_ret1 rfl rfl fun w hw => ⟨rfl, hw.weak some_nil⟩
  refine wc_skip ?_
  refine wq_then ?_
  refine wcr ?_
  refine wl_pure (po_fld fo_33_0 rfl) rfl ?_
  refine wl_pure (v := .int .i64 a_c.Split) (po_load_box tk_3 pick0 rfl rfl) rfl ?_
  refine wl_pure (po_eql rfl rfl) rfl ?_
  refine wl_pure (po_fld fo_33_1 rfl) rfl ?_
  refine wl_pure (v := .int .i64 a_c.A) (po_load_box tk_3 pick0 rfl rfl) rfl ?_
  refine wl_pure (po_fld fo_33_2 rfl) rfl ?_
  refine wl_pure (v := .int .i64 a_c.B) (po_load_box tk_3 pick0 rfl rfl) rfl ?_
  refine wl_pure (po_eql rfl rfl) rfl ?_
  refine wl_pure (po_eql_bool ub_4 rfl rfl) rfl ?_
  refine asg rfl rfl ?_
  refine wnt ?_
  refine wc_ret ?_
  obtain rfl := Option.some.inj t0
  exact wq_ret1 rfl rfl fun w hw => ⟨rfl, hw.weak some_nil⟩

theorem c_spec_SplitCell (w : World) (a_split : Int) (a_a : Int) (a_b : Int) {r : GCell} (t0 : spec_SplitCell a_split a_a a_b = some r) : Calls Try.prog 58 #[.int .i64 a_split, .int .i64 a_a, .int .i64 a_b] w fun e w' => e = .returned (.agg #[.int .i64 r.Split, .int .i64 r.A, .int .i64 r.B]) ∧ SH w [] [] w' := by
  refine calls_of_wc (args := [_, _, _]) Try.func58 rfl Try.ntmps58 rfl ?_
  unfold spec_SplitCell at t0
  refine wcr ?_
  refine wl_eff (eo_alloc (cs := [.int .i64 0, .int .i64 0, .int .i64 0]) za_33) rfl fun b1 => ?_
  refine wnt ?_
  refine wc_seq ?_
  refine wcr ?_
  refine mv rfl rfl ?_
  refine mv rfl rfl ?_
  refine wl_pure (po_eql rfl rfl) rfl ?_
  refine wnt ?_
  refine wcO t0 rfl (fun h1 t0 => ?_) fun h1 t0 => ?_
  · skip
    refine wcr ?_
    refine mv rfl rfl ?_
    refine bdO t0 fun v1 hv1 t0 => ?_
    refine wl_call (co_c0 fa_72 rfl fun w hw => c_spec_WholeCell w a_a hv1) rfl fun _ => ?_
    refine wl_skipop (so_box (cs' := [.int .i64 v1.Split, .int .i64 v1.A, .int .i64 v1.B]) tk_33 pick0 rfl rfl rfl rfl rfl rfl rfl) ?_
    refine wnt ?_
    refine wc_ret ?_
    refine wq_then_ret ?_
    obtain rfl := Option.some.inj t0
    exact wq_retc rfl tk_33 rfl pick0 rfl fun w hw => ⟨rfl, hw.weak some_nil⟩
  refine wc_skip ?_
  refine wq_then ?_
  refine wcr ?_
  refine mv rfl rfl ?_
  refine mv rfl rfl ?_
  refine mv rfl rfl ?_
  refine wl_pure (po_build rfl (bd_33_0_1_2 a_split a_a a_b)) rfl ?_
  refine wl_eff (eo_alloc (cs := [.int .i64 0, .int .i64 0, .int .i64 0]) za_33) rfl fun b2 => ?_
  refine wl_skipop (so_box (cs' := [.int .i64 a_split, .int .i64 a_a, .int .i64 a_b]) tk_33 pick0 rfl rfl rfl rfl rfl rfl rfl) ?_
  refine wnt ?_
  refine wc_seq ?_
  refine wcr ?_
  refine wl_pure (v := .agg #[.int .i64 a_split, .int .i64 a_a, .int .i64 a_b]) (po_load_boxs tk_33 pick0 rfl rfl rfl) rfl ?_
  refine bdO t0 fun v2 hv2 t0 => ?_
  refine wl_call (co_c0 fa_24 rfl fun w hw => c_spec_CellOk w (GCell.mk a_split a_a a_b) hv2) rfl fun _ => ?_
  refine wl_pure (po_not rfl) rfl ?_
  refine wnt ?_
  refine wcO t0 rfl (fun h2 t0 => ?_) fun h2 t0 => ?_
  · skip
    refine wcr ?_
    refine wl_pure (po_build rfl bd_33) rfl ?_
    refine wl_skipop (so_box (cs' := [.int .i64 0, .int .i64 0, .int .i64 0]) tk_33 (pickS pick0) rfl rfl rfl rfl rfl rfl rfl) ?_
    refine wnt ?_
    refine wc_ret ?_
    refine wq_then_ret ?_
    obtain rfl := Option.some.inj t0
    exact wq_retc rfl tk_33 rfl pick0 rfl fun w hw => ⟨rfl, hw.weak some_nil⟩
  refine wc_skip ?_
  refine wq_then ?_
  refine wcr ?_
  refine wl_pure (v := .agg #[.int .i64 a_split, .int .i64 a_a, .int .i64 a_b]) (po_load_boxs tk_33 pick0 rfl rfl rfl) rfl ?_
  refine wl_skipop (so_box (cs' := [.int .i64 a_split, .int .i64 a_a, .int .i64 a_b]) tk_33 (pickS pick0) rfl rfl rfl rfl rfl rfl rfl) ?_
  refine wnt ?_
  refine wc_ret ?_
  obtain rfl := Option.some.inj t0
  exact wq_retc rfl tk_33 rfl pick0 rfl fun w hw => ⟨rfl, hw.weak some_nil⟩

theorem c_spec_l02Cell (w : World) (fp : List Nat) (b0p : Nat) (a_c0 : List UInt8) (v0a : Hd) (r0 : rdF w (dm w fp) (sl v0a) a_c0) (a_c1 : Int) (a_c2 : Int) (o : Ow w [box b0p [(sl v0a), .int .i64 a_c1, .int .i64 a_c2]] fp) {r : GCell × Int × Int} (t0 : spec_l02Cell a_c0 a_c1 a_c2 = some r) : Calls Try.prog 38 #[ptr b0p 0] w fun e w' => ∃ _x : Unit, e = .returned (.agg #[.int .i64 r.1.Split, .int .i64 r.1.A, .int .i64 r.1.B]) ∧ SH w fp [box b0p [(sl v0a), .int .i64 r.2.1, .int .i64 r.2.2]] w' := by
  refine calls_of_wc_own (args := [_]) o Try.func38 rfl Try.ntmps38 rfl ?_
  unfold spec_l02Cell at t0
  refine wcr ?_
  refine wl_eff (eo_alloc (cs := [.int .i64 0, .int .i64 0, .int .i64 0]) za_33) rfl fun b1 => ?_
  refine wnt ?_
  refine wcr ?_
  refine mv rfl rfl ?_
  refine bdO t0 fun v1 hv1 t0 => ?_
  refine wl_call (co_o1 [box b0p [(sl v0a), .int .i64 a_c1, .int .i64 a_c2]] fa_34 (some_cons (pickS pick0) some_refl) rfl fun w fp hw => c_spec_l01Below w fp b0p a_c0 v0a ((rdo_arg r0) w fp hw) a_c1 a_c2 3 hw.ow hv1) rfl fun _ => ?_
  refine mv rfl rfl ?_
  refine bdO t0 fun v2 hv2 t0 => ?_
  refine wl_call (co_o1 [box b0p [(sl v0a), .int .i64 v1.2.1, .int .i64 v1.2.2]] fa_34 (some_cons pick0 some_refl) rfl fun w fp hw => c_spec_l01Below w fp b0p a_c0 v0a ((rdo_arg r0) w fp hw) v1.2.1 v1.2.2 3 hw.ow hv2) rfl fun _ => ?_
  refine mv rfl rfl ?_
  refine bdO t0 fun v3 hv3 t0 => ?_
  refine wl_call (co_o1 [box b0p [(sl v0a), .int .i64 v2.2.1, .int .i64 v2.2.2]] fa_34 (some_cons pick0 some_refl) rfl fun w fp hw => c_spec_l01Below w fp b0p a_c0 v0a ((rdo_arg r0) w fp hw) v2.2.1 v2.2.2 3 hw.ow hv3) rfl fun _ => ?_
  refine bdO t0 fun v4 hv4 t0 => ?_
  refine wl_call (co_c0 fa_58 rfl fun w hw => c_spec_SplitCell w v1.1 v2.1 v3.1 hv4) rfl fun _ => ?_
  refine wl_skipop (so_box (cs' := [.int .i64 v4.Split, .int .i64 v4.A, .int .i64 v4.B]) tk_33 (pickS pick0) rfl rfl rfl rfl rfl rfl rfl) ?_
  refine wnt ?_
  refine wc_ret ?_
  obtain rfl := Option.some.inj t0
  exact wq_retc rfl tk_33 rfl pick0 rfl fun w hw => ⟨(), rfl, hw.weak (some_cons (pickS pick0) some_nil)⟩

theorem c_spec_l03Block (w : World) (fp : List Nat) (b0p : Nat) (a_c0 : List UInt8) (v0a : Hd) (r0 : rdF w (dm w fp) (sl v0a) a_c0) (a_c1 : Int) (a_c2 : Int) (o : Ow w [box b0p [(sl v0a), .int .i64 a_c1, .int .i64 a_c2]] fp) {r : GBlock × Int × Int} (t0 : spec_l03Block a_c0 a_c1 a_c2 = some r) : Calls Try.prog 51 #[ptr b0p 0] w fun e w' => ∃ x : Hd, e = .returned (.agg #[.int .i64 r.1.Size, (sl x)]) ∧ SH w fp [ownF (sl x) r.1.Cells, box b0p [(sl v0a), .int .i64 r.2.1, .int .i64 r.2.2]] w' := by
  refine calls_of_wc_own (args := [_]) o Try.func51 rfl Try.ntmps51 rfl ?_
  unfold spec_l03Block at t0
  refine wcr ?_
  refine wl_eff (eo_alloc (cs := [.int .i64 0, (sl (⟨none, 0, 0⟩ : Hd))]) za_26) rfl fun b1 => ?_
  refine wnt ?_
  refine wc_seq ?_
  refine wcr ?_
  refine mv rfl rfl ?_
  refine bdO t0 fun v1 hv1 t0 => ?_
  refine wl_call (co_o1 [box b0p [(sl v0a), .int .i64 a_c1, .int .i64 a_c2]] fa_34 (some_cons (pickS pick0) some_refl) rfl fun w fp hw => c_spec_l01Below w fp b0p a_c0 v0a ((rdo_arg r0) w fp hw) a_c1 a_c2 6 hw.ow hv1) rfl fun _ => ?_
  refine wnt ?_
  refine wc_block ?_
  refine wcr ?_
  refine wl_pure (po_eql rfl rfl) rfl ?_
  refine asg rfl rfl ?_
  refine wnt ?_
  refine wcO t0 rfl (fun h1 t0 => ?_) fun h1 t0 => ?_
  · skip
    refine wcr ?_
    refine bdO t0 fun v2 hv2 t0 => ?_
    refine wl_call (co_c1 fa_70 rfl fun w hw => c_spec_StarBlock w hv2) rfl fun x1 => ?_
    refine wl_skipop (so_box (cs' := [.int .i64 v2.Size, (sl x1)]) tk_26 (pickS (pickS pick0)) rfl rfl rfl rfl rfl rfl rfl) ?_
    refine wnt ?_
    refine wc_ret ?_
    refine wq_block_ret ?_
    refine wq_then_ret ?_
    obtain rfl := Option.some.inj t0
    exact wq_retc rfl tk_26 rfl pick0 rfl fun w hw => ⟨x1, rfl, hw.weak (some_cons (pickS pick0) (some_cons (pickS pick0) some_nil))⟩
  refine wcr ?_
  refine wl_pure (po_eql rfl rfl) rfl ?_
  refine asg rfl rfl ?_
  refine wnt ?_
  refine wcO t0 rfl (fun h2 t0 => ?_) fun h2 t0 => ?_
  · skip
    refine wcr ?_
    refine mv rfl rfl ?_
    refine bdO t0 fun v3 hv3 t0 => ?_
    refine wl_call (co_o1 [box b0p [(sl v0a), .int .i64 v1.2.1, .int .i64 v1.2.2]] fa_34 (some_cons pick0 some_refl) rfl fun w fp hw => c_spec_l01Below w fp b0p a_c0 v0a ((rdo_arg r0) w fp hw) v1.2.1 v1.2.2 4 hw.ow hv3) rfl fun _ => ?_
    refine wl_pure (po_add rfl rfl) rfl ?_
    refine mv rfl rfl ?_
    refine bdO t0 fun v4 hv4 t0 => ?_
    refine wl_call (co_o1 [box b0p [(sl v0a), .int .i64 v3.2.1, .int .i64 v3.2.2]] fa_34 (some_cons pick0 some_refl) rfl fun w fp hw => c_spec_l01Below w fp b0p a_c0 v0a ((rdo_arg r0) w fp hw) v3.2.1 v3.2.2 3 hw.ow hv4) rfl fun _ => ?_
    refine bdO t0 fun v5 hv5 t0 => ?_
    refine wl_call (co_c1 fa_71 rfl fun w hw => c_spec_PlainBlock w (wr (1 + v3.1)) v4.1 hv5) rfl fun x2 => ?_
    refine mv rfl rfl ?_
    refine wl_pure (po_extract rfl rfl) rfl ?_
    refine wl_pure (po_extract rfl rfl) rfl ?_
    refine wl_eff (eo_alloc (cs := [.int .i64 0, (sl (⟨none, 0, 0⟩ : Hd))]) za_26) rfl fun b2 => ?_
    refine wl_skipop (so_box (cs' := [.int .i64 v5.1.Size, (sl x2)]) tk_26 pick0 rfl rfl rfl rfl rfl rfl rfl) ?_
    refine asg rfl rfl ?_
    refine wnt ?_
    refine wcr ?_
    refine wl_pure (v := .agg #[.int .i64 v5.1.Size, (sl x2)]) (po_load_boxs tk_26 pick0 rfl rfl rfl) rfl ?_
    refine wl_skipop (so_box (cs' := [.int .i64 v5.1.Size, (sl x2)]) tk_26 (pickS (pickS (pickS pick0))) rfl rfl rfl rfl rfl rfl rfl) ?_
    refine wnt ?_
    refine wc_ret ?_
    refine wq_block_ret ?_
    refine wq_then_ret ?_
    obtain rfl := Option.some.inj t0
    exact wq_retc rfl tk_26 rfl pick0 rfl fun w hw => ⟨x2, rfl, hw.weak (some_cons (pickS (pickS pick0)) (some_cons (pickS (pickS pick0)) some_nil))⟩
  refine wc_skip ?_
  refine wq_block ?_
  refine wq_then ?_
  refine wcr ?_
  refine mv rfl rfl ?_
  refine bdO t0 fun v6 hv6 t0 => ?_
  refine wl_call (co_o1 [box b0p [(sl v0a), .int .i64 v1.2.1, .int .i64 v1.2.2]] fa_34 (some_cons pick0 some_refl) rfl fun w fp hw => c_spec_l01Below w fp b0p a_c0 v0a ((rdo_arg r0) w fp hw) v1.2.1 v1.2.2 4 hw.ow hv6) rfl fun _ => ?_
  refine wl_pure (po_add rfl rfl) rfl ?_
  refine asg rfl rfl ?_
  refine wnt ?_
  refine wcr ?_
  refine mv rfl rfl ?_
  refine wl_pure (po_build rfl (bd_26_0 (wr (1 + v6.1)))) rfl ?_
  refine wl_eff (eo_alloc (cs := [.int .i64 0, (sl (⟨none, 0, 0⟩ : Hd))]) za_26) rfl fun b3 => ?_
  refine wl_skipop (so_box (cs' := [.int .i64 (wr (1 + v6.1)), (sl (⟨none, 0, 0⟩ : Hd))]) tk_26 pick0 rfl rfl rfl rfl rfl rfl rfl) ?_
  refine wnt ?_
  refine wc_seq ?_
  refine wcr ?_
  refine asg rfl rfl ?_
  refine wnt ?_
  refine gdO t0 fun g1 t0 => ?_
  refine lpO_inv t0 fun y1 l1 t0 => ?_
  refine wj (J := (List GCell) × Int × Int) (X := Hd) (fun z => y1 = z) (fun _ _ => [(2, ptr b1 0), (6, ptr b3 0)]) (fun z x => [box b3 [.int .i64 (wr (1 + v6.1)), (sl x)], box b0p [(sl v0a), .int .i64 z.2.1, .int .i64 z.2.2], box b1 [.int .i64 0, (sl (⟨none, 0, 0⟩ : Hd))], ownF (sl x) z.1]) ?_ ?_
  · skip
    refine wc_block ?_
    refine wc_forO (X := Hd) l1 (fun k1 s1 x1l => [(0, ptr b0p 0), (2, ptr b1 0), (5, .int .i64 (wr (1 + v6.1))), (6, ptr b3 0), (7, .int .i64 ((k1 : Nat) : Int))]) (fun k1 s1 x1l => [box b3 [.int .i64 (wr (1 + v6.1)), (sl x1l)], box b0p [(sl v0a), .int .i64 s1.2.1, .int .i64 s1.2.2], box b1 [.int .i64 0, (sl (⟨none, 0, 0⟩ : Hd))], ownF (sl x1l) s1.1]) (⟨none, 0, 0⟩ : Hd) (sub_cons rfl (sub_cons rfl (sub_cons rfl (sub_cons rfl (sub_cons rfl sub_nil))))) (some_cons pick0 (some_cons pick0 (some_cons pick0 (some_cons pick_nil some_nil)))) fun k1 s1 x1l hN1 l1 => ?_
    by_cases hk1 : k1 < ((wr ((wr (1 + v6.1)) * (wr (1 + v6.1))))).toNat
    · skip
      refine forO_step l1 hk1 fun _ t1 l1 => ?_
      unfold spec_l03Block_L1 at t1
      have c1 : (decide (((k1 : Nat) : Int) < (wr ((wr (1 + v6.1)) * (wr (1 + v6.1)))))) = true := decide_eq_true (by omega)
      refine wc_seq ?_
      refine wcr ?_
      refine mv rfl rfl ?_
      refine mv rfl rfl ?_
      refine mv rfl rfl ?_
      refine wl_pure (po_mul rfl rfl) rfl ?_
      refine wl_pure (po_lss rfl rfl) rfl ?_
      refine wnt ?_
      refine wc_cond_t rfl c1 ?_
      refine wc_skip ?_
      refine wq_then ?_
      refine wc_seq ?_
      refine wc_block ?_
      refine wcr ?_
      refine mv rfl rfl ?_
      refine bdO t1 fun v7 hv7 t1 => ?_
      refine wl_call (co_o1 [box b0p [(sl v0a), .int .i64 s1.2.1, .int .i64 s1.2.2]] fa_38 (some_cons (pickS pick0) some_refl) rfl fun w fp hw => c_spec_l02Cell w fp b0p a_c0 v0a ((rdo_arg r0) w fp hw) s1.2.1 s1.2.2 hw.ow hv7) rfl fun _ => ?_
      refine wl_eff (eo_alloc (cs := [.int .i64 0, .int .i64 0, .int .i64 0]) za_33) rfl fun b4 => ?_
      refine wl_skipop (so_box (cs' := [.int .i64 v7.1.Split, .int .i64 v7.1.A, .int .i64 v7.1.B]) tk_33 pick0 rfl rfl rfl rfl rfl rfl rfl) ?_
      refine wnt ?_
      refine wc_region ?_
      refine wl_pure (po_fld fo_26_1 rfl) rfl ?_
      refine wl_pure (v := (sl x1l)) (po_load_box tk_24 (pickS (pickS pick0)) rfl rfl) rfl ?_
      refine wl_pure (v := .agg #[.int .i64 v7.1.Split, .int .i64 v7.1.A, .int .i64 v7.1.B]) (po_load_boxs tk_33 pick0 rfl rfl rfl) rfl ?_
      refine wl_eff (eo_buildSlice rfl (sb_24_1 v7.1.Split v7.1.A v7.1.B)) rfl fun b5 => ?_
      refine gdO t1 fun g2 t1 => ?_
      refine wl_eff (eo_append (xs := s1.1) (ys := ([v7.1] : List GCell)) ak_24 (pickS (pickS (pickS (pickS (pickS pick0))))) rfl rfl (slin_rd fun _ g => Rg.on (rds_own (pick_box_own pick0 (n := 1) (xs := ([v7.1] : List GCell)) rfl rfl (by unfold maxLen; omega))) g) g2) rfl fun x4 => ?_
      refine wl_pure (po_fld fo_26_1 rfl) rfl ?_
      refine wl_skipop (so_box (cs' := [.int .i64 (wr (1 + v6.1)), (sl x4)]) tk_24 (pickS (pickS (pickS (pickS pick0)))) rfl rfl rfl rfl rfl rfl rfl) ?_
      refine wl_nil ?_
      refine wq_block ?_
      refine wq_then ?_
      refine wc_region ?_
      refine mv rfl rfl ?_
      refine wl_pure (po_inc rfl rfl (by omega)) rfl ?_
      refine asg rfl rfl ?_
      refine wl_nil ?_
      exact wq_rnd hk1 (stpN l1 t1) x4 (sub_cons rfl (sub_cons rfl (sub_cons rfl (sub_cons rfl (sub_cons rfl sub_nil))))) (some_cons pick0 (some_cons (pickS (pickS (pickS pick0))) (some_cons (pickS (pickS (pickS pick0))) (some_cons pick0 some_nil))))
    have c1 : (decide (((k1 : Nat) : Int) < (wr ((wr (1 + v6.1)) * (wr (1 + v6.1)))))) = false := decide_eq_false (by omega)
    have en1 := forO_end l1 hk1
    refine wc_seq ?_
    refine wcr ?_
    refine mv rfl rfl ?_
    refine mv rfl rfl ?_
    refine mv rfl rfl ?_
    refine wl_pure (po_mul rfl rfl) rfl ?_
    refine wl_pure (po_lss rfl rfl) rfl ?_
    refine wnt ?_
    refine wc_cond_f rfl c1 ?_
    refine wc_exit ?_
    refine wq_then_exit ?_
    refine wq_then_exit ?_
    refine wq_block_exit ?_
    exact wj_meet _ x1l (Sum.inl.inj en1) (sub_cons rfl (sub_cons rfl sub_nil)) (some_cons pick0 (some_cons pick0 (some_cons pick0 (some_cons pick0 some_nil))))
  intro e1 x3 hp
  obtain rfl : e1 = y1 := hp.symm
  refine wq_then ?_
  refine wcr ?_
  refine wl_pure (v := .agg #[.int .i64 (wr (1 + v6.1)), (sl x3)]) (po_load_boxs tk_26 pick0 rfl rfl rfl) rfl ?_
  refine wl_skipop (so_box (cs' := [.int .i64 (wr (1 + v6.1)), (sl x3)]) tk_26 (pickS (pickS pick0)) rfl rfl rfl rfl rfl rfl rfl) ?_
  refine wnt ?_
  refine wc_ret ?_
  obtain rfl := Option.some.inj t0
  exact wq_retc rfl tk_26 rfl pick0 rfl fun w hw => ⟨x3, rfl, hw.weak (some_cons (pickS (pickS (pickS pick0))) (some_cons (pickS (pickS pick0)) some_nil))⟩

theorem c_spec_l01PickInt (w : World) (fp : List Nat) (b0p : Nat) (a_c0 : List UInt8) (v0a : Hd) (r0 : rdF w (dm w fp) (sl v0a) a_c0) (a_c1 : Int) (a_c2 : Int) (a_list : List Int) (v1a : Hd) (r1 : rdF w (dm w fp) (sl v1a) a_list) (o : Ow w [box b0p [(sl v0a), .int .i64 a_c1, .int .i64 a_c2]] fp) {r : Int × Int × Int} (t0 : spec_l01PickInt a_c0 a_c1 a_c2 a_list = some r) : Calls Try.prog 52 #[ptr b0p 0, (sl v1a)] w fun e w' => ∃ _x : Unit, e = .returned (.int .i64 r.1) ∧ SH w fp [box b0p [(sl v0a), .int .i64 r.2.1, .int .i64 r.2.2]] w' := by
  refine calls_of_wc_own (args := [_, _]) o Try.func52 rfl Try.ntmps52 rfl ?_
  unfold spec_l01PickInt at t0
  refine wcr ?_
  refine asg rfl rfl ?_
  refine wnt ?_
  refine wcr ?_
  refine mv rfl rfl ?_
  refine mv rfl rfl ?_
  refine mv rfl rfl ?_
  refine wl_pure (po_lenr (rds_arg r1) el_34 rfl) rfl ?_
  refine bdO t0 fun v1 hv1 t0 => ?_
  refine wl_call (co_o1 [box b0p [(sl v0a), .int .i64 a_c1, .int .i64 a_c2]] fa_34 (some_cons pick0 some_refl) rfl fun w fp hw => c_spec_l01Below w fp b0p a_c0 v0a ((rdo_arg r0) w fp hw) a_c1 a_c2 ((a_list.length : Nat) : Int) hw.ow hv1) rfl fun _ => ?_
  refine gdO t0 fun g1 t0 => ?_
  refine wl_pure (po_ixr (rds_arg r1) el_34 rfl rfl g1.1 g1.2) rfl ?_
  refine wl_pure (v := .int .i64 (gx a_list ((v1.1).toNat))) (po_ldf (rds_arg r1) tk_3 rfl (ix_lt g1) rfl) rfl ?_
  refine asg rfl rfl ?_
  refine wnt ?_
  refine wc_ret ?_
  obtain rfl := Option.some.inj t0
  exact wq_ret1 rfl rfl fun w hw => ⟨(), rfl, hw.weak (some_cons pick0 some_nil)⟩

theorem c_spec_l02Any (w : World) (fp : List Nat) (b0p : Nat) (a_c0 : List UInt8) (v0a : Hd) (r0 : rdF w (dm w fp) (sl v0a) a_c0) (a_c1 : Int) (a_c2 : Int) (o : Ow w [box b0p [(sl v0a), .int .i64 a_c1, .int .i64 a_c2]] fp) {r : GCell × Int × Int} (t0 : spec_l02Any a_c0 a_c1 a_c2 = some r) : Calls Try.prog 53 #[ptr b0p 0] w fun e w' => ∃ _x : Unit, e = .returned (.agg #[.int .i64 r.1.Split, .int .i64 r.1.A, .int .i64 r.1.B]) ∧ SH w fp [box b0p [(sl v0a), .int .i64 r.2.1, .int .i64 r.2.2]] w' := by
  refine calls_of_wc_own (args := [_]) o Try.func53 rfl Try.ntmps53 rfl ?_
  unfold spec_l02Any at t0
  refine wcr ?_
  refine wl_eff (eo_alloc (cs := [.int .i64 0, .int .i64 0, .int .i64 0]) za_33) rfl fun b1 => ?_
  refine wnt ?_
  refine wcr ?_
  refine mv rfl rfl ?_
  refine bdO t0 fun v1 hv1 t0 => ?_
  refine wl_call (co_o1 [box b0p [(sl v0a), .int .i64 a_c1, .int .i64 a_c2]] fa_38 (some_cons (pickS pick0) some_refl) rfl fun w fp hw => c_spec_l02Cell w fp b0p a_c0 v0a ((rdo_arg r0) w fp hw) a_c1 a_c2 hw.ow hv1) rfl fun _ => ?_
  refine wl_eff (eo_alloc (cs := [.int .i64 0, .int .i64 0, .int .i64 0]) za_33) rfl fun b2 => ?_
  refine wl_skipop (so_box (cs' := [.int .i64 v1.1.Split, .int .i64 v1.1.A, .int .i64 v1.1.B]) tk_33 pick0 rfl rfl rfl rfl rfl rfl rfl) ?_
  refine wnt ?_
  refine wc_seq ?_
  refine wcr ?_
  refine mv rfl rfl ?_
  refine bdO t0 fun v2 hv2 t0 => ?_
  refine wl_call (co_o1 [box b0p [(sl v0a), .int .i64 v1.2.1, .int .i64 v1.2.2]] fa_34 (some_cons (pickS pick0) some_refl) rfl fun w fp hw => c_spec_l01Below w fp b0p a_c0 v0a ((rdo_arg r0) w fp hw) v1.2.1 v1.2.2 12 hw.ow hv2) rfl fun _ => ?_
  refine wnt ?_
  refine wc_block ?_
  refine wcr ?_
  refine wl_pure (po_eql rfl rfl) rfl ?_
  refine asg rfl rfl ?_
  refine wnt ?_
  refine bdO t0 fun y1 t1 t0 => ?_
  refine wj (J := GCell × Gl01Cur) (X := Unit) (fun z => y1 = z) (fun _ _ => [(2, ptr b1 0), (3, ptr b2 0)]) (fun z _ => [box b2 [.int .i64 ((z.1).Split), .int .i64 ((z.1).A), .int .i64 ((z.1).B)], box b0p [(sl v0a), .int .i64 ((z.2).i), .int .i64 ((z.2).h)], box b1 [.int .i64 0, .int .i64 0, .int .i64 0]]) ?_ ?_
  · skip
    refine wcO t1 rfl (fun h1 t1 => ?_) fun h1 t1 => ?_
    · skip
      refine wc_region ?_
      refine mv rfl rfl ?_
      refine wl_eff (eo_buildSlice (qs := [(0, .int .i64 (-1)), (1, .int .i64 0), (2, .int .i64 2), (3, .int .i64 3)]) rfl (sb_34_4 (-1) 0 2 3)) rfl fun b3 => ?_
      refine bdO t1 fun v3 hv3 t1 => ?_
      refine wl_call (co_o1 [box b0p [(sl v0a), .int .i64 v2.2.1, .int .i64 v2.2.2]] fa_52 (some_cons (pickS pick0) some_refl) rfl fun w fp hw => c_spec_l01PickInt w fp b0p a_c0 v0a ((rdo_arg r0) w fp hw) v2.2.1 v2.2.2 ([(-1), 0, 2, 3] : List Int) (⟨some ⟨b3, 0, none⟩, 4, 4⟩ : Hd) ((rdo_own (pick_box_own pick0 (n := 4) (xs := ([(-1), 0, 2, 3] : List Int)) rfl rfl (by unfold maxLen; omega))) w fp hw) hw.ow hv3) rfl fun _ => ?_
      refine wl_pure (po_fld fo_33_0 rfl) rfl ?_
      refine wl_skipop (so_box (cs' := [.int .i64 v3.1, .int .i64 v1.1.A, .int .i64 v1.1.B]) tk_3 (pickS (pickS pick0)) rfl rfl rfl rfl rfl rfl rfl) ?_
      refine wl_nil ?_
      exact wj_meet _ () (mtE t1) (sub_cons rfl (sub_cons rfl sub_nil)) (some_cons pick0 (some_cons pick0 (some_cons (pickS pick0) some_nil)))
    refine wcr ?_
    refine wl_pure (po_eql rfl rfl) rfl ?_
    refine asg rfl rfl ?_
    refine wnt ?_
    refine wcO t1 rfl (fun h2 t1 => ?_) fun h2 t1 => ?_
    · skip
      refine wc_region ?_
      refine mv rfl rfl ?_
      refine wl_eff (eo_buildSlice (qs := [(0, .int .i64 (-1)), (1, .int .i64 0), (2, .int .i64 5), (3, .int .i64 6)]) rfl (sb_34_4 (-1) 0 5 6)) rfl fun b4 => ?_
      refine bdO t1 fun v4 hv4 t1 => ?_
      refine wl_call (co_o1 [box b0p [(sl v0a), .int .i64 v2.2.1, .int .i64 v2.2.2]] fa_52 (some_cons (pickS pick0) some_refl) rfl fun w fp hw => c_spec_l01PickInt w fp b0p a_c0 v0a ((rdo_arg r0) w fp hw) v2.2.1 v2.2.2 ([(-1), 0, 5, 6] : List Int) (⟨some ⟨b4, 0, none⟩, 4, 4⟩ : Hd) ((rdo_own (pick_box_own pick0 (n := 4) (xs := ([(-1), 0, 5, 6] : List Int)) rfl rfl (by unfold maxLen; omega))) w fp hw) hw.ow hv4) rfl fun _ => ?_
      refine wl_pure (po_fld fo_33_1 rfl) rfl ?_
      refine wl_skipop (so_box (cs' := [.int .i64 v1.1.Split, .int .i64 v4.1, .int .i64 v1.1.B]) tk_3 (pickS (pickS pick0)) rfl rfl rfl rfl rfl rfl rfl) ?_
      refine wl_nil ?_
      exact wj_meet _ () (mtE t1) (sub_cons rfl (sub_cons rfl sub_nil)) (some_cons pick0 (some_cons pick0 (some_cons (pickS pick0) some_nil)))
    refine wcr ?_
    refine wl_pure (po_eql rfl rfl) rfl ?_
    refine asg rfl rfl ?_
    refine wnt ?_
    refine wcO t1 rfl (fun h3 t1 => ?_) fun h3 t1 => ?_
    · skip
      refine wc_region ?_
      refine mv rfl rfl ?_
      refine wl_eff (eo_buildSlice (qs := [(0, .int .i64 (-1)), (1, .int .i64 0), (2, .int .i64 5), (3, .int .i64 6)]) rfl (sb_34_4 (-1) 0 5 6)) rfl fun b5 => ?_
      refine bdO t1 fun v5 hv5 t1 => ?_
      refine wl_call (co_o1 [box b0p [(sl v0a), .int .i64 v2.2.1, .int .i64 v2.2.2]] fa_52 (some_cons (pickS pick0) some_refl) rfl fun w fp hw => c_spec_l01PickInt w fp b0p a_c0 v0a ((rdo_arg r0) w fp hw) v2.2.1 v2.2.2 ([(-1), 0, 5, 6] : List Int) (⟨some ⟨b5, 0, none⟩, 4, 4⟩ : Hd) ((rdo_own (pick_box_own pick0 (n := 4) (xs := ([(-1), 0, 5, 6] : List Int)) rfl rfl (by unfold maxLen; omega))) w fp hw) hw.ow hv5) rfl fun _ => ?_
      refine wl_pure (po_fld fo_33_2 rfl) rfl ?_
      refine wl_skipop (so_box (cs' := [.int .i64 v1.1.Split, .int .i64 v1.1.A, .int .i64 v5.1]) tk_3 (pickS (pickS pick0)) rfl rfl rfl rfl rfl rfl rfl) ?_
      refine wl_nil ?_
      exact wj_meet _ () (mtE t1) (sub_cons rfl (sub_cons rfl sub_nil)) (some_cons pick0 (some_cons pick0 (some_cons (pickS pick0) some_nil)))
    refine wc_skip ?_
    exact wj_meet _ () (mtE t1) (sub_cons rfl (sub_cons rfl sub_nil)) (some_cons (pickS pick0) (some_cons pick0 (some_cons pick0 some_nil)))
  intro j1 _ hp
  obtain rfl : j1 = y1 := hp.symm
  refine wq_block ?_
  refine wq_then ?_
  refine wcr ?_
  refine wl_pure (v := .agg #[.int .i64 ((j1.1).Split), .int .i64 ((j1.1).A), .int .i64 ((j1.1).B)]) (po_load_boxs tk_33 pick0 rfl rfl rfl) rfl ?_
  refine wl_skipop (so_box (cs' := [.int .i64 ((j1.1).Split), .int .i64 ((j1.1).A), .int .i64 ((j1.1).B)]) tk_33 (pickS (pickS pick0)) rfl rfl rfl rfl rfl rfl rfl) ?_
  refine wnt ?_
  refine wc_ret ?_
  obtain rfl := Option.some.inj t0
  exact wq_retc rfl tk_33 rfl pick0 rfl fun w hw => ⟨(), rfl, hw.weak (some_cons (pickS (pickS pick0)) some_nil)⟩

theorem c_spec_l03Any (w : World) (fp : List Nat) (b0p : Nat) (a_c0 : List UInt8) (v0a : Hd) (r0 : rdF w (dm w fp) (sl v0a) a_c0) (a_c1 : Int) (a_c2 : Int) (o : Ow w [box b0p [(sl v0a), .int .i64 a_c1, .int .i64 a_c2]] fp) {r : GBlock × Int × Int} (t0 : spec_l03Any a_c0 a_c1 a_c2 = some r) : Calls Try.prog 33 #[ptr b0p 0] w fun e w' => ∃ x : Hd, e = .returned (.agg #[.int .i64 r.1.Size, (sl x)]) ∧ SH w fp [ownF (sl x) r.1.Cells, box b0p [(sl v0a), .int .i64 r.2.1, .int .i64 r.2.2]] w' := by
  refine calls_of_wc_own (args := [_]) o Try.func33 rfl Try.ntmps33 rfl ?_
  unfold spec_l03Any at t0
  refine wcr ?_
  refine wl_eff (eo_alloc (cs := [.int .i64 0, (sl (⟨none, 0, 0⟩ : Hd))]) za_26) rfl fun b1 => ?_
  refine wnt ?_
  refine wcr ?_
  refine mv rfl rfl ?_
  refine bdO t0 fun v1 hv1 t0 => ?_
  refine wl_call (co_o2 [box b0p [(sl v0a), .int .i64 a_c1, .int .i64 a_c2]] fa_51 (some_cons (pickS pick0) some_refl) rfl fun w fp hw => c_spec_l03Block w fp b0p a_c0 v0a ((rdo_arg r0) w fp hw) a_c1 a_c2 hw.ow hv1) rfl fun x1 => ?_
  refine wl_eff (eo_alloc (cs := [.int .i64 0, (sl (⟨none, 0, 0⟩ : Hd))]) za_26) rfl fun b2 => ?_
  refine wl_skipop (so_box (cs' := [.int .i64 v1.1.Size, (sl x1)]) tk_26 pick0 rfl rfl rfl rfl rfl rfl rfl) ?_
  refine wnt ?_
  refine wc_seq ?_
  refine wcr ?_
  refine mv rfl rfl ?_
  refine bdO t0 fun v2 hv2 t0 => ?_
  refine wl_call (co_o1 [box b0p [(sl v0a), .int .i64 v1.2.1, .int .i64 v1.2.2]] fa_34 (some_cons (pickS (pickS pick0)) some_refl) rfl fun w fp hw => c_spec_l01Below w fp b0p a_c0 v0a ((rdo_arg r0) w fp hw) v1.2.1 v1.2.2 12 hw.ow hv2) rfl fun _ => ?_
  refine wnt ?_
  refine wc_block ?_
  refine wcr ?_
  refine wl_pure (po_eql rfl rfl) rfl ?_
  refine asg rfl rfl ?_
  refine wnt ?_
  refine bdO t0 fun y1 t1 t0 => ?_
  refine wj (J := GBlock × Gl01Cur) (X := Hd) (fun z => y1 = z) (fun _ _ => [(2, ptr b1 0), (3, ptr b2 0)]) (fun z x => [box b2 [.int .i64 ((z.1).Size), (sl x)], box b0p [(sl v0a), .int .i64 ((z.2).i), .int .i64 ((z.2).h)], box b1 [.int .i64 0, (sl (⟨none, 0, 0⟩ : Hd))], ownF (sl x) ((z.1).Cells)]) ?_ ?_
  · skip
    refine wcO t1 rfl (fun h1 t1 => ?_) fun h1 t1 => ?_
    · skip
      refine wc_region ?_
      refine mv rfl rfl ?_
      refine wl_eff (eo_buildSlice (qs := [(0, .int .i64 (-1)), (1, .int .i64 0), (2, .int .i64 2), (3, .int .i64 5)]) rfl (sb_34_4 (-1) 0 2 5)) rfl fun b3 => ?_
      refine bdO t1 fun v3 hv3 t1 => ?_
      refine wl_call (co_o1 [box b0p [(sl v0a), .int .i64 v2.2.1, .int .i64 v2.2.2]] fa_52 (some_cons (pickS pick0) some_refl) rfl fun w fp hw => c_spec_l01PickInt w fp b0p a_c0 v0a ((rdo_arg r0) w fp hw) v2.2.1 v2.2.2 ([(-1), 0, 2, 5] : List Int) (⟨some ⟨b3, 0, none⟩, 4, 4⟩ : Hd) ((rdo_own (pick_box_own pick0 (n := 4) (xs := ([(-1), 0, 2, 5] : List Int)) rfl rfl (by unfold maxLen; omega))) w fp hw) hw.ow hv3) rfl fun _ => ?_
      refine wl_pure (po_fld fo_26_0 rfl) rfl ?_
      refine wl_skipop (so_box (cs' := [.int .i64 v3.1, (sl x1)]) tk_3 (pickS (pickS pick0)) rfl rfl rfl rfl rfl rfl rfl) ?_
      refine wl_nil ?_
      exact wj_meet _ x1 (mtE t1) (sub_cons rfl (sub_cons rfl sub_nil)) (some_cons pick0 (some_cons pick0 (some_cons (pickS (pickS pick0)) (some_cons (pickS pick0) some_nil))))
    refine wcr ?_
    refine wl_pure (po_eql rfl rfl) rfl ?_
    refine asg rfl rfl ?_
    refine wnt ?_
    refine wcO t1 rfl (fun h2 t1 => ?_) fun h2 t1 => ?_
    · skip
      refine wc_draw [box b2 [.int .i64 v1.1.Size, (sl x1)], ownF (sl x1) v1.1.Cells, box b1 [.int .i64 0, (sl (⟨none, 0, 0⟩ : Hd))]] 10 mixed ?_
      refine wa_pure 0 rfl (po_fld fo_26_1 rfl) (some_cons (pickS pick0) (some_cons (pickS pick0) (some_cons (pickS pick0) some_nil))) rfl (by kernel_rfl) (fun _ _ _ h => h) ?_
      refine wa_pure (v := (sl x1)) 1 rfl (po_load_box tk_24 pick0 rfl rfl) (some_cons (pickS pick0) (some_cons (pickS pick0) (some_cons (pickS pick0) some_nil))) rfl (by kernel_rfl) (fun _ _ _ h => h) ?_
      refine wa_pure 2 rfl (po_move rfl) (some_cons (pickS pick0) (some_cons (pickS pick0) (some_cons (pickS pick0) some_nil))) rfl (by kernel_rfl) (fun _ _ _ h => h) ?_
      refine wa_pure 3 rfl (po_fld fo_26_1 rfl) (some_cons (pickS pick0) (some_cons (pickS pick0) (some_cons (pickS pick0) some_nil))) rfl (by kernel_rfl) (fun _ _ _ h => h) ?_
      refine wa_pure (v := (sl x1)) 4 rfl (po_load_box tk_24 pick0 rfl rfl) (some_cons (pickS pick0) (some_cons (pickS pick0) (some_cons (pickS pick0) some_nil))) rfl (by kernel_rfl) (fun _ _ _ h => h) ?_
      refine wa_pure 5 rfl (po_lenr (rds_own (pickS pick0)) el_24 rfl) (some_cons (pickS pick0) (some_cons (pickS pick0) (some_cons (pickS pick0) some_nil))) rfl (by kernel_rfl) (fun _ _ _ h => h) ?_
      refine wa_pure 7 rfl (po_move rfl) (some_cons (pickS pick0) (some_cons (pickS pick0) (some_cons (pickS pick0) some_nil))) rfl (by kernel_rfl) (fun _ _ _ h => h) ?_
      refine wa_1 (i := 6) (by kernel_rfl) ?_
      refine bdO t1 fun v4 hv4 t1 => ?_
      refine ws_call rfl (co_o1 [box b0p [(sl v0a), .int .i64 v2.2.1, .int .i64 v2.2.2]] fa_34 (some_cons pick0 some_refl) rfl fun w fp hw => c_spec_l01Below w fp b0p a_c0 v0a ((rdo_arg r0) w fp hw) v2.2.1 v2.2.2 ((v1.1.Cells.length : Nat) : Int) hw.ow hv4) (fun _ => (sts_some (some_cons (pickS pick0) (some_cons (pickS pick0) (some_cons (pickS pick0) some_nil))))) rfl fun _ => ?_
      refine wa_1 (i := 8) (by kernel_rfl) ?_
      refine bdO t1 fun v5 hv5 t1 => ?_
      refine ws_call rfl (co_o1 [box b0p [(sl v0a), .int .i64 v4.2.1, .int .i64 v4.2.2]] fa_53 (some_cons pick0 some_refl) rfl fun w fp hw => c_spec_l02Any w fp b0p a_c0 v0a ((rdo_arg r0) w fp hw) v4.2.1 v4.2.2 hw.ow hv5) (fun _ => (sts_some (some_cons (pickS pick0) (some_cons (pickS pick0) (some_cons (pickS pick0) some_nil))))) rfl fun _ => ?_
      refine gdO t1 fun g1 t1 => ?_
      refine wa_pure 9 rfl (po_ixr (rds_own (pickS pick0)) el_24 rfl rfl g1.1 g1.2) (some_cons (pickS pick0) (some_cons (pickS pick0) (some_cons (pickS pick0) some_nil))) rfl (by kernel_rfl) (fun _ _ _ h => h) ?_
      refine wa_1 (i := 10) (by kernel_rfl) ?_
      refine ws_skipop rfl (so_own (x' := v5.1) tk_33 (pickS (pickS pick0)) rfl rfl rfl rfl rfl rfl (ix_lt g1) rfl) (sts_past (by kernel_rfl)) ?_
      refine wa_done (by kernel_rfl) ?_
      exact wj_meet _ x1 (mtE t1) (sub_cons rfl (sub_cons rfl sub_nil)) (some_cons (pickS (pickS pick0)) (some_cons (pickS pick0) (some_cons (pickS pick0) (some_cons pick0 some_nil))))
    refine wcr ?_
    refine wl_pure (po_eql rfl rfl) rfl ?_
    refine asg rfl rfl ?_
    refine wnt ?_
    refine wcO t1 rfl (fun h3 t1 => ?_) fun h3 t1 => ?_
    · skip
      refine wc_region ?_
      refine wl_pure (po_fld fo_26_1 rfl) rfl ?_
      refine wl_pure (v := (sl x1)) (po_load_box tk_24 (pickS pick0) rfl rfl) rfl ?_
      refine gdO t1 fun g2 t1 => ?_
      refine wl_pure (po_cutr (l := 1) (h := v1.1.Cells.length) (rds_own (pickS (pickS pick0))) el_24 rfl (.inr ⟨_, rfl, rfl⟩) (.inl ⟨rfl, rfl⟩) g2.1 g2.2) rfl ?_
      refine wl_pure (po_fld fo_26_1 rfl) rfl ?_
      refine wl_skipop (so_box (cs' := [.int .i64 v1.1.Size, (sl (slh x1 1 v1.1.Cells.length (Rep.sz GCell)))]) tk_24 (pickS pick0) rfl rfl rfl rfl rfl rfl rfl) ?_
      refine wl_nil ?_
      exact wj_meet _ (slh x1 1 v1.1.Cells.length (Rep.sz GCell)) (mtE t1) (sub_cons rfl (sub_cons rfl sub_nil)) (some_cons pick0 (some_cons pick0 (some_cons (pickS pick0) (some_cons (pick_cut pick0 g2.1 g2.2) some_nil))))
    refine wc_skip ?_
    exact wj_meet _ x1 (mtE t1) (sub_cons rfl (sub_cons rfl sub_nil)) (some_cons (pickS pick0) (some_cons pick0 (some_cons (pickS pick0) (some_cons pick0 some_nil))))
  intro j1 x2 hp
  obtain rfl : j1 = y1 := hp.symm
  refine wq_block ?_
  refine wq_then ?_
  refine wcr ?_
  refine wl_pure (v := .agg #[.int .i64 ((j1.1).Size), (sl x2)]) (po_load_boxs tk_26 pick0 rfl rfl rfl) rfl ?_
  refine wl_skipop (so_box (cs' := [.int .i64 ((j1.1).Size), (sl x2)]) tk_26 (pickS (pickS pick0)) rfl rfl rfl rfl rfl rfl rfl) ?_
  refine wnt ?_
  refine wc_ret ?_
  obtain rfl := Option.some.inj t0
  exact wq_retc rfl tk_26 rfl pick0 rfl fun w hw => ⟨x2, rfl, hw.weak (some_cons (pickS (pickS (pickS pick0))) (some_cons (pickS (pickS pick0)) some_nil))⟩

theorem c_spec_BlockOk (w : World) (a_b : GBlock) (v0a : Hd) (r0 : rdF w (dm w []) (sl v0a) a_b.Cells) {r : Bool} (t0 : spec_BlockOk a_b = some r) : Calls Try.prog 10 #[.agg #[.int .i64 a_b.Size, (sl v0a)]] w fun e w' => e = .returned (.bool r) ∧ SH w [] [] w' := by
  refine calls_of_wc (args := [_]) Try.func10 rfl Try.ntmps10 rfl ?_
  unfold spec_BlockOk at t0
  refine wcr ?_
  refine wl_eff (eo_box rfl rfl) rfl fun b1 => ?_
  refine asg rfl rfl ?_
  refine wnt ?_
  refine wc_seq ?_
  refine wc_seq ?_
  refine bdO t0 fun y1 t1 t0 => ?_
  refine wj (J := Bool) (X := Unit) (fun z => y1 = z) (fun z _ => [(1, ptr b1 0), (18, .bool z)]) (fun _ _ => [box b1 [.int .i64 a_b.Size, (sl v0a)]]) ?_ ?_
  · skip
    refine wc_region ?_
    refine wl_pure (po_fld fo_26_0 rfl) rfl ?_
    refine wl_pure (v := .int .i64 a_b.Size) (po_load_box tk_3 pick0 rfl rfl) rfl ?_
    refine bdO t1 fun v1 hv1 t1 => ?_
    refine wl_call (co_c0 fa_23 rfl fun w hw => c_spec_l01In w a_b.Size 1 4 hv1) rfl fun _ => ?_
    refine wl_pure (po_not rfl) rfl ?_
    refine mv rfl rfl ?_
    refine wlO_ (t := 8) t1 rfl (fun h1 t1 => ?_) fun h1 t1 => ?_
    · skip
      refine wl_guard_off (j := 4) rfl rfl rfl rfl rfl ?_
      refine wl_guard_off (j := 4) rfl rfl rfl rfl rfl ?_
      refine wl_guard_off (j := 4) rfl rfl rfl rfl rfl ?_
      refine wl_guard_off (j := 4) rfl rfl rfl rfl rfl ?_
      refine wl_guard_off (j := 4) rfl rfl rfl rfl rfl ?_
      refine wl_guard_off (j := 4) rfl rfl rfl rfl rfl ?_
      refine wl_guard_off (j := 4) rfl rfl rfl rfl rfl ?_
      refine wl_guard_off (j := 4) rfl rfl rfl rfl rfl ?_
      refine wl_guard_off (j := 4) rfl rfl rfl rfl rfl ?_
      refine wl_pure (po_pick_t rfl rfl) rfl ?_
      refine wl_nil ?_
      exact wj_meet _ () (mtE t1) (sub_cons rfl (sub_cons rfl sub_nil)) (some_cons pick0 some_nil)
    refine wl_guard_on (j := 4) rfl rfl rfl (wl_pure (po_fld fo_26_1 rfl) rfl ?_)
    refine wl_guard_on (j := 4) rfl rfl rfl (wl_pure (v := (sl v0a)) (po_load_box tk_24 pick0 rfl rfl) rfl ?_)
    refine wl_guard_on (j := 4) rfl rfl rfl (wl_pure (po_lenr (rds_arg r0) el_24 rfl) rfl ?_)
    refine wl_guard_on (j := 4) rfl rfl rfl (wl_pure (po_fld fo_26_0 rfl) rfl ?_)
    refine wl_guard_on (j := 4) rfl rfl rfl (wl_pure (v := .int .i64 a_b.Size) (po_load_box tk_3 pick0 rfl rfl) rfl ?_)
    refine wl_guard_on (j := 4) rfl rfl rfl (wl_pure (po_fld fo_26_0 rfl) rfl ?_)
    refine wl_guard_on (j := 4) rfl rfl rfl (wl_pure (v := .int .i64 a_b.Size) (po_load_box tk_3 pick0 rfl rfl) rfl ?_)
    refine wl_guard_on (j := 4) rfl rfl rfl (wl_pure (po_mul rfl rfl) rfl ?_)
    refine wl_guard_on (j := 4) rfl rfl rfl (wl_pure (po_neq rfl rfl) rfl ?_)
    refine wl_pure (po_pick_f rfl rfl) rfl ?_
    refine wl_nil ?_
    exact wj_meet _ () (mtE t1) (sub_cons rfl (sub_cons rfl sub_nil)) (some_cons pick0 some_nil)
  intro j1 _ hp
  obtain rfl : j1 = y1 := hp.symm
  refine wq_then ?_
  refine wcO t0 rfl (fun h2 t0 => ?_) fun h2 t0 => ?_
  · skip
    refine wcr ?_
    refine asg rfl rfl ?_
    refine wnt ?_
    refine wc_ret ?_
    refine wq_then_ret ?_
    obtain rfl := Option.some.inj t0
    exact wq_ret1 rfl rfl fun w hw => ⟨rfl, hw.weak some_nil⟩
  refine wc_skip ?_
  refine wq_then ?_
  refine wc_seq ?_
  refine wcr ?_
  refine asg rfl rfl ?_
  refine wnt ?_
  refine gdO t0 fun g1 t0 => ?_
  refine sqO t0 fun y1 l1 t0 => ?_
  refine wj (J := Unit) (X := Unit) (fun z => y1 = .inl z) (fun _ _ => []) (fun _ _ => []) ?_ ?_
  · skip
    refine wc_block ?_
    refine wc_forO (X := Unit) l1 (fun k1 s1 x1l => [(1, ptr b1 0), (3, .int .i64 ((k1 : Nat) : Int))]) (fun k1 s1 x1l => [box b1 [.int .i64 a_b.Size, (sl v0a)]]) () (sub_cons rfl (sub_cons rfl sub_nil)) (some_cons pick0 some_nil) fun k1 s1 x1l hN1 l1 => ?_
    by_cases hk1 : k1 < a_b.Cells.length
    · skip
      refine forO_step l1 hk1 fun _ t1 l1 => ?_
      unfold spec_BlockOk_L1 at t1
      have c1 : (decide (((k1 : Nat) : Int) < ((a_b.Cells.length : Nat) : Int))) = true := decide_eq_true (by omega)
      refine wc_seq ?_
      refine wcr ?_
      refine mv rfl rfl ?_
      refine wl_pure (po_fld fo_26_1 rfl) rfl ?_
      refine wl_pure (v := (sl v0a)) (po_load_box tk_24 pick0 rfl rfl) rfl ?_
      refine wl_pure (po_lenr (rds_arg r0) el_24 rfl) rfl ?_
      refine wl_pure (po_lss rfl rfl) rfl ?_
      refine wnt ?_
      refine wc_cond_t rfl c1 ?_
      refine wc_skip ?_
      refine wq_then ?_
      refine wc_seq ?_
      refine wc_block ?_
      refine wcr ?_
      refine wl_pure (po_fld fo_26_1 rfl) rfl ?_
      refine wl_pure (v := (sl v0a)) (po_load_box tk_24 pick0 rfl rfl) rfl ?_
      refine mv rfl rfl ?_
      refine wl_pure (po_ixn (k := k1) (rds_arg r0) el_24 rfl rfl hk1) rfl ?_
      refine wl_pure (v := .agg #[.int .i64 ((gx a_b.Cells k1).Split), .int .i64 ((gx a_b.Cells k1).A), .int .i64 ((gx a_b.Cells k1).B)]) (po_ldfs (rds_arg r0) tk_33 rfl hk1 rfl rfl rfl) rfl ?_
      refine bdO t1 fun v2 hv2 t1 => ?_
      refine wl_call (co_c0 fa_24 rfl fun w hw => c_spec_CellOk w (gx a_b.Cells k1) hv2) rfl fun _ => ?_
      refine wl_pure (po_not rfl) rfl ?_
      refine wnt ?_
      refine wcO t1 rfl (fun h3 t1 => ?_) fun h3 t1 => ?_
      · skip
        refine wcr ?_
        refine asg rfl rfl ?_
        refine wnt ?_
        refine wc_ret ?_
        refine wq_block_ret ?_
        refine wq_then_ret ?_
        refine wq_then_ret ?_
        refine wq_block_ret ?_
        refine wq_then_ret ?_
        refine wq_then_ret ?_
        replace t0 := lpR t0 l1 t1
        obtain rfl := Option.some.inj t0
        exact wq_ret1 rfl rfl fun w hw => ⟨rfl, hw.weak some_nil⟩
      refine wc_skip ?_
      refine wq_block ?_
      refine wq_then ?_
      refine wc_region ?_
      refine mv rfl rfl ?_
      refine wl_pure (po_inc rfl rfl (by omega)) rfl ?_
      refine asg rfl rfl ?_
      refine wl_nil ?_
      exact wq_rnd hk1 (stpN l1 t1) () (sub_cons rfl (sub_cons rfl sub_nil)) (some_cons pick0 some_nil)
    have c1 : (decide (((k1 : Nat) : Int) < ((a_b.Cells.length : Nat) : Int))) = false := decide_eq_false (by omega)
    have en1 := forO_end l1 hk1
    refine wc_seq ?_
    refine wcr ?_
    refine mv rfl rfl ?_
    refine wl_pure (po_fld fo_26_1 rfl) rfl ?_
    refine wl_pure (v := (sl v0a)) (po_load_box tk_24 pick0 rfl rfl) rfl ?_
    refine wl_pure (po_lenr (rds_arg r0) el_24 rfl) rfl ?_
    refine wl_pure (po_lss rfl rfl) rfl ?_
    refine wnt ?_
    refine wc_cond_f rfl c1 ?_
    refine wc_exit ?_
    refine wq_then_exit ?_
    refine wq_then_exit ?_
    refine wq_block_exit ?_
    exact wj_meet _ () en1 sub_nil some_nil
  intro e1 _ hp
  replace t0 := sqE (j := e1) t0 hp
  refine wq_then ?_
  refine wcr ?_
  refine asg rfl rfl ?_
  refine wnt ?_
  refine wc_ret ?_
  obtain rfl := Option.some.inj t0
  exact wq_ret1 rfl rfl fun w hw => ⟨rfl, hw.weak some_nil⟩

theorem c_spec_l03Copy (w : World) (a_b : GBlock) (v0a : Hd) (r0 : rdF w (dm w []) (sl v0a) a_b.Cells) {r : GBlock} (t0 : spec_l03Copy a_b = some r) : Calls Try.prog 27 #[.agg #[.int .i64 a_b.Size, (sl v0a)]] w fun e w' => ∃ x : Hd, e = .returned (.agg #[.int .i64 r.Size, (sl x)]) ∧ SH w [] [ownF (sl x) r.Cells] w' := by
  refine calls_of_wc (args := [_]) Try.func27 rfl Try.ntmps27 rfl ?_
  unfold spec_l03Copy at t0
  refine wcr ?_
  refine wl_eff (eo_box rfl rfl) rfl fun b1 => ?_
  refine wl_eff (eo_alloc (cs := [.int .i64 0, (sl (⟨none, 0, 0⟩ : Hd))]) za_26) rfl fun b2 => ?_
  refine wnt ?_
  refine wc_seq ?_
  refine wc_draw [box b2 [.int .i64 0, (sl (⟨none, 0, 0⟩ : Hd))], box b1 [.int .i64 a_b.Size, (sl v0a)]] 7 mixed ?_
  refine wa_pure 0 rfl (po_fld fo_26_0 rfl) (some_cons pick0 (some_cons pick0 some_nil)) rfl (by kernel_rfl) (fun _ _ _ h => h) ?_
  refine wa_pure (v := .int .i64 a_b.Size) 1 rfl (po_load_box tk_3 (pickS pick0) rfl rfl) (some_cons pick0 (some_cons pick0 some_nil)) rfl (by kernel_rfl) (fun _ _ _ h => h) ?_
  refine wa_pure 3 rfl (po_fld fo_26_1 rfl) (some_cons pick0 (some_cons pick0 some_nil)) rfl (by kernel_rfl) (fun _ _ _ h => h) ?_
  refine wa_pure (v := (sl v0a)) 4 rfl (po_load_box tk_24 (pickS pick0) rfl rfl) (some_cons pick0 (some_cons pick0 some_nil)) rfl (by kernel_rfl) (fun _ _ _ h => h) ?_
  refine wa_1 (i := 2) (by kernel_rfl) ?_
  refine ws_eff rfl (eo_buildSlice rfl sb_24_0) (fun _ => (sts_some (some_cons (pickS pick0) (some_cons (pickS pick0) some_nil)))) rfl fun b3 => ?_
  refine wa_1 (i := 5) (by kernel_rfl) ?_
  refine gdO t0 fun g1 t0 => ?_
  refine ws_eff rfl (eo_append (xs := ([] : List GCell)) (ys := a_b.Cells) ak_24 (pick_box_own pick0 (n := 0) (xs := ([] : List GCell)) rfl rfl (by unfold maxLen; omega)) rfl rfl (slin_rd fun _ g => Rg.on (rds_arg r0) g) g1) (fun _ => (sts_some (some_cons (pickS pick0) (some_cons (pickS pick0) some_nil)))) rfl fun x1 => ?_
  refine wa_pure 6 rfl (po_build rfl (bd_26_0_1 a_b.Size x1)) (some_cons (pickS pick0) (some_cons (pickS pick0) some_nil)) rfl (by kernel_rfl) (fun _ _ _ h => h) ?_
  refine wa_1 (i := 7) (by kernel_rfl) ?_
  refine ws_skipop rfl (so_box (cs' := [.int .i64 a_b.Size, (sl x1)]) tk_26 (pickS pick0) rfl rfl rfl rfl rfl rfl rfl) (sts_past (by kernel_rfl)) ?_
  refine wa_done (by kernel_rfl) ?_
  refine wq_then ?_
  refine wc_ret ?_
  obtain rfl := Option.some.inj t0
  exact wq_retc rfl tk_26 rfl pick0 rfl fun w hw => ⟨x1, rfl, hw.weak (some_cons (pickS pick0) some_nil)⟩

theorem c_spec_MirrorCell (w : World) (a_c : GCell) {r : GCell} (t0 : spec_MirrorCell a_c = some r) : Calls Try.prog 47 #[.agg #[.int .i64 a_c.Split, .int .i64 a_c.A, .int .i64 a_c.B]] w fun e w' => e = .returned (.agg #[.int .i64 r.Split, .int .i64 r.A, .int .i64 r.B]) ∧ SH w [] [] w' := by
  refine calls_of_wc (args := [_]) Try.func47 rfl Try.ntmps47 rfl ?_
  unfold spec_MirrorCell at t0
  refine wcr ?_
  refine wl_eff (eo_box rfl rfl) rfl fun b1 => ?_
  refine wl_eff (eo_alloc (cs := [.int .i64 0, .int .i64 0, .int .i64 0]) za_33) rfl fun b2 => ?_
  refine wnt ?_
  refine wc_seq ?_
  refine wcr ?_
  refine wl_pure (v := .agg #[.int .i64 a_c.Split, .int .i64 a_c.A, .int .i64 a_c.B]) (po_load_boxs tk_33 (pickS pick0) rfl rfl rfl) rfl ?_
  refine bdO t0 fun v1 hv1 t0 => ?_
  refine wl_call (co_c0 fa_24 rfl fun w hw => c_spec_CellOk w a_c hv1) rfl fun _ => ?_
  refine wl_pure (po_not rfl) rfl ?_
  refine wnt ?_
  refine wcO t0 rfl (fun h1 t0 => ?_) fun h1 t0 => ?_
  · skip
    refine wcr ?_
    refine wl_pure (po_build rfl bd_33) rfl ?_
    refine wl_skipop (so_box (cs' := [.int .i64 0, .int .i64 0, .int .i64 0]) tk_33 pick0 rfl rfl rfl rfl rfl rfl rfl) ?_
    refine wnt ?_
    refine wc_ret ?_
    refine wq_then_ret ?_
    obtain rfl := Option.some.inj t0
    exact wq_retc rfl tk_33 rfl pick0 rfl fun w hw => ⟨rfl, hw.weak some_nil⟩
  refine wc_skip ?_
  refine wq_then ?_
  refine wc_seq ?_
  refine wcr ?_
  refine wl_pure (po_fld fo_33_0 rfl) rfl ?_
  refine wl_pure (v := .int .i64 a_c.Split) (po_load_box tk_3 (pickS pick0) rfl rfl) rfl ?_
  refine wl_pure (po_eql rfl rfl) rfl ?_
  refine wnt ?_
  refine wcO t0 rfl (fun h2 t0 => ?_) fun h2 t0 => ?_
  · skip
    refine wcr ?_
    refine wl_pure (v := .agg #[.int .i64 a_c.Split, .int .i64 a_c.A, .int .i64 a_c.B]) (po_load_boxs tk_33 (pickS pick0) rfl rfl rfl) rfl ?_
    refine wl_skipop (so_box (cs' := [.int .i64 a_c.Split, .int .i64 a_c.A, .int .i64 a_c.B]) tk_33 pick0 rfl rfl rfl rfl rfl rfl rfl) ?_
    refine wnt ?_
    refine wc_ret ?_
    refine wq_then_ret ?_
    obtain rfl := Option.some.inj t0
    exact wq_retc rfl tk_33 rfl pick0 rfl fun w hw => ⟨rfl, hw.weak some_nil⟩
  refine wc_skip ?_
  refine wq_then ?_
  refine wcr ?_
  refine wl_pure (po_fld fo_33_0 rfl) rfl ?_
  refine wl_pure (v := .int .i64 a_c.Split) (po_load_box tk_3 (pickS pick0) rfl rfl) rfl ?_
  refine wl_pure (po_sub rfl rfl) rfl ?_
  refine wl_pure (po_fld fo_33_2 rfl) rfl ?_
  refine wl_pure (v := .int .i64 a_c.B) (po_load_box tk_3 (pickS pick0) rfl rfl) rfl ?_
  refine wl_pure (po_fld fo_33_1 rfl) rfl ?_
  refine wl_pure (v := .int .i64 a_c.A) (po_load_box tk_3 (pickS pick0) rfl rfl) rfl ?_
  refine wl_pure (po_build rfl (bd_33_0_1_2 (wr (3 - a_c.Split)) a_c.B a_c.A)) rfl ?_
  refine wl_skipop (so_box (cs' := [.int .i64 (wr (3 - a_c.Split)), .int .i64 a_c.B, .int .i64 a_c.A]) tk_33 pick0 rfl rfl rfl rfl rfl rfl rfl) ?_
  refine wnt ?_
  refine wc_ret ?_
  obtain rfl := Option.some.inj t0
  exact wq_retc rfl tk_33 rfl pick0 rfl fun w hw => ⟨rfl, hw.weak some_nil⟩

theorem c_spec_MirrorBlock (w : World) (a_b : GBlock) (v0a : Hd) (r0 : rdF w (dm w []) (sl v0a) a_b.Cells) {r : GBlock} (t0 : spec_MirrorBlock a_b = some r) : Calls Try.prog 28 #[.agg #[.int .i64 a_b.Size, (sl v0a)]] w fun e w' => ∃ x : Hd, e = .returned (.agg #[.int .i64 r.Size, (sl x)]) ∧ SH w [] [ownF (sl x) r.Cells] w' := by
  refine calls_of_wc (args := [_]) Try.func28 rfl Try.ntmps28 rfl ?_
  unfold spec_MirrorBlock at t0
  refine wcr ?_
  refine wl_eff (eo_box rfl rfl) rfl fun b1 => ?_
  refine wl_eff (eo_alloc (cs := [.int .i64 0, (sl (⟨none, 0, 0⟩ : Hd))]) za_26) rfl fun b2 => ?_
  refine wnt ?_
  refine wc_seq ?_
  refine wcr ?_
  refine wl_pure (v := .agg #[.int .i64 a_b.Size, (sl v0a)]) (po_load_boxs tk_26 (pickS pick0) rfl rfl rfl) rfl ?_
  refine bdO t0 fun v1 hv1 t0 => ?_
  refine wl_call (co_c0 fa_10 rfl fun w hw => c_spec_BlockOk w a_b v0a (Rg.on (rds_arg r0) hw) hv1) rfl fun _ => ?_
  refine wl_pure (po_not rfl) rfl ?_
  refine wnt ?_
  refine wcO t0 rfl (fun h1 t0 => ?_) fun h1 t0 => ?_
  · skip
    refine wcr ?_
    refine wl_pure (po_build rfl bd_26) rfl ?_
    refine wl_skipop (so_box (cs' := [.int .i64 0, (sl (⟨none, 0, 0⟩ : Hd))]) tk_26 pick0 rfl rfl rfl rfl rfl rfl rfl) ?_
    refine wnt ?_
    refine wc_ret ?_
    refine wq_then_ret ?_
    obtain rfl := Option.some.inj t0
    exact wq_retc rfl tk_26 rfl pick0 rfl fun w hw => ⟨(⟨none, 0, 0⟩ : Hd), rfl, hw.weak (some_cons pick_nil some_nil)⟩
  refine wc_skip ?_
  refine wq_then ?_
  refine wcr ?_
  refine wl_pure (po_fld fo_26_0 rfl) rfl ?_
  refine wl_pure (v := .int .i64 a_b.Size) (po_load_box tk_3 (pickS pick0) rfl rfl) rfl ?_
  refine wl_pure (po_build rfl (bd_26_0 a_b.Size)) rfl ?_
  refine wl_eff (eo_alloc (cs := [.int .i64 0, (sl (⟨none, 0, 0⟩ : Hd))]) za_26) rfl fun b3 => ?_
  refine wl_skipop (so_box (cs' := [.int .i64 a_b.Size, (sl (⟨none, 0, 0⟩ : Hd))]) tk_26 pick0 rfl rfl rfl rfl rfl rfl rfl) ?_
  refine wnt ?_
  refine wc_seq ?_
  refine wcr ?_
  refine asg rfl rfl ?_
  refine wnt ?_
  refine gdO t0 fun g1 t0 => ?_
  refine lpO_inv t0 fun y1 l1 t0 => ?_
  refine wj (J := List GCell) (X := Hd) (fun z => y1 = z) (fun _ _ => [(2, ptr b2 0), (3, ptr b3 0)]) (fun z x => [box b3 [.int .i64 a_b.Size, (sl x)], box b2 [.int .i64 0, (sl (⟨none, 0, 0⟩ : Hd))], ownF (sl x) z]) ?_ ?_
  · skip
    refine wc_block ?_
    refine wc_forO (X := Hd) l1 (fun k1 s1 x1l => [(1, ptr b1 0), (2, ptr b2 0), (3, ptr b3 0), (4, .int .i64 ((k1 : Nat) : Int))]) (fun k1 s1 x1l => [box b3 [.int .i64 a_b.Size, (sl x1l)], box b2 [.int .i64 0, (sl (⟨none, 0, 0⟩ : Hd))], box b1 [.int .i64 a_b.Size, (sl v0a)], ownF (sl x1l) s1]) (⟨none, 0, 0⟩ : Hd) (sub_cons rfl (sub_cons rfl (sub_cons rfl (sub_cons rfl sub_nil)))) (some_cons pick0 (some_cons pick0 (some_cons pick0 (some_cons pick_nil some_nil)))) fun k1 s1 x1l hN1 l1 => ?_
    by_cases hk1 : k1 < (a_b.Size).toNat
    · skip
      refine forO_step l1 hk1 fun _ t1 l1 => ?_
      unfold spec_MirrorBlock_L1 at t1
      have c1 : (decide (((k1 : Nat) : Int) < a_b.Size)) = true := decide_eq_true (by omega)
      refine wc_seq ?_
      refine wcr ?_
      refine mv rfl rfl ?_
      refine wl_pure (po_fld fo_26_0 rfl) rfl ?_
      refine wl_pure (v := .int .i64 a_b.Size) (po_load_box tk_3 (pickS (pickS pick0)) rfl rfl) rfl ?_
      refine wl_pure (po_lss rfl rfl) rfl ?_
      refine wnt ?_
      refine wc_cond_t rfl c1 ?_
      refine wc_skip ?_
      refine wq_then ?_
      refine wc_seq ?_
      refine wc_block ?_
      refine wcr ?_
      refine asg rfl rfl ?_
      refine wnt ?_
      refine lpO_inv t1 fun y2 l2 t1 => ?_
      refine wj (J := List GCell) (X := Hd) (fun z => y2 = z) (fun _ _ => [(1, ptr b1 0), (2, ptr b2 0), (3, ptr b3 0), (4, .int .i64 ((k1 : Nat) : Int))]) (fun z x => [box b3 [.int .i64 a_b.Size, (sl x)], box b2 [.int .i64 0, (sl (⟨none, 0, 0⟩ : Hd))], box b1 [.int .i64 a_b.Size, (sl v0a)], ownF (sl x) z]) ?_ ?_
      · skip
        refine wc_block ?_
        refine wc_forO (X := Hd) l2 (fun k2 s2 x2l => [(1, ptr b1 0), (2, ptr b2 0), (3, ptr b3 0), (4, .int .i64 ((k1 : Nat) : Int)), (5, .int .i64 ((k2 : Nat) : Int))]) (fun k2 s2 x2l => [box b3 [.int .i64 a_b.Size, (sl x2l)], box b2 [.int .i64 0, (sl (⟨none, 0, 0⟩ : Hd))], box b1 [.int .i64 a_b.Size, (sl v0a)], ownF (sl x2l) s2]) x1l (sub_cons rfl (sub_cons rfl (sub_cons rfl (sub_cons rfl (sub_cons rfl sub_nil))))) (some_cons pick0 (some_cons pick0 (some_cons pick0 (some_cons pick0 some_nil)))) fun k2 s2 x2l hN2 l2 => ?_
        by_cases hk2 : k2 < (a_b.Size).toNat
        · skip
          refine forO_step l2 hk2 fun _ t2 l2 => ?_
          unfold spec_MirrorBlock_L2 at t2
          have c2 : (decide (((k2 : Nat) : Int) < a_b.Size)) = true := decide_eq_true (by omega)
          refine wc_seq ?_
          refine wcr ?_
          refine mv rfl rfl ?_
          refine wl_pure (po_fld fo_26_0 rfl) rfl ?_
          refine wl_pure (v := .int .i64 a_b.Size) (po_load_box tk_3 (pickS (pickS pick0)) rfl rfl) rfl ?_
          refine wl_pure (po_lss rfl rfl) rfl ?_
          refine wnt ?_
          refine wc_cond_t rfl c2 ?_
          refine wc_skip ?_
          refine wq_then ?_
          refine wc_seq ?_
          refine wc_block ?_
          refine wc_draw [box b3 [.int .i64 a_b.Size, (sl x2l)], box b2 [.int .i64 0, (sl (⟨none, 0, 0⟩ : Hd))], box b1 [.int .i64 a_b.Size, (sl v0a)]] 20 mixed ?_
          refine wa_pure 0 rfl (po_fld fo_26_1 rfl) (some_cons pick0 (some_cons pick0 (some_cons pick0 some_nil))) rfl (by kernel_rfl) (fun _ _ _ h => h) ?_
          refine wa_pure (v := (sl x2l)) 1 rfl (po_load_box tk_24 pick0 rfl rfl) (some_cons pick0 (some_cons pick0 (some_cons pick0 some_nil))) rfl (by kernel_rfl) (fun _ _ _ h => h) ?_
          refine wa_pure 2 rfl (po_fld fo_26_1 rfl) (some_cons pick0 (some_cons pick0 (some_cons pick0 some_nil))) rfl (by kernel_rfl) (fun _ _ _ h => h) ?_
          refine wa_pure (v := (sl v0a)) 3 rfl (po_load_box tk_24 (pickS (pickS pick0)) rfl rfl) (some_cons pick0 (some_cons pick0 (some_cons pick0 some_nil))) rfl (by kernel_rfl) (fun _ _ _ h => h) ?_
          refine wa_pure 4 rfl (po_move rfl) (some_cons pick0 (some_cons pick0 (some_cons pick0 some_nil))) rfl (by kernel_rfl) (fun _ _ _ h => h) ?_
          refine wa_pure 5 rfl (po_fld fo_26_0 rfl) (some_cons pick0 (some_cons pick0 (some_cons pick0 some_nil))) rfl (by kernel_rfl) (fun _ _ _ h => h) ?_
          refine wa_pure (v := .int .i64 a_b.Size) 6 rfl (po_load_box tk_3 (pickS (pickS pick0)) rfl rfl) (some_cons pick0 (some_cons pick0 (some_cons pick0 some_nil))) rfl (by kernel_rfl) (fun _ _ _ h => h) ?_
          refine wa_pure 7 rfl (po_mul rfl rfl) (some_cons pick0 (some_cons pick0 (some_cons pick0 some_nil))) rfl (by kernel_rfl) (fun _ _ _ h => h) ?_
          refine wa_pure 8 rfl (po_fld fo_26_0 rfl) (some_cons pick0 (some_cons pick0 (some_cons pick0 some_nil))) rfl (by kernel_rfl) (fun _ _ _ h => h) ?_
          refine wa_pure (v := .int .i64 a_b.Size) 9 rfl (po_load_box tk_3 (pickS (pickS pick0)) rfl rfl) (some_cons pick0 (some_cons pick0 (some_cons pick0 some_nil))) rfl (by kernel_rfl) (fun _ _ _ h => h) ?_
          refine wa_pure 10 rfl (po_add rfl rfl) (some_cons pick0 (some_cons pick0 (some_cons pick0 some_nil))) rfl (by kernel_rfl) (fun _ _ _ h => h) ?_
          refine wa_pure 11 rfl (po_sub rfl rfl) (some_cons pick0 (some_cons pick0 (some_cons pick0 some_nil))) rfl (by kernel_rfl) (fun _ _ _ h => h) ?_
          refine wa_pure 12 rfl (po_move rfl) (some_cons pick0 (some_cons pick0 (some_cons pick0 some_nil))) rfl (by kernel_rfl) (fun _ _ _ h => h) ?_
          refine wa_pure 13 rfl (po_sub rfl rfl) (some_cons pick0 (some_cons pick0 (some_cons pick0 some_nil))) rfl (by kernel_rfl) (fun _ _ _ h => h) ?_
          refine gdO t2 fun g2 t2 => ?_
          refine wa_pure 14 rfl (po_ixr (rds_arg r0) el_24 rfl rfl g2.1 g2.2) (some_cons pick0 (some_cons pick0 (some_cons pick0 some_nil))) rfl (by kernel_rfl) (fun _ _ _ h => h) ?_
          refine wa_pure (v := .agg #[.int .i64 ((gx a_b.Cells (((wr ((wr ((wr ((wr (((k1 : Nat) : Int) * a_b.Size)) + a_b.Size)) - 1)) - ((k2 : Nat) : Int)))).toNat)).Split), .int .i64 ((gx a_b.Cells (((wr ((wr ((wr ((wr (((k1 : Nat) : Int) * a_b.Size)) + a_b.Size)) - 1)) - ((k2 : Nat) : Int)))).toNat)).A), .int .i64 ((gx a_b.Cells (((wr ((wr ((wr ((wr (((k1 : Nat) : Int) * a_b.Size)) + a_b.Size)) - 1)) - ((k2 : Nat) : Int)))).toNat)).B)]) 15 rfl (po_ldfs (rds_arg r0) tk_33 rfl (ix_lt g2) rfl rfl rfl) (some_cons pick0 (some_cons pick0 (some_cons pick0 some_nil))) rfl (by kernel_rfl) (fun _ _ _ h => h) ?_
          refine wa_1 (i := 16) (by kernel_rfl) ?_
          refine bdO t2 fun v2 hv2 t2 => ?_
          refine ws_call rfl (co_c0 fa_47 rfl fun w hw => c_spec_MirrorCell w (gx a_b.Cells (((wr ((wr ((wr ((wr (((k1 : Nat) : Int) * a_b.Size)) + a_b.Size)) - 1)) - ((k2 : Nat) : Int)))).toNat)) hv2) (fun _ => (sts_some (some_cons pick0 (some_cons pick0 (some_cons pick0 some_nil))))) rfl fun _ => ?_
          refine wa_1 (i := 17) (by kernel_rfl) ?_
          refine ws_eff rfl (eo_buildSlice rfl (sb_24_1 v2.Split v2.A v2.B)) (fun _ => (sts_some (some_cons (pickS pick0) (some_cons (pickS pick0) (some_cons (pickS pick0) some_nil))))) rfl fun b4 => ?_
          refine wa_1 (i := 18) (by kernel_rfl) ?_
          refine gdO t2 fun g3 t2 => ?_
          refine ws_eff rfl (eo_append (xs := s2) (ys := ([v2] : List GCell)) ak_24 (pickS (pickS (pickS (pickS pick0)))) rfl rfl (slin_rd fun _ g => Rg.on (rds_own (pick_box_own pick0 (n := 1) (xs := ([v2] : List GCell)) rfl rfl (by unfold maxLen; omega))) g) g3) (fun _ => (sts_some (some_cons (pickS (pickS pick0)) (some_cons (pickS (pickS pick0)) (some_cons (pickS (pickS pick0)) some_nil))))) rfl fun x3 => ?_
          refine wa_pure 19 rfl (po_fld fo_26_1 rfl) (some_cons (pickS (pickS pick0)) (some_cons (pickS (pickS pick0)) (some_cons (pickS (pickS pick0)) some_nil))) rfl (by kernel_rfl) (fun _ _ _ h => h) ?_
          refine wa_1 (i := 20) (by kernel_rfl) ?_
          refine ws_skipop rfl (so_box (cs' := [.int .i64 a_b.Size, (sl x3)]) tk_24 (pickS (pickS pick0)) rfl rfl rfl rfl rfl rfl rfl) (sts_past (by kernel_rfl)) ?_
          refine wa_done (by kernel_rfl) ?_
          refine wq_block ?_
          refine wq_then ?_
          refine wc_region ?_
          refine mv rfl rfl ?_
          refine wl_pure (po_inc rfl rfl (by omega)) rfl ?_
          refine asg rfl rfl ?_
          refine wl_nil ?_
          exact wq_rnd hk2 (stpN l2 t2) x3 (sub_cons rfl (sub_cons rfl (sub_cons rfl (sub_cons rfl (sub_cons rfl sub_nil))))) (some_cons pick0 (some_cons (pickS (pickS pick0)) (some_cons (pickS (pickS pick0)) (some_cons pick0 some_nil))))
        have c2 : (decide (((k2 : Nat) : Int) < a_b.Size)) = false := decide_eq_false (by omega)
        have en1 := forO_end l2 hk2
        refine wc_seq ?_
        refine wcr ?_
        refine mv rfl rfl ?_
        refine wl_pure (po_fld fo_26_0 rfl) rfl ?_
        refine wl_pure (v := .int .i64 a_b.Size) (po_load_box tk_3 (pickS (pickS pick0)) rfl rfl) rfl ?_
        refine wl_pure (po_lss rfl rfl) rfl ?_
        refine wnt ?_
        refine wc_cond_f rfl c2 ?_
        refine wc_exit ?_
        refine wq_then_exit ?_
        refine wq_then_exit ?_
        refine wq_block_exit ?_
        exact wj_meet _ x2l (Sum.inl.inj en1) (sub_cons rfl (sub_cons rfl (sub_cons rfl (sub_cons rfl sub_nil)))) (some_cons pick0 (some_cons pick0 (some_cons pick0 (some_cons pick0 some_nil))))
      intro e2 x2 hp
      obtain rfl : e2 = y2 := hp.symm
      refine wq_block ?_
      refine wq_then ?_
      refine wc_region ?_
      refine mv rfl rfl ?_
      refine wl_pure (po_inc rfl rfl (by omega)) rfl ?_
      refine asg rfl rfl ?_
      refine wl_nil ?_
      exact wq_rnd hk1 (stpN l1 t1) x2 (sub_cons rfl (sub_cons rfl (sub_cons rfl (sub_cons rfl sub_nil)))) (some_cons pick0 (some_cons pick0 (some_cons pick0 (some_cons pick0 some_nil))))
    have c1 : (decide (((k1 : Nat) : Int) < a_b.Size)) = false := decide_eq_false (by omega)
    have en2 := forO_end l1 hk1
    refine wc_seq ?_
    refine wcr ?_
    refine mv rfl rfl ?_
    refine wl_pure (po_fld fo_26_0 rfl) rfl ?_
    refine wl_pure (v := .int .i64 a_b.Size) (po_load_box tk_3 (pickS (pickS pick0)) rfl rfl) rfl ?_
    refine wl_pure (po_lss rfl rfl) rfl ?_
    refine wnt ?_
    refine wc_cond_f rfl c1 ?_
    refine wc_exit ?_
    refine wq_then_exit ?_
    refine wq_then_exit ?_
    refine wq_block_exit ?_
    exact wj_meet _ x1l (Sum.inl.inj en2) (sub_cons rfl (sub_cons rfl sub_nil)) (some_cons pick0 (some_cons pick0 (some_cons (pickS pick0) some_nil)))
  intro e1 x1 hp
  obtain rfl : e1 = y1 := hp.symm
  refine wq_then ?_
  refine wcr ?_
  refine wl_pure (v := .agg #[.int .i64 a_b.Size, (sl x1)]) (po_load_boxs tk_26 pick0 rfl rfl rfl) rfl ?_
  refine wl_skipop (so_box (cs' := [.int .i64 a_b.Size, (sl x1)]) tk_26 (pickS pick0) rfl rfl rfl rfl rfl rfl rfl) ?_
  refine wnt ?_
  refine wc_ret ?_
  obtain rfl := Option.some.inj t0
  exact wq_retc rfl tk_26 rfl pick0 rfl fun w hw => ⟨x1, rfl, hw.weak (some_cons (pickS (pickS pick0)) some_nil)⟩

theorem c_spec_TurnCell (w : World) (a_c : GCell) {r : GCell} (t0 : spec_TurnCell a_c = some r) : Calls Try.prog 48 #[.agg #[.int .i64 a_c.Split, .int .i64 a_c.A, .int .i64 a_c.B]] w fun e w' => e = .returned (.agg #[.int .i64 r.Split, .int .i64 r.A, .int .i64 r.B]) ∧ SH w [] [] w' := by
  refine calls_of_wc (args := [_]) Try.func48 rfl Try.ntmps48 rfl ?_
  unfold spec_TurnCell at t0
  refine wcr ?_
  refine wl_eff (eo_box rfl rfl) rfl fun b1 => ?_
  refine wl_eff (eo_alloc (cs := [.int .i64 0, .int .i64 0, .int .i64 0]) za_33) rfl fun b2 => ?_
  refine wnt ?_
  refine wc_seq ?_
  refine wcr ?_
  refine wl_pure (v := .agg #[.int .i64 a_c.Split, .int .i64 a_c.A, .int .i64 a_c.B]) (po_load_boxs tk_33 (pickS pick0) rfl rfl rfl) rfl ?_
  refine bdO t0 fun v1 hv1 t0 => ?_
  refine wl_call (co_c0 fa_24 rfl fun w hw => c_spec_CellOk w a_c hv1) rfl fun _ => ?_
  refine wl_pure (po_not rfl) rfl ?_
  refine wnt ?_
  refine wcO t0 rfl (fun h1 t0 => ?_) fun h1 t0 => ?_
  · skip
    refine wcr ?_
    refine wl_pure (po_build rfl bd_33) rfl ?_
    refine wl_skipop (so_box (cs' := [.int .i64 0, .int .i64 0, .int .i64 0]) tk_33 pick0 rfl rfl rfl rfl rfl rfl rfl) ?_
    refine wnt ?_
    refine wc_ret ?_
    refine wq_then_ret ?_
    obtain rfl := Option.some.inj t0
    exact wq_retc rfl tk_33 rfl pick0 rfl fun w hw => ⟨rfl, hw.weak some_nil⟩
  refine wc_skip ?_
  refine wq_then ?_
  refine wc_seq ?_
  refine wcr ?_
  refine wl_pure (po_fld fo_33_0 rfl) rfl ?_
  refine wl_pure (v := .int .i64 a_c.Split) (po_load_box tk_3 (pickS pick0) rfl rfl) rfl ?_
  refine wnt ?_
  refine wc_block ?_
  refine wcr ?_
  refine wl_pure (po_eql rfl rfl) rfl ?_
  refine asg rfl rfl ?_
  refine wnt ?_
  refine wcO t0 rfl (fun h2 t0 => ?_) fun h2 t0 => ?_
  · skip
    refine wcr ?_
    refine wl_pure (po_fld fo_33_2 rfl) rfl ?_
    refine wl_pure (v := .int .i64 a_c.B) (po_load_box tk_3 (pickS pick0) rfl rfl) rfl ?_
    refine wl_pure (po_fld fo_33_1 rfl) rfl ?_
    refine wl_pure (v := .int .i64 a_c.A) (po_load_box tk_3 (pickS pick0) rfl rfl) rfl ?_
    refine wl_pure (po_build rfl (bd_33_0_1_2 2 a_c.B a_c.A)) rfl ?_
    refine wl_skipop (so_box (cs' := [.int .i64 2, .int .i64 a_c.B, .int .i64 a_c.A]) tk_33 pick0 rfl rfl rfl rfl rfl rfl rfl) ?_
    refine wnt ?_
    refine wc_ret ?_
    refine wq_block_ret ?_
    refine wq_then_ret ?_
    obtain rfl := Option.some.inj t0
    exact wq_retc rfl tk_33 rfl pick0 rfl fun w hw => ⟨rfl, hw.weak some_nil⟩
  refine wcr ?_
  refine wl_pure (po_eql rfl rfl) rfl ?_
  refine asg rfl rfl ?_
  refine wnt ?_
  refine wcO t0 rfl (fun h3 t0 => ?_) fun h3 t0 => ?_
  · skip
    refine wcr ?_
    refine wl_pure (po_fld fo_33_1 rfl) rfl ?_
    refine wl_pure (v := .int .i64 a_c.A) (po_load_box tk_3 (pickS pick0) rfl rfl) rfl ?_
    refine wl_pure (po_fld fo_33_2 rfl) rfl ?_
    refine wl_pure (v := .int .i64 a_c.B) (po_load_box tk_3 (pickS pick0) rfl rfl) rfl ?_
    refine wl_pure (po_build rfl (bd_33_0_1_2 1 a_c.A a_c.B)) rfl ?_
    refine wl_skipop (so_box (cs' := [.int .i64 1, .int .i64 a_c.A, .int .i64 a_c.B]) tk_33 pick0 rfl rfl rfl rfl rfl rfl rfl) ?_
    refine wnt ?_
    refine wc_ret ?_
    refine wq_block_ret ?_
    refine wq_then_ret ?_
    obtain rfl := Option.some.inj t0
    exact wq_retc rfl tk_33 rfl pick0 rfl fun w hw => ⟨rfl, hw.weak some_nil⟩
  refine wc_skip ?_
  refine wq_block ?_
  refine wq_then ?_
  refine wcr ?_
  refine wl_pure (v := .agg #[.int .i64 a_c.Split, .int .i64 a_c.A, .int .i64 a_c.B]) (po_load_boxs tk_33 (pickS pick0) rfl rfl rfl) rfl ?_
  refine wl_skipop (so_box (cs' := [.int .i64 a_c.Split, .int .i64 a_c.A, .int .i64 a_c.B]) tk_33 pick0 rfl rfl rfl rfl rfl rfl rfl) ?_
  refine wnt ?_
  refine wc_ret ?_
  obtain rfl := Option.some.inj t0
  exact wq_retc rfl tk_33 rfl pick0 rfl fun w hw => ⟨rfl, hw.weak some_nil⟩

theorem c_spec_TurnBlock (w : World) (a_b : GBlock) (v0a : Hd) (r0 : rdF w (dm w []) (sl v0a) a_b.Cells) {r : GBlock} (t0 : spec_TurnBlock a_b = some r) : Calls Try.prog 29 #[.agg #[.int .i64 a_b.Size, (sl v0a)]] w fun e w' => ∃ x : Hd, e = .returned (.agg #[.int .i64 r.Size, (sl x)]) ∧ SH w [] [ownF (sl x) r.Cells] w' := by
  refine calls_of_wc (args := [_]) Try.func29 rfl Try.ntmps29 rfl ?_
  unfold spec_TurnBlock at t0
  refine wcr ?_
  refine wl_eff (eo_box rfl rfl) rfl fun b1 => ?_
  refine wl_eff (eo_alloc (cs := [.int .i64 0, (sl (⟨none, 0, 0⟩ : Hd))]) za_26) rfl fun b2 => ?_
  refine wnt ?_
  refine wc_seq ?_
  refine wcr ?_
  refine wl_pure (v := .agg #[.int .i64 a_b.Size, (sl v0a)]) (po_load_boxs tk_26 (pickS pick0) rfl rfl rfl) rfl ?_
  refine bdO t0 fun v1 hv1 t0 => ?_
  refine wl_call (co_c0 fa_10 rfl fun w hw => c_spec_BlockOk w a_b v0a (Rg.on (rds_arg r0) hw) hv1) rfl fun _ => ?_
  refine wl_pure (po_not rfl) rfl ?_
  refine wnt ?_
  refine wcO t0 rfl (fun h1 t0 => ?_) fun h1 t0 => ?_
  · skip
    refine wcr ?_
    refine wl_pure (po_build rfl bd_26) rfl ?_
    refine wl_skipop (so_box (cs' := [.int .i64 0, (sl (⟨none, 0, 0⟩ : Hd))]) tk_26 pick0 rfl rfl rfl rfl rfl rfl rfl) ?_
    refine wnt ?_
    refine wc_ret ?_
    refine wq_then_ret ?_
    obtain rfl := Option.some.inj t0
    exact wq_retc rfl tk_26 rfl pick0 rfl fun w hw => ⟨(⟨none, 0, 0⟩ : Hd), rfl, hw.weak (some_cons pick_nil some_nil)⟩
  refine wc_skip ?_
  refine wq_then ?_
  refine wcr ?_
  refine wl_pure (po_fld fo_26_0 rfl) rfl ?_
  refine wl_pure (v := .int .i64 a_b.Size) (po_load_box tk_3 (pickS pick0) rfl rfl) rfl ?_
  refine wl_pure (po_build rfl (bd_26_0 a_b.Size)) rfl ?_
  refine wl_eff (eo_alloc (cs := [.int .i64 0, (sl (⟨none, 0, 0⟩ : Hd))]) za_26) rfl fun b3 => ?_
  refine wl_skipop (so_box (cs' := [.int .i64 a_b.Size, (sl (⟨none, 0, 0⟩ : Hd))]) tk_26 pick0 rfl rfl rfl rfl rfl rfl rfl) ?_
  refine wnt ?_
  refine wc_seq ?_
  refine wcr ?_
  refine asg rfl rfl ?_
  refine wnt ?_
  refine gdO t0 fun g1 t0 => ?_
  refine lpO_inv t0 fun y1 l1 t0 => ?_
  refine wj (J := List GCell) (X := Hd) (fun z => y1 = z) (fun _ _ => [(2, ptr b2 0), (3, ptr b3 0)]) (fun z x => [box b3 [.int .i64 a_b.Size, (sl x)], box b2 [.int .i64 0, (sl (⟨none, 0, 0⟩ : Hd))], ownF (sl x) z]) ?_ ?_
  · skip
    refine wc_block ?_
    refine wc_forO (X := Hd) l1 (fun k1 s1 x1l => [(1, ptr b1 0), (2, ptr b2 0), (3, ptr b3 0), (4, .int .i64 ((k1 : Nat) : Int))]) (fun k1 s1 x1l => [box b3 [.int .i64 a_b.Size, (sl x1l)], box b2 [.int .i64 0, (sl (⟨none, 0, 0⟩ : Hd))], box b1 [.int .i64 a_b.Size, (sl v0a)], ownF (sl x1l) s1]) (⟨none, 0, 0⟩ : Hd) (sub_cons rfl (sub_cons rfl (sub_cons rfl (sub_cons rfl sub_nil)))) (some_cons pick0 (some_cons pick0 (some_cons pick0 (some_cons pick_nil some_nil)))) fun k1 s1 x1l hN1 l1 => ?_
    by_cases hk1 : k1 < (a_b.Size).toNat
    · skip
      refine forO_step l1 hk1 fun _ t1 l1 => ?_
      unfold spec_TurnBlock_L1 at t1
      have c1 : (decide (((k1 : Nat) : Int) < a_b.Size)) = true := decide_eq_true (by omega)
      refine wc_seq ?_
      refine wcr ?_
      refine mv rfl rfl ?_
      refine wl_pure (po_fld fo_26_0 rfl) rfl ?_
      refine wl_pure (v := .int .i64 a_b.Size) (po_load_box tk_3 (pickS (pickS pick0)) rfl rfl) rfl ?_
      refine wl_pure (po_lss rfl rfl) rfl ?_
      refine wnt ?_
      refine wc_cond_t rfl c1 ?_
      refine wc_skip ?_
      refine wq_then ?_
      refine wc_seq ?_
      refine wc_block ?_
      refine wcr ?_
      refine asg rfl rfl ?_
      refine wnt ?_
      refine lpO_inv t1 fun y2 l2 t1 => ?_
      refine wj (J := List GCell) (X := Hd) (fun z => y2 = z) (fun _ _ => [(1, ptr b1 0), (2, ptr b2 0), (3, ptr b3 0), (4, .int .i64 ((k1 : Nat) : Int))]) (fun z x => [box b3 [.int .i64 a_b.Size, (sl x)], box b2 [.int .i64 0, (sl (⟨none, 0, 0⟩ : Hd))], box b1 [.int .i64 a_b.Size, (sl v0a)], ownF (sl x) z]) ?_ ?_
      · skip
        refine wc_block ?_
        refine wc_forO (X := Hd) l2 (fun k2 s2 x2l => [(1, ptr b1 0), (2, ptr b2 0), (3, ptr b3 0), (4, .int .i64 ((k1 : Nat) : Int)), (5, .int .i64 ((k2 : Nat) : Int))]) (fun k2 s2 x2l => [box b3 [.int .i64 a_b.Size, (sl x2l)], box b2 [.int .i64 0, (sl (⟨none, 0, 0⟩ : Hd))], box b1 [.int .i64 a_b.Size, (sl v0a)], ownF (sl x2l) s2]) x1l (sub_cons rfl (sub_cons rfl (sub_cons rfl (sub_cons rfl (sub_cons rfl sub_nil))))) (some_cons pick0 (some_cons pick0 (some_cons pick0 (some_cons pick0 some_nil)))) fun k2 s2 x2l hN2 l2 => ?_
        by_cases hk2 : k2 < (a_b.Size).toNat
        · skip
          refine forO_step l2 hk2 fun _ t2 l2 => ?_
          unfold spec_TurnBlock_L2 at t2
          have c2 : (decide (((k2 : Nat) : Int) < a_b.Size)) = true := decide_eq_true (by omega)
          refine wc_seq ?_
          refine wcr ?_
          refine mv rfl rfl ?_
          refine wl_pure (po_fld fo_26_0 rfl) rfl ?_
          refine wl_pure (v := .int .i64 a_b.Size) (po_load_box tk_3 (pickS (pickS pick0)) rfl rfl) rfl ?_
          refine wl_pure (po_lss rfl rfl) rfl ?_
          refine wnt ?_
          refine wc_cond_t rfl c2 ?_
          refine wc_skip ?_
          refine wq_then ?_
          refine wc_seq ?_
          refine wc_block ?_
          refine wc_draw [box b3 [.int .i64 a_b.Size, (sl x2l)], box b2 [.int .i64 0, (sl (⟨none, 0, 0⟩ : Hd))], box b1 [.int .i64 a_b.Size, (sl v0a)]] 20 mixed ?_
          refine wa_pure 0 rfl (po_fld fo_26_1 rfl) (some_cons pick0 (some_cons pick0 (some_cons pick0 some_nil))) rfl (by kernel_rfl) (fun _ _ _ h => h) ?_
          refine wa_pure (v := (sl x2l)) 1 rfl (po_load_box tk_24 pick0 rfl rfl) (some_cons pick0 (some_cons pick0 (some_cons pick0 some_nil))) rfl (by kernel_rfl) (fun _ _ _ h => h) ?_
          refine wa_pure 2 rfl (po_fld fo_26_1 rfl) (some_cons pick0 (some_cons pick0 (some_cons pick0 some_nil))) rfl (by kernel_rfl) (fun _ _ _ h => h) ?_
          refine wa_pure (v := (sl v0a)) 3 rfl (po_load_box tk_24 (pickS (pickS pick0)) rfl rfl) (some_cons pick0 (some_cons pick0 (some_cons pick0 some_nil))) rfl (by kernel_rfl) (fun _ _ _ h => h) ?_
          refine wa_pure 4 rfl (po_fld fo_26_0 rfl) (some_cons pick0 (some_cons pick0 (some_cons pick0 some_nil))) rfl (by kernel_rfl) (fun _ _ _ h => h) ?_
          refine wa_pure (v := .int .i64 a_b.Size) 5 rfl (po_load_box tk_3 (pickS (pickS pick0)) rfl rfl) (some_cons pick0 (some_cons pick0 (some_cons pick0 some_nil))) rfl (by kernel_rfl) (fun _ _ _ h => h) ?_
          refine wa_pure 6 rfl (po_sub rfl rfl) (some_cons pick0 (some_cons pick0 (some_cons pick0 some_nil))) rfl (by kernel_rfl) (fun _ _ _ h => h) ?_
          refine wa_pure 7 rfl (po_move rfl) (some_cons pick0 (some_cons pick0 (some_cons pick0 some_nil))) rfl (by kernel_rfl) (fun _ _ _ h => h) ?_
          refine wa_pure 8 rfl (po_sub rfl rfl) (some_cons pick0 (some_cons pick0 (some_cons pick0 some_nil))) rfl (by kernel_rfl) (fun _ _ _ h => h) ?_
          refine wa_pure 9 rfl (po_fld fo_26_0 rfl) (some_cons pick0 (some_cons pick0 (some_cons pick0 some_nil))) rfl (by kernel_rfl) (fun _ _ _ h => h) ?_
          refine wa_pure (v := .int .i64 a_b.Size) 10 rfl (po_load_box tk_3 (pickS (pickS pick0)) rfl rfl) (some_cons pick0 (some_cons pick0 (some_cons pick0 some_nil))) rfl (by kernel_rfl) (fun _ _ _ h => h) ?_
          refine wa_pure 11 rfl (po_mul rfl rfl) (some_cons pick0 (some_cons pick0 (some_cons pick0 some_nil))) rfl (by kernel_rfl) (fun _ _ _ h => h) ?_
          refine wa_pure 12 rfl (po_move rfl) (some_cons pick0 (some_cons pick0 (some_cons pick0 some_nil))) rfl (by kernel_rfl) (fun _ _ _ h => h) ?_
          refine wa_pure 13 rfl (po_add rfl rfl) (some_cons pick0 (some_cons pick0 (some_cons pick0 some_nil))) rfl (by kernel_rfl) (fun _ _ _ h => h) ?_
          refine gdO t2 fun g2 t2 => ?_
          refine wa_pure 14 rfl (po_ixr (rds_arg r0) el_24 rfl rfl g2.1 g2.2) (some_cons pick0 (some_cons pick0 (some_cons pick0 some_nil))) rfl (by kernel_rfl) (fun _ _ _ h => h) ?_
          refine wa_pure (v := .agg #[.int .i64 ((gx a_b.Cells (((wr ((wr ((wr ((wr (a_b.Size - 1)) - ((k2 : Nat) : Int))) * a_b.Size)) + ((k1 : Nat) : Int)))).toNat)).Split), .int .i64 ((gx a_b.Cells (((wr ((wr ((wr ((wr (a_b.Size - 1)) - ((k2 : Nat) : Int))) * a_b.Size)) + ((k1 : Nat) : Int)))).toNat)).A), .int .i64 ((gx a_b.Cells (((wr ((wr ((wr ((wr (a_b.Size - 1)) - ((k2 : Nat) : Int))) * a_b.Size)) + ((k1 : Nat) : Int)))).toNat)).B)]) 15 rfl (po_ldfs (rds_arg r0) tk_33 rfl (ix_lt g2) rfl rfl rfl) (some_cons pick0 (some_cons pick0 (some_cons pick0 some_nil))) rfl (by kernel_rfl) (fun _ _ _ h => h) ?_
          refine wa_1 (i := 16) (by kernel_rfl) ?_
          refine bdO t2 fun v2 hv2 t2 => ?_
          refine ws_call rfl (co_c0 fa_48 rfl fun w hw => c_spec_TurnCell w (gx a_b.Cells (((wr ((wr ((wr ((wr (a_b.Size - 1)) - ((k2 : Nat) : Int))) * a_b.Size)) + ((k1 : Nat) : Int)))).toNat)) hv2) (fun _ => (sts_some (some_cons pick0 (some_cons pick0 (some_cons pick0 some_nil))))) rfl fun _ => ?_
          refine wa_1 (i := 17) (by kernel_rfl) ?_
          refine ws_eff rfl (eo_buildSlice rfl (sb_24_1 v2.Split v2.A v2.B)) (fun _ => (sts_some (some_cons (pickS pick0) (some_cons (pickS pick0) (some_cons (pickS pick0) some_nil))))) rfl fun b4 => ?_
          refine wa_1 (i := 18) (by kernel_rfl) ?_
          refine gdO t2 fun g3 t2 => ?_
          refine ws_eff rfl (eo_append (xs := s2) (ys := ([v2] : List GCell)) ak_24 (pickS (pickS (pickS (pickS pick0)))) rfl rfl (slin_rd fun _ g => Rg.on (rds_own (pick_box_own pick0 (n := 1) (xs := ([v2] : List GCell)) rfl rfl (by unfold maxLen; omega))) g) g3) (fun _ => (sts_some (some_cons (pickS (pickS pick0)) (some_cons (pickS (pickS pick0)) (some_cons (pickS (pickS pick0)) some_nil))))) rfl fun x3 => ?_
          refine wa_pure 19 rfl (po_fld fo_26_1 rfl) (some_cons (pickS (pickS pick0)) (some_cons (pickS (pickS pick0)) (some_cons (pickS (pickS pick0)) some_nil))) rfl (by kernel_rfl) (fun _ _ _ h => h) ?_
          refine wa_1 (i := 20) (by kernel_rfl) ?_
          refine ws_skipop rfl (so_box (cs' := [.int .i64 a_b.Size, (sl x3)]) tk_24 (pickS (pickS pick0)) rfl rfl rfl rfl rfl rfl rfl) (sts_past (by kernel_rfl)) ?_
          refine wa_done (by kernel_rfl) ?_
          refine wq_block ?_
          refine wq_then ?_
          refine wc_region ?_
          refine mv rfl rfl ?_
          refine wl_pure (po_inc rfl rfl (by omega)) rfl ?_
          refine asg rfl rfl ?_
          refine wl_nil ?_
          exact wq_rnd hk2 (stpN l2 t2) x3 (sub_cons rfl (sub_cons rfl (sub_cons rfl (sub_cons rfl (sub_cons rfl sub_nil))))) (some_cons pick0 (some_cons (pickS (pickS pick0)) (some_cons (pickS (pickS pick0)) (some_cons pick0 some_nil))))
        have c2 : (decide (((k2 : Nat) : Int) < a_b.Size)) = false := decide_eq_false (by omega)
        have en1 := forO_end l2 hk2
        refine wc_seq ?_
        refine wcr ?_
        refine mv rfl rfl ?_
        refine wl_pure (po_fld fo_26_0 rfl) rfl ?_
        refine wl_pure (v := .int .i64 a_b.Size) (po_load_box tk_3 (pickS (pickS pick0)) rfl rfl) rfl ?_
        refine wl_pure (po_lss rfl rfl) rfl ?_
        refine wnt ?_
        refine wc_cond_f rfl c2 ?_
        refine wc_exit ?_
        refine wq_then_exit ?_
        refine wq_then_exit ?_
        refine wq_block_exit ?_
        exact wj_meet _ x2l (Sum.inl.inj en1) (sub_cons rfl (sub_cons rfl (sub_cons rfl (sub_cons rfl sub_nil)))) (some_cons pick0 (some_cons pick0 (some_cons pick0 (some_cons pick0 some_nil))))
      intro e2 x2 hp
      obtain rfl : e2 = y2 := hp.symm
      refine wq_block ?_
      refine wq_then ?_
      refine wc_region ?_
      refine mv rfl rfl ?_
      refine wl_pure (po_inc rfl rfl (by omega)) rfl ?_
      refine asg rfl rfl ?_
      refine wl_nil ?_
      exact wq_rnd hk1 (stpN l1 t1) x2 (sub_cons rfl (sub_cons rfl (sub_cons rfl (sub_cons rfl sub_nil)))) (some_cons pick0 (some_cons pick0 (some_cons pick0 (some_cons pick0 some_nil))))
    have c1 : (decide (((k1 : Nat) : Int) < a_b.Size)) = false := decide_eq_false (by omega)
    have en2 := forO_end l1 hk1
    refine wc_seq ?_
    refine wcr ?_
    refine mv rfl rfl ?_
    refine wl_pure (po_fld fo_26_0 rfl) rfl ?_
    refine wl_pure (v := .int .i64 a_b.Size) (po_load_box tk_3 (pickS (pickS pick0)) rfl rfl) rfl ?_
    refine wl_pure (po_lss rfl rfl) rfl ?_
    refine wnt ?_
    refine wc_cond_f rfl c1 ?_
    refine wc_exit ?_
    refine wq_then_exit ?_
    refine wq_then_exit ?_
    refine wq_block_exit ?_
    exact wj_meet _ x1l (Sum.inl.inj en2) (sub_cons rfl (sub_cons rfl sub_nil)) (some_cons pick0 (some_cons pick0 (some_cons (pickS pick0) some_nil)))
  intro e1 x1 hp
  obtain rfl : e1 = y1 := hp.symm
  refine wq_then ?_
  refine wcr ?_
  refine wl_pure (v := .agg #[.int .i64 a_b.Size, (sl x1)]) (po_load_boxs tk_26 pick0 rfl rfl rfl) rfl ?_
  refine wl_skipop (so_box (cs' := [.int .i64 a_b.Size, (sl x1)]) tk_26 (pickS pick0) rfl rfl rfl rfl rfl rfl rfl) ?_
  refine wnt ?_
  refine wc_ret ?_
  obtain rfl := Option.some.inj t0
  exact wq_retc rfl tk_26 rfl pick0 rfl fun w hw => ⟨x1, rfl, hw.weak (some_cons (pickS (pickS pick0)) some_nil)⟩

theorem c_spec_SeenFrom (w : World) (a_b : GBlock) (v0a : Hd) (r0 : rdF w (dm w []) (sl v0a) a_b.Cells) (a_k : Int) {r : GBlock} (t0 : spec_SeenFrom a_b a_k = some r) : Calls Try.prog 13 #[.agg #[.int .i64 a_b.Size, (sl v0a)], .int .i64 a_k] w fun e w' => ∃ x : Hd, e = .returned (.agg #[.int .i64 r.Size, (sl x)]) ∧ SH w [] [ownF (sl x) r.Cells] w' := by
  refine calls_of_wc (args := [_, _]) Try.func13 rfl Try.ntmps13 rfl ?_
  unfold spec_SeenFrom at t0
  refine wcr ?_
  refine wl_eff (eo_box rfl rfl) rfl fun b1 => ?_
  refine wl_eff (eo_alloc (cs := [.int .i64 0, (sl (⟨none, 0, 0⟩ : Hd))]) za_26) rfl fun b2 => ?_
  refine wnt ?_
  refine wc_seq ?_
  refine wc_seq ?_
  refine bdO t0 fun y1 t1 t0 => ?_
  refine wj (J := Bool) (X := Unit) (fun z => y1 = z) (fun z _ => [(1, .int .i64 a_k), (2, ptr b1 0), (4, ptr b2 0), (14, .bool z)]) (fun _ _ => [box b2 [.int .i64 0, (sl (⟨none, 0, 0⟩ : Hd))], box b1 [.int .i64 a_b.Size, (sl v0a)]]) ?_ ?_
  · skip
    refine wc_region ?_
    refine wl_pure (v := .agg #[.int .i64 a_b.Size, (sl v0a)]) (po_load_boxs tk_26 (pickS pick0) rfl rfl rfl) rfl ?_
    refine bdO t1 fun v1 hv1 t1 => ?_
    refine wl_call (co_c0 fa_10 rfl fun w hw => c_spec_BlockOk w a_b v0a (Rg.on (rds_arg r0) hw) hv1) rfl fun _ => ?_
    refine wl_pure (po_not rfl) rfl ?_
    refine mv rfl rfl ?_
    refine wlO_ (t := 10) t1 rfl (fun h1 t1 => ?_) fun h1 t1 => ?_
    · skip
      refine wl_guard_off (j := 3) rfl rfl rfl rfl rfl ?_
      refine wl_guard_off (j := 3) rfl rfl rfl rfl rfl ?_
      refine wl_guard_off (j := 3) rfl rfl rfl rfl rfl ?_
      refine wl_pure (po_pick_t rfl rfl) rfl ?_
      refine wl_nil ?_
      exact wj_meet _ () (mtE t1) (sub_cons rfl (sub_cons rfl (sub_cons rfl (sub_cons rfl sub_nil)))) (some_cons pick0 (some_cons pick0 some_nil))
    refine wl_guard_on (j := 3) rfl rfl rfl (mv rfl rfl ?_)
    refine bdO t1 fun v2 hv2 t1 => ?_
    refine wl_guard_on (j := 3) rfl rfl rfl (wl_call (co_c0 fa_23 rfl fun w hw => c_spec_l01In w a_k 0 7 hv2) rfl (fun _ => ?_))
    refine wl_guard_on (j := 3) rfl rfl rfl (wl_pure (po_not rfl) rfl ?_)
    refine wl_pure (po_pick_f rfl rfl) rfl ?_
    refine wl_nil ?_
    exact wj_meet _ () (mtE t1) (sub_cons rfl (sub_cons rfl (sub_cons rfl (sub_cons rfl sub_nil)))) (some_cons pick0 (some_cons pick0 some_nil))
  intro j1 _ hp
  obtain rfl : j1 = y1 := hp.symm
  refine wq_then ?_
  refine wcO t0 rfl (fun h2 t0 => ?_) fun h2 t0 => ?_
  · skip
    refine wcr ?_
    refine wl_pure (po_build rfl bd_26) rfl ?_
    refine wl_skipop (so_box (cs' := [.int .i64 0, (sl (⟨none, 0, 0⟩ : Hd))]) tk_26 pick0 rfl rfl rfl rfl rfl rfl rfl) ?_
    refine wnt ?_
    refine wc_ret ?_
    refine wq_then_ret ?_
    obtain rfl := Option.some.inj t0
    exact wq_retc rfl tk_26 rfl pick0 rfl fun w hw => ⟨(⟨none, 0, 0⟩ : Hd), rfl, hw.weak (some_cons pick_nil some_nil)⟩
  refine wc_skip ?_
  refine wq_then ?_
  refine wcr ?_
  refine wl_pure (v := .agg #[.int .i64 a_b.Size, (sl v0a)]) (po_load_boxs tk_26 (pickS pick0) rfl rfl rfl) rfl ?_
  refine bdO t0 fun v3 hv3 t0 => ?_
  refine wl_call (co_c1 fa_27 rfl fun w hw => c_spec_l03Copy w a_b v0a (Rg.on (rds_arg r0) hw) hv3) rfl fun x2 => ?_
  refine wl_eff (eo_alloc (cs := [.int .i64 0, (sl (⟨none, 0, 0⟩ : Hd))]) za_26) rfl fun b3 => ?_
  refine wl_skipop (so_box (cs' := [.int .i64 v3.Size, (sl x2)]) tk_26 pick0 rfl rfl rfl rfl rfl rfl rfl) ?_
  refine wnt ?_
  refine wc_seq ?_
  refine wcr ?_
  refine mv rfl rfl ?_
  refine wl_pure (po_geq rfl rfl) rfl ?_
  refine wnt ?_
  refine bdO t0 fun y1 t1 t0 => ?_
  refine wj (J := GBlock) (X := Hd) (fun z => y1 = z) (fun _ _ => [(1, .int .i64 a_k), (4, ptr b2 0), (5, ptr b3 0)]) (fun z x => [box b3 [.int .i64 ((z).Size), (sl x)], box b2 [.int .i64 0, (sl (⟨none, 0, 0⟩ : Hd))], ownF (sl x) ((z).Cells)]) ?_ ?_
  · skip
    refine wcO t1 rfl (fun h3 t1 => ?_) fun h3 t1 => ?_
    · skip
      refine wc_region ?_
      refine wl_pure (v := .agg #[.int .i64 a_b.Size, (sl v0a)]) (po_load_boxs tk_26 (pickS (pickS (pickS pick0))) rfl rfl rfl) rfl ?_
      refine bdO t1 fun v4 hv4 t1 => ?_
      refine wl_call (co_c1 fa_28 rfl fun w hw => c_spec_MirrorBlock w a_b v0a (Rg.on (rds_arg r0) hw) hv4) rfl fun x4 => ?_
      refine wl_skipop (so_box (cs' := [.int .i64 v4.Size, (sl x4)]) tk_26 (pickS pick0) rfl rfl rfl rfl rfl rfl rfl) ?_
      refine wl_nil ?_
      exact wj_meet _ x4 (mtE t1) (sub_cons rfl (sub_cons rfl (sub_cons rfl sub_nil))) (some_cons pick0 (some_cons (pickS (pickS pick0)) (some_cons pick0 some_nil)))
    refine wc_skip ?_
    exact wj_meet _ x2 (mtE t1) (sub_cons rfl (sub_cons rfl (sub_cons rfl sub_nil))) (some_cons pick0 (some_cons (pickS pick0) (some_cons pick0 some_nil)))
  intro j2 x3 hp
  obtain rfl : j2 = y1 := hp.symm
  refine wq_then ?_
  refine wc_seq ?_
  refine wcr ?_
  refine asg rfl rfl ?_
  refine wnt ?_
  refine gdO t0 fun g1 t0 => ?_
  refine lpO_inv t0 fun y1 l1 t0 => ?_
  refine wj (J := Int × (List GCell)) (X := Hd) (fun z => y1 = z) (fun _ _ => [(4, ptr b2 0), (5, ptr b3 0)]) (fun z x => [box b3 [.int .i64 z.1, (sl x)], box b2 [.int .i64 0, (sl (⟨none, 0, 0⟩ : Hd))], ownF (sl x) z.2]) ?_ ?_
  · skip
    refine wc_block ?_
    refine wc_forO (X := Hd) l1 (fun k1 s1 x1l => [(1, .int .i64 a_k), (4, ptr b2 0), (5, ptr b3 0), (6, .int .i64 ((k1 : Nat) : Int))]) (fun k1 s1 x1l => [box b3 [.int .i64 s1.1, (sl x1l)], box b2 [.int .i64 0, (sl (⟨none, 0, 0⟩ : Hd))], ownF (sl x1l) s1.2]) x3 (sub_cons rfl (sub_cons rfl (sub_cons rfl (sub_cons rfl sub_nil)))) (some_cons pick0 (some_cons pick0 (some_cons pick0 some_nil))) fun k1 s1 x1l hN1 l1 => ?_
    by_cases hk1 : k1 < ((a_k.tmod 4)).toNat
    · skip
      refine forO_step l1 hk1 fun _ t1 l1 => ?_
      unfold spec_SeenFrom_L1 at t1
      have c1 : (decide (((k1 : Nat) : Int) < (a_k.tmod 4))) = true := decide_eq_true (by omega)
      refine wc_seq ?_
      refine wcr ?_
      refine mv rfl rfl ?_
      refine mv rfl rfl ?_
      refine wl_pure (po_rem rfl rfl (by decide)) rfl ?_
      refine wl_pure (po_lss rfl rfl) rfl ?_
      refine wnt ?_
      refine wc_cond_t rfl c1 ?_
      refine wc_skip ?_
      refine wq_then ?_
      refine wc_seq ?_
      refine wc_block ?_
      refine wc_region ?_
      refine wl_pure (v := .agg #[.int .i64 s1.1, (sl x1l)]) (po_load_boxs tk_26 pick0 rfl rfl rfl) rfl ?_
      refine bdO t1 fun v5 hv5 t1 => ?_
      refine wl_call (co_c1 fa_29 rfl fun w hw => c_spec_TurnBlock w (GBlock.mk s1.1 s1.2) x1l (Rg.on (rds_own (pickS (pickS pick0))) hw) hv5) rfl fun x6 => ?_
      refine wl_skipop (so_box (cs' := [.int .i64 v5.Size, (sl x6)]) tk_26 (pickS pick0) rfl rfl rfl rfl rfl rfl rfl) ?_
      refine wl_nil ?_
      refine wq_block ?_
      refine wq_then ?_
      refine wc_region ?_
      refine mv rfl rfl ?_
      refine wl_pure (po_inc rfl rfl (by omega)) rfl ?_
      refine asg rfl rfl ?_
      refine wl_nil ?_
      exact wq_rnd hk1 (stpN l1 t1) x6 (sub_cons rfl (sub_cons rfl (sub_cons rfl (sub_cons rfl sub_nil)))) (some_cons pick0 (some_cons (pickS pick0) (some_cons pick0 some_nil)))
    have c1 : (decide (((k1 : Nat) : Int) < (a_k.tmod 4))) = false := decide_eq_false (by omega)
    have en1 := forO_end l1 hk1
    refine wc_seq ?_
    refine wcr ?_
    refine mv rfl rfl ?_
    refine mv rfl rfl ?_
    refine wl_pure (po_rem rfl rfl (by decide)) rfl ?_
    refine wl_pure (po_lss rfl rfl) rfl ?_
    refine wnt ?_
    refine wc_cond_f rfl c1 ?_
    refine wc_exit ?_
    refine wq_then_exit ?_
    refine wq_then_exit ?_
    refine wq_block_exit ?_
    exact wj_meet _ x1l (Sum.inl.inj en1) (sub_cons rfl (sub_cons rfl sub_nil)) (some_cons pick0 (some_cons pick0 (some_cons pick0 some_nil)))
  intro e1 x5 hp
  obtain rfl : e1 = y1 := hp.symm
  refine wq_then ?_
  refine wcr ?_
  refine wl_pure (v := .agg #[.int .i64 e1.1, (sl x5)]) (po_load_boxs tk_26 pick0 rfl rfl rfl) rfl ?_
  refine wl_skipop (so_box (cs' := [.int .i64 e1.1, (sl x5)]) tk_26 (pickS pick0) rfl rfl rfl rfl rfl rfl rfl) ?_
  refine wnt ?_
  refine wc_ret ?_
  obtain rfl := Option.some.inj t0
  exact wq_retc rfl tk_26 rfl pick0 rfl fun w hw => ⟨x5, rfl, hw.weak (some_cons (pickS (pickS pick0)) some_nil)⟩

theorem c_spec_l06Same (w : World)  {r : List Int} (t0 : spec_l06Same = some r) : Calls Try.prog 57 #[] w fun e w' => ∃ x : Hd, e = .returned ((sl x)) ∧ SH w [] [ownF (sl x) r] w' := by
  refine calls_of_wc (args := []) Try.func57 rfl Try.ntmps57 rfl ?_
  unfold spec_l06Same at t0
  refine wcr ?_
  refine asg rfl rfl ?_
  refine wnt ?_
  refine wcr ?_
  refine wl_eff (eo_buildSlice rfl sb_34_0) rfl fun b1 => ?_
  refine asg rfl rfl ?_
  refine wnt ?_
  refine wc_seq ?_
  refine wcr ?_
  refine asg rfl rfl ?_
  refine wnt ?_
  refine lpO_inv t0 fun y1 l1 t0 => ?_
  refine wj (J := List Int) (X := Hd) (fun z => y1 = z) (fun _ x => [(1, (sl x))]) (fun z x => [ownF (sl x) z]) ?_ ?_
  · skip
    refine wc_block ?_
    refine wc_forO (X := Hd) l1 (fun k1 s1 x1l => [(1, (sl x1l)), (2, .int .i64 ((k1 : Nat) : Int))]) (fun k1 s1 x1l => [ownF (sl x1l) s1]) (⟨some ⟨b1, 0, none⟩, 0, 0⟩ : Hd) (sub_cons rfl (sub_cons rfl sub_nil)) (some_cons (pick_box_own pick0 (n := 0) (xs := ([] : List Int)) rfl rfl (by unfold maxLen; omega)) some_nil) fun k1 s1 x1l hN1 l1 => ?_
    by_cases hk1 : k1 < 6
    · skip
      refine forO_step l1 hk1 fun _ t1 l1 => ?_
      unfold spec_l06Same_L1 at t1
      have c1 : (decide (((k1 : Nat) : Int) < 6)) = true := decide_eq_true (by omega)
      refine wc_seq ?_
      refine wcr ?_
      refine mv rfl rfl ?_
      refine wl_pure (po_lss rfl rfl) rfl ?_
      refine wnt ?_
      refine wc_cond_t rfl c1 ?_
      refine wc_skip ?_
      refine wq_then ?_
      refine wc_seq ?_
      refine wc_block ?_
      refine wc_region ?_
      refine mv rfl rfl ?_
      refine mv rfl rfl ?_
      refine wl_eff (eo_buildSlice rfl (sb_34_1 ((k1 : Nat) : Int))) rfl fun b2 => ?_
      refine gdO t1 fun g1 t1 => ?_
      refine wl_eff (eo_append (xs := s1) (ys := ([((k1 : Nat) : Int)] : List Int)) ak_34 (pickS pick0) rfl rfl (slin_rd fun _ g => Rg.on (rds_own (pick_box_own pick0 (n := 1) (xs := ([((k1 : Nat) : Int)] : List Int)) rfl rfl (by unfold maxLen; omega))) g) g1) rfl fun x2 => ?_
      refine asg rfl rfl ?_
      refine wl_nil ?_
      refine wq_block ?_
      refine wq_then ?_
      refine wc_region ?_
      refine mv rfl rfl ?_
      refine wl_pure (po_inc rfl rfl (by omega)) rfl ?_
      refine asg rfl rfl ?_
      refine wl_nil ?_
      exact wq_rnd hk1 (stpN l1 t1) x2 (sub_cons rfl (sub_cons rfl sub_nil)) (some_cons pick0 some_nil)
    have c1 : (decide (((k1 : Nat) : Int) < 6)) = false := decide_eq_false (by omega)
    have en1 := forO_end l1 hk1
    refine wc_seq ?_
    refine wcr ?_
    refine mv rfl rfl ?_
    refine wl_pure (po_lss rfl rfl) rfl ?_
    refine wnt ?_
    refine wc_cond_f rfl c1 ?_
    refine wc_exit ?_
    refine wq_then_exit ?_
    refine wq_then_exit ?_
    refine wq_block_exit ?_
    exact wj_meet _ x1l (Sum.inl.inj en1) (sub_cons rfl sub_nil) (some_cons pick0 some_nil)
  intro e1 x1 hp
  obtain rfl : e1 = y1 := hp.symm
  refine wq_then ?_
  refine wcr ?_
  refine mv rfl rfl ?_
  refine asg rfl rfl ?_
  refine wnt ?_
  refine wc_ret ?_
  obtain rfl := Option.some.inj t0
  exact wq_ret1 rfl rfl fun w hw => ⟨x1, rfl, hw.weak (some_cons pick0 some_nil)⟩

theorem c_spec_l06List (w : World) (fp : List Nat) (b0p : Nat) (a_c0 : List UInt8) (v0a : Hd) (r0 : rdF w (dm w fp) (sl v0a) a_c0) (a_c1 : Int) (a_c2 : Int) (o : Ow w [box b0p [(sl v0a), .int .i64 a_c1, .int .i64 a_c2]] fp) {r : (List Int) × Int × Int} (t0 : spec_l06List a_c0 a_c1 a_c2 = some r) : Calls Try.prog 36 #[ptr b0p 0] w fun e w' => ∃ x : Hd, e = .returned ((sl x)) ∧ SH w fp [ownF (sl x) r.1, box b0p [(sl v0a), .int .i64 r.2.1, .int .i64 r.2.2]] w' := by
  refine calls_of_wc_own (args := [_]) o Try.func36 rfl Try.ntmps36 rfl ?_
  unfold spec_l06List at t0
  refine wcr ?_
  refine asg rfl rfl ?_
  refine wnt ?_
  refine wcr ?_
  refine bdO t0 fun v1 hv1 t0 => ?_
  refine wl_call (co_c1 fa_57 rfl fun w hw => c_spec_l06Same w hv1) rfl fun x1 => ?_
  refine asg rfl rfl ?_
  refine wnt ?_
  refine wc_seq ?_
  refine wcr ?_
  refine mv rfl rfl ?_
  refine bdO t0 fun v2 hv2 t0 => ?_
  refine wl_call (co_o1 [box b0p [(sl v0a), .int .i64 a_c1, .int .i64 a_c2]] fa_34 (some_cons (pickS pick0) some_refl) rfl fun w fp hw => c_spec_l01Below w fp b0p a_c0 v0a ((rdo_arg r0) w fp hw) a_c1 a_c2 6 hw.ow hv2) rfl fun _ => ?_
  refine asg rfl rfl ?_
  refine wnt ?_
  refine wlO_inv t0 fun y1 l1 t0 => ?_
  refine wj (J := (List Int) × Int × Int × Int) (X := Unit) (fun z => y1 = z) (fun _ _ => [(0, ptr b0p 0), (3, (sl x1))]) (fun z _ => [box b0p [(sl v0a), .int .i64 z.2.2.1, .int .i64 z.2.2.2], ownF (sl x1) z.1]) ?_ ?_
  · skip
    refine wc_block ?_
    refine wc_whO (X := Unit) l1 (fun s1 x1l => [(0, ptr b0p 0), (3, (sl x1)), (4, .int .i64 s1.2.1)]) (fun s1 x1l => [box b0p [(sl v0a), .int .i64 s1.2.2.1, .int .i64 s1.2.2.2], ownF (sl x1) s1.1]) () (sub_cons rfl (sub_cons rfl (sub_cons rfl sub_nil))) (some_cons pick0 (some_cons pick0 some_nil)) fun m1 s1 x1l l1 => ?_
    refine whO_step l1 fun _ t1 l1 => ?_
    unfold spec_l06List_L1 at t1
    refine wc_seq ?_
    refine wcr ?_
    refine mv rfl rfl ?_
    refine wl_pure (po_gtr rfl rfl) rfl ?_
    refine wnt ?_
    refine wcO t1 rfl (fun h1 t1 => ?_) fun h1 t1 => ?_
    · skip
      refine wc_skip ?_
      refine wq_then ?_
      refine wc_seq ?_
      refine wc_block ?_
      refine wcr ?_
      refine mv rfl rfl ?_
      refine bdO t1 fun v3 hv3 t1 => ?_
      refine wl_call (co_o1 [box b0p [(sl v0a), .int .i64 s1.2.2.1, .int .i64 s1.2.2.2]] fa_34 (some_cons pick0 some_refl) rfl fun w fp hw => c_spec_l01Below w fp b0p a_c0 v0a ((rdo_arg r0) w fp hw) s1.2.2.1 s1.2.2.2 6 hw.ow hv3) rfl fun _ => ?_
      refine asg rfl rfl ?_
      refine wnt ?_
      refine wcr ?_
      refine mv rfl rfl ?_
      refine bdO t1 fun v4 hv4 t1 => ?_
      refine wl_call (co_o1 [box b0p [(sl v0a), .int .i64 v3.2.1, .int .i64 v3.2.2]] fa_34 (some_cons pick0 some_refl) rfl fun w fp hw => c_spec_l01Below w fp b0p a_c0 v0a ((rdo_arg r0) w fp hw) v3.2.1 v3.2.2 6 hw.ow hv4) rfl fun _ => ?_
      refine asg rfl rfl ?_
      refine wnt ?_
      refine wcr ?_
      refine mv rfl rfl ?_
      refine mv rfl rfl ?_
      refine gdO t1 fun g1 t1 => ?_
      refine wl_pure (po_ixr (rds_own (pickS pick0)) el_34 rfl rfl g1.1 g1.2) rfl ?_
      refine wl_pure (v := .int .i64 (gx s1.1 ((v3.1).toNat))) (po_ldf (rds_own (pickS pick0)) tk_3 rfl (ix_lt g1) rfl) rfl ?_
      refine asg rfl rfl ?_
      refine wnt ?_
      refine wcr ?_
      refine mv rfl rfl ?_
      refine mv rfl rfl ?_
      refine mv rfl rfl ?_
      refine mv rfl rfl ?_
      refine gdO t1 fun g2 t1 => ?_
      refine wl_pure (po_ixr (rds_own (pickS pick0)) el_34 rfl rfl g2.1 g2.2) rfl ?_
      refine wl_pure (v := .int .i64 (gx s1.1 ((v4.1).toNat))) (po_ldf (rds_own (pickS pick0)) tk_3 rfl (ix_lt g2) rfl) rfl ?_
      refine wl_pure (po_ixr (rds_own (pickS pick0)) el_34 rfl rfl g1.1 g1.2) rfl ?_
      refine wl_skipop (so_own (x' := (gx s1.1 ((v4.1).toNat))) tk_3 (pickS pick0) rfl rfl rfl rfl rfl rfl (ix_lt g1) rfl) ?_
      refine wnt ?_
      refine wc_region ?_
      refine mv rfl rfl ?_
      refine mv rfl rfl ?_
      refine mv rfl rfl ?_
      refine gdO t1 fun g3 t1 => ?_
      refine wl_pure (po_ixr (rds_own pick0) el_34 rfl rfl g3.1 g3.2) rfl ?_
      refine wl_skipop (so_own (x' := (gx s1.1 ((v3.1).toNat))) tk_3 pick0 rfl rfl rfl rfl rfl rfl (ix_lt g3) rfl) ?_
      refine wl_nil ?_
      refine wq_block ?_
      refine wq_then ?_
      refine wc_region ?_
      refine mv rfl rfl ?_
      refine wl_pure (po_sub rfl rfl) rfl ?_
      refine asg rfl rfl ?_
      refine wl_nil ?_
      exact wq_rndw (stwN l1 t1) () (sub_cons rfl (sub_cons rfl (sub_cons rfl sub_nil))) (some_cons (pickS pick0) (some_cons pick0 some_nil))
    refine wc_exit ?_
    refine wq_then_exit ?_
    refine wq_then_exit ?_
    refine wq_block_exit ?_
    exact wj_meet _ () (Sum.inl.inj (stwB l1 t1)) (sub_cons rfl (sub_cons rfl sub_nil)) (some_cons pick0 (some_cons pick0 some_nil))
  intro e1 _ hp
  obtain rfl : e1 = y1 := hp.symm
  refine wq_then ?_
  refine wc_seq ?_
  refine wcr ?_
  refine mv rfl rfl ?_
  refine bdO t0 fun v5 hv5 t0 => ?_
  refine wl_call (co_o1 [box b0p [(sl v0a), .int .i64 e1.2.2.1, .int .i64 e1.2.2.2]] fa_34 (some_cons pick0 some_refl) rfl fun w fp hw => c_spec_l01Below w fp b0p a_c0 v0a ((rdo_arg r0) w fp hw) e1.2.2.1 e1.2.2.2 10 hw.ow hv5) rfl fun _ => ?_
  refine wnt ?_
  refine wc_block ?_
  refine wcr ?_
  refine wl_pure (po_eql rfl rfl) rfl ?_
  refine asg rfl rfl ?_
  refine wnt ?_
  refine bdO t0 fun y1 t1 t0 => ?_
  refine wj (J := (List Int) × Gl01Cur) (X := Hd) (fun z => y1 = z) (fun _ x => [(3, (sl x))]) (fun z x => [box b0p [(sl v0a), .int .i64 ((z.2).i), .int .i64 ((z.2).h)], ownF (sl x) z.1]) ?_ ?_
  · skip
    refine wcO t1 rfl (fun h2 t1 => ?_) fun h2 t1 => ?_
    · skip
      refine wc_region ?_
      refine mv rfl rfl ?_
      refine mv rfl rfl ?_
      refine bdO t1 fun v6 hv6 t1 => ?_
      refine wl_call (co_o1 [box b0p [(sl v0a), .int .i64 v5.2.1, .int .i64 v5.2.2]] fa_34 (some_cons pick0 some_refl) rfl fun w fp hw => c_spec_l01Below w fp b0p a_c0 v0a ((rdo_arg r0) w fp hw) v5.2.1 v5.2.2 6 hw.ow hv6) rfl fun _ => ?_
      refine mv rfl rfl ?_
      refine wl_eff (eo_buildSlice (qs := [(0, .int .i64 (-1)), (1, .int .i64 0), (2, .int .i64 5), (3, .int .i64 6)]) rfl (sb_34_4 (-1) 0 5 6)) rfl fun b1 => ?_
      refine bdO t1 fun v7 hv7 t1 => ?_
      refine wl_call (co_o1 [box b0p [(sl v0a), .int .i64 v6.2.1, .int .i64 v6.2.2]] fa_52 (some_cons (pickS pick0) some_refl) rfl fun w fp hw => c_spec_l01PickInt w fp b0p a_c0 v0a ((rdo_arg r0) w fp hw) v6.2.1 v6.2.2 ([(-1), 0, 5, 6] : List Int) (⟨some ⟨b1, 0, none⟩, 4, 4⟩ : Hd) ((rdo_own (pick_box_own pick0 (n := 4) (xs := ([(-1), 0, 5, 6] : List Int)) rfl rfl (by unfold maxLen; omega))) w fp hw) hw.ow hv7) rfl fun _ => ?_
      refine gdO t1 fun g4 t1 => ?_
      refine wl_pure (po_ixr (rds_own (pickS (pickS pick0))) el_34 rfl rfl g4.1 g4.2) rfl ?_
      refine wl_skipop (so_own (x' := v7.1) tk_3 (pickS (pickS pick0)) rfl rfl rfl rfl rfl rfl (ix_lt g4) rfl) ?_
      refine wl_nil ?_
      exact wj_meet _ x1 (mtE t1) (sub_cons rfl sub_nil) (some_cons (pickS pick0) (some_cons pick0 some_nil))
    refine wcr ?_
    refine wl_pure (po_eql rfl rfl) rfl ?_
    refine asg rfl rfl ?_
    refine wnt ?_
    refine wcO t1 rfl (fun h3 t1 => ?_) fun h3 t1 => ?_
    · skip
      refine wc_region ?_
      refine mv rfl rfl ?_
      refine gdO t1 fun g5 t1 => ?_
      refine wl_pure (po_cutr (l := 1) (h := e1.1.length) (rds_own (pickS pick0)) el_34 rfl (.inr ⟨_, rfl, rfl⟩) (.inl ⟨rfl, rfl⟩) g5.1 g5.2) rfl ?_
      refine asg rfl rfl ?_
      refine wl_nil ?_
      exact wj_meet _ (slh x1 1 e1.1.length (Rep.sz Int)) (mtE t1) (sub_cons rfl sub_nil) (some_cons pick0 (some_cons (pick_cut pick0 g5.1 g5.2) some_nil))
    refine wc_skip ?_
    exact wj_meet _ x1 (mtE t1) (sub_cons rfl sub_nil) (some_cons pick0 (some_cons pick0 some_nil))
  intro j1 x3 hp
  obtain rfl : j1 = y1 := hp.symm
  refine wq_block ?_
  refine wq_then ?_
  refine wcr ?_
  refine mv rfl rfl ?_
  refine asg rfl rfl ?_
  refine wnt ?_
  refine wc_ret ?_
  obtain rfl := Option.some.inj t0
  exact wq_ret1 rfl rfl fun w hw => ⟨x3, rfl, hw.weak (some_cons (pickS pick0) (some_cons pick0 some_nil))⟩

theorem c_spec_ListOk (w : World) (a_l : List Int) (v0a : Hd) (r0 : rdF w (dm w []) (sl v0a) a_l) {r : Bool} (t0 : spec_ListOk a_l = some r) : Calls Try.prog 55 #[(sl v0a)] w fun e w' => e = .returned (.bool r) ∧ SH w [] [] w' := by
  refine calls_of_wc (args := [_]) Try.func55 rfl Try.ntmps55 rfl ?_
  unfold spec_ListOk at t0
  refine wcr ?_
  refine asg rfl rfl ?_
  refine wnt ?_
  refine wc_seq ?_
  refine wcr ?_
  refine asg rfl rfl ?_
  refine wnt ?_
  refine gdO t0 fun g1 t0 => ?_
  refine sqO t0 fun y1 l1 t0 => ?_
  refine wj (J := Unit) (X := Unit) (fun z => y1 = .inl z) (fun _ _ => [(0, (sl v0a))]) (fun _ _ => []) ?_ ?_
  · skip
    refine wc_block ?_
    refine wc_forO (X := Unit) l1 (fun k1 s1 x1l => [(0, (sl v0a)), (3, .int .i64 ((k1 : Nat) : Int))]) (fun k1 s1 x1l => []) () (sub_cons rfl (sub_cons rfl sub_nil)) some_nil fun k1 s1 x1l hN1 l1 => ?_
    by_cases hk1 : k1 < a_l.length
    · skip
      refine forO_step l1 hk1 fun _ t1 l1 => ?_
      unfold spec_ListOk_L1 at t1
      have c1 : (decide (((k1 : Nat) : Int) < ((a_l.length : Nat) : Int))) = true := decide_eq_true (by omega)
      refine wc_seq ?_
      refine wcr ?_
      refine mv rfl rfl ?_
      refine mv rfl rfl ?_
      refine wl_pure (po_lenr (rds_arg r0) el_34 rfl) rfl ?_
      refine wl_pure (po_lss rfl rfl) rfl ?_
      refine wnt ?_
      refine wc_cond_t rfl c1 ?_
      refine wc_skip ?_
      refine wq_then ?_
      refine wc_seq ?_
      refine wc_block ?_
      refine wcr ?_
      refine mv rfl rfl ?_
      refine mv rfl rfl ?_
      refine wl_pure (po_ixn (k := k1) (rds_arg r0) el_34 rfl rfl hk1) rfl ?_
      refine wl_pure (v := .int .i64 (gx a_l k1)) (po_ldf (rds_arg r0) tk_3 rfl hk1 rfl) rfl ?_
      refine bdO t1 fun v1 hv1 t1 => ?_
      refine wl_call (co_c0 fa_23 rfl fun w hw => c_spec_l01In w (gx a_l k1) 0 5 hv1) rfl fun _ => ?_
      refine wl_pure (po_not rfl) rfl ?_
      refine wnt ?_
      refine wcO t1 rfl (fun h1 t1 => ?_) fun h1 t1 => ?_
      · skip
        refine wcr ?_
        refine asg rfl rfl ?_
        refine wnt ?_
        refine wc_ret ?_
        refine wq_block_ret ?_
        refine wq_then_ret ?_
        refine wq_then_ret ?_
        refine wq_block_ret ?_
        refine wq_then_ret ?_
        refine wq_then_ret ?_
        replace t0 := lpR t0 l1 t1
        obtain rfl := Option.some.inj t0
        exact wq_ret1 rfl rfl fun w hw => ⟨rfl, hw.weak some_nil⟩
      refine wc_skip ?_
      refine wq_block ?_
      refine wq_then ?_
      refine wc_region ?_
      refine mv rfl rfl ?_
      refine wl_pure (po_inc rfl rfl (by omega)) rfl ?_
      refine asg rfl rfl ?_
      refine wl_nil ?_
      exact wq_rnd hk1 (stpN l1 t1) () (sub_cons rfl (sub_cons rfl sub_nil)) some_nil
    have c1 : (decide (((k1 : Nat) : Int) < ((a_l.length : Nat) : Int))) = false := decide_eq_false (by omega)
    have en1 := forO_end l1 hk1
    refine wc_seq ?_
    refine wcr ?_
    refine mv rfl rfl ?_
    refine mv rfl rfl ?_
    refine wl_pure (po_lenr (rds_arg r0) el_34 rfl) rfl ?_
    refine wl_pure (po_lss rfl rfl) rfl ?_
    refine wnt ?_
    refine wc_cond_f rfl c1 ?_
    refine wc_exit ?_
    refine wq_then_exit ?_
    refine wq_then_exit ?_
    refine wq_block_exit ?_
    exact wj_meet _ () en1 (sub_cons rfl sub_nil) some_nil
  intro e1 _ hp
  replace t0 := sqE (j := e1) t0 hp
  refine wq_then ?_
  refine wcr ?_
  refine mv rfl rfl ?_
  refine wl_pure (po_lenr (rds_arg r0) el_34 rfl) rfl ?_
  refine wl_pure (po_eql rfl rfl) rfl ?_
  refine asg rfl rfl ?_
  refine wnt ?_
  refine wc_ret ?_
  obtain rfl := Option.some.inj t0
  exact wq_ret1 rfl rfl fun w hw => ⟨rfl, hw.weak some_nil⟩

theorem c_spec_ExchangeCell (w : World) (a_c : GCell) (a_l : List Int) (v0a : Hd) (r0 : rdF w (dm w []) (sl v0a) a_l) {r : GCell} (t0 : spec_ExchangeCell a_c a_l = some r) : Calls Try.prog 56 #[.agg #[.int .i64 a_c.Split, .int .i64 a_c.A, .int .i64 a_c.B], (sl v0a)] w fun e w' => e = .returned (.agg #[.int .i64 r.Split, .int .i64 r.A, .int .i64 r.B]) ∧ SH w [] [] w' := by
  refine calls_of_wc (args := [_, _]) Try.func56 rfl Try.ntmps56 rfl ?_
  unfold spec_ExchangeCell at t0
  refine wcr ?_
  refine wl_eff (eo_box rfl rfl) rfl fun b1 => ?_
  refine wl_eff (eo_alloc (cs := [.int .i64 0, .int .i64 0, .int .i64 0]) za_33) rfl fun b2 => ?_
  refine wnt ?_
  refine wc_seq ?_
  refine wc_seq ?_
  refine bdO t0 fun y1 t1 t0 => ?_
  refine wj (J := Bool) (X := Unit) (fun z => y1 = z) (fun z _ => [(1, (sl v0a)), (2, ptr b1 0), (4, ptr b2 0), (12, .bool z)]) (fun _ _ => [box b2 [.int .i64 0, .int .i64 0, .int .i64 0], box b1 [.int .i64 a_c.Split, .int .i64 a_c.A, .int .i64 a_c.B]]) ?_ ?_
  · skip
    refine wc_region ?_
    refine wl_pure (v := .agg #[.int .i64 a_c.Split, .int .i64 a_c.A, .int .i64 a_c.B]) (po_load_boxs tk_33 (pickS pick0) rfl rfl rfl) rfl ?_
    refine bdO t1 fun v1 hv1 t1 => ?_
    refine wl_call (co_c0 fa_24 rfl fun w hw => c_spec_CellOk w a_c hv1) rfl fun _ => ?_
    refine wl_pure (po_not rfl) rfl ?_
    refine mv rfl rfl ?_
    refine wlO_ (t := 8) t1 rfl (fun h1 t1 => ?_) fun h1 t1 => ?_
    · skip
      refine wl_guard_off (j := 3) rfl rfl rfl rfl rfl ?_
      refine wl_guard_off (j := 3) rfl rfl rfl rfl rfl ?_
      refine wl_guard_off (j := 3) rfl rfl rfl rfl rfl ?_
      refine wl_pure (po_pick_t rfl rfl) rfl ?_
      refine wl_nil ?_
      exact wj_meet _ () (mtE t1) (sub_cons rfl (sub_cons rfl (sub_cons rfl (sub_cons rfl sub_nil)))) (some_cons pick0 (some_cons pick0 some_nil))
    refine wl_guard_on (j := 3) rfl rfl rfl (mv rfl rfl ?_)
    refine bdO t1 fun v2 hv2 t1 => ?_
    refine wl_guard_on (j := 3) rfl rfl rfl (wl_call (co_c0 fa_55 rfl fun w hw => c_spec_ListOk w a_l v0a (Rg.on (rds_arg r0) hw) hv2) rfl (fun _ => ?_))
    refine wl_guard_on (j := 3) rfl rfl rfl (wl_pure (po_not rfl) rfl ?_)
    refine wl_pure (po_pick_f rfl rfl) rfl ?_
    refine wl_nil ?_
    exact wj_meet _ () (mtE t1) (sub_cons rfl (sub_cons rfl (sub_cons rfl (sub_cons rfl sub_nil)))) (some_cons pick0 (some_cons pick0 some_nil))
  intro j1 _ hp
  obtain rfl : j1 = y1 := hp.symm
  refine wq_then ?_
  refine wcO t0 rfl (fun h2 t0 => ?_) fun h2 t0 => ?_
  · skip
    refine wcr ?_
    refine wl_pure (po_build rfl bd_33) rfl ?_
    refine wl_skipop (so_box (cs' := [.int .i64 0, .int .i64 0, .int .i64 0]) tk_33 pick0 rfl rfl rfl rfl rfl rfl rfl) ?_
    refine wnt ?_
    refine wc_ret ?_
    refine wq_then_ret ?_
    obtain rfl := Option.some.inj t0
    exact wq_retc rfl tk_33 rfl pick0 rfl fun w hw => ⟨rfl, hw.weak some_nil⟩
  refine wc_skip ?_
  refine wq_then ?_
  refine wc_seq ?_
  refine wc_draw [box b2 [.int .i64 0, .int .i64 0, .int .i64 0], box b1 [.int .i64 a_c.Split, .int .i64 a_c.A, .int .i64 a_c.B]] 13 mixed ?_
  refine wa_pure 0 rfl (po_fld fo_33_0 rfl) (some_cons pick0 (some_cons pick0 some_nil)) rfl (by kernel_rfl) (fun _ _ _ h => h) ?_
  refine wa_pure (v := .int .i64 a_c.Split) 1 rfl (po_load_box tk_3 (pickS pick0) rfl rfl) (some_cons pick0 (some_cons pick0 some_nil)) rfl (by kernel_rfl) (fun _ _ _ h => h) ?_
  refine wa_pure 2 rfl (po_move rfl) (some_cons pick0 (some_cons pick0 some_nil)) rfl (by kernel_rfl) (fun _ _ _ h => h) ?_
  refine wa_pure 3 rfl (po_fld fo_33_1 rfl) (some_cons pick0 (some_cons pick0 some_nil)) rfl (by kernel_rfl) (fun _ _ _ h => h) ?_
  refine wa_pure (v := .int .i64 a_c.A) 4 rfl (po_load_box tk_3 (pickS pick0) rfl rfl) (some_cons pick0 (some_cons pick0 some_nil)) rfl (by kernel_rfl) (fun _ _ _ h => h) ?_
  refine gdO t0 fun g1 t0 => ?_
  refine wa_pure 5 rfl (po_ixr (rds_arg r0) el_34 rfl rfl g1.1 g1.2) (some_cons pick0 (some_cons pick0 some_nil)) rfl (by kernel_rfl) (fun _ _ _ h => h) ?_
  refine wa_pure (v := .int .i64 (gx a_l ((a_c.A).toNat))) 6 rfl (po_ldf (rds_arg r0) tk_3 rfl (ix_lt g1) rfl) (some_cons pick0 (some_cons pick0 some_nil)) rfl (by kernel_rfl) (fun _ _ _ h => h) ?_
  refine wa_pure 7 rfl (po_move rfl) (some_cons pick0 (some_cons pick0 some_nil)) rfl (by kernel_rfl) (fun _ _ _ h => h) ?_
  refine wa_pure 8 rfl (po_fld fo_33_2 rfl) (some_cons pick0 (some_cons pick0 some_nil)) rfl (by kernel_rfl) (fun _ _ _ h => h) ?_
  refine wa_pure (v := .int .i64 a_c.B) 9 rfl (po_load_box tk_3 (pickS pick0) rfl rfl) (some_cons pick0 (some_cons pick0 some_nil)) rfl (by kernel_rfl) (fun _ _ _ h => h) ?_
  refine gdO t0 fun g2 t0 => ?_
  refine wa_pure 10 rfl (po_ixr (rds_arg r0) el_34 rfl rfl g2.1 g2.2) (some_cons pick0 (some_cons pick0 some_nil)) rfl (by kernel_rfl) (fun _ _ _ h => h) ?_
  refine wa_pure (v := .int .i64 (gx a_l ((a_c.B).toNat))) 11 rfl (po_ldf (rds_arg r0) tk_3 rfl (ix_lt g2) rfl) (some_cons pick0 (some_cons pick0 some_nil)) rfl (by kernel_rfl) (fun _ _ _ h => h) ?_
  refine wa_1 (i := 12) (by kernel_rfl) ?_
  refine bdO t0 fun v3 hv3 t0 => ?_
  refine ws_call rfl (co_c0 fa_58 rfl fun w hw => c_spec_SplitCell w a_c.Split (gx a_l ((a_c.A).toNat)) (gx a_l ((a_c.B).toNat)) hv3) (fun _ => (sts_some (some_cons pick0 (some_cons pick0 some_nil)))) rfl fun _ => ?_
  refine wa_1 (i := 13) (by kernel_rfl) ?_
  refine ws_skipop rfl (so_box (cs' := [.int .i64 v3.Split, .int .i64 v3.A, .int .i64 v3.B]) tk_33 pick0 rfl rfl rfl rfl rfl rfl rfl) (sts_past (by kernel_rfl)) ?_
  refine wa_done (by kernel_rfl) ?_
  refine wq_then ?_
  refine wc_ret ?_
  obtain rfl := Option.some.inj t0
  exact wq_retc rfl tk_33 rfl pick0 rfl fun w hw => ⟨rfl, hw.weak some_nil⟩

theorem c_spec_ExchangeBlock (w : World) (a_b : GBlock) (v0a : Hd) (r0 : rdF w (dm w []) (sl v0a) a_b.Cells) (a_l : List Int) (v1a : Hd) (r1 : rdF w (dm w []) (sl v1a) a_l) {r : GBlock × Bool} (t0 : spec_ExchangeBlock a_b a_l = some r) : Calls Try.prog 35 #[.agg #[.int .i64 a_b.Size, (sl v0a)], (sl v1a)] w fun e w' => ∃ x : Hd, e = .returned (.tuple #[.agg #[.int .i64 r.1.Size, (sl x)], .bool r.2]) ∧ SH w [] [ownF (sl x) r.1.Cells] w' := by
  refine calls_of_wc (args := [_, _]) Try.func35 rfl Try.ntmps35 rfl ?_
  unfold spec_ExchangeBlock at t0
  refine wcr ?_
  refine wl_eff (eo_box rfl rfl) rfl fun b1 => ?_
  refine wl_eff (eo_alloc (cs := [.int .i64 0, (sl (⟨none, 0, 0⟩ : Hd))]) za_26) rfl fun b2 => ?_
  refine asg rfl rfl ?_
  refine wnt ?_
  refine wc_seq ?_
  refine wc_seq ?_
  refine bdO t0 fun y1 t1 t0 => ?_
  refine wj (J := Bool) (X := Unit) (fun z => y1 = z) (fun z _ => [(1, (sl v1a)), (2, ptr b1 0), (4, ptr b2 0), (15, .bool z)]) (fun _ _ => [box b2 [.int .i64 0, (sl (⟨none, 0, 0⟩ : Hd))], box b1 [.int .i64 a_b.Size, (sl v0a)]]) ?_ ?_
  · skip
    refine wc_region ?_
    refine wl_pure (v := .agg #[.int .i64 a_b.Size, (sl v0a)]) (po_load_boxs tk_26 (pickS pick0) rfl rfl rfl) rfl ?_
    refine bdO t1 fun v1 hv1 t1 => ?_
    refine wl_call (co_c0 fa_10 rfl fun w hw => c_spec_BlockOk w a_b v0a (Rg.on (rds_arg r0) hw) hv1) rfl fun _ => ?_
    refine wl_pure (po_not rfl) rfl ?_
    refine mv rfl rfl ?_
    refine wlO_ (t := 11) t1 rfl (fun h1 t1 => ?_) fun h1 t1 => ?_
    · skip
      refine wl_guard_off (j := 3) rfl rfl rfl rfl rfl ?_
      refine wl_guard_off (j := 3) rfl rfl rfl rfl rfl ?_
      refine wl_guard_off (j := 3) rfl rfl rfl rfl rfl ?_
      refine wl_pure (po_pick_t rfl rfl) rfl ?_
      refine wl_nil ?_
      exact wj_meet _ () (mtE t1) (sub_cons rfl (sub_cons rfl (sub_cons rfl (sub_cons rfl sub_nil)))) (some_cons pick0 (some_cons pick0 some_nil))
    refine wl_guard_on (j := 3) rfl rfl rfl (mv rfl rfl ?_)
    refine bdO t1 fun v2 hv2 t1 => ?_
    refine wl_guard_on (j := 3) rfl rfl rfl (wl_call (co_c0 fa_55 rfl fun w hw => c_spec_ListOk w a_l v1a (Rg.on (rds_arg r1) hw) hv2) rfl (fun _ => ?_))
    refine wl_guard_on (j := 3) rfl rfl rfl (wl_pure (po_not rfl) rfl ?_)
    refine wl_pure (po_pick_f rfl rfl) rfl ?_
    refine wl_nil ?_
    exact wj_meet _ () (mtE t1) (sub_cons rfl (sub_cons rfl (sub_cons rfl (sub_cons rfl sub_nil)))) (some_cons pick0 (some_cons pick0 some_nil))
  intro j1 _ hp
  obtain rfl : j1 = y1 := hp.symm
  refine wq_then ?_
  refine wcO t0 rfl (fun h2 t0 => ?_) fun h2 t0 => ?_
  · skip
    refine wcr ?_
    refine wl_pure (v := .agg #[.int .i64 a_b.Size, (sl v0a)]) (po_load_boxs tk_26 (pickS pick0) rfl rfl rfl) rfl ?_
    refine bdO t0 fun v3 hv3 t0 => ?_
    refine wl_call (co_c1 fa_27 rfl fun w hw => c_spec_l03Copy w a_b v0a (Rg.on (rds_arg r0) hw) hv3) rfl fun x2 => ?_
    refine wl_skipop (so_box (cs' := [.int .i64 v3.Size, (sl x2)]) tk_26 (pickS pick0) rfl rfl rfl rfl rfl rfl rfl) ?_
    refine asg rfl rfl ?_
    refine wnt ?_
    refine wc_ret ?_
    refine wq_then_ret ?_
    obtain rfl := Option.some.inj t0
    exact wq_retc1 rfl tk_26 rfl rfl pick0 rfl fun w hw => ⟨x2, rfl, hw.weak (some_cons (pickS pick0) some_nil)⟩
  refine wc_skip ?_
  refine wq_then ?_
  refine wcr ?_
  refine wl_pure (po_fld fo_26_0 rfl) rfl ?_
  refine wl_pure (v := .int .i64 a_b.Size) (po_load_box tk_3 (pickS pick0) rfl rfl) rfl ?_
  refine wl_pure (po_build rfl (bd_26_0 a_b.Size)) rfl ?_
  refine wl_eff (eo_alloc (cs := [.int .i64 0, (sl (⟨none, 0, 0⟩ : Hd))]) za_26) rfl fun b3 => ?_
  refine wl_skipop (so_box (cs' := [.int .i64 a_b.Size, (sl (⟨none, 0, 0⟩ : Hd))]) tk_26 pick0 rfl rfl rfl rfl rfl rfl rfl) ?_
  refine wnt ?_
  refine wc_seq ?_
  refine wcr ?_
  refine asg rfl rfl ?_
  refine wnt ?_
  refine gdO t0 fun g1 t0 => ?_
  refine lpO_inv t0 fun y1 l1 t0 => ?_
  refine wj (J := List GCell) (X := Hd) (fun z => y1 = z) (fun _ _ => [(4, ptr b2 0), (6, ptr b3 0)]) (fun z x => [box b3 [.int .i64 a_b.Size, (sl x)], box b2 [.int .i64 0, (sl (⟨none, 0, 0⟩ : Hd))], ownF (sl x) z]) ?_ ?_
  · skip
    refine wc_block ?_
    refine wc_forO (X := Hd) l1 (fun k1 s1 x1l => [(1, (sl v1a)), (2, ptr b1 0), (4, ptr b2 0), (6, ptr b3 0), (7, .int .i64 ((k1 : Nat) : Int))]) (fun k1 s1 x1l => [box b3 [.int .i64 a_b.Size, (sl x1l)], box b2 [.int .i64 0, (sl (⟨none, 0, 0⟩ : Hd))], box b1 [.int .i64 a_b.Size, (sl v0a)], ownF (sl x1l) s1]) (⟨none, 0, 0⟩ : Hd) (sub_cons rfl (sub_cons rfl (sub_cons rfl (sub_cons rfl (sub_cons rfl sub_nil))))) (some_cons pick0 (some_cons pick0 (some_cons pick0 (some_cons pick_nil some_nil)))) fun k1 s1 x1l hN1 l1 => ?_
    by_cases hk1 : k1 < a_b.Cells.length
    · skip
      refine forO_step l1 hk1 fun _ t1 l1 => ?_
      unfold spec_ExchangeBlock_L1 at t1
      have c1 : (decide (((k1 : Nat) : Int) < ((a_b.Cells.length : Nat) : Int))) = true := decide_eq_true (by omega)
      refine wc_seq ?_
      refine wcr ?_
      refine mv rfl rfl ?_
      refine wl_pure (po_fld fo_26_1 rfl) rfl ?_
      refine wl_pure (v := (sl v0a)) (po_load_box tk_24 (pickS (pickS pick0)) rfl rfl) rfl ?_
      refine wl_pure (po_lenr (rds_arg r0) el_24 rfl) rfl ?_
      refine wl_pure (po_lss rfl rfl) rfl ?_
      refine wnt ?_
      refine wc_cond_t rfl c1 ?_
      refine wc_skip ?_
      refine wq_then ?_
      refine wc_seq ?_
      refine wc_block ?_
      refine wc_draw [box b3 [.int .i64 a_b.Size, (sl x1l)], box b2 [.int .i64 0, (sl (⟨none, 0, 0⟩ : Hd))], box b1 [.int .i64 a_b.Size, (sl v0a)]] 12 mixed ?_
      refine wa_pure 0 rfl (po_fld fo_26_1 rfl) (some_cons pick0 (some_cons pick0 (some_cons pick0 some_nil))) rfl (by kernel_rfl) (fun _ _ _ h => h) ?_
      refine wa_pure (v := (sl x1l)) 1 rfl (po_load_box tk_24 pick0 rfl rfl) (some_cons pick0 (some_cons pick0 (some_cons pick0 some_nil))) rfl (by kernel_rfl) (fun _ _ _ h => h) ?_
      refine wa_pure 2 rfl (po_fld fo_26_1 rfl) (some_cons pick0 (some_cons pick0 (some_cons pick0 some_nil))) rfl (by kernel_rfl) (fun _ _ _ h => h) ?_
      refine wa_pure (v := (sl v0a)) 3 rfl (po_load_box tk_24 (pickS (pickS pick0)) rfl rfl) (some_cons pick0 (some_cons pick0 (some_cons pick0 some_nil))) rfl (by kernel_rfl) (fun _ _ _ h => h) ?_
      refine wa_pure 4 rfl (po_move rfl) (some_cons pick0 (some_cons pick0 (some_cons pick0 some_nil))) rfl (by kernel_rfl) (fun _ _ _ h => h) ?_
      refine wa_pure 5 rfl (po_ixn (k := k1) (rds_arg r0) el_24 rfl rfl hk1) (some_cons pick0 (some_cons pick0 (some_cons pick0 some_nil))) rfl (by kernel_rfl) (fun _ _ _ h => h) ?_
      refine wa_pure (v := .agg #[.int .i64 ((gx a_b.Cells k1).Split), .int .i64 ((gx a_b.Cells k1).A), .int .i64 ((gx a_b.Cells k1).B)]) 6 rfl (po_ldfs (rds_arg r0) tk_33 rfl hk1 rfl rfl rfl) (some_cons pick0 (some_cons pick0 (some_cons pick0 some_nil))) rfl (by kernel_rfl) (fun _ _ _ h => h) ?_
      refine wa_pure 7 rfl (po_move rfl) (some_cons pick0 (some_cons pick0 (some_cons pick0 some_nil))) rfl (by kernel_rfl) (fun _ _ _ h => h) ?_
      refine wa_1 (i := 8) (by kernel_rfl) ?_
      refine bdO t1 fun v4 hv4 t1 => ?_
      refine ws_call rfl (co_c0 fa_56 rfl fun w hw => c_spec_ExchangeCell w (gx a_b.Cells k1) a_l v1a (Rg.on (rds_arg r1) hw) hv4) (fun _ => (sts_some (some_cons pick0 (some_cons pick0 (some_cons pick0 some_nil))))) rfl fun _ => ?_
      refine wa_1 (i := 9) (by kernel_rfl) ?_
      refine ws_eff rfl (eo_buildSlice rfl (sb_24_1 v4.Split v4.A v4.B)) (fun _ => (sts_some (some_cons (pickS pick0) (some_cons (pickS pick0) (some_cons (pickS pick0) some_nil))))) rfl fun b4 => ?_
      refine wa_1 (i := 10) (by kernel_rfl) ?_
      refine gdO t1 fun g2 t1 => ?_
      refine ws_eff rfl (eo_append (xs := s1) (ys := ([v4] : List GCell)) ak_24 (pickS (pickS (pickS (pickS pick0)))) rfl rfl (slin_rd fun _ g => Rg.on (rds_own (pick_box_own pick0 (n := 1) (xs := ([v4] : List GCell)) rfl rfl (by unfold maxLen; omega))) g) g2) (fun _ => (sts_some (some_cons (pickS (pickS pick0)) (some_cons (pickS (pickS pick0)) (some_cons (pickS (pickS pick0)) some_nil))))) rfl fun x4 => ?_
      refine wa_pure 11 rfl (po_fld fo_26_1 rfl) (some_cons (pickS (pickS pick0)) (some_cons (pickS (pickS pick0)) (some_cons (pickS (pickS pick0)) some_nil))) rfl (by kernel_rfl) (fun _ _ _ h => h) ?_
      refine wa_1 (i := 12) (by kernel_rfl) ?_
      refine ws_skipop rfl (so_box (cs' := [.int .i64 a_b.Size, (sl x4)]) tk_24 (pickS (pickS pick0)) rfl rfl rfl rfl rfl rfl rfl) (sts_past (by kernel_rfl)) ?_
      refine wa_done (by kernel_rfl) ?_
      refine wq_block ?_
      refine wq_then ?_
      refine wc_region ?_
      refine mv rfl rfl ?_
      refine wl_pure (po_inc rfl rfl (by omega)) rfl ?_
      refine asg rfl rfl ?_
      refine wl_nil ?_
      exact wq_rnd hk1 (stpN l1 t1) x4 (sub_cons rfl (sub_cons rfl (sub_cons rfl (sub_cons rfl (sub_cons rfl sub_nil))))) (some_cons pick0 (some_cons (pickS (pickS pick0)) (some_cons (pickS (pickS pick0)) (some_cons pick0 some_nil))))
    have c1 : (decide (((k1 : Nat) : Int) < ((a_b.Cells.length : Nat) : Int))) = false := decide_eq_false (by omega)
    have en1 := forO_end l1 hk1
    refine wc_seq ?_
    refine wcr ?_
    refine mv rfl rfl ?_
    refine wl_pure (po_fld fo_26_1 rfl) rfl ?_
    refine wl_pure (v := (sl v0a)) (po_load_box tk_24 (pickS (pickS pick0)) rfl rfl) rfl ?_
    refine wl_pure (po_lenr (rds_arg r0) el_24 rfl) rfl ?_
    refine wl_pure (po_lss rfl rfl) rfl ?_
    refine wnt ?_
    refine wc_cond_f rfl c1 ?_
    refine wc_exit ?_
    refine wq_then_exit ?_
    refine wq_then_exit ?_
    refine wq_block_exit ?_
    exact wj_meet _ x1l (Sum.inl.inj en1) (sub_cons rfl (sub_cons rfl sub_nil)) (some_cons pick0 (some_cons pick0 (some_cons (pickS pick0) some_nil)))
  intro e1 x3 hp
  obtain rfl : e1 = y1 := hp.symm
  refine wq_then ?_
  refine wcr ?_
  refine wl_pure (v := .agg #[.int .i64 a_b.Size, (sl x3)]) (po_load_boxs tk_26 pick0 rfl rfl rfl) rfl ?_
  refine wl_skipop (so_box (cs' := [.int .i64 a_b.Size, (sl x3)]) tk_26 (pickS pick0) rfl rfl rfl rfl rfl rfl rfl) ?_
  refine asg rfl rfl ?_
  refine wnt ?_
  refine wc_ret ?_
  obtain rfl := Option.some.inj t0
  exact wq_retc1 rfl tk_26 rfl rfl pick0 rfl fun w hw => ⟨x3, rfl, hw.weak (some_cons (pickS (pickS pick0)) some_nil)⟩

theorem c_spec_l01Once (w : World) (fp : List Nat) (b0p : Nat) (a_c0 : List UInt8) (v0a : Hd) (r0 : rdF w (dm w fp) (sl v0a) a_c0) (a_c1 : Int) (a_c2 : Int) (a_n : Int) (o : Ow w [box b0p [(sl v0a), .int .i64 a_c1, .int .i64 a_c2]] fp) {r : Bool × Int × Int} (t0 : spec_l01Once a_c0 a_c1 a_c2 a_n = some r) : Calls Try.prog 37 #[ptr b0p 0, .int .i64 a_n] w fun e w' => ∃ _x : Unit, e = .returned (.bool r.1) ∧ SH w fp [box b0p [(sl v0a), .int .i64 r.2.1, .int .i64 r.2.2]] w' := by
  refine calls_of_wc_own (args := [_, _]) o Try.func37 rfl Try.ntmps37 rfl ?_
  unfold spec_l01Once at t0
  refine wcr ?_
  refine asg rfl rfl ?_
  refine wnt ?_
  refine wcr ?_
  refine mv rfl rfl ?_
  refine mv rfl rfl ?_
  refine bdO t0 fun v1 hv1 t0 => ?_
  refine wl_call (co_o1 [box b0p [(sl v0a), .int .i64 a_c1, .int .i64 a_c2]] fa_34 (some_cons pick0 some_refl) rfl fun w fp hw => c_spec_l01Below w fp b0p a_c0 v0a ((rdo_arg r0) w fp hw) a_c1 a_c2 a_n hw.ow hv1) rfl fun _ => ?_
  refine wl_pure (po_eql rfl rfl) rfl ?_
  refine asg rfl rfl ?_
  refine wnt ?_
  refine wc_ret ?_
  obtain rfl := Option.some.inj t0
  exact wq_ret1 rfl rfl fun w hw => ⟨(), rfl, hw.weak (some_cons pick0 some_nil)⟩

theorem c_spec_l29Pair (w : World) (fp : List Nat) (b0p : Nat) (a_c0 : List UInt8) (v0a : Hd) (r0 : rdF w (dm w fp) (sl v0a) a_c0) (a_c1 : Int) (a_c2 : Int) (o : Ow w [box b0p [(sl v0a), .int .i64 a_c1, .int .i64 a_c2]] fp) {r : GBlock × GBlock × Int × Int} (t0 : spec_l29Pair a_c0 a_c1 a_c2 = some r) : Calls Try.prog 16 #[ptr b0p 0] w fun e w' => ∃ x : Hd × Hd, e = .returned (.tuple #[.agg #[.int .i64 r.1.Size, (sl x.1)], .agg #[.int .i64 r.2.1.Size, (sl x.2)]]) ∧ SH w fp [ownF (sl x.1) r.1.Cells, ownF (sl x.2) r.2.1.Cells, box b0p [(sl v0a), .int .i64 r.2.2.1, .int .i64 r.2.2.2]] w' := by
  refine calls_of_wc_own (args := [_]) o Try.func16 rfl Try.ntmps16 rfl ?_
  unfold spec_l29Pair at t0
  refine wcr ?_
  refine wl_eff (eo_alloc (cs := [.int .i64 0, (sl (⟨none, 0, 0⟩ : Hd))]) za_26) rfl fun b1 => ?_
  refine wl_eff (eo_alloc (cs := [.int .i64 0, (sl (⟨none, 0, 0⟩ : Hd))]) za_26) rfl fun b2 => ?_
  refine wnt ?_
  refine wcr ?_
  refine mv rfl rfl ?_
  refine bdO t0 fun v1 hv1 t0 => ?_
  refine wl_call (co_o2 [box b0p [(sl v0a), .int .i64 a_c1, .int .i64 a_c2]] fa_33 (some_cons (pickS (pickS pick0)) some_refl) rfl fun w fp hw => c_spec_l03Any w fp b0p a_c0 v0a ((rdo_arg r0) w fp hw) a_c1 a_c2 hw.ow hv1) rfl fun x1 => ?_
  refine wl_eff (eo_alloc (cs := [.int .i64 0, (sl (⟨none, 0, 0⟩ : Hd))]) za_26) rfl fun b3 => ?_
  refine wl_skipop (so_box (cs' := [.int .i64 v1.1.Size, (sl x1)]) tk_26 pick0 rfl rfl rfl rfl rfl rfl rfl) ?_
  refine wnt ?_
  refine wc_seq ?_
  refine wcr ?_
  refine mv rfl rfl ?_
  refine bdO t0 fun v2 hv2 t0 => ?_
  refine wl_call (co_o1 [box b0p [(sl v0a), .int .i64 v1.2.1, .int .i64 v1.2.2]] fa_34 (some_cons (pickS (pickS pick0)) some_refl) rfl fun w fp hw => c_spec_l01Below w fp b0p a_c0 v0a ((rdo_arg r0) w fp hw) v1.2.1 v1.2.2 4 hw.ow hv2) rfl fun _ => ?_
  refine wnt ?_
  refine wc_block ?_
  refine wcr ?_
  refine wl_pure (po_eql rfl rfl) rfl ?_
  refine asg rfl rfl ?_
  refine wnt ?_
  refine wcO t0 rfl (fun h1 t0 => ?_) fun h1 t0 => ?_
  · skip
    refine wc_seq ?_
    refine bdO t0 fun v3 hv3 t0 => ?_
    refine bdO t0 fun v4 hv4 t0 => ?_
    refine wc_join (X := Hd) (fun _ => True) (fun z => [(2, ptr b1 0), (3, ptr b2 0)]) (fun z => [box b2 [.int .i64 v4.Size, (sl z)], box b1 [.int .i64 v1.1.Size, (sl x1)], ownF (sl z) v4.Cells, box b0p [(sl v0a), .int .i64 v3.2.1, .int .i64 v3.2.2], ownF (sl x1) v1.1.Cells]) ?_ ?_
    · skip
      refine wc_draw [box b3 [.int .i64 v1.1.Size, (sl x1)], ownF (sl x1) v1.1.Cells, box b2 [.int .i64 0, (sl (⟨none, 0, 0⟩ : Hd))], box b1 [.int .i64 0, (sl (⟨none, 0, 0⟩ : Hd))]] 5 mixed ?_
      refine wa_pure (v := .agg #[.int .i64 v1.1.Size, (sl x1)]) 0 rfl (po_load_boxs tk_26 pick0 rfl rfl rfl) (some_cons (pickS pick0) (some_cons (pickS pick0) (some_cons (pickS pick0) (some_cons (pickS pick0) some_nil)))) rfl (by kernel_rfl) (fun _ _ _ h => h) ?_
      refine wa_2 (i := 1) (j := 2) (by kernel_rfl) ?_ ?_
      · skip
        refine ws_pure (v := .agg #[.int .i64 v1.1.Size, (sl x1)]) rfl (po_load_boxs tk_26 (pickS pick0) rfl rfl rfl) (sts_some (some_cons (pickS pick0) (some_cons (pickS pick0) (some_cons (pickS pick0) (some_cons (pickS pick0) some_nil))))) rfl ?_
        refine wa_1 (i := 2) (by kernel_rfl) ?_
        refine ws_pure rfl (po_move rfl) (sts_some (some_cons (pickS pick0) (some_cons (pickS pick0) (some_cons (pickS pick0) (some_cons (pickS pick0) some_nil))))) rfl ?_
        refine wa_1 (i := 3) (by kernel_rfl) ?_
        refine ws_call rfl (co_o1 [box b0p [(sl v0a), .int .i64 v2.2.1, .int .i64 v2.2.2]] fa_34 (some_cons pick0 some_refl) rfl fun w fp hw => c_spec_l01Below w fp b0p a_c0 v0a ((rdo_arg r0) w fp hw) v2.2.1 v2.2.2 8 hw.ow hv3) (fun _ => (sts_some (some_cons (pickS pick0) (some_cons (pickS pick0) (some_cons (pickS pick0) (some_cons (pickS pick0) some_nil)))))) rfl fun _ => ?_
        refine wa_1 (i := 4) (by kernel_rfl) ?_
        refine ws_call rfl (co_c1 fa_13 rfl fun w hw => c_spec_SeenFrom w v1.1 x1 (Rg.on (rds_own (pickS (pickS pick0))) hw) v3.1 hv4) (fun _ => (sts_some (some_cons (pickS (pickS pick0)) (some_cons (pickS (pickS pick0)) (some_cons (pickS (pickS pick0)) (some_cons (pickS (pickS pick0)) some_nil)))))) rfl fun x2 => ?_
        refine wa_1 (i := 5) (by kernel_rfl) ?_
        refine ws_skipop rfl (so_box (cs' := [.int .i64 v1.1.Size, (sl x1)]) tk_26 (pickS (pickS (pickS (pickS (pickS pick0))))) rfl rfl rfl rfl rfl rfl rfl) (sts_past (by kernel_rfl)) ?_
        refine wa_1 (i := 6) (by kernel_rfl) ?_
        refine ws_skipop rfl (so_box (cs' := [.int .i64 v4.Size, (sl x2)]) tk_26 (pickS (pickS (pickS (pickS (pickS pick0))))) rfl rfl rfl rfl rfl rfl rfl) (sts_past (by kernel_rfl)) ?_
        refine wa_done (by kernel_rfl) ?_
        exact wq_meet x2 trivial (sub_cons rfl (sub_cons rfl sub_nil)) (some_cons pick0 (some_cons pick0 (some_cons pick0 (some_cons pick0 (some_cons (pickS pick0) some_nil)))))
      refine ws_pure rfl (po_move rfl) (sts_some (some_cons (pickS pick0) (some_cons (pickS pick0) (some_cons (pickS pick0) (some_cons (pickS pick0) some_nil))))) rfl ?_
      refine wa_2 (i := 1) (j := 3) (by kernel_rfl) ?_ ?_
      · skip
        refine ws_pure (v := .agg #[.int .i64 v1.1.Size, (sl x1)]) rfl (po_load_boxs tk_26 (pickS pick0) rfl rfl rfl) (sts_some (some_cons (pickS pick0) (some_cons (pickS pick0) (some_cons (pickS pick0) (some_cons (pickS pick0) some_nil))))) rfl ?_
        refine wa_1 (i := 3) (by kernel_rfl) ?_
        refine ws_call rfl (co_o1 [box b0p [(sl v0a), .int .i64 v2.2.1, .int .i64 v2.2.2]] fa_34 (some_cons pick0 some_refl) rfl fun w fp hw => c_spec_l01Below w fp b0p a_c0 v0a ((rdo_arg r0) w fp hw) v2.2.1 v2.2.2 8 hw.ow hv3) (fun _ => (sts_some (some_cons (pickS pick0) (some_cons (pickS pick0) (some_cons (pickS pick0) (some_cons (pickS pick0) some_nil)))))) rfl fun _ => ?_
        refine wa_1 (i := 4) (by kernel_rfl) ?_
        refine ws_call rfl (co_c1 fa_13 rfl fun w hw => c_spec_SeenFrom w v1.1 x1 (Rg.on (rds_own (pickS (pickS pick0))) hw) v3.1 hv4) (fun _ => (sts_some (some_cons (pickS (pickS pick0)) (some_cons (pickS (pickS pick0)) (some_cons (pickS (pickS pick0)) (some_cons (pickS (pickS pick0)) some_nil)))))) rfl fun x3 => ?_
        refine wa_1 (i := 5) (by kernel_rfl) ?_
        refine ws_skipop rfl (so_box (cs' := [.int .i64 v1.1.Size, (sl x1)]) tk_26 (pickS (pickS (pickS (pickS (pickS pick0))))) rfl rfl rfl rfl rfl rfl rfl) (sts_past (by kernel_rfl)) ?_
        refine wa_1 (i := 6) (by kernel_rfl) ?_
        refine ws_skipop rfl (so_box (cs' := [.int .i64 v4.Size, (sl x3)]) tk_26 (pickS (pickS (pickS (pickS (pickS pick0))))) rfl rfl rfl rfl rfl rfl rfl) (sts_past (by kernel_rfl)) ?_
        refine wa_done (by kernel_rfl) ?_
        exact wq_meet x3 trivial (sub_cons rfl (sub_cons rfl sub_nil)) (some_cons pick0 (some_cons pick0 (some_cons pick0 (some_cons pick0 (some_cons (pickS pick0) some_nil)))))
      refine ws_call rfl (co_o1 [box b0p [(sl v0a), .int .i64 v2.2.1, .int .i64 v2.2.2]] fa_34 (some_cons pick0 some_refl) rfl fun w fp hw => c_spec_l01Below w fp b0p a_c0 v0a ((rdo_arg r0) w fp hw) v2.2.1 v2.2.2 8 hw.ow hv3) (fun _ => (sts_some (some_cons (pickS pick0) (some_cons (pickS pick0) (some_cons (pickS pick0) (some_cons (pickS pick0) some_nil)))))) rfl fun _ => ?_
      refine wa_1 (i := 1) (by kernel_rfl) ?_
      refine ws_pure (v := .agg #[.int .i64 v1.1.Size, (sl x1)]) rfl (po_load_boxs tk_26 (pickS pick0) rfl rfl rfl) (sts_some (some_cons (pickS pick0) (some_cons (pickS pick0) (some_cons (pickS pick0) (some_cons (pickS pick0) some_nil))))) rfl ?_
      refine wa_1 (i := 4) (by kernel_rfl) ?_
      refine ws_call rfl (co_c1 fa_13 rfl fun w hw => c_spec_SeenFrom w v1.1 x1 (Rg.on (rds_own (pickS (pickS pick0))) hw) v3.1 hv4) (fun _ => (sts_some (some_cons (pickS (pickS pick0)) (some_cons (pickS (pickS pick0)) (some_cons (pickS (pickS pick0)) (some_cons (pickS (pickS pick0)) some_nil)))))) rfl fun x4 => ?_
      refine wa_1 (i := 5) (by kernel_rfl) ?_
      refine ws_skipop rfl (so_box (cs' := [.int .i64 v1.1.Size, (sl x1)]) tk_26 (pickS (pickS (pickS (pickS (pickS pick0))))) rfl rfl rfl rfl rfl rfl rfl) (sts_past (by kernel_rfl)) ?_
      refine wa_1 (i := 6) (by kernel_rfl) ?_
      refine ws_skipop rfl (so_box (cs' := [.int .i64 v4.Size, (sl x4)]) tk_26 (pickS (pickS (pickS (pickS (pickS pick0))))) rfl rfl rfl rfl rfl rfl rfl) (sts_past (by kernel_rfl)) ?_
      refine wa_done (by kernel_rfl) ?_
      exact wq_meet x4 trivial (sub_cons rfl (sub_cons rfl sub_nil)) (some_cons pick0 (some_cons pick0 (some_cons pick0 (some_cons pick0 (some_cons (pickS pick0) some_nil)))))
    intro x5 _
    refine wq_then ?_
    refine wc_ret ?_
    refine wq_block_ret ?_
    refine wq_then_ret ?_
    obtain rfl := Option.some.inj t0
    exact wq_retcc rfl tk_26 tk_26 rfl rfl (pickS pick0) pick0 rfl rfl fun w hw => ⟨(x1, x5), rfl, hw.weak (some_cons (pickS (pickS (pickS (pickS pick0)))) (some_cons (pickS (pickS pick0)) (some_cons (pickS (pickS pick0)) some_nil)))⟩
  refine wcr ?_
  refine wl_pure (po_eql rfl rfl) rfl ?_
  refine asg rfl rfl ?_
  refine wnt ?_
  refine wcO t0 rfl (fun h2 t0 => ?_) fun h2 t0 => ?_
  · skip
    refine wc_seq ?_
    refine bdO t0 fun v5 hv5 t0 => ?_
    refine bdO t0 fun v6 hv6 t0 => ?_
    refine bdO t0 fun v7 hv7 t0 => ?_
    refine bdO t0 fun v8 hv8 t0 => ?_
    refine wc_join (X := Nat × Hd) (fun _ => True) (fun z => [(2, ptr b1 0), (3, ptr b2 0), (4, ptr b3 0), (5, ptr z.1 0)]) (fun z => [box z.1 [.int .i64 v8.1.Size, (sl z.2)], ownF (sl z.2) v8.1.Cells, box b0p [(sl v0a), .int .i64 v7.2.1, .int .i64 v7.2.2], box b3 [.int .i64 v1.1.Size, (sl x1)], ownF (sl x1) v1.1.Cells, box b2 [.int .i64 0, (sl (⟨none, 0, 0⟩ : Hd))], box b1 [.int .i64 0, (sl (⟨none, 0, 0⟩ : Hd))]]) ?_ ?_
    · skip
      refine wc_draw [box b3 [.int .i64 v1.1.Size, (sl x1)], ownF (sl x1) v1.1.Cells, box b2 [.int .i64 0, (sl (⟨none, 0, 0⟩ : Hd))], box b1 [.int .i64 0, (sl (⟨none, 0, 0⟩ : Hd))]] 13 mixed ?_
      refine wa_pure (v := .agg #[.int .i64 v1.1.Size, (sl x1)]) 0 rfl (po_load_boxs tk_26 pick0 rfl rfl rfl) (some_cons (pickS pick0) (some_cons (pickS pick0) (some_cons (pickS pick0) (some_cons (pickS pick0) some_nil)))) rfl (by kernel_rfl) (fun _ _ _ h => h) ?_
      refine wa_pure 1 rfl (po_move rfl) (some_cons (pickS pick0) (some_cons (pickS pick0) (some_cons (pickS pick0) (some_cons (pickS pick0) some_nil)))) rfl (by kernel_rfl) (fun _ _ _ h => h) ?_
      refine wa_pure 4 rfl (po_move rfl) (some_cons (pickS pick0) (some_cons (pickS pick0) (some_cons (pickS pick0) (some_cons (pickS pick0) some_nil)))) rfl (by kernel_rfl) (fun _ _ _ h => h) ?_
      refine wa_2 (i := 2) (j := 10) (by kernel_rfl) ?_ ?_
      · skip
        refine ws_call rfl (co_o1 [box b0p [(sl v0a), .int .i64 v2.2.1, .int .i64 v2.2.2]] fa_34 (some_cons pick0 some_refl) rfl fun w fp hw => c_spec_l01Below w fp b0p a_c0 v0a ((rdo_arg r0) w fp hw) v2.2.1 v2.2.2 8 hw.ow hv5) (fun _ => (sts_some (some_cons (pickS pick0) (some_cons (pickS pick0) (some_cons (pickS pick0) (some_cons (pickS pick0) some_nil)))))) rfl fun _ => ?_
        refine wa_2 (i := 3) (j := 10) (by kernel_rfl) ?_ ?_
        · skip
          refine ws_call rfl (co_c1 fa_13 rfl fun w hw => c_spec_SeenFrom w v1.1 x1 (Rg.on (rds_own (pickS (pickS pick0))) hw) v5.1 hv6) (fun _ => (sts_some (some_cons (pickS (pickS pick0)) (some_cons (pickS (pickS pick0)) (some_cons (pickS (pickS pick0)) (some_cons (pickS (pickS pick0)) some_nil)))))) rfl fun x6 => ?_
          refine wa_2 (i := 5) (j := 10) (by kernel_rfl) ?_ ?_
          · skip
            refine ws_call rfl (co_o2 [box b0p [(sl v0a), .int .i64 v5.2.1, .int .i64 v5.2.2]] fa_36 (some_cons (pickS pick0) some_refl) rfl fun w fp hw => c_spec_l06List w fp b0p a_c0 v0a ((rdo_arg r0) w fp hw) v5.2.1 v5.2.2 hw.ow hv7) (fun _ => (sts_some (some_cons (pickS (pickS (pickS pick0))) (some_cons (pickS (pickS (pickS pick0))) (some_cons (pickS (pickS (pickS pick0))) (some_cons (pickS (pickS (pickS pick0))) some_nil)))))) rfl fun x7 => ?_
            refine wa_2 (i := 6) (j := 10) (by kernel_rfl) ?_ ?_
            · skip
              refine ws_call rfl (co_c1 fa_35 rfl fun w hw => c_spec_ExchangeBlock w v6 x6 (Rg.on (rds_own (pickS (pickS pick0))) hw) v7.1 x7 (Rg.on (rds_own pick0) hw) hv8) (fun _ => (sts_some (some_cons (pickS (pickS (pickS (pickS pick0)))) (some_cons (pickS (pickS (pickS (pickS pick0)))) (some_cons (pickS (pickS (pickS (pickS pick0)))) (some_cons (pickS (pickS (pickS (pickS pick0)))) some_nil)))))) rfl fun x8 => ?_
              refine wa_pure 7 rfl (po_move rfl) (some_cons (pickS (pickS (pickS (pickS pick0)))) (some_cons (pickS (pickS (pickS (pickS pick0)))) (some_cons (pickS (pickS (pickS (pickS pick0)))) (some_cons (pickS (pickS (pickS (pickS pick0)))) some_nil)))) rfl (by kernel_rfl) (fun _ _ _ h => h) ?_
              refine wa_pure 8 rfl (po_extract rfl rfl) (some_cons (pickS (pickS (pickS (pickS pick0)))) (some_cons (pickS (pickS (pickS (pickS pick0)))) (some_cons (pickS (pickS (pickS (pickS pick0)))) (some_cons (pickS (pickS (pickS (pickS pick0)))) some_nil)))) rfl (by kernel_rfl) (fun _ _ _ h => h) ?_
              refine wa_pure 9 rfl (po_extract rfl rfl) (some_cons (pickS (pickS (pickS (pickS pick0)))) (some_cons (pickS (pickS (pickS (pickS pick0)))) (some_cons (pickS (pickS (pickS (pickS pick0)))) (some_cons (pickS (pickS (pickS (pickS pick0)))) some_nil)))) rfl (by kernel_rfl) (fun _ _ _ h => h) ?_
              refine wa_1 (i := 10) (by kernel_rfl) ?_
              refine ws_eff rfl (eo_alloc (cs := [.int .i64 0, (sl (⟨none, 0, 0⟩ : Hd))]) za_26) (fun _ => (sts_some (some_cons (pickS (pickS (pickS (pickS (pickS pick0))))) (some_cons (pickS (pickS (pickS (pickS (pickS pick0))))) (some_cons (pickS (pickS (pickS (pickS (pickS pick0))))) (some_cons (pickS (pickS (pickS (pickS (pickS pick0))))) some_nil)))))) rfl fun b4 => ?_
              refine wa_1 (i := 11) (by kernel_rfl) ?_
              refine ws_skipop rfl (so_box (cs' := [.int .i64 v8.1.Size, (sl x8)]) tk_26 pick0 rfl rfl rfl rfl rfl rfl rfl) (sts_some (some_cons (pickS (pickS (pickS (pickS (pickS pick0))))) (some_cons (pickS (pickS (pickS (pickS (pickS pick0))))) (some_cons (pickS (pickS (pickS (pickS (pickS pick0))))) (some_cons (pickS (pickS (pickS (pickS (pickS pick0))))) some_nil))))) ?_
              refine wa_pure 12 rfl (po_assign rfl) (some_cons (pickS (pickS (pickS (pickS (pickS pick0))))) (some_cons (pickS (pickS (pickS (pickS (pickS pick0))))) (some_cons (pickS (pickS (pickS (pickS (pickS pick0))))) (some_cons (pickS (pickS (pickS (pickS (pickS pick0))))) some_nil)))) rfl (by kernel_rfl) (fun _ _ _ h => h) ?_
              refine wa_done (by kernel_rfl) ?_
              exact wq_meet (b4, x8) trivial (sub_cons rfl (sub_cons rfl (sub_cons rfl (sub_cons rfl sub_nil)))) (some_cons pick0 (some_cons pick0 (some_cons (pickS pick0) (some_cons (pickS (pickS pick0)) (some_cons (pickS (pickS pick0)) (some_cons (pickS (pickS pick0)) (some_cons (pickS (pickS pick0)) some_nil)))))))
            refine ws_eff rfl (eo_alloc (cs := [.int .i64 0, (sl (⟨none, 0, 0⟩ : Hd))]) za_26) (fun _ => (sts_some (some_cons (pickS (pickS (pickS (pickS pick0)))) (some_cons (pickS (pickS (pickS (pickS pick0)))) (some_cons (pickS (pickS (pickS (pickS pick0)))) (some_cons (pickS (pickS (pickS (pickS pick0)))) some_nil)))))) rfl fun b5 => ?_
            refine wa_1 (i := 6) (by kernel_rfl) ?_
            refine ws_call rfl (co_c1 fa_35 rfl fun w hw => c_spec_ExchangeBlock w v6 x6 (Rg.on (rds_own (pickS (pickS (pickS pick0)))) hw) v7.1 x7 (Rg.on (rds_own (pickS pick0)) hw) hv8) (fun _ => (sts_some (some_cons (pickS (pickS (pickS (pickS (pickS pick0))))) (some_cons (pickS (pickS (pickS (pickS (pickS pick0))))) (some_cons (pickS (pickS (pickS (pickS (pickS pick0))))) (some_cons (pickS (pickS (pickS (pickS (pickS pick0))))) some_nil)))))) rfl fun x9 => ?_
            refine wa_pure 7 rfl (po_move rfl) (some_cons (pickS (pickS (pickS (pickS (pickS pick0))))) (some_cons (pickS (pickS (pickS (pickS (pickS pick0))))) (some_cons (pickS (pickS (pickS (pickS (pickS pick0))))) (some_cons (pickS (pickS (pickS (pickS (pickS pick0))))) some_nil)))) rfl (by kernel_rfl) (fun _ _ _ h => h) ?_
            refine wa_pure 8 rfl (po_extract rfl rfl) (some_cons (pickS (pickS (pickS (pickS (pickS pick0))))) (some_cons (pickS (pickS (pickS (pickS (pickS pick0))))) (some_cons (pickS (pickS (pickS (pickS (pickS pick0))))) (some_cons (pickS (pickS (pickS (pickS (pickS pick0))))) some_nil)))) rfl (by kernel_rfl) (fun _ _ _ h => h) ?_
            refine wa_pure 9 rfl (po_extract rfl rfl) (some_cons (pickS (pickS (pickS (pickS (pickS pick0))))) (some_cons (pickS (pickS (pickS (pickS (pickS pick0))))) (some_cons (pickS (pickS (pickS (pickS (pickS pick0))))) (some_cons (pickS (pickS (pickS (pickS (pickS pick0))))) some_nil)))) rfl (by kernel_rfl) (fun _ _ _ h => h) ?_
            refine wa_1 (i := 11) (by kernel_rfl) ?_
            refine ws_skipop rfl (so_box (cs' := [.int .i64 v8.1.Size, (sl x9)]) tk_26 (pickS pick0) rfl rfl rfl rfl rfl rfl rfl) (sts_some (some_cons (pickS (pickS (pickS (pickS (pickS pick0))))) (some_cons (pickS (pickS (pickS (pickS (pickS pick0))))) (some_cons (pickS (pickS (pickS (pickS (pickS pick0))))) (some_cons (pickS (pickS (pickS (pickS (pickS pick0))))) some_nil))))) ?_
            refine wa_pure 12 rfl (po_assign rfl) (some_cons (pickS (pickS (pickS (pickS (pickS pick0))))) (some_cons (pickS (pickS (pickS (pickS (pickS pick0))))) (some_cons (pickS (pickS (pickS (pickS (pickS pick0))))) (some_cons (pickS (pickS (pickS (pickS (pickS pick0))))) some_nil)))) rfl (by kernel_rfl) (fun _ _ _ h => h) ?_
            refine wa_done (by kernel_rfl) ?_
            exact wq_meet (b5, x9) trivial (sub_cons rfl (sub_cons rfl (sub_cons rfl (sub_cons rfl sub_nil)))) (some_cons pick0 (some_cons pick0 (some_cons (pickS pick0) (some_cons (pickS (pickS pick0)) (some_cons (pickS (pickS pick0)) (some_cons (pickS (pickS pick0)) (some_cons (pickS (pickS pick0)) some_nil)))))))
          refine ws_eff rfl (eo_alloc (cs := [.int .i64 0, (sl (⟨none, 0, 0⟩ : Hd))]) za_26) (fun _ => (sts_some (some_cons (pickS (pickS (pickS pick0))) (some_cons (pickS (pickS (pickS pick0))) (some_cons (pickS (pickS (pickS pick0))) (some_cons (pickS (pickS (pickS pick0))) some_nil)))))) rfl fun b6 => ?_
          refine wa_1 (i := 5) (by kernel_rfl) ?_
          refine ws_call rfl (co_o2 [box b0p [(sl v0a), .int .i64 v5.2.1, .int .i64 v5.2.2]] fa_36 (some_cons (pickS (pickS pick0)) some_refl) rfl fun w fp hw => c_spec_l06List w fp b0p a_c0 v0a ((rdo_arg r0) w fp hw) v5.2.1 v5.2.2 hw.ow hv7) (fun _ => (sts_some (some_cons (pickS (pickS (pickS (pickS pick0)))) (some_cons (pickS (pickS (pickS (pickS pick0)))) (some_cons (pickS (pickS (pickS (pickS pick0)))) (some_cons (pickS (pickS (pickS (pickS pick0)))) some_nil)))))) rfl fun x10 => ?_
          refine wa_1 (i := 6) (by kernel_rfl) ?_
          refine ws_call rfl (co_c1 fa_35 rfl fun w hw => c_spec_ExchangeBlock w v6 x6 (Rg.on (rds_own (pickS (pickS (pickS pick0)))) hw) v7.1 x10 (Rg.on (rds_own pick0) hw) hv8) (fun _ => (sts_some (some_cons (pickS (pickS (pickS (pickS (pickS pick0))))) (some_cons (pickS (pickS (pickS (pickS (pickS pick0))))) (some_cons (pickS (pickS (pickS (pickS (pickS pick0))))) (some_cons (pickS (pickS (pickS (pickS (pickS pick0))))) some_nil)))))) rfl fun x11 => ?_
          refine wa_pure 7 rfl (po_move rfl) (some_cons (pickS (pickS (pickS (pickS (pickS pick0))))) (some_cons (pickS (pickS (pickS (pickS (pickS pick0))))) (some_cons (pickS (pickS (pickS (pickS (pickS pick0))))) (some_cons (pickS (pickS (pickS (pickS (pickS pick0))))) some_nil)))) rfl (by kernel_rfl) (fun _ _ _ h => h) ?_
          refine wa_pure 8 rfl (po_extract rfl rfl) (some_cons (pickS (pickS (pickS (pickS (pickS pick0))))) (some_cons (pickS (pickS (pickS (pickS (pickS pick0))))) (some_cons (pickS (pickS (pickS (pickS (pickS pick0))))) (some_cons (pickS (pickS (pickS (pickS (pickS pick0))))) some_nil)))) rfl (by kernel_rfl) (fun _ _ _ h => h) ?_
          refine wa_pure 9 rfl (po_extract rfl rfl) (some_cons (pickS (pickS (pickS (pickS (pickS pick0))))) (some_cons (pickS (pickS (pickS (pickS (pickS pick0))))) (some_cons (pickS (pickS (pickS (pickS (pickS pick0))))) (some_cons (pickS (pickS (pickS (pickS (pickS pick0))))) some_nil)))) rfl (by kernel_rfl) (fun _ _ _ h => h) ?_
          refine wa_1 (i := 11) (by kernel_rfl) ?_
          refine ws_skipop rfl (so_box (cs' := [.int .i64 v8.1.Size, (sl x11)]) tk_26 (pickS (pickS (pickS pick0))) rfl rfl rfl rfl rfl rfl rfl) (sts_some (some_cons (pickS (pickS (pickS (pickS (pickS pick0))))) (some_cons (pickS (pickS (pickS (pickS (pickS pick0))))) (some_cons (pickS (pickS (pickS (pickS (pickS pick0))))) (some_cons (pickS (pickS (pickS (pickS (pickS pick0))))) some_nil))))) ?_
          refine wa_pure 12 rfl (po_assign rfl) (some_cons (pickS (pickS (pickS (pickS (pickS pick0))))) (some_cons (pickS (pickS (pickS (pickS (pickS pick0))))) (some_cons (pickS (pickS (pickS (pickS (pickS pick0))))) (some_cons (pickS (pickS (pickS (pickS (pickS pick0))))) some_nil)))) rfl (by kernel_rfl) (fun _ _ _ h => h) ?_
          refine wa_done (by kernel_rfl) ?_
          exact wq_meet (b6, x11) trivial (sub_cons rfl (sub_cons rfl (sub_cons rfl (sub_cons rfl sub_nil)))) (some_cons pick0 (some_cons pick0 (some_cons (pickS pick0) (some_cons (pickS (pickS pick0)) (some_cons (pickS (pickS pick0)) (some_cons (pickS (pickS pick0)) (some_cons (pickS (pickS pick0)) some_nil)))))))
        refine ws_eff rfl (eo_alloc (cs := [.int .i64 0, (sl (⟨none, 0, 0⟩ : Hd))]) za_26) (fun _ => (sts_some (some_cons (pickS (pickS pick0)) (some_cons (pickS (pickS pick0)) (some_cons (pickS (pickS pick0)) (some_cons (pickS (pickS pick0)) some_nil)))))) rfl fun b7 => ?_
        refine wa_1 (i := 3) (by kernel_rfl) ?_
        refine ws_call rfl (co_c1 fa_13 rfl fun w hw => c_spec_SeenFrom w v1.1 x1 (Rg.on (rds_own (pickS (pickS (pickS pick0)))) hw) v5.1 hv6) (fun _ => (sts_some (some_cons (pickS (pickS (pickS pick0))) (some_cons (pickS (pickS (pickS pick0))) (some_cons (pickS (pickS (pickS pick0))) (some_cons (pickS (pickS (pickS pick0))) some_nil)))))) rfl fun x12 => ?_
        refine wa_1 (i := 5) (by kernel_rfl) ?_
        refine ws_call rfl (co_o2 [box b0p [(sl v0a), .int .i64 v5.2.1, .int .i64 v5.2.2]] fa_36 (some_cons (pickS (pickS pick0)) some_refl) rfl fun w fp hw => c_spec_l06List w fp b0p a_c0 v0a ((rdo_arg r0) w fp hw) v5.2.1 v5.2.2 hw.ow hv7) (fun _ => (sts_some (some_cons (pickS (pickS (pickS (pickS pick0)))) (some_cons (pickS (pickS (pickS (pickS pick0)))) (some_cons (pickS (pickS (pickS (pickS pick0)))) (some_cons (pickS (pickS (pickS (pickS pick0)))) some_nil)))))) rfl fun x13 => ?_
        refine wa_1 (i := 6) (by kernel_rfl) ?_
        refine ws_call rfl (co_c1 fa_35 rfl fun w hw => c_spec_ExchangeBlock w v6 x12 (Rg.on (rds_own (pickS (pickS pick0))) hw) v7.1 x13 (Rg.on (rds_own pick0) hw) hv8) (fun _ => (sts_some (some_cons (pickS (pickS (pickS (pickS (pickS pick0))))) (some_cons (pickS (pickS (pickS (pickS (pickS pick0))))) (some_cons (pickS (pickS (pickS (pickS (pickS pick0))))) (some_cons (pickS (pickS (pickS (pickS (pickS pick0))))) some_nil)))))) rfl fun x14 => ?_
        refine wa_pure 7 rfl (po_move rfl) (some_cons (pickS (pickS (pickS (pickS (pickS pick0))))) (some_cons (pickS (pickS (pickS (pickS (pickS pick0))))) (some_cons (pickS (pickS (pickS (pickS (pickS pick0))))) (some_cons (pickS (pickS (pickS (pickS (pickS pick0))))) some_nil)))) rfl (by kernel_rfl) (fun _ _ _ h => h) ?_
        refine wa_pure 8 rfl (po_extract rfl rfl) (some_cons (pickS (pickS (pickS (pickS (pickS pick0))))) (some_cons (pickS (pickS (pickS (pickS (pickS pick0))))) (some_cons (pickS (pickS (pickS (pickS (pickS pick0))))) (some_cons (pickS (pickS (pickS (pickS (pickS pick0))))) some_nil)))) rfl (by kernel_rfl) (fun _ _ _ h => h) ?_
        refine wa_pure 9 rfl (po_extract rfl rfl) (some_cons (pickS (pickS (pickS (pickS (pickS pick0))))) (some_cons (pickS (pickS (pickS (pickS (pickS pick0))))) (some_cons (pickS (pickS (pickS (pickS (pickS pick0))))) (some_cons (pickS (pickS (pickS (pickS (pickS pick0))))) some_nil)))) rfl (by kernel_rfl) (fun _ _ _ h => h) ?_
        refine wa_1 (i := 11) (by kernel_rfl) ?_
        refine ws_skipop rfl (so_box (cs' := [.int .i64 v8.1.Size, (sl x14)]) tk_26 (pickS (pickS (pickS (pickS pick0)))) rfl rfl rfl rfl rfl rfl rfl) (sts_some (some_cons (pickS (pickS (pickS (pickS (pickS pick0))))) (some_cons (pickS (pickS (pickS (pickS (pickS pick0))))) (some_cons (pickS (pickS (pickS (pickS (pickS pick0))))) (some_cons (pickS (pickS (pickS (pickS (pickS pick0))))) some_nil))))) ?_
        refine wa_pure 12 rfl (po_assign rfl) (some_cons (pickS (pickS (pickS (pickS (pickS pick0))))) (some_cons (pickS (pickS (pickS (pickS (pickS pick0))))) (some_cons (pickS (pickS (pickS (pickS (pickS pick0))))) (some_cons (pickS (pickS (pickS (pickS (pickS pick0))))) some_nil)))) rfl (by kernel_rfl) (fun _ _ _ h => h) ?_
        refine wa_done (by kernel_rfl) ?_
        exact wq_meet (b7, x14) trivial (sub_cons rfl (sub_cons rfl (sub_cons rfl (sub_cons rfl sub_nil)))) (some_cons pick0 (some_cons pick0 (some_cons (pickS pick0) (some_cons (pickS (pickS pick0)) (some_cons (pickS (pickS pick0)) (some_cons (pickS (pickS pick0)) (some_cons (pickS (pickS pick0)) some_nil)))))))
      refine ws_eff rfl (eo_alloc (cs := [.int .i64 0, (sl (⟨none, 0, 0⟩ : Hd))]) za_26) (fun _ => (sts_some (some_cons (pickS (pickS pick0)) (some_cons (pickS (pickS pick0)) (some_cons (pickS (pickS pick0)) (some_cons (pickS (pickS pick0)) some_nil)))))) rfl fun b8 => ?_
      refine wa_1 (i := 2) (by kernel_rfl) ?_
      refine ws_call rfl (co_o1 [box b0p [(sl v0a), .int .i64 v2.2.1, .int .i64 v2.2.2]] fa_34 (some_cons (pickS pick0) some_refl) rfl fun w fp hw => c_spec_l01Below w fp b0p a_c0 v0a ((rdo_arg r0) w fp hw) v2.2.1 v2.2.2 8 hw.ow hv5) (fun _ => (sts_some (some_cons (pickS (pickS pick0)) (some_cons (pickS (pickS pick0)) (some_cons (pickS (pickS pick0)) (some_cons (pickS (pickS pick0)) some_nil)))))) rfl fun _ => ?_
      refine wa_1 (i := 3) (by kernel_rfl) ?_
      refine ws_call rfl (co_c1 fa_13 rfl fun w hw => c_spec_SeenFrom w v1.1 x1 (Rg.on (rds_own (pickS (pickS (pickS pick0)))) hw) v5.1 hv6) (fun _ => (sts_some (some_cons (pickS (pickS (pickS pick0))) (some_cons (pickS (pickS (pickS pick0))) (some_cons (pickS (pickS (pickS pick0))) (some_cons (pickS (pickS (pickS pick0))) some_nil)))))) rfl fun x15 => ?_
      refine wa_1 (i := 5) (by kernel_rfl) ?_
      refine ws_call rfl (co_o2 [box b0p [(sl v0a), .int .i64 v5.2.1, .int .i64 v5.2.2]] fa_36 (some_cons (pickS pick0) some_refl) rfl fun w fp hw => c_spec_l06List w fp b0p a_c0 v0a ((rdo_arg r0) w fp hw) v5.2.1 v5.2.2 hw.ow hv7) (fun _ => (sts_some (some_cons (pickS (pickS (pickS (pickS pick0)))) (some_cons (pickS (pickS (pickS (pickS pick0)))) (some_cons (pickS (pickS (pickS (pickS pick0)))) (some_cons (pickS (pickS (pickS (pickS pick0)))) some_nil)))))) rfl fun x16 => ?_
      refine wa_1 (i := 6) (by kernel_rfl) ?_
      refine ws_call rfl (co_c1 fa_35 rfl fun w hw => c_spec_ExchangeBlock w v6 x15 (Rg.on (rds_own (pickS (pickS pick0))) hw) v7.1 x16 (Rg.on (rds_own pick0) hw) hv8) (fun _ => (sts_some (some_cons (pickS (pickS (pickS (pickS (pickS pick0))))) (some_cons (pickS (pickS (pickS (pickS (pickS pick0))))) (some_cons (pickS (pickS (pickS (pickS (pickS pick0))))) (some_cons (pickS (pickS (pickS (pickS (pickS pick0))))) some_nil)))))) rfl fun x17 => ?_
      refine wa_pure 7 rfl (po_move rfl) (some_cons (pickS (pickS (pickS (pickS (pickS pick0))))) (some_cons (pickS (pickS (pickS (pickS (pickS pick0))))) (some_cons (pickS (pickS (pickS (pickS (pickS pick0))))) (some_cons (pickS (pickS (pickS (pickS (pickS pick0))))) some_nil)))) rfl (by kernel_rfl) (fun _ _ _ h => h) ?_
      refine wa_pure 8 rfl (po_extract rfl rfl) (some_cons (pickS (pickS (pickS (pickS (pickS pick0))))) (some_cons (pickS (pickS (pickS (pickS (pickS pick0))))) (some_cons (pickS (pickS (pickS (pickS (pickS pick0))))) (some_cons (pickS (pickS (pickS (pickS (pickS pick0))))) some_nil)))) rfl (by kernel_rfl) (fun _ _ _ h => h) ?_
      refine wa_pure 9 rfl (po_extract rfl rfl) (some_cons (pickS (pickS (pickS (pickS (pickS pick0))))) (some_cons (pickS (pickS (pickS (pickS (pickS pick0))))) (some_cons (pickS (pickS (pickS (pickS (pickS pick0))))) (some_cons (pickS (pickS (pickS (pickS (pickS pick0))))) some_nil)))) rfl (by kernel_rfl) (fun _ _ _ h => h) ?_
      refine wa_1 (i := 11) (by kernel_rfl) ?_
      refine ws_skipop rfl (so_box (cs' := [.int .i64 v8.1.Size, (sl x17)]) tk_26 (pickS (pickS (pickS (pickS pick0)))) rfl rfl rfl rfl rfl rfl rfl) (sts_some (some_cons (pickS (pickS (pickS (pickS (pickS pick0))))) (some_cons (pickS (pickS (pickS (pickS (pickS pick0))))) (some_cons (pickS (pickS (pickS (pickS (pickS pick0))))) (some_cons (pickS (pickS (pickS (pickS (pickS pick0))))) some_nil))))) ?_
      refine wa_pure 12 rfl (po_assign rfl) (some_cons (pickS (pickS (pickS (pickS (pickS pick0))))) (some_cons (pickS (pickS (pickS (pickS (pickS pick0))))) (some_cons (pickS (pickS (pickS (pickS (pickS pick0))))) (some_cons (pickS (pickS (pickS (pickS (pickS pick0))))) some_nil)))) rfl (by kernel_rfl) (fun _ _ _ h => h) ?_
      refine wa_done (by kernel_rfl) ?_
      exact wq_meet (b8, x17) trivial (sub_cons rfl (sub_cons rfl (sub_cons rfl (sub_cons rfl sub_nil)))) (some_cons pick0 (some_cons pick0 (some_cons (pickS pick0) (some_cons (pickS (pickS pick0)) (some_cons (pickS (pickS pick0)) (some_cons (pickS (pickS pick0)) (some_cons (pickS (pickS pick0)) some_nil)))))))
    intro x18 _
    refine wq_then ?_
    refine wc_seq ?_
    refine wc_join (X := Unit) (fun _ => True) (fun _ => [(2, ptr b1 0), (3, ptr b2 0)]) (fun _ => [box b2 [.int .i64 v8.1.Size, (sl x18.2)], box b1 [.int .i64 v1.1.Size, (sl x1)], ownF (sl x18.2) v8.1.Cells, box b0p [(sl v0a), .int .i64 v7.2.1, .int .i64 v7.2.2], ownF (sl x1) v1.1.Cells]) ?_ ?_
    · skip
      refine wc_draw [box x18.1 [.int .i64 v8.1.Size, (sl x18.2)], ownF (sl x18.2) v8.1.Cells, box b0p [(sl v0a), .int .i64 v7.2.1, .int .i64 v7.2.2], box b3 [.int .i64 v1.1.Size, (sl x1)], ownF (sl x1) v1.1.Cells, box b2 [.int .i64 0, (sl (⟨none, 0, 0⟩ : Hd))], box b1 [.int .i64 0, (sl (⟨none, 0, 0⟩ : Hd))]] 2 mixed ?_
      refine wa_pure (v := .agg #[.int .i64 v1.1.Size, (sl x1)]) 0 rfl (po_load_boxs tk_26 (pickS (pickS (pickS pick0))) rfl rfl rfl) (some_cons pick0 (some_cons pick0 (some_cons pick0 (some_cons pick0 (some_cons pick0 (some_cons pick0 (some_cons pick0 some_nil))))))) rfl (by kernel_rfl) (fun _ _ _ h => h) ?_
      refine wa_2 (i := 1) (j := 2) (by kernel_rfl) ?_ ?_
      · skip
        refine ws_pure (v := .agg #[.int .i64 v8.1.Size, (sl x18.2)]) rfl (po_load_boxs tk_26 pick0 rfl rfl rfl) (sts_some (some_cons pick0 (some_cons pick0 (some_cons pick0 (some_cons pick0 (some_cons pick0 (some_cons pick0 (some_cons pick0 some_nil)))))))) rfl ?_
        refine wa_1 (i := 2) (by kernel_rfl) ?_
        refine ws_skipop rfl (so_box (cs' := [.int .i64 v1.1.Size, (sl x1)]) tk_26 (pickS (pickS (pickS (pickS (pickS (pickS pick0)))))) rfl rfl rfl rfl rfl rfl rfl) (sts_past (by kernel_rfl)) ?_
        refine wa_1 (i := 3) (by kernel_rfl) ?_
        refine ws_skipop rfl (so_box (cs' := [.int .i64 v8.1.Size, (sl x18.2)]) tk_26 (pickS (pickS (pickS (pickS (pickS (pickS pick0)))))) rfl rfl rfl rfl rfl rfl rfl) (sts_past (by kernel_rfl)) ?_
        refine wa_done (by kernel_rfl) ?_
        exact wq_meet () trivial (sub_cons rfl (sub_cons rfl sub_nil)) (some_cons pick0 (some_cons pick0 (some_cons (pickS pick0) (some_cons (pickS pick0) (some_cons (pickS (pickS pick0)) some_nil)))))
      refine ws_skipop rfl (so_box (cs' := [.int .i64 v1.1.Size, (sl x1)]) tk_26 (pickS (pickS (pickS (pickS (pickS (pickS pick0)))))) rfl rfl rfl rfl rfl rfl rfl) (sts_past (by kernel_rfl)) ?_
      refine wa_1 (i := 1) (by kernel_rfl) ?_
      refine ws_pure (v := .agg #[.int .i64 v8.1.Size, (sl x18.2)]) rfl (po_load_boxs tk_26 (pickS pick0) rfl rfl rfl) (sts_past (by kernel_rfl)) rfl ?_
      refine wa_1 (i := 3) (by kernel_rfl) ?_
      refine ws_skipop rfl (so_box (cs' := [.int .i64 v8.1.Size, (sl x18.2)]) tk_26 (pickS (pickS (pickS (pickS (pickS (pickS pick0)))))) rfl rfl rfl rfl rfl rfl rfl) (sts_past (by kernel_rfl)) ?_
      refine wa_done (by kernel_rfl) ?_
      exact wq_meet () trivial (sub_cons rfl (sub_cons rfl sub_nil)) (some_cons pick0 (some_cons pick0 (some_cons (pickS pick0) (some_cons (pickS pick0) (some_cons (pickS (pickS pick0)) some_nil)))))
    intro _ _
    refine wq_then ?_
    refine wc_ret ?_
    refine wq_block_ret ?_
    refine wq_then_ret ?_
    obtain rfl := Option.some.inj t0
    exact wq_retcc rfl tk_26 tk_26 rfl rfl (pickS pick0) pick0 rfl rfl fun w hw => ⟨(x1, x18.2), rfl, hw.weak (some_cons (pickS (pickS (pickS (pickS pick0)))) (some_cons (pickS (pickS pick0)) (some_cons (pickS (pickS pick0)) some_nil)))⟩
  refine wcr ?_
  refine wl_pure (po_eql rfl rfl) rfl ?_
  refine asg rfl rfl ?_
  refine wnt ?_
  refine wcO t0 rfl (fun h3 t0 => ?_) fun h3 t0 => ?_
  · skip
    refine wcr ?_
    refine wl_pure (v := .agg #[.int .i64 v1.1.Size, (sl x1)]) (po_load_boxs tk_26 (pickS pick0) rfl rfl rfl) rfl ?_
    refine bdO t0 fun v9 hv9 t0 => ?_
    refine wl_call (co_c1 fa_27 rfl fun w hw => c_spec_l03Copy w v1.1 x1 (Rg.on (rds_own (pickS (pickS pick0))) hw) hv9) rfl fun x20 => ?_
    refine wl_eff (eo_alloc (cs := [.int .i64 0, (sl (⟨none, 0, 0⟩ : Hd))]) za_26) rfl fun b9 => ?_
    refine wl_skipop (so_box (cs' := [.int .i64 v9.Size, (sl x20)]) tk_26 pick0 rfl rfl rfl rfl rfl rfl rfl) ?_
    refine wnt ?_
    refine wc_seq ?_
    refine wcr ?_
    refine asg rfl rfl ?_
    refine wnt ?_
    refine gdO t0 fun g1 t0 => ?_
    refine wc_hl (rds_own (pickS pick0)) fun hl1 => ?_
    refine lpO_inv t0 fun y1 l1 t0 => ?_
    refine wj (J := (List GCell) × Int × Int) (X := Unit) (fun z => y1 = z) (fun _ _ => [(2, ptr b1 0), (3, ptr b2 0), (4, ptr b3 0), (7, ptr b9 0)]) (fun z _ => [box b9 [.int .i64 v9.Size, (sl x20)], ownF (sl x20) z.1, box b0p [(sl v0a), .int .i64 z.2.1, .int .i64 z.2.2], box b3 [.int .i64 v1.1.Size, (sl x1)], ownF (sl x1) v1.1.Cells, box b2 [.int .i64 0, (sl (⟨none, 0, 0⟩ : Hd))], box b1 [.int .i64 0, (sl (⟨none, 0, 0⟩ : Hd))]]) ?_ ?_
    · skip
      refine wc_block ?_
      refine wc_forO (X := Unit) l1 (fun k1 s1 x1l => [(0, ptr b0p 0), (2, ptr b1 0), (3, ptr b2 0), (4, ptr b3 0), (7, ptr b9 0), (8, .int .i64 ((k1 : Nat) : Int))]) (fun k1 s1 x1l => [box b9 [.int .i64 v9.Size, (sl x20)], ownF (sl x20) s1.1, box b0p [(sl v0a), .int .i64 s1.2.1, .int .i64 s1.2.2], box b3 [.int .i64 v1.1.Size, (sl x1)], ownF (sl x1) v1.1.Cells, box b2 [.int .i64 0, (sl (⟨none, 0, 0⟩ : Hd))], box b1 [.int .i64 0, (sl (⟨none, 0, 0⟩ : Hd))]]) () (sub_cons rfl (sub_cons rfl (sub_cons rfl (sub_cons rfl (sub_cons rfl (sub_cons rfl sub_nil)))))) (some_cons pick0 (some_cons pick0 (some_cons pick0 (some_cons pick0 (some_cons pick0 (some_cons pick0 (some_cons pick0 some_nil))))))) fun k1 s1 x1l hN1 l1 => ?_
      refine wc_hl (rds_own (pickS pick0)) fun hl2 => ?_
      by_cases hk1 : k1 < v9.Cells.length
      · skip
        refine forO_step l1 hk1 fun _ t1 l1 => ?_
        unfold spec_l29Pair_L1 at t1
        have c1 : (decide (((k1 : Nat) : Int) < ((s1.1.length : Nat) : Int))) = true := decide_eq_true (by omega)
        have hq1 : k1 < s1.1.length := by omega
        refine wc_seq ?_
        refine wcr ?_
        refine mv rfl rfl ?_
        refine wl_pure (po_fld fo_26_1 rfl) rfl ?_
        refine wl_pure (v := (sl x20)) (po_load_box tk_24 pick0 rfl rfl) rfl ?_
        refine wl_pure (po_lenr (rds_own (pickS pick0)) el_24 rfl) rfl ?_
        refine wl_pure (po_lss rfl rfl) rfl ?_
        refine wnt ?_
        refine wc_cond_t rfl c1 ?_
        refine wc_skip ?_
        refine wq_then ?_
        refine wc_seq ?_
        refine wc_block ?_
        refine wcr ?_
        refine mv rfl rfl ?_
        refine bdO t1 fun v10 hv10 t1 => ?_
        refine wl_call (co_o1 [box b0p [(sl v0a), .int .i64 s1.2.1, .int .i64 s1.2.2]] fa_37 (some_cons (pickS (pickS pick0)) some_refl) rfl fun w fp hw => c_spec_l01Once w fp b0p a_c0 v0a ((rdo_arg r0) w fp hw) s1.2.1 s1.2.2 2 hw.ow hv10) rfl fun _ => ?_
        refine wnt ?_
        refine bdO t1 fun y2 t2 t1 => ?_
        refine wj (J := Gl01Cur × (List GCell)) (X := Unit) (fun z => y2 = z) (fun _ _ => [(0, ptr b0p 0), (2, ptr b1 0), (3, ptr b2 0), (4, ptr b3 0), (7, ptr b9 0), (8, .int .i64 ((k1 : Nat) : Int))]) (fun z _ => [box b0p [(sl v0a), .int .i64 ((z.1).i), .int .i64 ((z.1).h)], box b9 [.int .i64 v9.Size, (sl x20)], box b3 [.int .i64 v1.1.Size, (sl x1)], box b2 [.int .i64 0, (sl (⟨none, 0, 0⟩ : Hd))], box b1 [.int .i64 0, (sl (⟨none, 0, 0⟩ : Hd))], ownF (sl x20) z.2, ownF (sl x1) v1.1.Cells]) ?_ ?_
        · skip
          refine wcO t2 rfl (fun h4 t2 => ?_) fun h4 t2 => ?_
          · skip
            refine wcr ?_
            refine mv rfl rfl ?_
            refine bdO t2 fun v11 hv11 t2 => ?_
            refine wl_call (co_o1 [box b0p [(sl v0a), .int .i64 v10.2.1, .int .i64 v10.2.2]] fa_38 (some_cons pick0 some_refl) rfl fun w fp hw => c_spec_l02Cell w fp b0p a_c0 v0a ((rdo_arg r0) w fp hw) v10.2.1 v10.2.2 hw.ow hv11) rfl fun _ => ?_
            refine wl_eff (eo_alloc (cs := [.int .i64 0, .int .i64 0, .int .i64 0]) za_33) rfl fun b10 => ?_
            refine wl_skipop (so_box (cs' := [.int .i64 v11.1.Split, .int .i64 v11.1.A, .int .i64 v11.1.B]) tk_33 pick0 rfl rfl rfl rfl rfl rfl rfl) ?_
            refine wnt ?_
            refine wc_region ?_
            refine wl_pure (po_fld fo_26_1 rfl) rfl ?_
            refine wl_pure (v := (sl x20)) (po_load_box tk_24 (pickS (pickS pick0)) rfl rfl) rfl ?_
            refine mv rfl rfl ?_
            refine wl_pure (v := .agg #[.int .i64 v11.1.Split, .int .i64 v11.1.A, .int .i64 v11.1.B]) (po_load_boxs tk_33 pick0 rfl rfl rfl) rfl ?_
            refine wl_pure (po_ixn (k := k1) (rds_own (pickS (pickS (pickS pick0)))) el_24 rfl rfl hq1) rfl ?_
            refine wl_skipop (so_own (x' := v11.1) tk_33 (pickS (pickS (pickS pick0))) rfl rfl rfl rfl rfl rfl hq1 rfl) ?_
            refine wl_nil ?_
            exact wj_meet _ () (mtE t2) (sub_cons rfl (sub_cons rfl (sub_cons rfl (sub_cons rfl (sub_cons rfl (sub_cons rfl sub_nil)))))) (some_cons (pickS (pickS pick0)) (some_cons (pickS (pickS pick0)) (some_cons (pickS (pickS pick0)) (some_cons (pickS (pickS (pickS pick0))) (some_cons (pickS (pickS (pickS pick0))) (some_cons pick0 (some_cons (pickS pick0) some_nil)))))))
          refine wc_skip ?_
          exact wj_meet _ () (mtE t2) (sub_cons rfl (sub_cons rfl (sub_cons rfl (sub_cons rfl (sub_cons rfl (sub_cons rfl sub_nil)))))) (some_cons pick0 (some_cons pick0 (some_cons (pickS pick0) (some_cons (pickS (pickS pick0)) (some_cons (pickS (pickS pick0)) (some_cons pick0 (some_cons pick0 some_nil)))))))
        intro j1 _ hp
        obtain rfl : j1 = y2 := hp.symm
        refine wq_block ?_
        refine wq_then ?_
        refine wc_region ?_
        refine mv rfl rfl ?_
        refine wl_pure (po_inc rfl rfl (by omega)) rfl ?_
        refine asg rfl rfl ?_
        refine wl_nil ?_
        exact wq_rnd hk1 (stpN l1 t1) () (sub_cons rfl (sub_cons rfl (sub_cons rfl (sub_cons rfl (sub_cons rfl (sub_cons rfl sub_nil)))))) (some_cons (pickS pick0) (some_cons (pickS (pickS (pickS (pickS pick0)))) (some_cons pick0 (some_cons pick0 (some_cons (pickS (pickS pick0)) (some_cons pick0 (some_cons pick0 some_nil)))))))
      have c1 : (decide (((k1 : Nat) : Int) < ((s1.1.length : Nat) : Int))) = false := decide_eq_false (by omega)
      have en1 := forO_end l1 hk1
      refine wc_seq ?_
      refine wcr ?_
      refine mv rfl rfl ?_
      refine wl_pure (po_fld fo_26_1 rfl) rfl ?_
      refine wl_pure (v := (sl x20)) (po_load_box tk_24 pick0 rfl rfl) rfl ?_
      refine wl_pure (po_lenr (rds_own (pickS pick0)) el_24 rfl) rfl ?_
      refine wl_pure (po_lss rfl rfl) rfl ?_
      refine wnt ?_
      refine wc_cond_f rfl c1 ?_
      refine wc_exit ?_
      refine wq_then_exit ?_
      refine wq_then_exit ?_
      refine wq_block_exit ?_
      exact wj_meet _ () (Sum.inl.inj en1) (sub_cons rfl (sub_cons rfl (sub_cons rfl (sub_cons rfl sub_nil)))) (some_cons pick0 (some_cons pick0 (some_cons pick0 (some_cons pick0 (some_cons pick0 (some_cons pick0 (some_cons pick0 some_nil)))))))
    intro e1 _ hp
    obtain rfl : e1 = y1 := hp.symm
    refine wq_then ?_
    refine wc_seq ?_
    refine wc_join (X := Unit) (fun _ => True) (fun _ => [(2, ptr b1 0), (3, ptr b2 0)]) (fun _ => [box b2 [.int .i64 v9.Size, (sl x20)], box b1 [.int .i64 v1.1.Size, (sl x1)], ownF (sl x20) e1.1, box b0p [(sl v0a), .int .i64 e1.2.1, .int .i64 e1.2.2], ownF (sl x1) v1.1.Cells]) ?_ ?_
    · skip
      refine wc_draw [box b9 [.int .i64 v9.Size, (sl x20)], ownF (sl x20) e1.1, box b0p [(sl v0a), .int .i64 e1.2.1, .int .i64 e1.2.2], box b3 [.int .i64 v1.1.Size, (sl x1)], ownF (sl x1) v1.1.Cells, box b2 [.int .i64 0, (sl (⟨none, 0, 0⟩ : Hd))], box b1 [.int .i64 0, (sl (⟨none, 0, 0⟩ : Hd))]] 2 mixed ?_
      refine wa_pure (v := .agg #[.int .i64 v1.1.Size, (sl x1)]) 0 rfl (po_load_boxs tk_26 (pickS (pickS (pickS pick0))) rfl rfl rfl) (some_cons pick0 (some_cons pick0 (some_cons pick0 (some_cons pick0 (some_cons pick0 (some_cons pick0 (some_cons pick0 some_nil))))))) rfl (by kernel_rfl) (fun _ _ _ h => h) ?_
      refine wa_2 (i := 1) (j := 2) (by kernel_rfl) ?_ ?_
      · skip
        refine ws_pure (v := .agg #[.int .i64 v9.Size, (sl x20)]) rfl (po_load_boxs tk_26 pick0 rfl rfl rfl) (sts_some (some_cons pick0 (some_cons pick0 (some_cons pick0 (some_cons pick0 (some_cons pick0 (some_cons pick0 (some_cons pick0 some_nil)))))))) rfl ?_
        refine wa_1 (i := 2) (by kernel_rfl) ?_
        refine ws_skipop rfl (so_box (cs' := [.int .i64 v1.1.Size, (sl x1)]) tk_26 (pickS (pickS (pickS (pickS (pickS (pickS pick0)))))) rfl rfl rfl rfl rfl rfl rfl) (sts_past (by kernel_rfl)) ?_
        refine wa_1 (i := 3) (by kernel_rfl) ?_
        refine ws_skipop rfl (so_box (cs' := [.int .i64 v9.Size, (sl x20)]) tk_26 (pickS (pickS (pickS (pickS (pickS (pickS pick0)))))) rfl rfl rfl rfl rfl rfl rfl) (sts_past (by kernel_rfl)) ?_
        refine wa_done (by kernel_rfl) ?_
        exact wq_meet () trivial (sub_cons rfl (sub_cons rfl sub_nil)) (some_cons pick0 (some_cons pick0 (some_cons (pickS pick0) (some_cons (pickS pick0) (some_cons (pickS (pickS pick0)) some_nil)))))
      refine ws_skipop rfl (so_box (cs' := [.int .i64 v1.1.Size, (sl x1)]) tk_26 (pickS (pickS (pickS (pickS (pickS (pickS pick0)))))) rfl rfl rfl rfl rfl rfl rfl) (sts_past (by kernel_rfl)) ?_
      refine wa_1 (i := 1) (by kernel_rfl) ?_
      refine ws_pure (v := .agg #[.int .i64 v9.Size, (sl x20)]) rfl (po_load_boxs tk_26 (pickS pick0) rfl rfl rfl) (sts_past (by kernel_rfl)) rfl ?_
      refine wa_1 (i := 3) (by kernel_rfl) ?_
      refine ws_skipop rfl (so_box (cs' := [.int .i64 v9.Size, (sl x20)]) tk_26 (pickS (pickS (pickS (pickS (pickS (pickS pick0)))))) rfl rfl rfl rfl rfl rfl rfl) (sts_past (by kernel_rfl)) ?_
      refine wa_done (by kernel_rfl) ?_
      exact wq_meet () trivial (sub_cons rfl (sub_cons rfl sub_nil)) (some_cons pick0 (some_cons pick0 (some_cons (pickS pick0) (some_cons (pickS pick0) (some_cons (pickS (pickS pick0)) some_nil)))))
    intro _ _
    refine wq_then ?_
    refine wc_ret ?_
    refine wq_block_ret ?_
    refine wq_then_ret ?_
    obtain rfl := Option.some.inj t0
    exact wq_retcc rfl tk_26 tk_26 rfl rfl (pickS pick0) pick0 rfl rfl fun w hw => ⟨(x1, x20), rfl, hw.weak (some_cons (pickS (pickS (pickS (pickS pick0)))) (some_cons (pickS (pickS pick0)) (some_cons (pickS (pickS pick0)) some_nil)))⟩
  refine wc_skip ?_
  refine wq_block ?_
  refine wq_then ?_
  refine wc_seq ?_
  refine wc_draw [box b3 [.int .i64 v1.1.Size, (sl x1)], ownF (sl x1) v1.1.Cells, box b2 [.int .i64 0, (sl (⟨none, 0, 0⟩ : Hd))], box b1 [.int .i64 0, (sl (⟨none, 0, 0⟩ : Hd))]] 3 mixed ?_
  refine wa_pure (v := .agg #[.int .i64 v1.1.Size, (sl x1)]) 0 rfl (po_load_boxs tk_26 pick0 rfl rfl rfl) (some_cons (pickS pick0) (some_cons (pickS pick0) (some_cons (pickS pick0) (some_cons (pickS pick0) some_nil)))) rfl (by kernel_rfl) (fun _ _ _ h => h) ?_
  refine wa_1 (i := 1) (by kernel_rfl) ?_
  refine ws_pure rfl (po_move rfl) (sts_some (some_cons (pickS pick0) (some_cons (pickS pick0) (some_cons (pickS pick0) (some_cons (pickS pick0) some_nil))))) rfl ?_
  refine wa_1 (i := 2) (by kernel_rfl) ?_
  refine bdO t0 fun v12 hv12 t0 => ?_
  refine ws_call rfl (co_o2 [box b0p [(sl v0a), .int .i64 v2.2.1, .int .i64 v2.2.2]] fa_33 (some_cons pick0 some_refl) rfl fun w fp hw => c_spec_l03Any w fp b0p a_c0 v0a ((rdo_arg r0) w fp hw) v2.2.1 v2.2.2 hw.ow hv12) (fun _ => (sts_some (some_cons (pickS (pickS pick0)) (some_cons (pickS (pickS pick0)) (some_cons (pickS (pickS pick0)) (some_cons (pickS (pickS pick0)) some_nil)))))) rfl fun x24 => ?_
  refine wa_1 (i := 3) (by kernel_rfl) ?_
  refine ws_skipop rfl (so_box (cs' := [.int .i64 v1.1.Size, (sl x1)]) tk_26 (pickS (pickS (pickS (pickS (pickS pick0))))) rfl rfl rfl rfl rfl rfl rfl) (sts_past (by kernel_rfl)) ?_
  refine wa_1 (i := 4) (by kernel_rfl) ?_
  refine ws_skipop rfl (so_box (cs' := [.int .i64 v12.1.Size, (sl x24)]) tk_26 (pickS (pickS (pickS (pickS (pickS pick0))))) rfl rfl rfl rfl rfl rfl rfl) (sts_past (by kernel_rfl)) ?_
  refine wa_done (by kernel_rfl) ?_
  refine wq_then ?_
  refine wc_ret ?_
  obtain rfl := Option.some.inj t0
  exact wq_retcc rfl tk_26 tk_26 rfl rfl (pickS pick0) pick0 rfl rfl fun w hw => ⟨(x1, x24), rfl, hw.weak (some_cons (pickS (pickS (pickS (pickS (pickS pick0))))) (some_cons (pickS (pickS pick0)) (some_cons (pickS (pickS pick0)) some_nil)))⟩

theorem c_spec_DrawLikeness (w : World) (a_code : List UInt8) (v0a : Hd) (r0 : rdF w (dm w []) (sl v0a) a_code) {r : GBlock × GBlock} (t0 : spec_DrawLikeness a_code = some r) : Calls Try.prog 5 #[(sl v0a)] w fun e w' => ∃ x : Hd × Hd, e = .returned (.tuple #[.agg #[.int .i64 r.1.Size, (sl x.1)], .agg #[.int .i64 r.2.Size, (sl x.2)]]) ∧ SH w [] [ownF (sl x.1) r.1.Cells, ownF (sl x.2) r.2.Cells] w' := by
  refine calls_of_wc (args := [_]) Try.func5 rfl Try.ntmps5 rfl ?_
  unfold spec_DrawLikeness at t0
  refine wcr ?_
  refine wl_eff (eo_alloc (cs := [.int .i64 0, (sl (⟨none, 0, 0⟩ : Hd))]) za_26) rfl fun b1 => ?_
  refine wl_eff (eo_alloc (cs := [.int .i64 0, (sl (⟨none, 0, 0⟩ : Hd))]) za_26) rfl fun b2 => ?_
  refine wnt ?_
  refine wcr ?_
  refine mv rfl rfl ?_
  refine bdO t0 fun v1 hv1 t0 => ?_
  refine wl_call (co_c1 fa_17 rfl fun w hw => c_spec_l01New w a_code v0a (Rg.on (rds_arg r0) hw) hv1) rfl fun x1 => ?_
  refine bdO t0 fun v2 hv2 t0 => ?_
  refine wl_call (co_o3 [box x1 [(sl v0a), .int .i64 v1.1, .int .i64 v1.2]] fa_16 (some_cons pick0 some_refl) rfl fun w fp hw => c_spec_l29Pair w fp x1 a_code v0a ((rdo_arg r0) w fp hw) v1.1 v1.2 hw.ow hv2) rfl fun x2 => ?_
  refine mv rfl rfl ?_
  refine wl_pure (po_extract rfl rfl) rfl ?_
  refine wl_pure (po_extract rfl rfl) rfl ?_
  refine wl_eff (eo_alloc (cs := [.int .i64 0, (sl (⟨none, 0, 0⟩ : Hd))]) za_26) rfl fun b3 => ?_
  refine wl_eff (eo_alloc (cs := [.int .i64 0, (sl (⟨none, 0, 0⟩ : Hd))]) za_26) rfl fun b4 => ?_
  refine wl_skipop (so_box (cs' := [.int .i64 v2.1.Size, (sl x2.1)]) tk_26 (pickS pick0) rfl rfl rfl rfl rfl rfl rfl) ?_
  refine wl_skipop (so_box (cs' := [.int .i64 v2.2.1.Size, (sl x2.2)]) tk_26 (pickS pick0) rfl rfl rfl rfl rfl rfl rfl) ?_
  refine wnt ?_
  refine wc_seq ?_
  refine wc_join (X := Unit) (fun _ => True) (fun _ => [(2, ptr b1 0), (3, ptr b2 0)]) (fun _ => [box b2 [.int .i64 v2.2.1.Size, (sl x2.2)], box b1 [.int .i64 v2.1.Size, (sl x2.1)], ownF (sl x2.1) v2.1.Cells, ownF (sl x2.2) v2.2.1.Cells]) ?_ ?_
  · skip
    refine wc_draw [box b4 [.int .i64 v2.2.1.Size, (sl x2.2)], box b3 [.int .i64 v2.1.Size, (sl x2.1)], ownF (sl x2.1) v2.1.Cells, ownF (sl x2.2) v2.2.1.Cells, box x1 [(sl v0a), .int .i64 v2.2.2.1, .int .i64 v2.2.2.2], box b2 [.int .i64 0, (sl (⟨none, 0, 0⟩ : Hd))], box b1 [.int .i64 0, (sl (⟨none, 0, 0⟩ : Hd))]] 2 mixed ?_
    refine wa_pure (v := .agg #[.int .i64 v2.1.Size, (sl x2.1)]) 0 rfl (po_load_boxs tk_26 (pickS pick0) rfl rfl rfl) (some_cons pick0 (some_cons pick0 (some_cons pick0 (some_cons pick0 (some_cons pick0 (some_cons pick0 (some_cons pick0 some_nil))))))) rfl (by kernel_rfl) (fun _ _ _ h => h) ?_
    refine wa_2 (i := 1) (j := 2) (by kernel_rfl) ?_ ?_
    · skip
      refine ws_pure (v := .agg #[.int .i64 v2.2.1.Size, (sl x2.2)]) rfl (po_load_boxs tk_26 pick0 rfl rfl rfl) (sts_some (some_cons pick0 (some_cons pick0 (some_cons pick0 (some_cons pick0 (some_cons pick0 (some_cons pick0 (some_cons pick0 some_nil)))))))) rfl ?_
      refine wa_1 (i := 2) (by kernel_rfl) ?_
      refine ws_skipop rfl (so_box (cs' := [.int .i64 v2.1.Size, (sl x2.1)]) tk_26 (pickS (pickS (pickS (pickS (pickS (pickS pick0)))))) rfl rfl rfl rfl rfl rfl rfl) (sts_past (by kernel_rfl)) ?_
      refine wa_1 (i := 3) (by kernel_rfl) ?_
      refine ws_skipop rfl (so_box (cs' := [.int .i64 v2.2.1.Size, (sl x2.2)]) tk_26 (pickS (pickS (pickS (pickS (pickS (pickS pick0)))))) rfl rfl rfl rfl rfl rfl rfl) (sts_past (by kernel_rfl)) ?_
      refine wa_done (by kernel_rfl) ?_
      exact wq_meet () trivial (sub_cons rfl (sub_cons rfl sub_nil)) (some_cons pick0 (some_cons pick0 (some_cons (pickS (pickS pick0)) (some_cons (pickS (pickS pick0)) some_nil))))
    refine ws_skipop rfl (so_box (cs' := [.int .i64 v2.1.Size, (sl x2.1)]) tk_26 (pickS (pickS (pickS (pickS (pickS (pickS pick0)))))) rfl rfl rfl rfl rfl rfl rfl) (sts_past (by kernel_rfl)) ?_
    refine wa_1 (i := 1) (by kernel_rfl) ?_
    refine ws_pure (v := .agg #[.int .i64 v2.2.1.Size, (sl x2.2)]) rfl (po_load_boxs tk_26 (pickS pick0) rfl rfl rfl) (sts_past (by kernel_rfl)) rfl ?_
    refine wa_1 (i := 3) (by kernel_rfl) ?_
    refine ws_skipop rfl (so_box (cs' := [.int .i64 v2.2.1.Size, (sl x2.2)]) tk_26 (pickS (pickS (pickS (pickS (pickS (pickS pick0)))))) rfl rfl rfl rfl rfl rfl rfl) (sts_past (by kernel_rfl)) ?_
    refine wa_done (by kernel_rfl) ?_
    exact wq_meet () trivial (sub_cons rfl (sub_cons rfl sub_nil)) (some_cons pick0 (some_cons pick0 (some_cons (pickS (pickS pick0)) (some_cons (pickS (pickS pick0)) some_nil))))
  intro _ _
  refine wq_then ?_
  refine wc_ret ?_
  obtain rfl := Option.some.inj t0
  exact wq_retcc rfl tk_26 tk_26 rfl rfl (pickS pick0) pick0 rfl rfl fun w hw => ⟨(x2.1, x2.2), rfl, hw.weak (some_cons (pickS (pickS pick0)) (some_cons (pickS (pickS pick0)) some_nil))⟩

theorem c_impl_within (w : World) (a_n : Int) (a_a : Int) (a_b : Int) {r : Bool} (t0 : impl_within a_n a_a a_b = some r) : Calls Try.prog 43 #[.int .i64 a_n, .int .i64 a_a, .int .i64 a_b] w fun e w' => e = .returned (.bool r) ∧ SH w [] [] w' := by
  refine calls_of_wc (args := [_, _, _]) Try.func43 rfl Try.ntmps43 rfl ?_
  unfold impl_within at t0
  refine wcr ?_
  refine asg rfl rfl ?_
  refine wnt ?_
  refine wc_seq ?_
  refine wc_join (X := Unit) (fun _ => True) (fun _ => [(6, .bool ((decide (a_n ≥ a_a)) && (decide (a_n ≤ a_b))))]) (fun _ => []) ?_ ?_
  · skip
    refine wc_region ?_
    refine mv rfl rfl ?_
    refine mv rfl rfl ?_
    refine wl_pure (po_geq rfl rfl) rfl ?_
    refine mv rfl rfl ?_
    refine wl_fork (t := 10) rfl (fun h1 => ?_) fun h1 => ?_
    · skip
      refine wl_guard_on (j := 3) rfl rfl rfl (mv rfl rfl ?_)
      refine wl_guard_on (j := 3) rfl rfl rfl (mv rfl rfl ?_)
      refine wl_guard_on (j := 3) rfl rfl rfl (wl_pure (po_leq rfl rfl) rfl ?_)
      refine wl_pure (po_pick_t rfl rfl) rfl ?_
      refine asg rfl rfl ?_
      refine wl_nil ?_
      exact wq_meet () trivial (sub_b rfl (by rw [h1]; rfl) sub_nil) some_nil
    refine wl_guard_off (j := 3) rfl rfl rfl rfl rfl ?_
    refine wl_guard_off (j := 3) rfl rfl rfl rfl rfl ?_
    refine wl_guard_off (j := 3) rfl rfl rfl rfl rfl ?_
    refine wl_pure (po_pick_f rfl rfl) rfl ?_
    refine asg rfl rfl ?_
    refine wl_nil ?_
    exact wq_meet () trivial (sub_b rfl (by rw [h1]; rfl) sub_nil) some_nil
  intro _ _
  refine wq_then ?_
  refine wc_ret ?_
  obtain rfl := Option.some.inj t0
  exact wq_ret1 rfl rfl fun w hw => ⟨rfl, hw.weak some_nil⟩

theorem c_impl_isColor (w : World) (a_a : Int) {r : Bool} (t0 : impl_isColor a_a = some r) : Calls Try.prog 46 #[.int .i64 a_a] w fun e w' => e = .returned (.bool r) ∧ SH w [] [] w' := by
  refine calls_of_wc (args := [_]) Try.func46 rfl Try.ntmps46 rfl ?_
  unfold impl_isColor at t0
  refine wcr ?_
  refine asg rfl rfl ?_
  refine wnt ?_
  refine wcr ?_
  refine mv rfl rfl ?_
  refine bdO t0 fun v1 hv1 t0 => ?_
  refine wl_call (co_c0 fa_43 rfl fun w hw => c_impl_within w a_a 0 5 hv1) rfl fun _ => ?_
  refine asg rfl rfl ?_
  refine wnt ?_
  refine wc_ret ?_
  obtain rfl := Option.some.inj t0
  exact wq_ret1 rfl rfl fun w hw => ⟨rfl, hw.weak some_nil⟩

theorem c_impl_CellOk (w : World) (a_c : GCell) {r : Bool} (t0 : impl_CellOk a_c = some r) : Calls Try.prog 25 #[.agg #[.int .i64 a_c.Split, .int .i64 a_c.A, .int .i64 a_c.B]] w fun e w' => e = .returned (.bool r) ∧ SH w [] [] w' := by
  refine calls_of_wc (args := [_]) Try.func25 rfl Try.ntmps25 rfl ?_
  unfold impl_CellOk at t0
  refine wcr ?_
  refine wl_eff (eo_box rfl rfl) rfl fun b1 => ?_
  refine asg rfl rfl ?_
  refine wnt ?_
  refine wc_seq ?_
  refine bdO t0 fun y1 t1 t0 => ?_
  refine wj (J := Bool) (X := Unit) (fun z => y1 = z) (fun z _ => [(2, .bool z)]) (fun _ _ => []) ?_ ?_
  · skip
    refine wc_region ?_
    refine wl_pure (po_fld fo_33_0 rfl) rfl ?_
    refine wl_pure (v := .int .i64 a_c.Split) (po_load_box tk_3 pick0 rfl rfl) rfl ?_
    refine bdO t1 fun v1 hv1 t1 => ?_
    refine wl_call (co_c0 fa_43 rfl fun w hw => c_impl_within w a_c.Split 0 2 hv1) rfl fun _ => ?_
    refine mv rfl rfl ?_
    refine wlO_ (t := 6) t1 rfl (fun h1 t1 => ?_) fun h1 t1 => ?_
    · skip
      refine wl_guard_on (j := 3) rfl rfl rfl (wl_pure (po_fld fo_33_1 rfl) rfl ?_)
      refine wl_guard_on (j := 3) rfl rfl rfl (wl_pure (v := .int .i64 a_c.A) (po_load_box tk_3 pick0 rfl rfl) rfl ?_)
      refine bdO t1 fun v2 hv2 t1 => ?_
      refine wl_guard_on (j := 3) rfl rfl rfl (wl_call (co_c0 fa_46 rfl fun w hw => c_impl_isColor w a_c.A hv2) rfl (fun _ => ?_))
      refine wl_pure (po_pick_t rfl rfl) rfl ?_
      refine mv rfl rfl ?_
      refine wlO_ (t := 11) t1 rfl (fun h2 t1 => ?_) fun h2 t1 => ?_
      · skip
        refine wl_guard_on (j := 8) rfl rfl rfl (wl_pure (po_fld fo_33_2 rfl) rfl ?_)
        refine wl_guard_on (j := 8) rfl rfl rfl (wl_pure (v := .int .i64 a_c.B) (po_load_box tk_3 pick0 rfl rfl) rfl ?_)
        refine bdO t1 fun v3 hv3 t1 => ?_
        refine wl_guard_on (j := 8) rfl rfl rfl (wl_call (co_c0 fa_46 rfl fun w hw => c_impl_isColor w a_c.B hv3) rfl (fun _ => ?_))
        refine wl_pure (po_pick_t rfl rfl) rfl ?_
        refine mv rfl rfl ?_
        refine wlO_ (t := 16) t1 rfl (fun h3 t1 => ?_) fun h3 t1 => ?_
        · skip
          refine wl_guard_on (j := 13) rfl rfl rfl (wl_pure (po_fld fo_33_0 rfl) rfl ?_)
          refine wl_guard_on (j := 13) rfl rfl rfl (wl_pure (v := .int .i64 a_c.Split) (po_load_box tk_3 pick0 rfl rfl) rfl ?_)
          refine wl_guard_on (j := 13) rfl rfl rfl (wl_pure (po_eql rfl rfl) rfl ?_)
          refine wl_guard_on (j := 13) rfl rfl rfl (wl_pure (po_fld fo_33_1 rfl) rfl ?_)
          refine wl_guard_on (j := 13) rfl rfl rfl (wl_pure (v := .int .i64 a_c.A) (po_load_box tk_3 pick0 rfl rfl) rfl ?_)
          refine wl_guard_on (j := 13) rfl rfl rfl (wl_pure (po_fld fo_33_2 rfl) rfl ?_)
          refine wl_guard_on (j := 13) rfl rfl rfl (wl_pure (v := .int .i64 a_c.B) (po_load_box tk_3 pick0 rfl rfl) rfl ?_)
          refine wl_guard_on (j := 13) rfl rfl rfl (wl_pure (po_eql rfl rfl) rfl ?_)
          refine wl_guard_on (j := 13) rfl rfl rfl (wl_pure (po_eql_bool ub_4 rfl rfl) rfl ?_)
          refine wl_pure (po_pick_t rfl rfl) rfl ?_
          refine asg rfl rfl ?_
          refine wl_nil ?_
          exact wj_meet _ () (mtE t1) (sub_cons rfl sub_nil) some_nil
        refine wl_guard_off (j := 13) rfl rfl rfl rfl rfl ?_
        refine wl_guard_off (j := 13) rfl rfl rfl rfl rfl ?_
        refine wl_guard_off (j := 13) rfl rfl rfl rfl rfl ?_
        refine wl_guard_off (j := 13) rfl rfl rfl rfl rfl ?_
        refine wl_guard_off (j := 13) rfl rfl rfl rfl rfl ?_
        refine wl_guard_off (j := 13) rfl rfl rfl rfl rfl ?_
        refine wl_guard_off (j := 13) rfl rfl rfl rfl rfl ?_
        refine wl_guard_off (j := 13) rfl rfl rfl rfl rfl ?_
        refine wl_guard_off (j := 13) rfl rfl rfl rfl rfl ?_
        refine wl_pure (po_pick_f rfl rfl) rfl ?_
        refine asg rfl rfl ?_
        refine wl_nil ?_
        exact wj_meet _ () (mtE t1) (sub_cons rfl sub_nil) some_nil
      refine wl_guard_off (j := 8) rfl rfl rfl rfl rfl ?_
      refine wl_guard_off (j := 8) rfl rfl rfl rfl rfl ?_
      refine wl_guard_off (j := 8) rfl rfl rfl rfl rfl ?_
      refine wl_pure (po_pick_f rfl rfl) rfl ?_
      refine mv rfl rfl ?_
      refine wl_guard_off (j := 13) rfl rfl rfl rfl rfl ?_
      refine wl_guard_off (j := 13) rfl rfl rfl rfl rfl ?_
      refine wl_guard_off (j := 13) rfl rfl rfl rfl rfl ?_
      refine wl_guard_off (j := 13) rfl rfl rfl rfl rfl ?_
      refine wl_guard_off (j := 13) rfl rfl rfl rfl rfl ?_
      refine wl_guard_off (j := 13) rfl rfl rfl rfl rfl ?_
      refine wl_guard_off (j := 13) rfl rfl rfl rfl rfl ?_
      refine wl_guard_off (j := 13) rfl rfl rfl rfl rfl ?_
      refine wl_guard_off (j := 13) rfl rfl rfl rfl rfl ?_
      refine wl_pure (po_pick_f rfl rfl) rfl ?_
      refine asg rfl rfl ?_
      refine wl_nil ?_
      exact wj_meet _ () (mtE t1) (sub_cons rfl sub_nil) some_nil
    refine wl_guard_off (j := 3) rfl rfl rfl rfl rfl ?_
    refine wl_guard_off (j := 3) rfl rfl rfl rfl rfl ?_
    refine wl_guard_off (j := 3) rfl rfl rfl rfl rfl ?_
    refine wl_pure (po_pick_f rfl rfl) rfl ?_
    refine mv rfl rfl ?_
    refine wl_guard_off (j := 8) rfl rfl rfl rfl rfl ?_
    refine wl_guard_off (j := 8) rfl rfl rfl rfl rfl ?_
    refine wl_guard_off (j := 8) rfl rfl rfl rfl rfl ?_
    refine wl_pure (po_pick_f rfl rfl) rfl ?_
    refine mv rfl rfl ?_
    refine wl_guard_off (j := 13) rfl rfl rfl rfl rfl ?_
    refine wl_guard_off (j := 13) rfl rfl rfl rfl rfl ?_
    refine wl_guard_off (j := 13) rfl rfl rfl rfl rfl ?_
    refine wl_guard_off (j := 13) rfl rfl rfl rfl rfl ?_
    refine wl_guard_off (j := 13) rfl rfl rfl rfl rfl ?_
    refine wl_guard_off (j := 13) rfl rfl rfl rfl rfl ?_
    refine wl_guard_off (j := 13) rfl rfl rfl rfl rfl ?_
    refine wl_guard_off (j := 13) rfl rfl rfl rfl rfl ?_
    refine wl_guard_off (j := 13) rfl rfl rfl rfl rfl ?_
    refine wl_pure (po_pick_f rfl rfl) rfl ?_
    refine asg rfl rfl ?_
    refine wl_nil ?_
    exact wj_meet _ () (mtE t1) (sub_cons rfl sub_nil) some_nil
  intro j1 _ hp
  obtain rfl : j1 = y1 := hp.symm
  refine wq_then ?_
  refine wc_ret ?_
  obtain rfl := Option.some.inj t0
  exact wq_ret1 rfl rfl fun w hw => ⟨rfl, hw.weak some_nil⟩

theorem c_impl_BlockOk (w : World) (a_b : GBlock) (v0a : Hd) (r0 : rdF w (dm w []) (sl v0a) a_b.Cells) {r : Bool} (t0 : impl_BlockOk a_b = some r) : Calls Try.prog 39 #[.agg #[.int .i64 a_b.Size, (sl v0a)]] w fun e w' => e = .returned (.bool r) ∧ SH w [] [] w' := by
  refine calls_of_wc (args := [_]) Try.func39 rfl Try.ntmps39 rfl ?_
  unfold impl_BlockOk at t0
  refine wcr ?_
  refine wl_eff (eo_box rfl rfl) rfl fun b1 => ?_
  refine asg rfl rfl ?_
  refine wnt ?_
  refine wc_seq ?_
  refine wc_seq ?_
  refine bdO t0 fun y1 t1 t0 => ?_
  refine wj (J := Bool) (X := Unit) (fun z => y1 = z) (fun z _ => [(1, ptr b1 0), (19, .bool z)]) (fun _ _ => [box b1 [.int .i64 a_b.Size, (sl v0a)]]) ?_ ?_
  · skip
    refine wc_region ?_
    refine wl_pure (po_fld fo_26_0 rfl) rfl ?_
    refine wl_pure (v := .int .i64 a_b.Size) (po_load_box tk_3 pick0 rfl rfl) rfl ?_
    refine bdO t1 fun v1 hv1 t1 => ?_
    refine wl_call (co_c0 fa_43 rfl fun w hw => c_impl_within w a_b.Size 1 4 hv1) rfl fun _ => ?_
    refine wl_pure (po_not rfl) rfl ?_
    refine mv rfl rfl ?_
    refine wlO_ (t := 9) t1 rfl (fun h1 t1 => ?_) fun h1 t1 => ?_
    · skip
      refine wl_guard_off (j := 4) rfl rfl rfl rfl rfl ?_
      refine wl_guard_off (j := 4) rfl rfl rfl rfl rfl ?_
      refine wl_guard_off (j := 4) rfl rfl rfl rfl rfl ?_
      refine wl_guard_off (j := 4) rfl rfl rfl rfl rfl ?_
      refine wl_guard_off (j := 4) rfl rfl rfl rfl rfl ?_
      refine wl_guard_off (j := 4) rfl rfl rfl rfl rfl ?_
      refine wl_guard_off (j := 4) rfl rfl rfl rfl rfl ?_
      refine wl_guard_off (j := 4) rfl rfl rfl rfl rfl ?_
      refine wl_guard_off (j := 4) rfl rfl rfl rfl rfl ?_
      refine wl_pure (po_pick_t rfl rfl) rfl ?_
      refine wl_nil ?_
      exact wj_meet _ () (mtE t1) (sub_cons rfl (sub_cons rfl sub_nil)) (some_cons pick0 some_nil)
    refine wl_guard_on (j := 4) rfl rfl rfl (wl_pure (po_fld fo_26_1 rfl) rfl ?_)
    refine wl_guard_on (j := 4) rfl rfl rfl (wl_pure (v := (sl v0a)) (po_load_box tk_24 pick0 rfl rfl) rfl ?_)
    refine wl_guard_on (j := 4) rfl rfl rfl (wl_pure (po_lenr (rds_arg r0) el_24 rfl) rfl ?_)
    refine wl_guard_on (j := 4) rfl rfl rfl (wl_pure (po_fld fo_26_0 rfl) rfl ?_)
    refine wl_guard_on (j := 4) rfl rfl rfl (wl_pure (v := .int .i64 a_b.Size) (po_load_box tk_3 pick0 rfl rfl) rfl ?_)
    refine wl_guard_on (j := 4) rfl rfl rfl (wl_pure (po_fld fo_26_0 rfl) rfl ?_)
    refine wl_guard_on (j := 4) rfl rfl rfl (wl_pure (v := .int .i64 a_b.Size) (po_load_box tk_3 pick0 rfl rfl) rfl ?_)
    refine wl_guard_on (j := 4) rfl rfl rfl (wl_pure (po_mul rfl rfl) rfl ?_)
    refine wl_guard_on (j := 4) rfl rfl rfl (wl_pure (po_neq rfl rfl) rfl ?_)
    refine wl_pure (po_pick_f rfl rfl) rfl ?_
    refine wl_nil ?_
    exact wj_meet _ () (mtE t1) (sub_cons rfl (sub_cons rfl sub_nil)) (some_cons pick0 some_nil)
  intro j1 _ hp
  obtain rfl : j1 = y1 := hp.symm
  refine wq_then ?_
  refine wcO t0 rfl (fun h2 t0 => ?_) fun h2 t0 => ?_
  · skip
    refine wcr ?_
    refine asg rfl rfl ?_
    refine wnt ?_
    refine wc_ret ?_
    refine wq_then_ret ?_
    obtain rfl := Option.some.inj t0
    exact wq_ret1 rfl rfl fun w hw => ⟨rfl, hw.weak some_nil⟩
  refine wc_skip ?_
  refine wq_then ?_
  refine wc_seq ?_
  refine wcr ?_
  refine wl_pure (po_fld fo_26_1 rfl) rfl ?_
  refine wl_pure (v := (sl v0a)) (po_load_box tk_24 pick0 rfl rfl) rfl ?_
  refine wl_pure (po_lenr (rds_arg r0) el_24 rfl) rfl ?_
  refine mv rfl rfl ?_
  refine wnt ?_
  refine gdO t0 fun g1 t0 => ?_
  refine sqO t0 fun y1 l1 t0 => ?_
  refine wj (J := Unit) (X := Unit) (fun z => y1 = .inl z) (fun _ _ => []) (fun _ _ => []) ?_ ?_
  · skip
    refine wc_block ?_
    refine wc_forO (X := Unit) l1 (fun k1 s1 x1l => [(21, (sl v0a)), (22, .int .i64 ((a_b.Cells.length : Nat) : Int)), (23, .int .i64 ((k1 : Nat) : Int))]) (fun k1 s1 x1l => []) () (sub_cons rfl (sub_cons rfl (sub_cons rfl sub_nil))) some_nil fun k1 s1 x1l hN1 l1 => ?_
    by_cases hk1 : k1 < a_b.Cells.length
    · skip
      refine forO_step l1 hk1 fun _ t1 l1 => ?_
      unfold impl_BlockOk_L1 at t1
      have c1 : (decide (((k1 : Nat) : Int) < ((a_b.Cells.length : Nat) : Int))) = true := decide_eq_true (by omega)
      refine wcr ?_
      refine wl_pure (po_lss rfl rfl) rfl ?_
      refine wnt ?_
      refine wc_seq ?_
      refine wc_cond_t rfl c1 ?_
      refine wc_skip ?_
      refine wq_then ?_
      refine wc_seq ?_
      refine wc_block ?_
      refine wcr ?_
      refine wl_pure (po_ixn (k := k1) (rds_arg r0) el_24 rfl rfl hk1) rfl ?_
      refine wl_pure (v := .agg #[.int .i64 ((gx a_b.Cells k1).Split), .int .i64 ((gx a_b.Cells k1).A), .int .i64 ((gx a_b.Cells k1).B)]) (po_ldfs (rds_arg r0) tk_33 rfl hk1 rfl rfl rfl) rfl ?_
      refine wl_eff (eo_alloc (cs := [.int .i64 0, .int .i64 0, .int .i64 0]) za_33) rfl fun b2 => ?_
      refine wl_skipop (so_box (cs' := [.int .i64 ((gx a_b.Cells k1).Split), .int .i64 ((gx a_b.Cells k1).A), .int .i64 ((gx a_b.Cells k1).B)]) tk_33 pick0 rfl rfl rfl rfl rfl rfl rfl) ?_
      refine wnt ?_
      refine wcr ?_
      refine wl_pure (v := .agg #[.int .i64 ((gx a_b.Cells k1).Split), .int .i64 ((gx a_b.Cells k1).A), .int .i64 ((gx a_b.Cells k1).B)]) (po_load_boxs tk_33 pick0 rfl rfl rfl) rfl ?_
      refine bdO t1 fun v2 hv2 t1 => ?_
      refine wl_call (co_c0 fa_25 rfl fun w hw => c_impl_CellOk w (gx a_b.Cells k1) hv2) rfl fun _ => ?_
      refine wl_pure (po_not rfl) rfl ?_
      refine wnt ?_
      refine wcO t1 rfl (fun h3 t1 => ?_) fun h3 t1 => ?_
      · skip
        refine wcr ?_
        refine asg rfl rfl ?_
        refine wnt ?_
        refine wc_ret ?_
        refine wq_block_ret ?_
        refine wq_then_ret ?_
        refine wq_then_ret ?_
        refine wq_block_ret ?_
        refine wq_then_ret ?_
        refine wq_then_ret ?_
        replace t0 := lpR t0 l1 t1
        obtain rfl := Option.some.inj t0
        exact wq_ret1 rfl rfl fun w hw => ⟨rfl, hw.weak some_nil⟩
      refine wc_skip ?_
      refine wq_block ?_
      refine wq_then ?_
      refine wc_region ?_
      refine wl_pure (po_inc rfl rfl (by omega)) rfl ?_
      refine mv rfl rfl ?_
      refine wl_nil ?_
      exact wq_rnd hk1 (stpN l1 t1) () (sub_cons rfl (sub_cons rfl (sub_cons rfl sub_nil))) some_nil
    have c1 : (decide (((k1 : Nat) : Int) < ((a_b.Cells.length : Nat) : Int))) = false := decide_eq_false (by omega)
    have en1 := forO_end l1 hk1
    refine wcr ?_
    refine wl_pure (po_lss rfl rfl) rfl ?_
    refine wnt ?_
    refine wc_seq ?_
    refine wc_cond_f rfl c1 ?_
    refine wc_exit ?_
    refine wq_then_exit ?_
    refine wq_then_exit ?_
    refine wq_block_exit ?_
    exact wj_meet _ () en1 sub_nil some_nil
  intro e1 _ hp
  replace t0 := sqE (j := e1) t0 hp
  refine wq_then ?_
  refine wcr ?_
  refine asg rfl rfl ?_
  refine wnt ?_
  refine wc_ret ?_
  obtain rfl := Option.some.inj t0
  exact wq_ret1 rfl rfl fun w hw => ⟨rfl, hw.weak some_nil⟩

theorem c_impl_arePaired (w : World) (a_b : GBlock) (v0a : Hd) (r0 : rdF w (dm w []) (sl v0a) a_b.Cells) (a_d : GBlock) (v1a : Hd) (r1 : rdF w (dm w []) (sl v1a) a_d.Cells) {r : Bool} (t0 : impl_arePaired a_b a_d = some r) : Calls Try.prog 18 #[.agg #[.int .i64 a_b.Size, (sl v0a)], .agg #[.int .i64 a_d.Size, (sl v1a)]] w fun e w' => e = .returned (.bool r) ∧ SH w [] [] w' := by
  refine calls_of_wc (args := [_, _]) Try.func18 rfl Try.ntmps18 rfl ?_
  unfold impl_arePaired at t0
  refine wcr ?_
  refine wl_eff (eo_box rfl rfl) rfl fun b1 => ?_
  refine wl_eff (eo_box rfl rfl) rfl fun b2 => ?_
  refine asg rfl rfl ?_
  refine wnt ?_
  refine wc_seq ?_
  refine bdO t0 fun y1 t1 t0 => ?_
  refine wj (J := Bool) (X := Unit) (fun z => y1 = z) (fun z _ => [(4, .bool z)]) (fun _ _ => []) ?_ ?_
  · skip
    refine wc_region ?_
    refine wl_pure (v := .agg #[.int .i64 a_b.Size, (sl v0a)]) (po_load_boxs tk_26 (pickS pick0) rfl rfl rfl) rfl ?_
    refine bdO t1 fun v1 hv1 t1 => ?_
    refine wl_call (co_c0 fa_39 rfl fun w hw => c_impl_BlockOk w a_b v0a (Rg.on (rds_arg r0) hw) hv1) rfl fun _ => ?_
    refine mv rfl rfl ?_
    refine wlO_ (t := 7) t1 rfl (fun h1 t1 => ?_) fun h1 t1 => ?_
    · skip
      refine wl_guard_on (j := 2) rfl rfl rfl (wl_pure (v := .agg #[.int .i64 a_d.Size, (sl v1a)]) (po_load_boxs tk_26 pick0 rfl rfl rfl) rfl ?_)
      refine bdO t1 fun v2 hv2 t1 => ?_
      refine wl_guard_on (j := 2) rfl rfl rfl (wl_call (co_c0 fa_39 rfl fun w hw => c_impl_BlockOk w a_d v1a (Rg.on (rds_arg r1) hw) hv2) rfl (fun _ => ?_))
      refine wl_pure (po_pick_t rfl rfl) rfl ?_
      refine mv rfl rfl ?_
      refine wlO_ (t := 11) t1 rfl (fun h2 t1 => ?_) fun h2 t1 => ?_
      · skip
        refine wl_guard_on (j := 6) rfl rfl rfl (wl_pure (po_fld fo_26_0 rfl) rfl ?_)
        refine wl_guard_on (j := 6) rfl rfl rfl (wl_pure (v := .int .i64 a_b.Size) (po_load_box tk_3 (pickS pick0) rfl rfl) rfl ?_)
        refine wl_guard_on (j := 6) rfl rfl rfl (wl_pure (po_fld fo_26_0 rfl) rfl ?_)
        refine wl_guard_on (j := 6) rfl rfl rfl (wl_pure (v := .int .i64 a_d.Size) (po_load_box tk_3 pick0 rfl rfl) rfl ?_)
        refine wl_guard_on (j := 6) rfl rfl rfl (wl_pure (po_eql rfl rfl) rfl ?_)
        refine wl_pure (po_pick_t rfl rfl) rfl ?_
        refine asg rfl rfl ?_
        refine wl_nil ?_
        exact wj_meet _ () (mtE t1) (sub_cons rfl sub_nil) some_nil
      refine wl_guard_off (j := 6) rfl rfl rfl rfl rfl ?_
      refine wl_guard_off (j := 6) rfl rfl rfl rfl rfl ?_
      refine wl_guard_off (j := 6) rfl rfl rfl rfl rfl ?_
      refine wl_guard_off (j := 6) rfl rfl rfl rfl rfl ?_
      refine wl_guard_off (j := 6) rfl rfl rfl rfl rfl ?_
      refine wl_pure (po_pick_f rfl rfl) rfl ?_
      refine asg rfl rfl ?_
      refine wl_nil ?_
      exact wj_meet _ () (mtE t1) (sub_cons rfl sub_nil) some_nil
    refine wl_guard_off (j := 2) rfl rfl rfl rfl rfl ?_
    refine wl_guard_off (j := 2) rfl rfl rfl rfl rfl ?_
    refine wl_pure (po_pick_f rfl rfl) rfl ?_
    refine mv rfl rfl ?_
    refine wl_guard_off (j := 6) rfl rfl rfl rfl rfl ?_
    refine wl_guard_off (j := 6) rfl rfl rfl rfl rfl ?_
    refine wl_guard_off (j := 6) rfl rfl rfl rfl rfl ?_
    refine wl_guard_off (j := 6) rfl rfl rfl rfl rfl ?_
    refine wl_guard_off (j := 6) rfl rfl rfl rfl rfl ?_
    refine wl_pure (po_pick_f rfl rfl) rfl ?_
    refine asg rfl rfl ?_
    refine wl_nil ?_
    exact wj_meet _ () (mtE t1) (sub_cons rfl sub_nil) some_nil
  intro j1 _ hp
  obtain rfl : j1 = y1 := hp.symm
  refine wq_then ?_
  refine wc_ret ?_
  obtain rfl := Option.some.inj t0
  exact wq_ret1 rfl rfl fun w hw => ⟨rfl, hw.weak some_nil⟩

theorem c_impl_ColorAt (w : World) (a_c : GCell) (a_side : Int) {r : Int} (t0 : impl_ColorAt a_c a_side = some r) : Calls Try.prog 26 #[.agg #[.int .i64 a_c.Split, .int .i64 a_c.A, .int .i64 a_c.B], .int .i64 a_side] w fun e w' => e = .returned (.int .i64 r) ∧ SH w [] [] w' := by
  refine calls_of_wc (args := [_, _]) Try.func26 rfl Try.ntmps26 rfl ?_
  unfold impl_ColorAt at t0
  refine wcr ?_
  refine wl_eff (eo_box rfl rfl) rfl fun b1 => ?_
  refine asg rfl rfl ?_
  refine wnt ?_
  refine wc_seq ?_
  refine wc_seq ?_
  refine bdO t0 fun y1 t1 t0 => ?_
  refine wj (J := Bool) (X := Unit) (fun z => y1 = z) (fun z _ => [(1, .int .i64 a_side), (2, ptr b1 0), (12, .bool z)]) (fun _ _ => [box b1 [.int .i64 a_c.Split, .int .i64 a_c.A, .int .i64 a_c.B]]) ?_ ?_
  · skip
    refine wc_region ?_
    refine wl_pure (v := .agg #[.int .i64 a_c.Split, .int .i64 a_c.A, .int .i64 a_c.B]) (po_load_boxs tk_33 pick0 rfl rfl rfl) rfl ?_
    refine bdO t1 fun v1 hv1 t1 => ?_
    refine wl_call (co_c0 fa_25 rfl fun w hw => c_impl_CellOk w a_c hv1) rfl fun _ => ?_
    refine wl_pure (po_not rfl) rfl ?_
    refine mv rfl rfl ?_
    refine wlO_ (t := 8) t1 rfl (fun h1 t1 => ?_) fun h1 t1 => ?_
    · skip
      refine wl_guard_off (j := 3) rfl rfl rfl rfl rfl ?_
      refine wl_guard_off (j := 3) rfl rfl rfl rfl rfl ?_
      refine wl_guard_off (j := 3) rfl rfl rfl rfl rfl ?_
      refine wl_pure (po_pick_t rfl rfl) rfl ?_
      refine wl_nil ?_
      exact wj_meet _ () (mtE t1) (sub_cons rfl (sub_cons rfl (sub_cons rfl sub_nil))) (some_cons pick0 some_nil)
    refine wl_guard_on (j := 3) rfl rfl rfl (mv rfl rfl ?_)
    refine bdO t1 fun v2 hv2 t1 => ?_
    refine wl_guard_on (j := 3) rfl rfl rfl (wl_call (co_c0 fa_43 rfl fun w hw => c_impl_within w a_side 0 3 hv2) rfl (fun _ => ?_))
    refine wl_guard_on (j := 3) rfl rfl rfl (wl_pure (po_not rfl) rfl ?_)
    refine wl_pure (po_pick_f rfl rfl) rfl ?_
    refine wl_nil ?_
    exact wj_meet _ () (mtE t1) (sub_cons rfl (sub_cons rfl (sub_cons rfl sub_nil))) (some_cons pick0 some_nil)
  intro j1 _ hp
  obtain rfl : j1 = y1 := hp.symm
  refine wq_then ?_
  refine wcO t0 rfl (fun h2 t0 => ?_) fun h2 t0 => ?_
  · skip
    refine wcr ?_
    refine asg rfl rfl ?_
    refine wnt ?_
    refine wc_ret ?_
    refine wq_then_ret ?_
    obtain rfl := Option.some.inj t0
    exact wq_ret1 rfl rfl fun w hw => ⟨rfl, hw.weak some_nil⟩
  refine wc_skip ?_
  refine wq_then ?_
  refine wc_seq ?_
  refine wc_seq ?_
  refine wc_join (X := Unit) (fun _ => True) (fun _ => [(2, ptr b1 0), (32, .bool ((a_side == 0) || (bif (a_c.Split == 1) then ((a_side == 1) || ((a_c.Split == 2) && (a_side == 3))) else ((a_c.Split == 2) && (a_side == 3)))))]) (fun _ => [box b1 [.int .i64 a_c.Split, .int .i64 a_c.A, .int .i64 a_c.B]]) ?_ ?_
  · skip
    refine wc_region ?_
    refine mv rfl rfl ?_
    refine wl_pure (po_eql rfl rfl) rfl ?_
    refine mv rfl rfl ?_
    refine wl_fork (t := 15) rfl (fun h3 => ?_) fun h3 => ?_
    · skip
      refine wl_guard_off (j := 2) rfl rfl rfl rfl rfl ?_
      refine wl_guard_off (j := 2) rfl rfl rfl rfl rfl ?_
      refine wl_guard_off (j := 2) rfl rfl rfl rfl rfl ?_
      refine wl_guard_off (j := 2) rfl rfl rfl rfl rfl ?_
      refine wl_guard_undef (j := 6) rfl rfl rfl rfl ?_
      refine wl_guard_undef (j := 6) rfl rfl rfl rfl ?_
      refine wl_guard_off (j := 2) rfl rfl rfl rfl rfl ?_
      refine wl_pure (po_pick_t rfl rfl) rfl ?_
      refine mv rfl rfl ?_
      refine wl_guard_off (j := 11) rfl rfl rfl rfl rfl ?_
      refine wl_guard_off (j := 11) rfl rfl rfl rfl rfl ?_
      refine wl_guard_off (j := 11) rfl rfl rfl rfl rfl ?_
      refine wl_guard_off (j := 11) rfl rfl rfl rfl rfl ?_
      refine wl_guard_undef (j := 15) rfl rfl rfl rfl ?_
      refine wl_guard_undef (j := 15) rfl rfl rfl rfl ?_
      refine wl_guard_off (j := 11) rfl rfl rfl rfl rfl ?_
      refine wl_pure (po_pick_t rfl rfl) rfl ?_
      refine wl_nil ?_
      exact wq_meet () trivial (sub_cons rfl (sub_b rfl (by rw [h3]; rfl) sub_nil)) (some_cons pick0 some_nil)
    refine wl_guard_on (j := 2) rfl rfl rfl (wl_pure (po_fld fo_33_0 rfl) rfl ?_)
    refine wl_guard_on (j := 2) rfl rfl rfl (wl_pure (v := .int .i64 a_c.Split) (po_load_box tk_3 pick0 rfl rfl) rfl ?_)
    refine wl_guard_on (j := 2) rfl rfl rfl (wl_pure (po_eql rfl rfl) rfl ?_)
    refine wl_guard_on (j := 2) rfl rfl rfl (mv rfl rfl ?_)
    refine wl_fork (t := 19) rfl (fun h4 => ?_) fun h4 => ?_
    · skip
      refine wl_guard_on (j := 6) rfl rfl rfl (mv rfl rfl ?_)
      refine wl_guard_on (j := 6) rfl rfl rfl (wl_pure (po_eql rfl rfl) rfl ?_)
      refine wl_guard_on (j := 2) rfl rfl rfl (wl_pure (po_pick_t rfl rfl) rfl ?_)
      refine wl_pure (po_pick_f rfl rfl) rfl ?_
      refine mv rfl rfl ?_
      refine wl_fork (t := 24) rfl (fun h5 => ?_) fun h5 => ?_
      · skip
        refine wl_guard_off (j := 11) rfl rfl rfl rfl rfl ?_
        refine wl_guard_off (j := 11) rfl rfl rfl rfl rfl ?_
        refine wl_guard_off (j := 11) rfl rfl rfl rfl rfl ?_
        refine wl_guard_off (j := 11) rfl rfl rfl rfl rfl ?_
        refine wl_guard_undef (j := 15) rfl rfl rfl rfl ?_
        refine wl_guard_undef (j := 15) rfl rfl rfl rfl ?_
        refine wl_guard_off (j := 11) rfl rfl rfl rfl rfl ?_
        refine wl_pure (po_pick_t rfl rfl) rfl ?_
        refine wl_nil ?_
        exact wq_meet () trivial (sub_cons rfl (sub_b rfl (by rw [h3, h4, h5]; rfl) sub_nil)) (some_cons pick0 some_nil)
      refine wl_guard_on (j := 11) rfl rfl rfl (wl_pure (po_fld fo_33_0 rfl) rfl ?_)
      refine wl_guard_on (j := 11) rfl rfl rfl (wl_pure (v := .int .i64 a_c.Split) (po_load_box tk_3 pick0 rfl rfl) rfl ?_)
      refine wl_guard_on (j := 11) rfl rfl rfl (wl_pure (po_eql rfl rfl) rfl ?_)
      refine wl_guard_on (j := 11) rfl rfl rfl (mv rfl rfl ?_)
      refine wl_fork (t := 28) rfl (fun h6 => ?_) fun h6 => ?_
      · skip
        refine wl_guard_on (j := 15) rfl rfl rfl (mv rfl rfl ?_)
        refine wl_guard_on (j := 15) rfl rfl rfl (wl_pure (po_eql rfl rfl) rfl ?_)
        refine wl_guard_on (j := 11) rfl rfl rfl (wl_pure (po_pick_t rfl rfl) rfl ?_)
        refine wl_pure (po_pick_f rfl rfl) rfl ?_
        refine wl_nil ?_
        exact wq_meet () trivial (sub_cons rfl (sub_b rfl (by rw [h3, h4, h5, h6]; rfl) sub_nil)) (some_cons pick0 some_nil)
      refine wl_guard_off (j := 15) rfl rfl rfl rfl rfl ?_
      refine wl_guard_off (j := 15) rfl rfl rfl rfl rfl ?_
      refine wl_guard_on (j := 11) rfl rfl rfl (wl_pure (po_pick_f rfl rfl) rfl ?_)
      refine wl_pure (po_pick_f rfl rfl) rfl ?_
      refine wl_nil ?_
      exact wq_meet () trivial (sub_cons rfl (sub_b rfl (by rw [h3, h4, h5, h6]; rfl) sub_nil)) (some_cons pick0 some_nil)
    refine wl_guard_off (j := 6) rfl rfl rfl rfl rfl ?_
    refine wl_guard_off (j := 6) rfl rfl rfl rfl rfl ?_
    refine wl_guard_on (j := 2) rfl rfl rfl (wl_pure (po_pick_f rfl rfl) rfl ?_)
    refine wl_pure (po_pick_f rfl rfl) rfl ?_
    refine mv rfl rfl ?_
    refine wl_guard_on (j := 11) rfl rfl rfl (wl_pure (po_fld fo_33_0 rfl) rfl ?_)
    refine wl_guard_on (j := 11) rfl rfl rfl (wl_pure (v := .int .i64 a_c.Split) (po_load_box tk_3 pick0 rfl rfl) rfl ?_)
    refine wl_guard_on (j := 11) rfl rfl rfl (wl_pure (po_eql rfl rfl) rfl ?_)
    refine wl_guard_on (j := 11) rfl rfl rfl (mv rfl rfl ?_)
    refine wl_fork (t := 28) rfl (fun h7 => ?_) fun h7 => ?_
    · skip
      refine wl_guard_on (j := 15) rfl rfl rfl (mv rfl rfl ?_)
      refine wl_guard_on (j := 15) rfl rfl rfl (wl_pure (po_eql rfl rfl) rfl ?_)
      refine wl_guard_on (j := 11) rfl rfl rfl (wl_pure (po_pick_t rfl rfl) rfl ?_)
      refine wl_pure (po_pick_f rfl rfl) rfl ?_
      refine wl_nil ?_
      exact wq_meet () trivial (sub_cons rfl (sub_b rfl (by rw [h3, h4, h7]; rfl) sub_nil)) (some_cons pick0 some_nil)
    refine wl_guard_off (j := 15) rfl rfl rfl rfl rfl ?_
    refine wl_guard_off (j := 15) rfl rfl rfl rfl rfl ?_
    refine wl_guard_on (j := 11) rfl rfl rfl (wl_pure (po_pick_f rfl rfl) rfl ?_)
    refine wl_pure (po_pick_f rfl rfl) rfl ?_
    refine wl_nil ?_
    exact wq_meet () trivial (sub_cons rfl (sub_b rfl (by rw [h3, h4, h7]; rfl) sub_nil)) (some_cons pick0 some_nil)
  intro _ _
  refine wq_then ?_
  refine wcO t0 rfl (fun h8 t0 => ?_) fun h8 t0 => ?_
  · skip
    refine wcr ?_
    refine wl_pure (po_fld fo_33_1 rfl) rfl ?_
    refine wl_pure (v := .int .i64 a_c.A) (po_load_box tk_3 pick0 rfl rfl) rfl ?_
    refine asg rfl rfl ?_
    refine wnt ?_
    refine wc_ret ?_
    refine wq_then_ret ?_
    obtain rfl := Option.some.inj t0
    exact wq_ret1 rfl rfl fun w hw => ⟨rfl, hw.weak some_nil⟩
  refine wc_skip ?_
  refine wq_then ?_
  refine wcr ?_
  refine wl_pure (po_fld fo_33_2 rfl) rfl ?_
  refine wl_pure (v := .int .i64 a_c.B) (po_load_box tk_3 pick0 rfl rfl) rfl ?_
  refine asg rfl rfl ?_
  refine wnt ?_
  refine wc_ret ?_
  obtain rfl := Option.some.inj t0
  exact wq_ret1 rfl rfl fun w hw => ⟨rfl, hw.weak some_nil⟩

theorem c_impl_CellLikeness (w : World) (a_c : GCell) (a_d : GCell) {r : Int} (t0 : impl_CellLikeness a_c a_d = some r) : Calls Try.prog 11 #[.agg #[.int .i64 a_c.Split, .int .i64 a_c.A, .int .i64 a_c.B], .agg #[.int .i64 a_d.Split, .int .i64 a_d.A, .int .i64 a_d.B]] w fun e w' => e = .returned (.int .i64 r) ∧ SH w [] [] w' := by
  refine calls_of_wc (args := [_, _]) Try.func11 rfl Try.ntmps11 rfl ?_
  unfold impl_CellLikeness at t0
  refine wcr ?_
  refine wl_eff (eo_box rfl rfl) rfl fun b1 => ?_
  refine wl_eff (eo_box rfl rfl) rfl fun b2 => ?_
  refine asg rfl rfl ?_
  refine wnt ?_
  refine wc_seq ?_
  refine wc_seq ?_
  refine bdO t0 fun y1 t1 t0 => ?_
  refine wj (J := Bool) (X := Unit) (fun z => y1 = z) (fun z _ => [(2, ptr b1 0), (3, ptr b2 0), (14, .bool z)]) (fun _ _ => [box b2 [.int .i64 a_d.Split, .int .i64 a_d.A, .int .i64 a_d.B], box b1 [.int .i64 a_c.Split, .int .i64 a_c.A, .int .i64 a_c.B]]) ?_ ?_
  · skip
    refine wc_region ?_
    refine wl_pure (v := .agg #[.int .i64 a_c.Split, .int .i64 a_c.A, .int .i64 a_c.B]) (po_load_boxs tk_33 (pickS pick0) rfl rfl rfl) rfl ?_
    refine bdO t1 fun v1 hv1 t1 => ?_
    refine wl_call (co_c0 fa_25 rfl fun w hw => c_impl_CellOk w a_c hv1) rfl fun _ => ?_
    refine wl_pure (po_not rfl) rfl ?_
    refine mv rfl rfl ?_
    refine wlO_ (t := 10) t1 rfl (fun h1 t1 => ?_) fun h1 t1 => ?_
    · skip
      refine wl_guard_off (j := 3) rfl rfl rfl rfl rfl ?_
      refine wl_guard_off (j := 3) rfl rfl rfl rfl rfl ?_
      refine wl_guard_off (j := 3) rfl rfl rfl rfl rfl ?_
      refine wl_pure (po_pick_t rfl rfl) rfl ?_
      refine wl_nil ?_
      exact wj_meet _ () (mtE t1) (sub_cons rfl (sub_cons rfl (sub_cons rfl sub_nil))) (some_cons pick0 (some_cons pick0 some_nil))
    refine wl_guard_on (j := 3) rfl rfl rfl (wl_pure (v := .agg #[.int .i64 a_d.Split, .int .i64 a_d.A, .int .i64 a_d.B]) (po_load_boxs tk_33 pick0 rfl rfl rfl) rfl ?_)
    refine bdO t1 fun v2 hv2 t1 => ?_
    refine wl_guard_on (j := 3) rfl rfl rfl (wl_call (co_c0 fa_25 rfl fun w hw => c_impl_CellOk w a_d hv2) rfl (fun _ => ?_))
    refine wl_guard_on (j := 3) rfl rfl rfl (wl_pure (po_not rfl) rfl ?_)
    refine wl_pure (po_pick_f rfl rfl) rfl ?_
    refine wl_nil ?_
    exact wj_meet _ () (mtE t1) (sub_cons rfl (sub_cons rfl (sub_cons rfl sub_nil))) (some_cons pick0 (some_cons pick0 some_nil))
  intro j1 _ hp
  obtain rfl : j1 = y1 := hp.symm
  refine wq_then ?_
  refine wcO t0 rfl (fun h2 t0 => ?_) fun h2 t0 => ?_
  · skip
    refine wcr ?_
    refine asg rfl rfl ?_
    refine wnt ?_
    refine wc_ret ?_
    refine wq_then_ret ?_
    obtain rfl := Option.some.inj t0
    exact wq_ret1 rfl rfl fun w hw => ⟨rfl, hw.weak some_nil⟩
  refine wc_skip ?_
  refine wq_then ?_
  refine wcr ?_
  refine asg rfl rfl ?_
  refine wnt ?_
  refine wc_seq ?_
  refine wcr ?_
  refine mv rfl rfl ?_
  refine wnt ?_
  refine lpO_inv t0 fun y1 l1 t0 => ?_
  refine wj (J := Int) (X := Unit) (fun z => y1 = z) (fun z _ => [(5, .int .i64 z)]) (fun _ _ => []) ?_ ?_
  · skip
    refine wc_block ?_
    refine wc_forO (X := Unit) l1 (fun k1 s1 x1l => [(2, ptr b1 0), (3, ptr b2 0), (5, .int .i64 s1), (15, .int .i64 ((k1 : Nat) : Int))]) (fun k1 s1 x1l => [box b2 [.int .i64 a_d.Split, .int .i64 a_d.A, .int .i64 a_d.B], box b1 [.int .i64 a_c.Split, .int .i64 a_c.A, .int .i64 a_c.B]]) () (sub_cons rfl (sub_cons rfl (sub_cons rfl (sub_cons rfl sub_nil)))) (some_cons pick0 (some_cons pick0 some_nil)) fun k1 s1 x1l hN1 l1 => ?_
    by_cases hk1 : k1 < 4
    · skip
      refine forO_step l1 hk1 fun _ t1 l1 => ?_
      unfold impl_CellLikeness_L1 at t1
      have c1 : (decide (((k1 : Nat) : Int) < 4)) = true := decide_eq_true (by omega)
      refine wcr ?_
      refine wl_pure (po_lss rfl rfl) rfl ?_
      refine wnt ?_
      refine wc_seq ?_
      refine wc_cond_t rfl c1 ?_
      refine wc_skip ?_
      refine wq_then ?_
      refine wc_seq ?_
      refine wc_block ?_
      refine wcr ?_
      refine mv rfl rfl ?_
      refine asg rfl rfl ?_
      refine wnt ?_
      refine wc_seq ?_
      refine wc_draw [box b2 [.int .i64 a_d.Split, .int .i64 a_d.A, .int .i64 a_d.B], box b1 [.int .i64 a_c.Split, .int .i64 a_c.A, .int .i64 a_c.B]] 7 mixed ?_
      refine wa_pure (v := .agg #[.int .i64 a_c.Split, .int .i64 a_c.A, .int .i64 a_c.B]) 0 rfl (po_load_boxs tk_33 (pickS pick0) rfl rfl rfl) (some_cons pick0 (some_cons pick0 some_nil)) rfl (by kernel_rfl) (fun _ _ _ h => h) ?_
      refine wa_pure 1 rfl (po_move rfl) (some_cons pick0 (some_cons pick0 some_nil)) rfl (by kernel_rfl) (fun _ _ _ h => h) ?_
      refine wa_pure (v := .agg #[.int .i64 a_d.Split, .int .i64 a_d.A, .int .i64 a_d.B]) 3 rfl (po_load_boxs tk_33 pick0 rfl rfl rfl) (some_cons pick0 (some_cons pick0 some_nil)) rfl (by kernel_rfl) (fun _ _ _ h => h) ?_
      refine wa_pure 4 rfl (po_move rfl) (some_cons pick0 (some_cons pick0 some_nil)) rfl (by kernel_rfl) (fun _ _ _ h => h) ?_
      refine wa_1 (i := 2) (by kernel_rfl) ?_
      refine bdO t1 fun v3 hv3 t1 => ?_
      refine ws_call rfl (co_c0 fa_26 rfl fun w hw => c_impl_ColorAt w a_c ((k1 : Nat) : Int) hv3) (fun _ => (sts_some (some_cons pick0 (some_cons pick0 some_nil)))) rfl fun _ => ?_
      refine wa_1 (i := 5) (by kernel_rfl) ?_
      refine bdO t1 fun v4 hv4 t1 => ?_
      refine ws_call rfl (co_c0 fa_26 rfl fun w hw => c_impl_ColorAt w a_d ((k1 : Nat) : Int) hv4) (fun _ => (sts_some (some_cons pick0 (some_cons pick0 some_nil)))) rfl fun _ => ?_
      refine wa_pure 6 rfl (po_eql rfl rfl) (some_cons pick0 (some_cons pick0 some_nil)) rfl (by kernel_rfl) (fun _ _ _ h => h) ?_
      refine wa_done (by kernel_rfl) ?_
      refine wq_then ?_
      refine wc_join (X := Unit) (fun _ => True) (fun _ => [(2, ptr b1 0), (3, ptr b2 0), (5, .int .i64 (bif (v3 == v4) then (wr (s1 + 1)) else s1)), (15, .int .i64 ((k1 : Nat) : Int))]) (fun _ => [box b2 [.int .i64 a_d.Split, .int .i64 a_d.A, .int .i64 a_d.B], box b1 [.int .i64 a_c.Split, .int .i64 a_c.A, .int .i64 a_c.B]]) ?_ ?_
      · skip
        refine wc_cond rfl (fun h3 => ?_) fun h3 => ?_
        · skip
          refine wc_region ?_
          refine mv rfl rfl ?_
          refine wl_pure (po_add rfl rfl) rfl ?_
          refine asg rfl rfl ?_
          refine wl_nil ?_
          exact wq_meet () trivial (sub_cons rfl (sub_cons rfl (sub_i rfl (by simp only [h3, cond_true]) (sub_cons rfl sub_nil)))) (some_cons pick0 (some_cons pick0 some_nil))
        refine wc_skip ?_
        exact wq_meet () trivial (sub_cons rfl (sub_cons rfl (sub_i rfl (by simp only [h3, cond_false]) (sub_cons rfl sub_nil)))) (some_cons pick0 (some_cons pick0 some_nil))
      intro _ _
      refine wq_block ?_
      refine wq_then ?_
      refine wc_region ?_
      refine wl_pure (po_inc rfl rfl (by omega)) rfl ?_
      refine mv rfl rfl ?_
      refine wl_nil ?_
      exact wq_rnd hk1 (stpN l1 t1) () (sub_cons rfl (sub_cons rfl (sub_cons rfl (sub_cons rfl sub_nil)))) (some_cons pick0 (some_cons pick0 some_nil))
    have c1 : (decide (((k1 : Nat) : Int) < 4)) = false := decide_eq_false (by omega)
    have en1 := forO_end l1 hk1
    refine wcr ?_
    refine wl_pure (po_lss rfl rfl) rfl ?_
    refine wnt ?_
    refine wc_seq ?_
    refine wc_cond_f rfl c1 ?_
    refine wc_exit ?_
    refine wq_then_exit ?_
    refine wq_then_exit ?_
    refine wq_block_exit ?_
    exact wj_meet _ () (Sum.inl.inj en1) (sub_cons rfl sub_nil) some_nil
  intro e1 _ hp
  obtain rfl : e1 = y1 := hp.symm
  refine wq_then ?_
  refine wcr ?_
  refine mv rfl rfl ?_
  refine asg rfl rfl ?_
  refine wnt ?_
  refine wc_ret ?_
  obtain rfl := Option.some.inj t0
  exact wq_ret1 rfl rfl fun w hw => ⟨rfl, hw.weak some_nil⟩

end Go.Proofs.Ytfnfngicgikhgab
