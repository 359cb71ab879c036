/-
  Each Go function computes its Lean function (part 1).
-/
import Derived.Test.YtmkmlnfkokfmaadDoorLibs
namespace Go.Proofs.YtmkmlnfkokfmaadDoor
open Go Go.RowKit Go.Proofs
set_option maxRecDepth 100000

theorem c_laws_big (w : World) (a_code : List UInt8) (v0a : Hd) (r0 : rdF w (dm w []) (sl v0a) a_code) {r : Bool} (t0 : laws_big a_code = some r) : Calls Tryd.prog 4 #[(sl v0a)] w fun e w' => e = .returned (.bool r) ∧ SH w [] [] w' := by
  refine calls_of_wc (args := [_]) Tryd.func4 rfl Tryd.ntmps4 rfl ?_
  unfold laws_big at t0
  refine wcr ?_
  refine asg rfl rfl ?_
  refine wnt ?_
  refine wcr ?_
  refine mv rfl rfl ?_
  refine wl_pure (po_lenr (rds_arg r0) el_22 rfl) rfl ?_
  refine wl_pure (po_gtr rfl rfl) rfl ?_
  refine asg rfl rfl ?_
  refine wnt ?_
  refine wc_ret ?_
  obtain rfl := Option.some.inj t0
  exact wq_ret1 rfl rfl fun w hw => ⟨rfl, hw.weak some_nil⟩

theorem c_spec_l01New (w : World) (a_code : List UInt8) (v0a : Hd) (r0 : rdF w (dm w []) (sl v0a) a_code) {r : Int × Int} (t0 : spec_l01New a_code = some r) : Calls Tryd.prog 18 #[(sl v0a)] w fun e w' => ∃ x : Nat, e = .returned (ptr x 0) ∧ SH w [] [box x [(sl v0a), .int .i64 r.1, .int .i64 r.2]] w' := by
  refine calls_of_wc (args := [_]) Tryd.func18 rfl Tryd.ntmps18 rfl ?_
  unfold spec_l01New at t0
  refine wcr ?_
  refine asg rfl rfl ?_
  refine wnt ?_
  refine wcr ?_
  refine mv rfl rfl ?_
  refine wl_pure (po_lenr (rds_arg r0) el_22 rfl) rfl ?_
  refine wl_pure (po_add rfl rfl) rfl ?_
  refine asg rfl rfl ?_
  refine wnt ?_
  refine wc_seq ?_
  refine wcr ?_
  refine asg rfl rfl ?_
  refine wnt ?_
  refine gdO t0 fun g1 t0 => ?_
  refine lpO_inv t0 fun y1 l1 t0 => ?_
  refine wj (J := Int) (X := Unit) (fun z => y1 = z) (fun z _ => [(0, (sl v0a)), (3, .int .i64 z)]) (fun _ _ => []) ?_ ?_
  · skip
    refine wc_block ?_
    refine wc_forO (X := Unit) l1 (fun k1 s1 x1l => [(0, (sl v0a)), (3, .int .i64 s1), (4, .int .i64 ((k1 : Nat) : Int))]) (fun k1 s1 x1l => []) () (sub_cons rfl (sub_cons rfl (sub_cons rfl sub_nil))) some_nil fun k1 s1 x1l hN1 l1 => ?_
    by_cases hk1 : k1 < a_code.length
    · skip
      refine forO_step l1 hk1 fun _ t1 l1 => ?_
      unfold spec_l01New_L1 at t1
      have c1 : (decide (((k1 : Nat) : Int) < ((a_code.length : Nat) : Int))) = true := decide_eq_true (by omega)
      refine wc_seq ?_
      refine wcr ?_
      refine mv rfl rfl ?_
      refine mv rfl rfl ?_
      refine wl_pure (po_lenr (rds_arg r0) el_22 rfl) rfl ?_
      refine wl_pure (po_lss rfl rfl) rfl ?_
      refine mv rfl rfl ?_
      refine wl_know (t := 12) rfl c1 ?_
      refine wl_guard_on (j := 4) rfl rfl rfl (mv rfl rfl ?_)
      refine wl_guard_on (j := 4) rfl rfl rfl (wl_pure (po_lss rfl rfl) rfl ?_)
      refine wl_pure (po_pick_t rfl rfl) rfl ?_
      refine wnt ?_
      refine wcO t1 rfl (fun h1 t1 => ?_) fun h1 t1 => ?_
      · skip
        refine wc_skip ?_
        refine wq_then ?_
        refine wc_seq ?_
        refine wc_block ?_
        refine wc_region ?_
        refine mv rfl rfl ?_
        refine wl_pure (po_mul rfl rfl) rfl ?_
        refine mv rfl rfl ?_
        refine mv rfl rfl ?_
        refine wl_pure (po_ixn (k := k1) (rds_arg r0) el_22 rfl rfl hk1) rfl ?_
        refine wl_pure (v := .int .u8 ((gx a_code k1).toNat : Int)) (po_ldf (rds_arg r0) tk_5 rfl hk1 rfl) rfl ?_
        refine wl_pure (po_u8int isU8_5 isInt_3 rfl) rfl ?_
        refine wl_pure (po_add rfl rfl) rfl ?_
        refine wl_pure (po_add rfl rfl) rfl ?_
        refine wl_pure (po_and rfl rfl) rfl ?_
        refine asg rfl rfl ?_
        refine wl_nil ?_
        refine wq_block ?_
        refine wq_then ?_
        refine wc_region ?_
        refine mv rfl rfl ?_
        refine wl_pure (po_inc rfl rfl (by omega)) rfl ?_
        refine asg rfl rfl ?_
        refine wl_nil ?_
        exact wq_rnd hk1 (stpN l1 t1) () (sub_cons rfl (sub_cons rfl (sub_cons rfl sub_nil))) some_nil
      refine wc_exit ?_
      refine wq_then_exit ?_
      refine wq_then_exit ?_
      refine wq_block_exit ?_
      exact wj_meet _ () (Sum.inl.inj (stpB l1 t1)) (sub_cons rfl (sub_cons rfl sub_nil)) some_nil
    have c1 : (decide (((k1 : Nat) : Int) < ((a_code.length : Nat) : Int))) = false := decide_eq_false (by omega)
    have en1 := forO_end l1 hk1
    refine wc_seq ?_
    refine wcr ?_
    refine mv rfl rfl ?_
    refine mv rfl rfl ?_
    refine wl_pure (po_lenr (rds_arg r0) el_22 rfl) rfl ?_
    refine wl_pure (po_lss rfl rfl) rfl ?_
    refine mv rfl rfl ?_
    refine wl_know (t := 12) rfl c1 ?_
    refine wl_guard_off (j := 4) rfl rfl rfl rfl rfl ?_
    refine wl_guard_off (j := 4) rfl rfl rfl rfl rfl ?_
    refine wl_pure (po_pick_f rfl rfl) rfl ?_
    refine wnt ?_
    refine wc_cond_f rfl rfl ?_
    refine wc_exit ?_
    refine wq_then_exit ?_
    refine wq_then_exit ?_
    refine wq_block_exit ?_
    exact wj_meet _ () (Sum.inl.inj en1) (sub_cons rfl (sub_cons rfl sub_nil)) some_nil
  intro e1 _ hp
  obtain rfl : e1 = y1 := hp.symm
  refine wq_then ?_
  refine wcr ?_
  refine mv rfl rfl ?_
  refine mv rfl rfl ?_
  refine wl_pure (po_build rfl (bd_58_0_2 v0a e1)) rfl ?_
  refine wl_eff (eo_box rfl rfl) rfl fun b1 => ?_
  refine asg rfl rfl ?_
  refine wnt ?_
  refine wc_ret ?_
  obtain rfl := Option.some.inj t0
  exact wq_ret1 rfl rfl fun w hw => ⟨b1, rfl, hw.weak (some_cons pick0 some_nil)⟩

theorem c_spec_l01Byte (w : World) (fp : List Nat) (b0p : Nat) (a_c0 : List UInt8) (v0a : Hd) (r0 : rdF w (dm w fp) (sl v0a) a_c0) (a_c1 : Int) (a_c2 : Int) (o : Ow w [box b0p [(sl v0a), .int .i64 a_c1, .int .i64 a_c2]] fp) {r : Int × Int × Int} (t0 : spec_l01Byte a_c0 a_c1 a_c2 = some r) : Calls Tryd.prog 47 #[ptr b0p 0] w fun e w' => ∃ _x : Unit, e = .returned (.int .i64 r.1) ∧ SH w fp [box b0p [(sl v0a), .int .i64 r.2.1, .int .i64 r.2.2]] w' := by
  refine calls_of_wc_own (args := [_]) o Tryd.func47 rfl Tryd.ntmps47 rfl ?_
  unfold spec_l01Byte at t0
  refine wcr ?_
  refine asg rfl rfl ?_
  refine wnt ?_
  refine wcr ?_
  refine mv rfl rfl ?_
  refine mv rfl rfl ?_
  refine wl_pure (po_nilCheck rfl) rfl ?_
  refine wl_pure (po_fld fo_58_2 rfl) rfl ?_
  refine wl_pure (v := .int .i64 a_c2) (po_load_box tk_3 pick0 rfl rfl) rfl ?_
  refine wl_pure (po_mul rfl rfl) rfl ?_
  refine wl_pure (po_add rfl rfl) rfl ?_
  refine wl_pure (po_nilCheck rfl) rfl ?_
  refine wl_pure (po_fld fo_58_2 rfl) rfl ?_
  refine wl_skipop (so_box (cs' := [(sl v0a), .int .i64 a_c1, .int .i64 (wr ((wr (a_c2 * 6364136223846793005)) + 1442695040888963407))]) tk_3 pick0 rfl rfl rfl rfl rfl rfl rfl) ?_
  refine wnt ?_
  refine wc_seq ?_
  refine wc_draw [box b0p [(sl v0a), .int .i64 a_c1, .int .i64 (wr ((wr (a_c2 * 6364136223846793005)) + 1442695040888963407))]] 13 mixed ?_
  refine wa_pure 0 rfl (po_move rfl) (some_cons pick0 some_nil) rfl (by kernel_rfl) (fun _ _ _ h => h) ?_
  refine wa_pure 1 rfl (po_nilCheck rfl) (some_cons pick0 some_nil) rfl (by kernel_rfl) (fun _ _ _ h => h) ?_
  refine wa_pure 2 rfl (po_fld fo_58_2 rfl) (some_cons pick0 some_nil) rfl (by kernel_rfl) (fun _ _ _ h => h) ?_
  refine wa_pure (v := .int .i64 (wr ((wr (a_c2 * 6364136223846793005)) + 1442695040888963407))) 3 rfl (po_load_box tk_3 pick0 rfl rfl) (some_cons pick0 some_nil) rfl (by kernel_rfl) (fun _ _ _ h => h) ?_
  refine wa_pure 4 rfl (po_shr rfl rfl (by decide)) (some_cons pick0 some_nil) rfl (by kernel_rfl) (fun _ _ _ h => h) ?_
  refine wa_pure 5 rfl (po_move rfl) (some_cons pick0 some_nil) rfl (by kernel_rfl) (fun _ _ _ h => h) ?_
  refine wa_pure 6 rfl (po_nilCheck rfl) (some_cons pick0 some_nil) rfl (by kernel_rfl) (fun _ _ _ h => h) ?_
  refine wa_pure 7 rfl (po_fld fo_58_2 rfl) (some_cons pick0 some_nil) rfl (by kernel_rfl) (fun _ _ _ h => h) ?_
  refine wa_pure (v := .int .i64 (wr ((wr (a_c2 * 6364136223846793005)) + 1442695040888963407))) 8 rfl (po_load_box tk_3 pick0 rfl rfl) (some_cons pick0 some_nil) rfl (by kernel_rfl) (fun _ _ _ h => h) ?_
  refine wa_pure 9 rfl (po_shr rfl rfl (by decide)) (some_cons pick0 some_nil) rfl (by kernel_rfl) (fun _ _ _ h => h) ?_
  refine wa_pure 10 rfl (po_xor rfl rfl) (some_cons pick0 some_nil) rfl (by kernel_rfl) (fun _ _ _ h => h) ?_
  refine wa_pure 11 rfl (po_and rfl rfl) (some_cons pick0 some_nil) rfl (by kernel_rfl) (fun _ _ _ h => h) ?_
  refine wa_pure 12 rfl (po_assign rfl) (some_cons pick0 some_nil) rfl (by kernel_rfl) (fun _ _ _ h => h) ?_
  refine wa_done (by kernel_rfl) ?_
  refine wq_then ?_
  refine wc_seq ?_
  refine wc_seq ?_
  refine wc_draw [box b0p [(sl v0a), .int .i64 a_c1, .int .i64 (wr ((wr (a_c2 * 6364136223846793005)) + 1442695040888963407))]] 10 mixed ?_
  refine wa_pure 0 rfl (po_move rfl) (some_cons pick0 some_nil) rfl (by kernel_rfl) (fun _ _ _ h => h) ?_
  refine wa_pure 1 rfl (po_nilCheck rfl) (some_cons pick0 some_nil) rfl (by kernel_rfl) (fun _ _ _ h => h) ?_
  refine wa_pure 2 rfl (po_fld fo_58_1 rfl) (some_cons pick0 some_nil) rfl (by kernel_rfl) (fun _ _ _ h => h) ?_
  refine wa_pure (v := .int .i64 a_c1) 3 rfl (po_load_box tk_3 pick0 rfl rfl) (some_cons pick0 some_nil) rfl (by kernel_rfl) (fun _ _ _ h => h) ?_
  refine wa_pure 4 rfl (po_move rfl) (some_cons pick0 some_nil) rfl (by kernel_rfl) (fun _ _ _ h => h) ?_
  refine wa_pure 5 rfl (po_nilCheck rfl) (some_cons pick0 some_nil) rfl (by kernel_rfl) (fun _ _ _ h => h) ?_
  refine wa_pure 6 rfl (po_fld fo_58_0 rfl) (some_cons pick0 some_nil) rfl (by kernel_rfl) (fun _ _ _ h => h) ?_
  refine wa_pure (v := (sl v0a)) 7 rfl (po_load_box tk_22 pick0 rfl rfl) (some_cons pick0 some_nil) rfl (by kernel_rfl) (fun _ _ _ h => h) ?_
  refine wa_pure 8 rfl (po_lenr (rds_arg r0) el_22 rfl) (some_cons pick0 some_nil) rfl (by kernel_rfl) (fun _ _ _ h => h) ?_
  refine wa_pure 9 rfl (po_lss rfl rfl) (some_cons pick0 some_nil) rfl (by kernel_rfl) (fun _ _ _ h => h) ?_
  refine wa_done (by kernel_rfl) ?_
  refine wq_then ?_
  refine bdO t0 fun y1 t1 t0 => ?_
  refine wj (J := Int × Int) (X := Unit) (fun z => y1 = z) (fun z _ => [(3, .int .i64 z.1)]) (fun z _ => [box b0p [(sl v0a), .int .i64 z.2, .int .i64 (wr ((wr (a_c2 * 6364136223846793005)) + 1442695040888963407))]]) ?_ ?_
  · skip
    refine wcO t1 rfl (fun h1 t1 => ?_) fun h1 t1 => ?_
    · skip
      refine wc_seq ?_
      refine wc_draw [box b0p [(sl v0a), .int .i64 a_c1, .int .i64 (wr ((wr (a_c2 * 6364136223846793005)) + 1442695040888963407))]] 15 mixed ?_
      refine wa_pure 0 rfl (po_move rfl) (some_cons pick0 some_nil) rfl (by kernel_rfl) (fun _ _ _ h => h) ?_
      refine wa_pure 1 rfl (po_move rfl) (some_cons pick0 some_nil) rfl (by kernel_rfl) (fun _ _ _ h => h) ?_
      refine wa_pure 2 rfl (po_nilCheck rfl) (some_cons pick0 some_nil) rfl (by kernel_rfl) (fun _ _ _ h => h) ?_
      refine wa_pure 3 rfl (po_fld fo_58_0 rfl) (some_cons pick0 some_nil) rfl (by kernel_rfl) (fun _ _ _ h => h) ?_
      refine wa_pure (v := (sl v0a)) 4 rfl (po_load_box tk_22 pick0 rfl rfl) (some_cons pick0 some_nil) rfl (by kernel_rfl) (fun _ _ _ h => h) ?_
      refine wa_pure 5 rfl (po_move rfl) (some_cons pick0 some_nil) rfl (by kernel_rfl) (fun _ _ _ h => h) ?_
      refine wa_pure 6 rfl (po_nilCheck rfl) (some_cons pick0 some_nil) rfl (by kernel_rfl) (fun _ _ _ h => h) ?_
      refine wa_pure 7 rfl (po_fld fo_58_1 rfl) (some_cons pick0 some_nil) rfl (by kernel_rfl) (fun _ _ _ h => h) ?_
      refine wa_pure (v := .int .i64 a_c1) 8 rfl (po_load_box tk_3 pick0 rfl rfl) (some_cons pick0 some_nil) rfl (by kernel_rfl) (fun _ _ _ h => h) ?_
      refine gdO t1 fun g1 t1 => ?_
      refine wa_pure 9 rfl (po_ixr (rds_arg r0) el_22 rfl rfl g1.1 g1.2) (some_cons pick0 some_nil) rfl (by kernel_rfl) (fun _ _ _ h => h) ?_
      refine wa_pure (v := .int .u8 ((gx a_c0 ((a_c1).toNat)).toNat : Int)) 10 rfl (po_ldf (rds_arg r0) tk_5 rfl (ix_lt g1) rfl) (some_cons pick0 some_nil) rfl (by kernel_rfl) (fun _ _ _ h => h) ?_
      refine wa_pure 11 rfl (po_u8int isU8_5 isInt_3 rfl) (some_cons pick0 some_nil) rfl (by kernel_rfl) (fun _ _ _ h => h) ?_
      refine wa_pure 12 rfl (po_add rfl rfl) (some_cons pick0 some_nil) rfl (by kernel_rfl) (fun _ _ _ h => h) ?_
      refine wa_pure 13 rfl (po_and rfl rfl) (some_cons pick0 some_nil) rfl (by kernel_rfl) (fun _ _ _ h => h) ?_
      refine wa_pure 14 rfl (po_assign rfl) (some_cons pick0 some_nil) rfl (by kernel_rfl) (fun _ _ _ h => h) ?_
      refine wa_done (by kernel_rfl) ?_
      refine wq_then ?_
      refine wc_region ?_
      refine mv rfl rfl ?_
      refine mv rfl rfl ?_
      refine wl_pure (po_nilCheck rfl) rfl ?_
      refine wl_pure (po_fld fo_58_1 rfl) rfl ?_
      refine wl_pure (v := .int .i64 a_c1) (po_load_box tk_3 pick0 rfl rfl) rfl ?_
      refine wl_pure (po_add rfl rfl) rfl ?_
      refine wl_pure (po_nilCheck rfl) rfl ?_
      refine wl_pure (po_fld fo_58_1 rfl) rfl ?_
      refine wl_skipop (so_box (cs' := [(sl v0a), .int .i64 (wr (a_c1 + 1)), .int .i64 (wr ((wr (a_c2 * 6364136223846793005)) + 1442695040888963407))]) tk_3 pick0 rfl rfl rfl rfl rfl rfl rfl) ?_
      refine wl_nil ?_
      exact wj_meet _ () (mtE t1) (sub_cons rfl sub_nil) (some_cons pick0 some_nil)
    refine wc_skip ?_
    exact wj_meet _ () (mtE t1) (sub_cons rfl sub_nil) (some_cons pick0 some_nil)
  intro j1 _ hp
  obtain rfl : j1 = y1 := hp.symm
  refine wq_then ?_
  refine wcr ?_
  refine mv rfl rfl ?_
  refine asg rfl rfl ?_
  refine wnt ?_
  refine wc_ret ?_
  obtain rfl := Option.some.inj t0
  exact wq_ret1 rfl rfl fun w hw => ⟨(), rfl, hw.weak (some_cons pick0 some_nil)⟩

theorem c_spec_l01Below (w : World) (fp : List Nat) (b0p : Nat) (a_c0 : List UInt8) (v0a : Hd) (r0 : rdF w (dm w fp) (sl v0a) a_c0) (a_c1 : Int) (a_c2 : Int) (a_n : Int) (o : Ow w [box b0p [(sl v0a), .int .i64 a_c1, .int .i64 a_c2]] fp) {r : Int × Int × Int} (t0 : spec_l01Below a_c0 a_c1 a_c2 a_n = some r) : Calls Tryd.prog 33 #[ptr b0p 0, .int .i64 a_n] w fun e w' => ∃ _x : Unit, e = .returned (.int .i64 r.1) ∧ SH w fp [box b0p [(sl v0a), .int .i64 r.2.1, .int .i64 r.2.2]] w' := by
  refine calls_of_wc_own (args := [_, _]) o Tryd.func33 rfl Tryd.ntmps33 rfl ?_
  unfold spec_l01Below at t0
  refine wcr ?_
  refine asg rfl rfl ?_
  refine wnt ?_
  refine wc_seq ?_
  refine wcr ?_
  refine mv rfl rfl ?_
  refine wl_pure (po_leq rfl rfl) rfl ?_
  refine wnt ?_
  refine wcO t0 rfl (fun h1 t0 => ?_) fun h1 t0 => ?_
  · skip
    refine wcr ?_
    refine asg rfl rfl ?_
    refine wnt ?_
    refine wc_ret ?_
    refine wq_then_ret ?_
    obtain rfl := Option.some.inj t0
    exact wq_ret1 rfl rfl fun w hw => ⟨(), rfl, hw.weak (some_cons pick0 some_nil)⟩
  refine wc_skip ?_
  refine wq_then ?_
  refine wc_seq ?_
  refine wcr ?_
  refine mv rfl rfl ?_
  refine wl_pure (po_leq rfl rfl) rfl ?_
  refine wnt ?_
  refine wcO t0 rfl (fun h2 t0 => ?_) fun h2 t0 => ?_
  · skip
    refine wcr ?_
    refine mv rfl rfl ?_
    refine bdO t0 fun v1 hv1 t0 => ?_
    refine wl_call (co_o1 [box b0p [(sl v0a), .int .i64 a_c1, .int .i64 a_c2]] fa_47 (some_cons pick0 some_refl) rfl fun w fp hw => c_spec_l01Byte w fp b0p a_c0 v0a ((rdo_arg r0) w fp hw) a_c1 a_c2 hw.ow hv1) rfl fun _ => ?_
    refine mv rfl rfl ?_
    refine gdO t0 fun g1 t0 => ?_
    refine wl_pure (po_rem rfl rfl g1) rfl ?_
    refine asg rfl rfl ?_
    refine wnt ?_
    refine wc_ret ?_
    refine wq_then_ret ?_
    obtain rfl := Option.some.inj t0
    exact wq_ret1 rfl rfl fun w hw => ⟨(), rfl, hw.weak (some_cons pick0 some_nil)⟩
  refine wc_skip ?_
  refine wq_then ?_
  refine wcr ?_
  refine mv rfl rfl ?_
  refine bdO t0 fun v2 hv2 t0 => ?_
  refine wl_call (co_o1 [box b0p [(sl v0a), .int .i64 a_c1, .int .i64 a_c2]] fa_47 (some_cons pick0 some_refl) rfl fun w fp hw => c_spec_l01Byte w fp b0p a_c0 v0a ((rdo_arg r0) w fp hw) a_c1 a_c2 hw.ow hv2) rfl fun _ => ?_
  refine asg rfl rfl ?_
  refine wnt ?_
  refine wcr ?_
  refine mv rfl rfl ?_
  refine bdO t0 fun v3 hv3 t0 => ?_
  refine wl_call (co_o1 [box b0p [(sl v0a), .int .i64 v2.2.1, .int .i64 v2.2.2]] fa_47 (some_cons pick0 some_refl) rfl fun w fp hw => c_spec_l01Byte w fp b0p a_c0 v0a ((rdo_arg r0) w fp hw) v2.2.1 v2.2.2 hw.ow hv3) rfl fun _ => ?_
  refine asg rfl rfl ?_
  refine wnt ?_
  refine wcr ?_
  refine mv rfl rfl ?_
  refine bdO t0 fun v4 hv4 t0 => ?_
  refine wl_call (co_o1 [box b0p [(sl v0a), .int .i64 v3.2.1, .int .i64 v3.2.2]] fa_47 (some_cons pick0 some_refl) rfl fun w fp hw => c_spec_l01Byte w fp b0p a_c0 v0a ((rdo_arg r0) w fp hw) v3.2.1 v3.2.2 hw.ow hv4) rfl fun _ => ?_
  refine asg rfl rfl ?_
  refine wnt ?_
  refine wcr ?_
  refine mv rfl rfl ?_
  refine bdO t0 fun v5 hv5 t0 => ?_
  refine wl_call (co_o1 [box b0p [(sl v0a), .int .i64 v4.2.1, .int .i64 v4.2.2]] fa_47 (some_cons pick0 some_refl) rfl fun w fp hw => c_spec_l01Byte w fp b0p a_c0 v0a ((rdo_arg r0) w fp hw) v4.2.1 v4.2.2 hw.ow hv5) rfl fun _ => ?_
  refine asg rfl rfl ?_
  refine wnt ?_
  refine wcr ?_
  refine mv rfl rfl ?_
  refine wl_pure (po_mul rfl rfl) rfl ?_
  refine mv rfl rfl ?_
  refine wl_pure (po_mul rfl rfl) rfl ?_
  refine wl_pure (po_add rfl rfl) rfl ?_
  refine mv rfl rfl ?_
  refine wl_pure (po_mul rfl rfl) rfl ?_
  refine wl_pure (po_add rfl rfl) rfl ?_
  refine mv rfl rfl ?_
  refine wl_pure (po_add rfl rfl) rfl ?_
  refine mv rfl rfl ?_
  refine gdO t0 fun g2 t0 => ?_
  refine wl_pure (po_rem rfl rfl g2) rfl ?_
  refine asg rfl rfl ?_
  refine wnt ?_
  refine wc_ret ?_
  obtain rfl := Option.some.inj t0
  exact wq_ret1 rfl rfl fun w hw => ⟨(), rfl, hw.weak (some_cons pick0 some_nil)⟩

theorem c_spec_l01In (w : World) (a_x : Int) (a_least : Int) (a_most : Int) {r : Bool} (t0 : spec_l01In a_x a_least a_most = some r) : Calls Tryd.prog 20 #[.int .i64 a_x, .int .i64 a_least, .int .i64 a_most] w fun e w' => e = .returned (.bool r) ∧ SH w [] [] w' := by
  refine calls_of_wc (args := [_, _, _]) Tryd.func20 rfl Tryd.ntmps20 rfl ?_
  unfold spec_l01In at t0
  refine wcr ?_
  refine asg rfl rfl ?_
  refine wnt ?_
  refine wc_seq ?_
  refine wc_join (X := Unit) (fun _ => True) (fun _ => [(6, .bool ((decide (a_x ≥ a_least)) && (decide (a_x ≤ a_most))))]) (fun _ => []) ?_ ?_
  · skip
    refine wc_region ?_
    refine mv rfl rfl ?_
    refine mv rfl rfl ?_
    refine wl_pure (po_geq rfl rfl) rfl ?_
    refine mv rfl rfl ?_
    refine wl_fork (t := 10) rfl (fun h1 => ?_) fun h1 => ?_
    · skip
      refine wl_guard_on (j := 3) rfl rfl rfl (mv rfl rfl ?_)
      refine wl_guard_on (j := 3) rfl rfl rfl (mv rfl rfl ?_)
      refine wl_guard_on (j := 3) rfl rfl rfl (wl_pure (po_leq rfl rfl) rfl ?_)
      refine wl_pure (po_pick_t rfl rfl) rfl ?_
      refine asg rfl rfl ?_
      refine wl_nil ?_
      exact wq_meet () trivial (sub_b rfl (by rw [h1]; rfl) sub_nil) some_nil
    refine wl_guard_off (j := 3) rfl rfl rfl rfl rfl ?_
    refine wl_guard_off (j := 3) rfl rfl rfl rfl rfl ?_
    refine wl_guard_off (j := 3) rfl rfl rfl rfl rfl ?_
    refine wl_pure (po_pick_f rfl rfl) rfl ?_
    refine asg rfl rfl ?_
    refine wl_nil ?_
    exact wq_meet () trivial (sub_b rfl (by rw [h1]; rfl) sub_nil) some_nil
  intro _ _
  refine wq_then ?_
  refine wc_ret ?_
  obtain rfl := Option.some.inj t0
  exact wq_ret1 rfl rfl fun w hw => ⟨rfl, hw.weak some_nil⟩

theorem c_spec_WholeCell (w : World) (a_a : Int) {r : GCell} (t0 : spec_WholeCell a_a = some r) : Calls Tryd.prog 48 #[.int .i64 a_a] w fun e w' => e = .returned (.agg #[.int .i64 r.Split, .int .i64 r.A, .int .i64 r.B]) ∧ SH w [] [] w' := by
  refine calls_of_wc (args := [_]) Tryd.func48 rfl Tryd.ntmps48 rfl ?_
  unfold spec_WholeCell at t0
  refine wcr ?_
  refine wl_eff (eo_alloc (cs := [.int .i64 0, .int .i64 0, .int .i64 0]) za_49) rfl fun b1 => ?_
  refine wnt ?_
  refine wc_seq ?_
  refine wcr ?_
  refine mv rfl rfl ?_
  refine bdO t0 fun v1 hv1 t0 => ?_
  refine wl_call (co_c0 fa_20 rfl fun w hw => c_spec_l01In w a_a 0 5 hv1) rfl fun _ => ?_
  refine wl_pure (po_not rfl) rfl ?_
  refine wnt ?_
  refine wcO t0 rfl (fun h1 t0 => ?_) fun h1 t0 => ?_
  · skip
    refine wcr ?_
    refine wl_pure (po_build rfl bd_49) rfl ?_
    refine wl_skipop (so_box (cs' := [.int .i64 0, .int .i64 0, .int .i64 0]) tk_49 pick0 rfl rfl rfl rfl rfl rfl rfl) ?_
    refine wnt ?_
    refine wc_ret ?_
    refine wq_then_ret ?_
    obtain rfl := Option.some.inj t0
    exact wq_retc rfl tk_49 rfl pick0 rfl fun w hw => ⟨rfl, hw.weak some_nil⟩
  refine wc_skip ?_
  refine wq_then ?_
  refine wcr ?_
  refine mv rfl rfl ?_
  refine mv rfl rfl ?_
  refine wl_pure (po_build rfl (bd_49_1_2 a_a a_a)) rfl ?_
  refine wl_skipop (so_box (cs' := [.int .i64 0, .int .i64 a_a, .int .i64 a_a]) tk_49 pick0 rfl rfl rfl rfl rfl rfl rfl) ?_
  refine wnt ?_
  refine wc_ret ?_
  obtain rfl := Option.some.inj t0
  exact wq_retc rfl tk_49 rfl pick0 rfl fun w hw => ⟨rfl, hw.weak some_nil⟩

theorem c_spec_StarBlock (w : World)  {r : GBlock} (t0 : spec_StarBlock = some r) : Calls Tryd.prog 34 #[] w fun e w' => ∃ x : Hd, e = .returned (.agg #[.int .i64 r.Size, (sl x)]) ∧ SH w [] [ownF (sl x) r.Cells] w' := by
  refine calls_of_wc (args := []) Tryd.func34 rfl Tryd.ntmps34 rfl ?_
  unfold spec_StarBlock at t0
  refine wcr ?_
  refine wl_eff (eo_alloc (cs := [.int .i64 0, (sl (⟨none, 0, 0⟩ : Hd))]) za_26) rfl fun b1 => ?_
  refine wnt ?_
  refine wcr ?_
  refine bdO t0 fun v1 hv1 t0 => ?_
  refine wl_call (co_c0 fa_48 rfl fun w hw => c_spec_WholeCell w 1 hv1) rfl fun _ => ?_
  refine wl_eff (eo_alloc (cs := [.int .i64 0, .int .i64 0, .int .i64 0]) za_49) rfl fun b2 => ?_
  refine wl_skipop (so_box (cs' := [.int .i64 v1.Split, .int .i64 v1.A, .int .i64 v1.B]) tk_49 pick0 rfl rfl rfl rfl rfl rfl rfl) ?_
  refine wnt ?_
  refine wcr ?_
  refine wl_pure (po_build rfl (bd_49_0_1_2 1 0 1)) rfl ?_
  refine wl_pure (v := .agg #[.int .i64 v1.Split, .int .i64 v1.A, .int .i64 v1.B]) (po_load_boxs tk_49 pick0 rfl rfl rfl) rfl ?_
  refine wl_pure (po_build rfl (bd_49_0_1_2 2 1 0)) rfl ?_
  refine wl_pure (v := .agg #[.int .i64 v1.Split, .int .i64 v1.A, .int .i64 v1.B]) (po_load_boxs tk_49 pick0 rfl rfl rfl) rfl ?_
  refine wl_pure (v := .agg #[.int .i64 v1.Split, .int .i64 v1.A, .int .i64 v1.B]) (po_load_boxs tk_49 pick0 rfl rfl rfl) rfl ?_
  refine wl_pure (v := .agg #[.int .i64 v1.Split, .int .i64 v1.A, .int .i64 v1.B]) (po_load_boxs tk_49 pick0 rfl rfl rfl) rfl ?_
  refine wl_pure (po_build rfl (bd_49_0_1_2 2 0 1)) rfl ?_
  refine wl_pure (v := .agg #[.int .i64 v1.Split, .int .i64 v1.A, .int .i64 v1.B]) (po_load_boxs tk_49 pick0 rfl rfl rfl) rfl ?_
  refine wl_pure (po_build rfl (bd_49_0_1_2 1 1 0)) rfl ?_
  refine wl_eff (eo_buildSlice (qs := [(0, .agg #[.int .i64 1, .int .i64 0, .int .i64 1]), (1, .agg #[.int .i64 v1.Split, .int .i64 v1.A, .int .i64 v1.B]), (2, .agg #[.int .i64 2, .int .i64 1, .int .i64 0]), (3, .agg #[.int .i64 v1.Split, .int .i64 v1.A, .int .i64 v1.B]), (4, .agg #[.int .i64 v1.Split, .int .i64 v1.A, .int .i64 v1.B]), (5, .agg #[.int .i64 v1.Split, .int .i64 v1.A, .int .i64 v1.B]), (6, .agg #[.int .i64 2, .int .i64 0, .int .i64 1]), (7, .agg #[.int .i64 v1.Split, .int .i64 v1.A, .int .i64 v1.B]), (8, .agg #[.int .i64 1, .int .i64 1, .int .i64 0])]) rfl (sb_24_9 1 0 1 v1.Split v1.A v1.B 2 1 0 v1.Split v1.A v1.B v1.Split v1.A v1.B v1.Split v1.A v1.B 2 0 1 v1.Split v1.A v1.B 1 1 0)) rfl fun b3 => ?_
  refine wl_pure (po_build rfl (bd_26_0_1 3 (⟨some ⟨b3, 0, none⟩, 9, 9⟩ : Hd))) rfl ?_
  refine wl_skipop (so_box (cs' := [.int .i64 3, (sl (⟨some ⟨b3, 0, none⟩, 9, 9⟩ : Hd))]) tk_26 (pickS (pickS pick0)) rfl rfl rfl rfl rfl rfl rfl) ?_
  refine wnt ?_
  refine wc_ret ?_
  obtain rfl := Option.some.inj t0
  exact wq_retc rfl tk_26 rfl pick0 rfl fun w hw => ⟨(⟨some ⟨b3, 0, none⟩, 9, 9⟩ : Hd), rfl, hw.weak (some_cons (pick_box_own (pickS pick0) (n := 9) (xs := ([(GCell.mk 1 0 1), v1, (GCell.mk 2 1 0), v1, v1, v1, (GCell.mk 2 0 1), v1, (GCell.mk 1 1 0)] : List GCell)) rfl rfl (by unfold maxLen; omega)) some_nil)⟩

theorem c_spec_PlainBlock (w : World) (a_size : Int) (a_a : Int) {r : GBlock × Bool} (t0 : spec_PlainBlock a_size a_a = some r) : Calls Tryd.prog 35 #[.int .i64 a_size, .int .i64 a_a] w fun e w' => ∃ x : Hd, e = .returned (.tuple #[.agg #[.int .i64 r.1.Size, (sl x)], .bool r.2]) ∧ SH w [] [ownF (sl x) r.1.Cells] w' := by
  refine calls_of_wc (args := [_, _]) Tryd.func35 rfl Tryd.ntmps35 rfl ?_
  unfold spec_PlainBlock at t0
  refine wcr ?_
  refine wl_eff (eo_alloc (cs := [.int .i64 0, (sl (⟨none, 0, 0⟩ : Hd))]) za_26) rfl fun b1 => ?_
  refine asg rfl rfl ?_
  refine wnt ?_
  refine wc_seq ?_
  refine wc_seq ?_
  refine bdO t0 fun y1 t1 t0 => ?_
  refine wj (J := Bool) (X := Unit) (fun z => y1 = z) (fun z _ => [(0, .int .i64 a_size), (1, .int .i64 a_a), (4, ptr b1 0), (15, .bool z)]) (fun _ _ => [box b1 [.int .i64 0, (sl (⟨none, 0, 0⟩ : Hd))]]) ?_ ?_
  · skip
    refine wc_region ?_
    refine mv rfl rfl ?_
    refine bdO t1 fun v1 hv1 t1 => ?_
    refine wl_call (co_c0 fa_20 rfl fun w hw => c_spec_l01In w a_size 1 4 hv1) rfl fun _ => ?_
    refine wl_pure (po_not rfl) rfl ?_
    refine mv rfl rfl ?_
    refine wlO_ (t := 11) t1 rfl (fun h1 t1 => ?_) fun h1 t1 => ?_
    · skip
      refine wl_guard_off (j := 3) rfl rfl rfl rfl rfl ?_
      refine wl_guard_off (j := 3) rfl rfl rfl rfl rfl ?_
      refine wl_guard_off (j := 3) rfl rfl rfl rfl rfl ?_
      refine wl_pure (po_pick_t rfl rfl) rfl ?_
      refine wl_nil ?_
      exact wj_meet _ () (mtE t1) (sub_cons rfl (sub_cons rfl (sub_cons rfl (sub_cons rfl sub_nil)))) (some_cons pick0 some_nil)
    refine wl_guard_on (j := 3) rfl rfl rfl (mv rfl rfl ?_)
    refine bdO t1 fun v2 hv2 t1 => ?_
    refine wl_guard_on (j := 3) rfl rfl rfl (wl_call (co_c0 fa_20 rfl fun w hw => c_spec_l01In w a_a 0 5 hv2) rfl (fun _ => ?_))
    refine wl_guard_on (j := 3) rfl rfl rfl (wl_pure (po_not rfl) rfl ?_)
    refine wl_pure (po_pick_f rfl rfl) rfl ?_
    refine wl_nil ?_
    exact wj_meet _ () (mtE t1) (sub_cons rfl (sub_cons rfl (sub_cons rfl (sub_cons rfl sub_nil)))) (some_cons pick0 some_nil)
  intro j1 _ hp
  obtain rfl : j1 = y1 := hp.symm
  refine wq_then ?_
  refine wcO t0 rfl (fun h2 t0 => ?_) fun h2 t0 => ?_
  · skip
    refine wcr ?_
    refine wl_pure (po_build rfl bd_26) rfl ?_
    refine wl_skipop (so_box (cs' := [.int .i64 0, (sl (⟨none, 0, 0⟩ : Hd))]) tk_26 pick0 rfl rfl rfl rfl rfl rfl rfl) ?_
    refine asg rfl rfl ?_
    refine wnt ?_
    refine wc_ret ?_
    refine wq_then_ret ?_
    obtain rfl := Option.some.inj t0
    exact wq_retc1 rfl tk_26 rfl rfl pick0 rfl fun w hw => ⟨(⟨none, 0, 0⟩ : Hd), rfl, hw.weak (some_cons pick_nil some_nil)⟩
  refine wc_skip ?_
  refine wq_then ?_
  refine wcr ?_
  refine mv rfl rfl ?_
  refine wl_pure (po_build rfl (bd_26_0 a_size)) rfl ?_
  refine wl_eff (eo_alloc (cs := [.int .i64 0, (sl (⟨none, 0, 0⟩ : Hd))]) za_26) rfl fun b2 => ?_
  refine wl_skipop (so_box (cs' := [.int .i64 a_size, (sl (⟨none, 0, 0⟩ : Hd))]) tk_26 pick0 rfl rfl rfl rfl rfl rfl rfl) ?_
  refine wnt ?_
  refine wc_seq ?_
  refine wcr ?_
  refine asg rfl rfl ?_
  refine wnt ?_
  refine gdO t0 fun g1 t0 => ?_
  refine lpO_inv t0 fun y1 l1 t0 => ?_
  refine wj (J := List GCell) (X := Hd) (fun z => y1 = z) (fun _ _ => [(4, ptr b1 0), (6, ptr b2 0)]) (fun z x => [box b2 [.int .i64 a_size, (sl x)], box b1 [.int .i64 0, (sl (⟨none, 0, 0⟩ : Hd))], ownF (sl x) z]) ?_ ?_
  · skip
    refine wc_block ?_
    refine wc_forO (X := Hd) l1 (fun k1 s1 x1l => [(0, .int .i64 a_size), (1, .int .i64 a_a), (4, ptr b1 0), (6, ptr b2 0), (7, .int .i64 ((k1 : Nat) : Int))]) (fun k1 s1 x1l => [box b2 [.int .i64 a_size, (sl x1l)], box b1 [.int .i64 0, (sl (⟨none, 0, 0⟩ : Hd))], ownF (sl x1l) s1]) (⟨none, 0, 0⟩ : Hd) (sub_cons rfl (sub_cons rfl (sub_cons rfl (sub_cons rfl (sub_cons rfl sub_nil))))) (some_cons pick0 (some_cons pick0 (some_cons pick_nil some_nil))) fun k1 s1 x1l hN1 l1 => ?_
    by_cases hk1 : k1 < ((wr (a_size * a_size))).toNat
    · skip
      refine forO_step l1 hk1 fun _ t1 l1 => ?_
      unfold spec_PlainBlock_L1 at t1
      have c1 : (decide (((k1 : Nat) : Int) < (wr (a_size * a_size)))) = true := decide_eq_true (by omega)
      refine wc_seq ?_
      refine wcr ?_
      refine mv rfl rfl ?_
      refine mv rfl rfl ?_
      refine mv rfl rfl ?_
      refine wl_pure (po_mul rfl rfl) rfl ?_
      refine wl_pure (po_lss rfl rfl) rfl ?_
      refine wnt ?_
      refine wc_cond_t rfl c1 ?_
      refine wc_skip ?_
      refine wq_then ?_
      refine wc_seq ?_
      refine wc_block ?_
      refine wc_draw [box b2 [.int .i64 a_size, (sl x1l)], box b1 [.int .i64 0, (sl (⟨none, 0, 0⟩ : Hd))]] 7 mixed ?_
      refine wa_pure 0 rfl (po_fld fo_26_1 rfl) (some_cons pick0 (some_cons pick0 some_nil)) rfl (by kernel_rfl) (fun _ _ _ h => h) ?_
      refine wa_pure (v := (sl x1l)) 1 rfl (po_load_box tk_24 pick0 rfl rfl) (some_cons pick0 (some_cons pick0 some_nil)) rfl (by kernel_rfl) (fun _ _ _ h => h) ?_
      refine wa_pure 2 rfl (po_move rfl) (some_cons pick0 (some_cons pick0 some_nil)) rfl (by kernel_rfl) (fun _ _ _ h => h) ?_
      refine wa_1 (i := 3) (by kernel_rfl) ?_
      refine bdO t1 fun v3 hv3 t1 => ?_
      refine ws_call rfl (co_c0 fa_48 rfl fun w hw => c_spec_WholeCell w a_a hv3) (fun _ => (sts_some (some_cons pick0 (some_cons pick0 some_nil)))) rfl fun _ => ?_
      refine wa_1 (i := 4) (by kernel_rfl) ?_
      refine ws_eff rfl (eo_buildSlice rfl (sb_24_1 v3.Split v3.A v3.B)) (fun _ => (sts_some (some_cons (pickS pick0) (some_cons (pickS pick0) some_nil)))) rfl fun b3 => ?_
      refine wa_1 (i := 5) (by kernel_rfl) ?_
      refine gdO t1 fun g2 t1 => ?_
      refine ws_eff rfl (eo_append (xs := s1) (ys := ([v3] : List GCell)) ak_24 (pickS (pickS (pickS pick0))) rfl rfl (slin_rd fun _ g => Rg.on (rds_own (pick_box_own pick0 (n := 1) (xs := ([v3] : List GCell)) rfl rfl (by unfold maxLen; omega))) g) g2) (fun _ => (sts_some (some_cons (pickS (pickS pick0)) (some_cons (pickS (pickS pick0)) some_nil)))) rfl fun x3 => ?_
      refine wa_pure 6 rfl (po_fld fo_26_1 rfl) (some_cons (pickS (pickS pick0)) (some_cons (pickS (pickS pick0)) some_nil)) rfl (by kernel_rfl) (fun _ _ _ h => h) ?_
      refine wa_1 (i := 7) (by kernel_rfl) ?_
      refine ws_skipop rfl (so_box (cs' := [.int .i64 a_size, (sl x3)]) tk_24 (pickS (pickS pick0)) rfl rfl rfl rfl rfl rfl rfl) (sts_past (by kernel_rfl)) ?_
      refine wa_done (by kernel_rfl) ?_
      refine wq_block ?_
      refine wq_then ?_
      refine wc_region ?_
      refine mv rfl rfl ?_
      refine wl_pure (po_inc rfl rfl (by omega)) rfl ?_
      refine asg rfl rfl ?_
      refine wl_nil ?_
      exact wq_rnd hk1 (stpN l1 t1) x3 (sub_cons rfl (sub_cons rfl (sub_cons rfl (sub_cons rfl (sub_cons rfl sub_nil))))) (some_cons pick0 (some_cons (pickS (pickS pick0)) (some_cons pick0 some_nil)))
    have c1 : (decide (((k1 : Nat) : Int) < (wr (a_size * a_size)))) = false := decide_eq_false (by omega)
    have en1 := forO_end l1 hk1
    refine wc_seq ?_
    refine wcr ?_
    refine mv rfl rfl ?_
    refine mv rfl rfl ?_
    refine mv rfl rfl ?_
    refine wl_pure (po_mul rfl rfl) rfl ?_
    refine wl_pure (po_lss rfl rfl) rfl ?_
    refine wnt ?_
    refine wc_cond_f rfl c1 ?_
    refine wc_exit ?_
    refine wq_then_exit ?_
    refine wq_then_exit ?_
    refine wq_block_exit ?_
    exact wj_meet _ x1l (Sum.inl.inj en1) (sub_cons rfl (sub_cons rfl sub_nil)) (some_cons pick0 (some_cons pick0 (some_cons pick0 some_nil)))
  intro e1 x2 hp
  obtain rfl : e1 = y1 := hp.symm
  refine wq_then ?_
  refine wcr ?_
  refine wl_pure (v := .agg #[.int .i64 a_size, (sl x2)]) (po_load_boxs tk_26 pick0 rfl rfl rfl) rfl ?_
  refine wl_skipop (so_box (cs' := [.int .i64 a_size, (sl x2)]) tk_26 (pickS pick0) rfl rfl rfl rfl rfl rfl rfl) ?_
  refine asg rfl rfl ?_
  refine wnt ?_
  refine wc_ret ?_
  obtain rfl := Option.some.inj t0
  exact wq_retc1 rfl tk_26 rfl rfl pick0 rfl fun w hw => ⟨x2, rfl, hw.weak (some_cons (pickS (pickS pick0)) some_nil)⟩

theorem c_spec_CellOk (w : World) (a_c : GCell) {r : Bool} (t0 : spec_CellOk a_c = some r) : Calls Tryd.prog 37 #[.agg #[.int .i64 a_c.Split, .int .i64 a_c.A, .int .i64 a_c.B]] w fun e w' => e = .returned (.bool r) ∧ SH w [] [] w' := by
  refine calls_of_wc (args := [_]) Tryd.func37 rfl Tryd.ntmps37 rfl ?_
  unfold spec_CellOk at t0
  refine wcr ?_
  refine wl_eff (eo_box rfl rfl) rfl fun b1 => ?_
  refine asg rfl rfl ?_
  refine wnt ?_
  refine wc_seq ?_
  refine wc_seq ?_
  refine bdO t0 fun y1 t1 t0 => ?_
  refine wj (J := Bool) (X := Unit) (fun z => y1 = z) (fun z _ => [(1, ptr b1 0), (18, .bool z)]) (fun _ _ => [box b1 [.int .i64 a_c.Split, .int .i64 a_c.A, .int .i64 a_c.B]]) ?_ ?_
  · skip
    refine wc_region ?_
    refine wl_pure (po_fld fo_49_0 rfl) rfl ?_
    refine wl_pure (v := .int .i64 a_c.Split) (po_load_box tk_3 pick0 rfl rfl) rfl ?_
    refine bdO t1 fun v1 hv1 t1 => ?_
    refine wl_call (co_c0 fa_20 rfl fun w hw => c_spec_l01In w a_c.Split 0 2 hv1) rfl fun _ => ?_
    refine wl_pure (po_not rfl) rfl ?_
    refine mv rfl rfl ?_
    refine wlO_ (t := 7) t1 rfl (fun h1 t1 => ?_) fun h1 t1 => ?_
    · skip
      refine wl_guard_off (j := 4) rfl rfl rfl rfl rfl ?_
      refine wl_guard_off (j := 4) rfl rfl rfl rfl rfl ?_
      refine wl_guard_off (j := 4) rfl rfl rfl rfl rfl ?_
      refine wl_guard_off (j := 4) rfl rfl rfl rfl rfl ?_
      refine wl_pure (po_pick_t rfl rfl) rfl ?_
      refine mv rfl rfl ?_
      refine wl_guard_off (j := 10) rfl rfl rfl rfl rfl ?_
      refine wl_guard_off (j := 10) rfl rfl rfl rfl rfl ?_
      refine wl_guard_off (j := 10) rfl rfl rfl rfl rfl ?_
      refine wl_guard_off (j := 10) rfl rfl rfl rfl rfl ?_
      refine wl_pure (po_pick_t rfl rfl) rfl ?_
      refine wl_nil ?_
      exact wj_meet _ () (mtE t1) (sub_cons rfl (sub_cons rfl sub_nil)) (some_cons pick0 some_nil)
    refine wl_guard_on (j := 4) rfl rfl rfl (wl_pure (po_fld fo_49_1 rfl) rfl ?_)
    refine wl_guard_on (j := 4) rfl rfl rfl (wl_pure (v := .int .i64 a_c.A) (po_load_box tk_3 pick0 rfl rfl) rfl ?_)
    refine bdO t1 fun v2 hv2 t1 => ?_
    refine wl_guard_on (j := 4) rfl rfl rfl (wl_call (co_c0 fa_20 rfl fun w hw => c_spec_l01In w a_c.A 0 5 hv2) rfl (fun _ => ?_))
    refine wl_guard_on (j := 4) rfl rfl rfl (wl_pure (po_not rfl) rfl ?_)
    refine wl_pure (po_pick_f rfl rfl) rfl ?_
    refine mv rfl rfl ?_
    refine wlO_ (t := 13) t1 rfl (fun h2 t1 => ?_) fun h2 t1 => ?_
    · skip
      refine wl_guard_off (j := 10) rfl rfl rfl rfl rfl ?_
      refine wl_guard_off (j := 10) rfl rfl rfl rfl rfl ?_
      refine wl_guard_off (j := 10) rfl rfl rfl rfl rfl ?_
      refine wl_guard_off (j := 10) rfl rfl rfl rfl rfl ?_
      refine wl_pure (po_pick_t rfl rfl) rfl ?_
      refine wl_nil ?_
      exact wj_meet _ () (mtE t1) (sub_cons rfl (sub_cons rfl sub_nil)) (some_cons pick0 some_nil)
    refine wl_guard_on (j := 10) rfl rfl rfl (wl_pure (po_fld fo_49_2 rfl) rfl ?_)
    refine wl_guard_on (j := 10) rfl rfl rfl (wl_pure (v := .int .i64 a_c.B) (po_load_box tk_3 pick0 rfl rfl) rfl ?_)
    refine bdO t1 fun v3 hv3 t1 => ?_
    refine wl_guard_on (j := 10) rfl rfl rfl (wl_call (co_c0 fa_20 rfl fun w hw => c_spec_l01In w a_c.B 0 5 hv3) rfl (fun _ => ?_))
    refine wl_guard_on (j := 10) rfl rfl rfl (wl_pure (po_not rfl) rfl ?_)
    refine wl_pure (po_pick_f rfl rfl) rfl ?_
    refine wl_nil ?_
    exact wj_meet _ () (mtE t1) (sub_cons rfl (sub_cons rfl sub_nil)) (some_cons pick0 some_nil)
  intro j1 _ hp
  obtain rfl : j1 = y1 := hp.symm
  refine wq_then ?_
  refine wcO t0 rfl (fun h3 t0 => ?_) fun h3 t0 => ?_
  · skip
    refine wcr ?_
    refine asg rfl rfl ?_
    refine wnt ?_
    refine wc_ret ?_
    refine wq_then_ret ?_
    obtain rfl := Option.some.inj t0
    exact wq_ret1 rfl rfl fun w hw => ⟨rfl, hw.weak some_nil⟩
  refine wc_skip ?_
  refine wq_then ?_
  refine wcr ?_
  refine wl_pure (po_fld fo_49_0 rfl) rfl ?_
  refine wl_pure (v := .int .i64 a_c.Split) (po_load_box tk_3 pick0 rfl rfl) rfl ?_
  refine wl_pure (po_eql rfl rfl) rfl ?_
  refine wl_pure (po_fld fo_49_1 rfl) rfl ?_
  refine wl_pure (v := .int .i64 a_c.A) (po_load_box tk_3 pick0 rfl rfl) rfl ?_
  refine wl_pure (po_fld fo_49_2 rfl) rfl ?_
  refine wl_pure (v := .int .i64 a_c.B) (po_load_box tk_3 pick0 rfl rfl) rfl ?_
  refine wl_pure (po_eql rfl rfl) rfl ?_
  refine wl_pure (po_eql_bool ub_4 rfl rfl) rfl ?_
  refine asg rfl rfl ?_
  refine wnt ?_
  refine wc_ret ?_
  obtain rfl := Option.some.inj t0
  exact wq_ret1 rfl rfl fun w hw => ⟨rfl, hw.weak some_nil⟩

theorem c_spec_SplitCell (w : World) (a_split : Int) (a_a : Int) (a_b : Int) {r : GCell} (t0 : spec_SplitCell a_split a_a a_b = some r) : Calls Tryd.prog 45 #[.int .i64 a_split, .int .i64 a_a, .int .i64 a_b] w fun e w' => e = .returned (.agg #[.int .i64 r.Split, .int .i64 r.A, .int .i64 r.B]) ∧ SH w [] [] w' := by
  refine calls_of_wc (args := [_, _, _]) Tryd.func45 rfl Tryd.ntmps45 rfl ?_
  unfold spec_SplitCell at t0
  refine wcr ?_
  refine wl_eff (eo_alloc (cs := [.int .i64 0, .int .i64 0, .int .i64 0]) za_49) rfl fun b1 => ?_
  refine wnt ?_
  refine wc_seq ?_
  refine wcr ?_
  refine mv rfl rfl ?_
  refine mv rfl rfl ?_
  refine wl_pure (po_eql rfl rfl) rfl ?_
  refine wnt ?_
  refine wcO t0 rfl (fun h1 t0 => ?_) fun h1 t0 => ?_
  · skip
    refine wcr ?_
    refine mv rfl rfl ?_
    refine bdO t0 fun v1 hv1 t0 => ?_
    refine wl_call (co_c0 fa_48 rfl fun w hw => c_spec_WholeCell w a_a hv1) rfl fun _ => ?_
    refine wl_skipop (so_box (cs' := [.int .i64 v1.Split, .int .i64 v1.A, .int .i64 v1.B]) tk_49 pick0 rfl rfl rfl rfl rfl rfl rfl) ?_
    refine wnt ?_
    refine wc_ret ?_
    refine wq_then_ret ?_
    obtain rfl := Option.some.inj t0
    exact wq_retc rfl tk_49 rfl pick0 rfl fun w hw => ⟨rfl, hw.weak some_nil⟩
  refine wc_skip ?_
  refine wq_then ?_
  refine wcr ?_
  refine mv rfl rfl ?_
  refine mv rfl rfl ?_
  refine mv rfl rfl ?_
  refine wl_pure (po_build rfl (bd_49_0_1_2 a_split a_a a_b)) rfl ?_
  refine wl_eff (eo_alloc (cs := [.int .i64 0, .int .i64 0, .int .i64 0]) za_49) rfl fun b2 => ?_
  refine wl_skipop (so_box (cs' := [.int .i64 a_split, .int .i64 a_a, .int .i64 a_b]) tk_49 pick0 rfl rfl rfl rfl rfl rfl rfl) ?_
  refine wnt ?_
  refine wc_seq ?_
  refine wcr ?_
  refine wl_pure (v := .agg #[.int .i64 a_split, .int .i64 a_a, .int .i64 a_b]) (po_load_boxs tk_49 pick0 rfl rfl rfl) rfl ?_
  refine bdO t0 fun v2 hv2 t0 => ?_
  refine wl_call (co_c0 fa_37 rfl fun w hw => c_spec_CellOk w (GCell.mk a_split a_a a_b) hv2) rfl fun _ => ?_
  refine wl_pure (po_not rfl) rfl ?_
  refine wnt ?_
  refine wcO t0 rfl (fun h2 t0 => ?_) fun h2 t0 => ?_
  · skip
    refine wcr ?_
    refine wl_pure (po_build rfl bd_49) rfl ?_
    refine wl_skipop (so_box (cs' := [.int .i64 0, .int .i64 0, .int .i64 0]) tk_49 (pickS pick0) rfl rfl rfl rfl rfl rfl rfl) ?_
    refine wnt ?_
    refine wc_ret ?_
    refine wq_then_ret ?_
    obtain rfl := Option.some.inj t0
    exact wq_retc rfl tk_49 rfl pick0 rfl fun w hw => ⟨rfl, hw.weak some_nil⟩
  refine wc_skip ?_
  refine wq_then ?_
  refine wcr ?_
  refine wl_pure (v := .agg #[.int .i64 a_split, .int .i64 a_a, .int .i64 a_b]) (po_load_boxs tk_49 pick0 rfl rfl rfl) rfl ?_
  refine wl_skipop (so_box (cs' := [.int .i64 a_split, .int .i64 a_a, .int .i64 a_b]) tk_49 (pickS pick0) rfl rfl rfl rfl rfl rfl rfl) ?_
  refine wnt ?_
  refine wc_ret ?_
  obtain rfl := Option.some.inj t0
  exact wq_retc rfl tk_49 rfl pick0 rfl fun w hw => ⟨rfl, hw.weak some_nil⟩

theorem c_spec_l02Cell (w : World) (fp : List Nat) (b0p : Nat) (a_c0 : List UInt8) (v0a : Hd) (r0 : rdF w (dm w fp) (sl v0a) a_c0) (a_c1 : Int) (a_c2 : Int) (o : Ow w [box b0p [(sl v0a), .int .i64 a_c1, .int .i64 a_c2]] fp) {r : GCell × Int × Int} (t0 : spec_l02Cell a_c0 a_c1 a_c2 = some r) : Calls Tryd.prog 36 #[ptr b0p 0] w fun e w' => ∃ _x : Unit, e = .returned (.agg #[.int .i64 r.1.Split, .int .i64 r.1.A, .int .i64 r.1.B]) ∧ SH w fp [box b0p [(sl v0a), .int .i64 r.2.1, .int .i64 r.2.2]] w' := by
  refine calls_of_wc_own (args := [_]) o Tryd.func36 rfl Tryd.ntmps36 rfl ?_
  unfold spec_l02Cell at t0
  refine wcr ?_
  refine wl_eff (eo_alloc (cs := [.int .i64 0, .int .i64 0, .int .i64 0]) za_49) rfl fun b1 => ?_
  refine wnt ?_
  refine wcr ?_
  refine mv rfl rfl ?_
  refine bdO t0 fun v1 hv1 t0 => ?_
  refine wl_call (co_o1 [box b0p [(sl v0a), .int .i64 a_c1, .int .i64 a_c2]] fa_33 (some_cons (pickS pick0) some_refl) rfl fun w fp hw => c_spec_l01Below w fp b0p a_c0 v0a ((rdo_arg r0) w fp hw) a_c1 a_c2 3 hw.ow hv1) rfl fun _ => ?_
  refine mv rfl rfl ?_
  refine bdO t0 fun v2 hv2 t0 => ?_
  refine wl_call (co_o1 [box b0p [(sl v0a), .int .i64 v1.2.1, .int .i64 v1.2.2]] fa_33 (some_cons pick0 some_refl) rfl fun w fp hw => c_spec_l01Below w fp b0p a_c0 v0a ((rdo_arg r0) w fp hw) v1.2.1 v1.2.2 3 hw.ow hv2) rfl fun _ => ?_
  refine mv rfl rfl ?_
  refine bdO t0 fun v3 hv3 t0 => ?_
  refine wl_call (co_o1 [box b0p [(sl v0a), .int .i64 v2.2.1, .int .i64 v2.2.2]] fa_33 (some_cons pick0 some_refl) rfl fun w fp hw => c_spec_l01Below w fp b0p a_c0 v0a ((rdo_arg r0) w fp hw) v2.2.1 v2.2.2 3 hw.ow hv3) rfl fun _ => ?_
  refine bdO t0 fun v4 hv4 t0 => ?_
  refine wl_call (co_c0 fa_45 rfl fun w hw => c_spec_SplitCell w v1.1 v2.1 v3.1 hv4) rfl fun _ => ?_
  refine wl_skipop (so_box (cs' := [.int .i64 v4.Split, .int .i64 v4.A, .int .i64 v4.B]) tk_49 (pickS pick0) rfl rfl rfl rfl rfl rfl rfl) ?_
  refine wnt ?_
  refine wc_ret ?_
  obtain rfl := Option.some.inj t0
  exact wq_retc rfl tk_49 rfl pick0 rfl fun w hw => ⟨(), rfl, hw.weak (some_cons (pickS pick0) some_nil)⟩

theorem c_spec_l03Block (w : World) (fp : List Nat) (b0p : Nat) (a_c0 : List UInt8) (v0a : Hd) (r0 : rdF w (dm w fp) (sl v0a) a_c0) (a_c1 : Int) (a_c2 : Int) (o : Ow w [box b0p [(sl v0a), .int .i64 a_c1, .int .i64 a_c2]] fp) {r : GBlock × Int × Int} (t0 : spec_l03Block a_c0 a_c1 a_c2 = some r) : Calls Tryd.prog 17 #[ptr b0p 0] w fun e w' => ∃ x : Hd, e = .returned (.agg #[.int .i64 r.1.Size, (sl x)]) ∧ SH w fp [ownF (sl x) r.1.Cells, box b0p [(sl v0a), .int .i64 r.2.1, .int .i64 r.2.2]] w' := by
  refine calls_of_wc_own (args := [_]) o Tryd.func17 rfl Tryd.ntmps17 rfl ?_
  unfold spec_l03Block at t0
  refine wcr ?_
  refine wl_eff (eo_alloc (cs := [.int .i64 0, (sl (⟨none, 0, 0⟩ : Hd))]) za_26) rfl fun b1 => ?_
  refine wnt ?_
  refine wc_seq ?_
  refine wcr ?_
  refine mv rfl rfl ?_
  refine bdO t0 fun v1 hv1 t0 => ?_
  refine wl_call (co_o1 [box b0p [(sl v0a), .int .i64 a_c1, .int .i64 a_c2]] fa_33 (some_cons (pickS pick0) some_refl) rfl fun w fp hw => c_spec_l01Below w fp b0p a_c0 v0a ((rdo_arg r0) w fp hw) a_c1 a_c2 6 hw.ow hv1) rfl fun _ => ?_
  refine wnt ?_
  refine wc_block ?_
  refine wcr ?_
  refine wl_pure (po_eql rfl rfl) rfl ?_
  refine asg rfl rfl ?_
  refine wnt ?_
  refine wcO t0 rfl (fun h1 t0 => ?_) fun h1 t0 => ?_
  · skip
    refine wcr ?_
    refine bdO t0 fun v2 hv2 t0 => ?_
    refine wl_call (co_c1 fa_34 rfl fun w hw => c_spec_StarBlock w hv2) rfl fun x1 => ?_
    refine wl_skipop (so_box (cs' := [.int .i64 v2.Size, (sl x1)]) tk_26 (pickS (pickS pick0)) rfl rfl rfl rfl rfl rfl rfl) ?_
    refine wnt ?_
    refine wc_ret ?_
    refine wq_block_ret ?_
    refine wq_then_ret ?_
    obtain rfl := Option.some.inj t0
    exact wq_retc rfl tk_26 rfl pick0 rfl fun w hw => ⟨x1, rfl, hw.weak (some_cons (pickS pick0) (some_cons (pickS pick0) some_nil))⟩
  refine wcr ?_
  refine wl_pure (po_eql rfl rfl) rfl ?_
  refine asg rfl rfl ?_
  refine wnt ?_
  refine wcO t0 rfl (fun h2 t0 => ?_) fun h2 t0 => ?_
  · skip
    refine wcr ?_
    refine mv rfl rfl ?_
    refine bdO t0 fun v3 hv3 t0 => ?_
    refine wl_call (co_o1 [box b0p [(sl v0a), .int .i64 v1.2.1, .int .i64 v1.2.2]] fa_33 (some_cons pick0 some_refl) rfl fun w fp hw => c_spec_l01Below w fp b0p a_c0 v0a ((rdo_arg r0) w fp hw) v1.2.1 v1.2.2 4 hw.ow hv3) rfl fun _ => ?_
    refine wl_pure (po_add rfl rfl) rfl ?_
    refine mv rfl rfl ?_
    refine bdO t0 fun v4 hv4 t0 => ?_
    refine wl_call (co_o1 [box b0p [(sl v0a), .int .i64 v3.2.1, .int .i64 v3.2.2]] fa_33 (some_cons pick0 some_refl) rfl fun w fp hw => c_spec_l01Below w fp b0p a_c0 v0a ((rdo_arg r0) w fp hw) v3.2.1 v3.2.2 3 hw.ow hv4) rfl fun _ => ?_
    refine bdO t0 fun v5 hv5 t0 => ?_
    refine wl_call (co_c1 fa_35 rfl fun w hw => c_spec_PlainBlock w (wr (1 + v3.1)) v4.1 hv5) rfl fun x2 => ?_
    refine mv rfl rfl ?_
    refine wl_pure (po_extract rfl rfl) rfl ?_
    refine wl_pure (po_extract rfl rfl) rfl ?_
    refine wl_eff (eo_alloc (cs := [.int .i64 0, (sl (⟨none, 0, 0⟩ : Hd))]) za_26) rfl fun b2 => ?_
    refine wl_skipop (so_box (cs' := [.int .i64 v5.1.Size, (sl x2)]) tk_26 pick0 rfl rfl rfl rfl rfl rfl rfl) ?_
    refine asg rfl rfl ?_
    refine wnt ?_
    refine wcr ?_
    refine wl_pure (v := .agg #[.int .i64 v5.1.Size, (sl x2)]) (po_load_boxs tk_26 pick0 rfl rfl rfl) rfl ?_
    refine wl_skipop (so_box (cs' := [.int .i64 v5.1.Size, (sl x2)]) tk_26 (pickS (pickS (pickS pick0))) rfl rfl rfl rfl rfl rfl rfl) ?_
    refine wnt ?_
    refine wc_ret ?_
    refine wq_block_ret ?_
    refine wq_then_ret ?_
    obtain rfl := Option.some.inj t0
    exact wq_retc rfl tk_26 rfl pick0 rfl fun w hw => ⟨x2, rfl, hw.weak (some_cons (pickS (pickS pick0)) (some_cons (pickS (pickS pick0)) some_nil))⟩
  refine wc_skip ?_
  refine wq_block ?_
  refine wq_then ?_
  refine wcr ?_
  refine mv rfl rfl ?_
  refine bdO t0 fun v6 hv6 t0 => ?_
  refine wl_call (co_o1 [box b0p [(sl v0a), .int .i64 v1.2.1, .int .i64 v1.2.2]] fa_33 (some_cons pick0 some_refl) rfl fun w fp hw => c_spec_l01Below w fp b0p a_c0 v0a ((rdo_arg r0) w fp hw) v1.2.1 v1.2.2 4 hw.ow hv6) rfl fun _ => ?_
  refine wl_pure (po_add rfl rfl) rfl ?_
  refine asg rfl rfl ?_
  refine wnt ?_
  refine wcr ?_
  refine mv rfl rfl ?_
  refine wl_pure (po_build rfl (bd_26_0 (wr (1 + v6.1)))) rfl ?_
  refine wl_eff (eo_alloc (cs := [.int .i64 0, (sl (⟨none, 0, 0⟩ : Hd))]) za_26) rfl fun b3 => ?_
  refine wl_skipop (so_box (cs' := [.int .i64 (wr (1 + v6.1)), (sl (⟨none, 0, 0⟩ : Hd))]) tk_26 pick0 rfl rfl rfl rfl rfl rfl rfl) ?_
  refine wnt ?_
  refine wc_seq ?_
  refine wcr ?_
  refine asg rfl rfl ?_
  refine wnt ?_
  refine gdO t0 fun g1 t0 => ?_
  refine lpO_inv t0 fun y1 l1 t0 => ?_
  refine wj (J := (List GCell) × Int × Int) (X := Hd) (fun z => y1 = z) (fun _ _ => [(2, ptr b1 0), (6, ptr b3 0)]) (fun z x => [box b3 [.int .i64 (wr (1 + v6.1)), (sl x)], box b0p [(sl v0a), .int .i64 z.2.1, .int .i64 z.2.2], box b1 [.int .i64 0, (sl (⟨none, 0, 0⟩ : Hd))], ownF (sl x) z.1]) ?_ ?_
  · skip
    refine wc_block ?_
    refine wc_forO (X := Hd) l1 (fun k1 s1 x1l => [(0, ptr b0p 0), (2, ptr b1 0), (5, .int .i64 (wr (1 + v6.1))), (6, ptr b3 0), (7, .int .i64 ((k1 : Nat) : Int))]) (fun k1 s1 x1l => [box b3 [.int .i64 (wr (1 + v6.1)), (sl x1l)], box b0p [(sl v0a), .int .i64 s1.2.1, .int .i64 s1.2.2], box b1 [.int .i64 0, (sl (⟨none, 0, 0⟩ : Hd))], ownF (sl x1l) s1.1]) (⟨none, 0, 0⟩ : Hd) (sub_cons rfl (sub_cons rfl (sub_cons rfl (sub_cons rfl (sub_cons rfl sub_nil))))) (some_cons pick0 (some_cons pick0 (some_cons pick0 (some_cons pick_nil some_nil)))) fun k1 s1 x1l hN1 l1 => ?_
    by_cases hk1 : k1 < ((wr ((wr (1 + v6.1)) * (wr (1 + v6.1))))).toNat
    · skip
      refine forO_step l1 hk1 fun _ t1 l1 => ?_
      unfold spec_l03Block_L1 at t1
      have c1 : (decide (((k1 : Nat) : Int) < (wr ((wr (1 + v6.1)) * (wr (1 + v6.1)))))) = true := decide_eq_true (by omega)
      refine wc_seq ?_
      refine wcr ?_
      refine mv rfl rfl ?_
      refine mv rfl rfl ?_
      refine mv rfl rfl ?_
      refine wl_pure (po_mul rfl rfl) rfl ?_
      refine wl_pure (po_lss rfl rfl) rfl ?_
      refine wnt ?_
      refine wc_cond_t rfl c1 ?_
      refine wc_skip ?_
      refine wq_then ?_
      refine wc_seq ?_
      refine wc_block ?_
      refine wcr ?_
      refine mv rfl rfl ?_
      refine bdO t1 fun v7 hv7 t1 => ?_
      refine wl_call (co_o1 [box b0p [(sl v0a), .int .i64 s1.2.1, .int .i64 s1.2.2]] fa_36 (some_cons (pickS pick0) some_refl) rfl fun w fp hw => c_spec_l02Cell w fp b0p a_c0 v0a ((rdo_arg r0) w fp hw) s1.2.1 s1.2.2 hw.ow hv7) rfl fun _ => ?_
      refine wl_eff (eo_alloc (cs := [.int .i64 0, .int .i64 0, .int .i64 0]) za_49) rfl fun b4 => ?_
      refine wl_skipop (so_box (cs' := [.int .i64 v7.1.Split, .int .i64 v7.1.A, .int .i64 v7.1.B]) tk_49 pick0 rfl rfl rfl rfl rfl rfl rfl) ?_
      refine wnt ?_
      refine wc_region ?_
      refine wl_pure (po_fld fo_26_1 rfl) rfl ?_
      refine wl_pure (v := (sl x1l)) (po_load_box tk_24 (pickS (pickS pick0)) rfl rfl) rfl ?_
      refine wl_pure (v := .agg #[.int .i64 v7.1.Split, .int .i64 v7.1.A, .int .i64 v7.1.B]) (po_load_boxs tk_49 pick0 rfl rfl rfl) rfl ?_
      refine wl_eff (eo_buildSlice rfl (sb_24_1 v7.1.Split v7.1.A v7.1.B)) rfl fun b5 => ?_
      refine gdO t1 fun g2 t1 => ?_
      refine wl_eff (eo_append (xs := s1.1) (ys := ([v7.1] : List GCell)) ak_24 (pickS (pickS (pickS (pickS (pickS pick0))))) rfl rfl (slin_rd fun _ g => Rg.on (rds_own (pick_box_own pick0 (n := 1) (xs := ([v7.1] : List GCell)) rfl rfl (by unfold maxLen; omega))) g) g2) rfl fun x4 => ?_
      refine wl_pure (po_fld fo_26_1 rfl) rfl ?_
      refine wl_skipop (so_box (cs' := [.int .i64 (wr (1 + v6.1)), (sl x4)]) tk_24 (pickS (pickS (pickS (pickS pick0)))) rfl rfl rfl rfl rfl rfl rfl) ?_
      refine wl_nil ?_
      refine wq_block ?_
      refine wq_then ?_
      refine wc_region ?_
      refine mv rfl rfl ?_
      refine wl_pure (po_inc rfl rfl (by omega)) rfl ?_
      refine asg rfl rfl ?_
      refine wl_nil ?_
      exact wq_rnd hk1 (stpN l1 t1) x4 (sub_cons rfl (sub_cons rfl (sub_cons rfl (sub_cons rfl (sub_cons rfl sub_nil))))) (some_cons pick0 (some_cons (pickS (pickS (pickS pick0))) (some_cons (pickS (pickS (pickS pick0))) (some_cons pick0 some_nil))))
    have c1 : (decide (((k1 : Nat) : Int) < (wr ((wr (1 + v6.1)) * (wr (1 + v6.1)))))) = false := decide_eq_false (by omega)
    have en1 := forO_end l1 hk1
    refine wc_seq ?_
    refine wcr ?_
    refine mv rfl rfl ?_
    refine mv rfl rfl ?_
    refine mv rfl rfl ?_
    refine wl_pure (po_mul rfl rfl) rfl ?_
    refine wl_pure (po_lss rfl rfl) rfl ?_
    refine wnt ?_
    refine wc_cond_f rfl c1 ?_
    refine wc_exit ?_
    refine wq_then_exit ?_
    refine wq_then_exit ?_
    refine wq_block_exit ?_
    exact wj_meet _ x1l (Sum.inl.inj en1) (sub_cons rfl (sub_cons rfl sub_nil)) (some_cons pick0 (some_cons pick0 (some_cons pick0 (some_cons pick0 some_nil))))
  intro e1 x3 hp
  obtain rfl : e1 = y1 := hp.symm
  refine wq_then ?_
  refine wcr ?_
  refine wl_pure (v := .agg #[.int .i64 (wr (1 + v6.1)), (sl x3)]) (po_load_boxs tk_26 pick0 rfl rfl rfl) rfl ?_
  refine wl_skipop (so_box (cs' := [.int .i64 (wr (1 + v6.1)), (sl x3)]) tk_26 (pickS (pickS pick0)) rfl rfl rfl rfl rfl rfl rfl) ?_
  refine wnt ?_
  refine wc_ret ?_
  obtain rfl := Option.some.inj t0
  exact wq_retc rfl tk_26 rfl pick0 rfl fun w hw => ⟨x3, rfl, hw.weak (some_cons (pickS (pickS (pickS pick0))) (some_cons (pickS (pickS pick0)) some_nil))⟩

theorem c_spec_DrawBlock (w : World) (a_code : List UInt8) (v0a : Hd) (r0 : rdF w (dm w []) (sl v0a) a_code) {r : GBlock} (t0 : spec_DrawBlock a_code = some r) : Calls Tryd.prog 5 #[(sl v0a)] w fun e w' => ∃ x : Hd, e = .returned (.agg #[.int .i64 r.Size, (sl x)]) ∧ SH w [] [ownF (sl x) r.Cells] w' := by
  refine calls_of_wc (args := [_]) Tryd.func5 rfl Tryd.ntmps5 rfl ?_
  unfold spec_DrawBlock at t0
  refine wcr ?_
  refine wl_eff (eo_alloc (cs := [.int .i64 0, (sl (⟨none, 0, 0⟩ : Hd))]) za_26) rfl fun b1 => ?_
  refine wnt ?_
  refine wcr ?_
  refine mv rfl rfl ?_
  refine bdO t0 fun v1 hv1 t0 => ?_
  refine wl_call (co_c1 fa_18 rfl fun w hw => c_spec_l01New w a_code v0a (Rg.on (rds_arg r0) hw) hv1) rfl fun x1 => ?_
  refine bdO t0 fun v2 hv2 t0 => ?_
  refine wl_call (co_o2 [box x1 [(sl v0a), .int .i64 v1.1, .int .i64 v1.2]] fa_17 (some_cons pick0 some_refl) rfl fun w fp hw => c_spec_l03Block w fp x1 a_code v0a ((rdo_arg r0) w fp hw) v1.1 v1.2 hw.ow hv2) rfl fun x2 => ?_
  refine wl_skipop (so_box (cs' := [.int .i64 v2.1.Size, (sl x2)]) tk_26 (pickS (pickS pick0)) rfl rfl rfl rfl rfl rfl rfl) ?_
  refine wnt ?_
  refine wc_ret ?_
  obtain rfl := Option.some.inj t0
  exact wq_retc rfl tk_26 rfl pick0 rfl fun w hw => ⟨x2, rfl, hw.weak (some_cons (pickS pick0) some_nil)⟩

theorem c_laws_at (w : World) (a_code : List UInt8) (v0a : Hd) (r0 : rdF w (dm w []) (sl v0a) a_code) (a_i : Int) {r : Int} (t0 : laws_at a_code a_i = some r) : Calls Tryd.prog 6 #[(sl v0a), .int .i64 a_i] w fun e w' => e = .returned (.int .i64 r) ∧ SH w [] [] w' := by
  refine calls_of_wc (args := [_, _]) Tryd.func6 rfl Tryd.ntmps6 rfl ?_
  unfold laws_at at t0
  refine wcr ?_
  refine asg rfl rfl ?_
  refine wnt ?_
  refine wc_seq ?_
  refine wcr ?_
  refine mv rfl rfl ?_
  refine wl_pure (po_lenr (rds_arg r0) el_22 rfl) rfl ?_
  refine wl_pure (po_eql rfl rfl) rfl ?_
  refine wnt ?_
  refine wcO t0 rfl (fun h1 t0 => ?_) fun h1 t0 => ?_
  · skip
    refine wcr ?_
    refine asg rfl rfl ?_
    refine wnt ?_
    refine wc_ret ?_
    refine wq_then_ret ?_
    obtain rfl := Option.some.inj t0
    exact wq_ret1 rfl rfl fun w hw => ⟨rfl, hw.weak some_nil⟩
  refine wc_skip ?_
  refine wq_then ?_
  refine wcr ?_
  refine mv rfl rfl ?_
  refine mv rfl rfl ?_
  refine wl_pure (po_mul rfl rfl) rfl ?_
  refine wl_pure (po_add rfl rfl) rfl ?_
  refine mv rfl rfl ?_
  refine wl_pure (po_lenr (rds_arg r0) el_22 rfl) rfl ?_
  refine gdO t0 fun g1 t0 => ?_
  refine wl_pure (po_rem rfl rfl g1) rfl ?_
  refine gdO t0 fun g2 t0 => ?_
  refine wl_pure (po_ixr (rds_arg r0) el_22 rfl rfl g2.1 g2.2) rfl ?_
  refine wl_pure (v := .int .u8 ((gx a_code ((((wr ((wr (a_i * 5)) + 1)).tmod ((a_code.length : Nat) : Int))).toNat)).toNat : Int)) (po_ldf (rds_arg r0) tk_5 rfl (ix_lt g2) rfl) rfl ?_
  refine wl_pure (po_u8int isU8_5 isInt_3 rfl) rfl ?_
  refine asg rfl rfl ?_
  refine wnt ?_
  refine wc_ret ?_
  obtain rfl := Option.some.inj t0
  exact wq_ret1 rfl rfl fun w hw => ⟨rfl, hw.weak some_nil⟩

theorem c_spec_BlockOk (w : World) (a_b : GBlock) (v0a : Hd) (r0 : rdF w (dm w []) (sl v0a) a_b.Cells) {r : Bool} (t0 : spec_BlockOk a_b = some r) : Calls Tryd.prog 19 #[.agg #[.int .i64 a_b.Size, (sl v0a)]] w fun e w' => e = .returned (.bool r) ∧ SH w [] [] w' := by
  refine calls_of_wc (args := [_]) Tryd.func19 rfl Tryd.ntmps19 rfl ?_
  unfold spec_BlockOk at t0
  refine wcr ?_
  refine wl_eff (eo_box rfl rfl) rfl fun b1 => ?_
  refine asg rfl rfl ?_
  refine wnt ?_
  refine wc_seq ?_
  refine wc_seq ?_
  refine bdO t0 fun y1 t1 t0 => ?_
  refine wj (J := Bool) (X := Unit) (fun z => y1 = z) (fun z _ => [(1, ptr b1 0), (18, .bool z)]) (fun _ _ => [box b1 [.int .i64 a_b.Size, (sl v0a)]]) ?_ ?_
  · skip
    refine wc_region ?_
    refine wl_pure (po_fld fo_26_0 rfl) rfl ?_
    refine wl_pure (v := .int .i64 a_b.Size) (po_load_box tk_3 pick0 rfl rfl) rfl ?_
    refine bdO t1 fun v1 hv1 t1 => ?_
    refine wl_call (co_c0 fa_20 rfl fun w hw => c_spec_l01In w a_b.Size 1 4 hv1) rfl fun _ => ?_
    refine wl_pure (po_not rfl) rfl ?_
    refine mv rfl rfl ?_
    refine wlO_ (t := 8) t1 rfl (fun h1 t1 => ?_) fun h1 t1 => ?_
    · skip
      refine wl_guard_off (j := 4) rfl rfl rfl rfl rfl ?_
      refine wl_guard_off (j := 4) rfl rfl rfl rfl rfl ?_
      refine wl_guard_off (j := 4) rfl rfl rfl rfl rfl ?_
      refine wl_guard_off (j := 4) rfl rfl rfl rfl rfl ?_
      refine wl_guard_off (j := 4) rfl rfl rfl rfl rfl ?_
      refine wl_guard_off (j := 4) rfl rfl rfl rfl rfl ?_
      refine wl_guard_off (j := 4) rfl rfl rfl rfl rfl ?_
      refine wl_guard_off (j := 4) rfl rfl rfl rfl rfl ?_
      refine wl_guard_off (j := 4) rfl rfl rfl rfl rfl ?_
      refine wl_pure (po_pick_t rfl rfl) rfl ?_
      refine wl_nil ?_
      exact wj_meet _ () (mtE t1) (sub_cons rfl (sub_cons rfl sub_nil)) (some_cons pick0 some_nil)
    refine wl_guard_on (j := 4) rfl rfl rfl (wl_pure (po_fld fo_26_1 rfl) rfl ?_)
    refine wl_guard_on (j := 4) rfl rfl rfl (wl_pure (v := (sl v0a)) (po_load_box tk_24 pick0 rfl rfl) rfl ?_)
    refine wl_guard_on (j := 4) rfl rfl rfl (wl_pure (po_lenr (rds_arg r0) el_24 rfl) rfl ?_)
    refine wl_guard_on (j := 4) rfl rfl rfl (wl_pure (po_fld fo_26_0 rfl) rfl ?_)
    refine wl_guard_on (j := 4) rfl rfl rfl (wl_pure (v := .int .i64 a_b.Size) (po_load_box tk_3 pick0 rfl rfl) rfl ?_)
    refine wl_guard_on (j := 4) rfl rfl rfl (wl_pure (po_fld fo_26_0 rfl) rfl ?_)
    refine wl_guard_on (j := 4) rfl rfl rfl (wl_pure (v := .int .i64 a_b.Size) (po_load_box tk_3 pick0 rfl rfl) rfl ?_)
    refine wl_guard_on (j := 4) rfl rfl rfl (wl_pure (po_mul rfl rfl) rfl ?_)
    refine wl_guard_on (j := 4) rfl rfl rfl (wl_pure (po_neq rfl rfl) rfl ?_)
    refine wl_pure (po_pick_f rfl rfl) rfl ?_
    refine wl_nil ?_
    exact wj_meet _ () (mtE t1) (sub_cons rfl (sub_cons rfl sub_nil)) (some_cons pick0 some_nil)
  intro j1 _ hp
  obtain rfl : j1 = y1 := hp.symm
  refine wq_then ?_
  refine wcO t0 rfl (fun h2 t0 => ?_) fun h2 t0 => ?_
  · skip
    refine wcr ?_
    refine asg rfl rfl ?_
    refine wnt ?_
    refine wc_ret ?_
    refine wq_then_ret ?_
    obtain rfl := Option.some.inj t0
    exact wq_ret1 rfl rfl fun w hw => ⟨rfl, hw.weak some_nil⟩
  refine wc_skip ?_
  refine wq_then ?_
  refine wc_seq ?_
  refine wcr ?_
  refine asg rfl rfl ?_
  refine wnt ?_
  refine gdO t0 fun g1 t0 => ?_
  refine sqO t0 fun y1 l1 t0 => ?_
  refine wj (J := Unit) (X := Unit) (fun z => y1 = .inl z) (fun _ _ => []) (fun _ _ => []) ?_ ?_
  · skip
    refine wc_block ?_
    refine wc_forO (X := Unit) l1 (fun k1 s1 x1l => [(1, ptr b1 0), (3, .int .i64 ((k1 : Nat) : Int))]) (fun k1 s1 x1l => [box b1 [.int .i64 a_b.Size, (sl v0a)]]) () (sub_cons rfl (sub_cons rfl sub_nil)) (some_cons pick0 some_nil) fun k1 s1 x1l hN1 l1 => ?_
    by_cases hk1 : k1 < a_b.Cells.length
    · skip
      refine forO_step l1 hk1 fun _ t1 l1 => ?_
      unfold spec_BlockOk_L1 at t1
      have c1 : (decide (((k1 : Nat) : Int) < ((a_b.Cells.length : Nat) : Int))) = true := decide_eq_true (by omega)
      refine wc_seq ?_
      refine wcr ?_
      refine mv rfl rfl ?_
      refine wl_pure (po_fld fo_26_1 rfl) rfl ?_
      refine wl_pure (v := (sl v0a)) (po_load_box tk_24 pick0 rfl rfl) rfl ?_
      refine wl_pure (po_lenr (rds_arg r0) el_24 rfl) rfl ?_
      refine wl_pure (po_lss rfl rfl) rfl ?_
      refine wnt ?_
      refine wc_cond_t rfl c1 ?_
      refine wc_skip ?_
      refine wq_then ?_
      refine wc_seq ?_
      refine wc_block ?_
      refine wcr ?_
      refine wl_pure (po_fld fo_26_1 rfl) rfl ?_
      refine wl_pure (v := (sl v0a)) (po_load_box tk_24 pick0 rfl rfl) rfl ?_
      refine mv rfl rfl ?_
      refine wl_pure (po_ixn (k := k1) (rds_arg r0) el_24 rfl rfl hk1) rfl ?_
      refine wl_pure (v := .agg #[.int .i64 ((gx a_b.Cells k1).Split), .int .i64 ((gx a_b.Cells k1).A), .int .i64 ((gx a_b.Cells k1).B)]) (po_ldfs (rds_arg r0) tk_49 rfl hk1 rfl rfl rfl) rfl ?_
      refine bdO t1 fun v2 hv2 t1 => ?_
      refine wl_call (co_c0 fa_37 rfl fun w hw => c_spec_CellOk w (gx a_b.Cells k1) hv2) rfl fun _ => ?_
      refine wl_pure (po_not rfl) rfl ?_
      refine wnt ?_
      refine wcO t1 rfl (fun h3 t1 => ?_) fun h3 t1 => ?_
      · skip
        refine wcr ?_
        refine asg rfl rfl ?_
        refine wnt ?_
        refine wc_ret ?_
        refine wq_block_ret ?_
        refine wq_then_ret ?_
        refine wq_then_ret ?_
        refine wq_block_ret ?_
        refine wq_then_ret ?_
        refine wq_then_ret ?_
        replace t0 := lpR t0 l1 t1
        obtain rfl := Option.some.inj t0
        exact wq_ret1 rfl rfl fun w hw => ⟨rfl, hw.weak some_nil⟩
      refine wc_skip ?_
      refine wq_block ?_
      refine wq_then ?_
      refine wc_region ?_
      refine mv rfl rfl ?_
      refine wl_pure (po_inc rfl rfl (by omega)) rfl ?_
      refine asg rfl rfl ?_
      refine wl_nil ?_
      exact wq_rnd hk1 (stpN l1 t1) () (sub_cons rfl (sub_cons rfl sub_nil)) (some_cons pick0 some_nil)
    have c1 : (decide (((k1 : Nat) : Int) < ((a_b.Cells.length : Nat) : Int))) = false := decide_eq_false (by omega)
    have en1 := forO_end l1 hk1
    refine wc_seq ?_
    refine wcr ?_
    refine mv rfl rfl ?_
    refine wl_pure (po_fld fo_26_1 rfl) rfl ?_
    refine wl_pure (v := (sl v0a)) (po_load_box tk_24 pick0 rfl rfl) rfl ?_
    refine wl_pure (po_lenr (rds_arg r0) el_24 rfl) rfl ?_
    refine wl_pure (po_lss rfl rfl) rfl ?_
    refine wnt ?_
    refine wc_cond_f rfl c1 ?_
    refine wc_exit ?_
    refine wq_then_exit ?_
    refine wq_then_exit ?_
    refine wq_block_exit ?_
    exact wj_meet _ () en1 sub_nil some_nil
  intro e1 _ hp
  replace t0 := sqE (j := e1) t0 hp
  refine wq_then ?_
  refine wcr ?_
  refine asg rfl rfl ?_
  refine wnt ?_
  refine wc_ret ?_
  obtain rfl := Option.some.inj t0
  exact wq_ret1 rfl rfl fun w hw => ⟨rfl, hw.weak some_nil⟩

theorem c_spec_l03Copy (w : World) (a_b : GBlock) (v0a : Hd) (r0 : rdF w (dm w []) (sl v0a) a_b.Cells) {r : GBlock} (t0 : spec_l03Copy a_b = some r) : Calls Tryd.prog 21 #[.agg #[.int .i64 a_b.Size, (sl v0a)]] w fun e w' => ∃ x : Hd, e = .returned (.agg #[.int .i64 r.Size, (sl x)]) ∧ SH w [] [ownF (sl x) r.Cells] w' := by
  refine calls_of_wc (args := [_]) Tryd.func21 rfl Tryd.ntmps21 rfl ?_
  unfold spec_l03Copy at t0
  refine wcr ?_
  refine wl_eff (eo_box rfl rfl) rfl fun b1 => ?_
  refine wl_eff (eo_alloc (cs := [.int .i64 0, (sl (⟨none, 0, 0⟩ : Hd))]) za_26) rfl fun b2 => ?_
  refine wnt ?_
  refine wc_seq ?_
  refine wc_draw [box b2 [.int .i64 0, (sl (⟨none, 0, 0⟩ : Hd))], box b1 [.int .i64 a_b.Size, (sl v0a)]] 7 mixed ?_
  refine wa_pure 0 rfl (po_fld fo_26_0 rfl) (some_cons pick0 (some_cons pick0 some_nil)) rfl (by kernel_rfl) (fun _ _ _ h => h) ?_
  refine wa_pure (v := .int .i64 a_b.Size) 1 rfl (po_load_box tk_3 (pickS pick0) rfl rfl) (some_cons pick0 (some_cons pick0 some_nil)) rfl (by kernel_rfl) (fun _ _ _ h => h) ?_
  refine wa_pure 3 rfl (po_fld fo_26_1 rfl) (some_cons pick0 (some_cons pick0 some_nil)) rfl (by kernel_rfl) (fun _ _ _ h => h) ?_
  refine wa_pure (v := (sl v0a)) 4 rfl (po_load_box tk_24 (pickS pick0) rfl rfl) (some_cons pick0 (some_cons pick0 some_nil)) rfl (by kernel_rfl) (fun _ _ _ h => h) ?_
  refine wa_1 (i := 2) (by kernel_rfl) ?_
  refine ws_eff rfl (eo_buildSlice rfl sb_24_0) (fun _ => (sts_some (some_cons (pickS pick0) (some_cons (pickS pick0) some_nil)))) rfl fun b3 => ?_
  refine wa_1 (i := 5) (by kernel_rfl) ?_
  refine gdO t0 fun g1 t0 => ?_
  refine ws_eff rfl (eo_append (xs := ([] : List GCell)) (ys := a_b.Cells) ak_24 (pick_box_own pick0 (n := 0) (xs := ([] : List GCell)) rfl rfl (by unfold maxLen; omega)) rfl rfl (slin_rd fun _ g => Rg.on (rds_arg r0) g) g1) (fun _ => (sts_some (some_cons (pickS pick0) (some_cons (pickS pick0) some_nil)))) rfl fun x1 => ?_
  refine wa_pure 6 rfl (po_build rfl (bd_26_0_1 a_b.Size x1)) (some_cons (pickS pick0) (some_cons (pickS pick0) some_nil)) rfl (by kernel_rfl) (fun _ _ _ h => h) ?_
  refine wa_1 (i := 7) (by kernel_rfl) ?_
  refine ws_skipop rfl (so_box (cs' := [.int .i64 a_b.Size, (sl x1)]) tk_26 (pickS pick0) rfl rfl rfl rfl rfl rfl rfl) (sts_past (by kernel_rfl)) ?_
  refine wa_done (by kernel_rfl) ?_
  refine wq_then ?_
  refine wc_ret ?_
  obtain rfl := Option.some.inj t0
  exact wq_retc rfl tk_26 rfl pick0 rfl fun w hw => ⟨x1, rfl, hw.weak (some_cons (pickS pick0) some_nil)⟩

theorem c_spec_MirrorCell (w : World) (a_c : GCell) {r : GCell} (t0 : spec_MirrorCell a_c = some r) : Calls Tryd.prog 38 #[.agg #[.int .i64 a_c.Split, .int .i64 a_c.A, .int .i64 a_c.B]] w fun e w' => e = .returned (.agg #[.int .i64 r.Split, .int .i64 r.A, .int .i64 r.B]) ∧ SH w [] [] w' := by
  refine calls_of_wc (args := [_]) Tryd.func38 rfl Tryd.ntmps38 rfl ?_
  unfold spec_MirrorCell at t0
  refine wcr ?_
  refine wl_eff (eo_box rfl rfl) rfl fun b1 => ?_
  refine wl_eff (eo_alloc (cs := [.int .i64 0, .int .i64 0, .int .i64 0]) za_49) rfl fun b2 => ?_
  refine wnt ?_
  refine wc_seq ?_
  refine wcr ?_
  refine wl_pure (v := .agg #[.int .i64 a_c.Split, .int .i64 a_c.A, .int .i64 a_c.B]) (po_load_boxs tk_49 (pickS pick0) rfl rfl rfl) rfl ?_
  refine bdO t0 fun v1 hv1 t0 => ?_
  refine wl_call (co_c0 fa_37 rfl fun w hw => c_spec_CellOk w a_c hv1) rfl fun _ => ?_
  refine wl_pure (po_not rfl) rfl ?_
  refine wnt ?_
  refine wcO t0 rfl (fun h1 t0 => ?_) fun h1 t0 => ?_
  · skip
    refine wcr ?_
    refine wl_pure (po_build rfl bd_49) rfl ?_
    refine wl_skipop (so_box (cs' := [.int .i64 0, .int .i64 0, .int .i64 0]) tk_49 pick0 rfl rfl rfl rfl rfl rfl rfl) ?_
    refine wnt ?_
    refine wc_ret ?_
    refine wq_then_ret ?_
    obtain rfl := Option.some.inj t0
    exact wq_retc rfl tk_49 rfl pick0 rfl fun w hw => ⟨rfl, hw.weak some_nil⟩
  refine wc_skip ?_
  refine wq_then ?_
  refine wc_seq ?_
  refine wcr ?_
  refine wl_pure (po_fld fo_49_0 rfl) rfl ?_
  refine wl_pure (v := .int .i64 a_c.Split) (po_load_box tk_3 (pickS pick0) rfl rfl) rfl ?_
  refine wl_pure (po_eql rfl rfl) rfl ?_
  refine wnt ?_
  refine wcO t0 rfl (fun h2 t0 => ?_) fun h2 t0 => ?_
  · skip
    refine wcr ?_
    refine wl_pure (v := .agg #[.int .i64 a_c.Split, .int .i64 a_c.A, .int .i64 a_c.B]) (po_load_boxs tk_49 (pickS pick0) rfl rfl rfl) rfl ?_
    refine wl_skipop (so_box (cs' := [.int .i64 a_c.Split, .int .i64 a_c.A, .int .i64 a_c.B]) tk_49 pick0 rfl rfl rfl rfl rfl rfl rfl) ?_
    refine wnt ?_
    refine wc_ret ?_
    refine wq_then_ret ?_
    obtain rfl := Option.some.inj t0
    exact wq_retc rfl tk_49 rfl pick0 rfl fun w hw => ⟨rfl, hw.weak some_nil⟩
  refine wc_skip ?_
  refine wq_then ?_
  refine wcr ?_
  refine wl_pure (po_fld fo_49_0 rfl) rfl ?_
  refine wl_pure (v := .int .i64 a_c.Split) (po_load_box tk_3 (pickS pick0) rfl rfl) rfl ?_
  refine wl_pure (po_sub rfl rfl) rfl ?_
  refine wl_pure (po_fld fo_49_2 rfl) rfl ?_
  refine wl_pure (v := .int .i64 a_c.B) (po_load_box tk_3 (pickS pick0) rfl rfl) rfl ?_
  refine wl_pure (po_fld fo_49_1 rfl) rfl ?_
  refine wl_pure (v := .int .i64 a_c.A) (po_load_box tk_3 (pickS pick0) rfl rfl) rfl ?_
  refine wl_pure (po_build rfl (bd_49_0_1_2 (wr (3 - a_c.Split)) a_c.B a_c.A)) rfl ?_
  refine wl_skipop (so_box (cs' := [.int .i64 (wr (3 - a_c.Split)), .int .i64 a_c.B, .int .i64 a_c.A]) tk_49 pick0 rfl rfl rfl rfl rfl rfl rfl) ?_
  refine wnt ?_
  refine wc_ret ?_
  obtain rfl := Option.some.inj t0
  exact wq_retc rfl tk_49 rfl pick0 rfl fun w hw => ⟨rfl, hw.weak some_nil⟩

theorem c_spec_MirrorBlock (w : World) (a_b : GBlock) (v0a : Hd) (r0 : rdF w (dm w []) (sl v0a) a_b.Cells) {r : GBlock} (t0 : spec_MirrorBlock a_b = some r) : Calls Tryd.prog 22 #[.agg #[.int .i64 a_b.Size, (sl v0a)]] w fun e w' => ∃ x : Hd, e = .returned (.agg #[.int .i64 r.Size, (sl x)]) ∧ SH w [] [ownF (sl x) r.Cells] w' := by
  refine calls_of_wc (args := [_]) Tryd.func22 rfl Tryd.ntmps22 rfl ?_
  unfold spec_MirrorBlock at t0
  refine wcr ?_
  refine wl_eff (eo_box rfl rfl) rfl fun b1 => ?_
  refine wl_eff (eo_alloc (cs := [.int .i64 0, (sl (⟨none, 0, 0⟩ : Hd))]) za_26) rfl fun b2 => ?_
  refine wnt ?_
  refine wc_seq ?_
  refine wcr ?_
  refine wl_pure (v := .agg #[.int .i64 a_b.Size, (sl v0a)]) (po_load_boxs tk_26 (pickS pick0) rfl rfl rfl) rfl ?_
  refine bdO t0 fun v1 hv1 t0 => ?_
  refine wl_call (co_c0 fa_19 rfl fun w hw => c_spec_BlockOk w a_b v0a (Rg.on (rds_arg r0) hw) hv1) rfl fun _ => ?_
  refine wl_pure (po_not rfl) rfl ?_
  refine wnt ?_
  refine wcO t0 rfl (fun h1 t0 => ?_) fun h1 t0 => ?_
  · skip
    refine wcr ?_
    refine wl_pure (po_build rfl bd_26) rfl ?_
    refine wl_skipop (so_box (cs' := [.int .i64 0, (sl (⟨none, 0, 0⟩ : Hd))]) tk_26 pick0 rfl rfl rfl rfl rfl rfl rfl) ?_
    refine wnt ?_
    refine wc_ret ?_
    refine wq_then_ret ?_
    obtain rfl := Option.some.inj t0
    exact wq_retc rfl tk_26 rfl pick0 rfl fun w hw => ⟨(⟨none, 0, 0⟩ : Hd), rfl, hw.weak (some_cons pick_nil some_nil)⟩
  refine wc_skip ?_
  refine wq_then ?_
  refine wcr ?_
  refine wl_pure (po_fld fo_26_0 rfl) rfl ?_
  refine wl_pure (v := .int .i64 a_b.Size) (po_load_box tk_3 (pickS pick0) rfl rfl) rfl ?_
  refine wl_pure (po_build rfl (bd_26_0 a_b.Size)) rfl ?_
  refine wl_eff (eo_alloc (cs := [.int .i64 0, (sl (⟨none, 0, 0⟩ : Hd))]) za_26) rfl fun b3 => ?_
  refine wl_skipop (so_box (cs' := [.int .i64 a_b.Size, (sl (⟨none, 0, 0⟩ : Hd))]) tk_26 pick0 rfl rfl rfl rfl rfl rfl rfl) ?_
  refine wnt ?_
  refine wc_seq ?_
  refine wcr ?_
  refine asg rfl rfl ?_
  refine wnt ?_
  refine gdO t0 fun g1 t0 => ?_
  refine lpO_inv t0 fun y1 l1 t0 => ?_
  refine wj (J := List GCell) (X := Hd) (fun z => y1 = z) (fun _ _ => [(2, ptr b2 0), (3, ptr b3 0)]) (fun z x => [box b3 [.int .i64 a_b.Size, (sl x)], box b2 [.int .i64 0, (sl (⟨none, 0, 0⟩ : Hd))], ownF (sl x) z]) ?_ ?_
  · skip
    refine wc_block ?_
    refine wc_forO (X := Hd) l1 (fun k1 s1 x1l => [(1, ptr b1 0), (2, ptr b2 0), (3, ptr b3 0), (4, .int .i64 ((k1 : Nat) : Int))]) (fun k1 s1 x1l => [box b3 [.int .i64 a_b.Size, (sl x1l)], box b2 [.int .i64 0, (sl (⟨none, 0, 0⟩ : Hd))], box b1 [.int .i64 a_b.Size, (sl v0a)], ownF (sl x1l) s1]) (⟨none, 0, 0⟩ : Hd) (sub_cons rfl (sub_cons rfl (sub_cons rfl (sub_cons rfl sub_nil)))) (some_cons pick0 (some_cons pick0 (some_cons pick0 (some_cons pick_nil some_nil)))) fun k1 s1 x1l hN1 l1 => ?_
    by_cases hk1 : k1 < (a_b.Size).toNat
    · skip
      refine forO_step l1 hk1 fun _ t1 l1 => ?_
      unfold spec_MirrorBlock_L1 at t1
      have c1 : (decide (((k1 : Nat) : Int) < a_b.Size)) = true := decide_eq_true (by omega)
      refine wc_seq ?_
      refine wcr ?_
      refine mv rfl rfl ?_
      refine wl_pure (po_fld fo_26_0 rfl) rfl ?_
      refine wl_pure (v := .int .i64 a_b.Size) (po_load_box tk_3 (pickS (pickS pick0)) rfl rfl) rfl ?_
      refine wl_pure (po_lss rfl rfl) rfl ?_
      refine wnt ?_
      refine wc_cond_t rfl c1 ?_
      refine wc_skip ?_
      refine wq_then ?_
      refine wc_seq ?_
      refine wc_block ?_
      refine wcr ?_
      refine asg rfl rfl ?_
      refine wnt ?_
      refine lpO_inv t1 fun y2 l2 t1 => ?_
      refine wj (J := List GCell) (X := Hd) (fun z => y2 = z) (fun _ _ => [(1, ptr b1 0), (2, ptr b2 0), (3, ptr b3 0), (4, .int .i64 ((k1 : Nat) : Int))]) (fun z x => [box b3 [.int .i64 a_b.Size, (sl x)], box b2 [.int .i64 0, (sl (⟨none, 0, 0⟩ : Hd))], box b1 [.int .i64 a_b.Size, (sl v0a)], ownF (sl x) z]) ?_ ?_
      · skip
        refine wc_block ?_
        refine wc_forO (X := Hd) l2 (fun k2 s2 x2l => [(1, ptr b1 0), (2, ptr b2 0), (3, ptr b3 0), (4, .int .i64 ((k1 : Nat) : Int)), (5, .int .i64 ((k2 : Nat) : Int))]) (fun k2 s2 x2l => [box b3 [.int .i64 a_b.Size, (sl x2l)], box b2 [.int .i64 0, (sl (⟨none, 0, 0⟩ : Hd))], box b1 [.int .i64 a_b.Size, (sl v0a)], ownF (sl x2l) s2]) x1l (sub_cons rfl (sub_cons rfl (sub_cons rfl (sub_cons rfl (sub_cons rfl sub_nil))))) (some_cons pick0 (some_cons pick0 (some_cons pick0 (some_cons pick0 some_nil)))) fun k2 s2 x2l hN2 l2 => ?_
        by_cases hk2 : k2 < (a_b.Size).toNat
        · skip
          refine forO_step l2 hk2 fun _ t2 l2 => ?_
          unfold spec_MirrorBlock_L2 at t2
          have c2 : (decide (((k2 : Nat) : Int) < a_b.Size)) = true := decide_eq_true (by omega)
          refine wc_seq ?_
          refine wcr ?_
          refine mv rfl rfl ?_
          refine wl_pure (po_fld fo_26_0 rfl) rfl ?_
          refine wl_pure (v := .int .i64 a_b.Size) (po_load_box tk_3 (pickS (pickS pick0)) rfl rfl) rfl ?_
          refine wl_pure (po_lss rfl rfl) rfl ?_
          refine wnt ?_
          refine wc_cond_t rfl c2 ?_
          refine wc_skip ?_
          refine wq_then ?_
          refine wc_seq ?_
          refine wc_block ?_
          refine wc_draw [box b3 [.int .i64 a_b.Size, (sl x2l)], box b2 [.int .i64 0, (sl (⟨none, 0, 0⟩ : Hd))], box b1 [.int .i64 a_b.Size, (sl v0a)]] 20 mixed ?_
          refine wa_pure 0 rfl (po_fld fo_26_1 rfl) (some_cons pick0 (some_cons pick0 (some_cons pick0 some_nil))) rfl (by kernel_rfl) (fun _ _ _ h => h) ?_
          refine wa_pure (v := (sl x2l)) 1 rfl (po_load_box tk_24 pick0 rfl rfl) (some_cons pick0 (some_cons pick0 (some_cons pick0 some_nil))) rfl (by kernel_rfl) (fun _ _ _ h => h) ?_
          refine wa_pure 2 rfl (po_fld fo_26_1 rfl) (some_cons pick0 (some_cons pick0 (some_cons pick0 some_nil))) rfl (by kernel_rfl) (fun _ _ _ h => h) ?_
          refine wa_pure (v := (sl v0a)) 3 rfl (po_load_box tk_24 (pickS (pickS pick0)) rfl rfl) (some_cons pick0 (some_cons pick0 (some_cons pick0 some_nil))) rfl (by kernel_rfl) (fun _ _ _ h => h) ?_
          refine wa_pure 4 rfl (po_move rfl) (some_cons pick0 (some_cons pick0 (some_cons pick0 some_nil))) rfl (by kernel_rfl) (fun _ _ _ h => h) ?_
          refine wa_pure 5 rfl (po_fld fo_26_0 rfl) (some_cons pick0 (some_cons pick0 (some_cons pick0 some_nil))) rfl (by kernel_rfl) (fun _ _ _ h => h) ?_
          refine wa_pure (v := .int .i64 a_b.Size) 6 rfl (po_load_box tk_3 (pickS (pickS pick0)) rfl rfl) (some_cons pick0 (some_cons pick0 (some_cons pick0 some_nil))) rfl (by kernel_rfl) (fun _ _ _ h => h) ?_
          refine wa_pure 7 rfl (po_mul rfl rfl) (some_cons pick0 (some_cons pick0 (some_cons pick0 some_nil))) rfl (by kernel_rfl) (fun _ _ _ h => h) ?_
          refine wa_pure 8 rfl (po_fld fo_26_0 rfl) (some_cons pick0 (some_cons pick0 (some_cons pick0 some_nil))) rfl (by kernel_rfl) (fun _ _ _ h => h) ?_
          refine wa_pure (v := .int .i64 a_b.Size) 9 rfl (po_load_box tk_3 (pickS (pickS pick0)) rfl rfl) (some_cons pick0 (some_cons pick0 (some_cons pick0 some_nil))) rfl (by kernel_rfl) (fun _ _ _ h => h) ?_
          refine wa_pure 10 rfl (po_add rfl rfl) (some_cons pick0 (some_cons pick0 (some_cons pick0 some_nil))) rfl (by kernel_rfl) (fun _ _ _ h => h) ?_
          refine wa_pure 11 rfl (po_sub rfl rfl) (some_cons pick0 (some_cons pick0 (some_cons pick0 some_nil))) rfl (by kernel_rfl) (fun _ _ _ h => h) ?_
          refine wa_pure 12 rfl (po_move rfl) (some_cons pick0 (some_cons pick0 (some_cons pick0 some_nil))) rfl (by kernel_rfl) (fun _ _ _ h => h) ?_
          refine wa_pure 13 rfl (po_sub rfl rfl) (some_cons pick0 (some_cons pick0 (some_cons pick0 some_nil))) rfl (by kernel_rfl) (fun _ _ _ h => h) ?_
          refine gdO t2 fun g2 t2 => ?_
          refine wa_pure 14 rfl (po_ixr (rds_arg r0) el_24 rfl rfl g2.1 g2.2) (some_cons pick0 (some_cons pick0 (some_cons pick0 some_nil))) rfl (by kernel_rfl) (fun _ _ _ h => h) ?_
          refine wa_pure (v := .agg #[.int .i64 ((gx a_b.Cells (((wr ((wr ((wr ((wr (((k1 : Nat) : Int) * a_b.Size)) + a_b.Size)) - 1)) - ((k2 : Nat) : Int)))).toNat)).Split), .int .i64 ((gx a_b.Cells (((wr ((wr ((wr ((wr (((k1 : Nat) : Int) * a_b.Size)) + a_b.Size)) - 1)) - ((k2 : Nat) : Int)))).toNat)).A), .int .i64 ((gx a_b.Cells (((wr ((wr ((wr ((wr (((k1 : Nat) : Int) * a_b.Size)) + a_b.Size)) - 1)) - ((k2 : Nat) : Int)))).toNat)).B)]) 15 rfl (po_ldfs (rds_arg r0) tk_49 rfl (ix_lt g2) rfl rfl rfl) (some_cons pick0 (some_cons pick0 (some_cons pick0 some_nil))) rfl (by kernel_rfl) (fun _ _ _ h => h) ?_
          refine wa_1 (i := 16) (by kernel_rfl) ?_
          refine bdO t2 fun v2 hv2 t2 => ?_
          refine ws_call rfl (co_c0 fa_38 rfl fun w hw => c_spec_MirrorCell w (gx a_b.Cells (((wr ((wr ((wr ((wr (((k1 : Nat) : Int) * a_b.Size)) + a_b.Size)) - 1)) - ((k2 : Nat) : Int)))).toNat)) hv2) (fun _ => (sts_some (some_cons pick0 (some_cons pick0 (some_cons pick0 some_nil))))) rfl fun _ => ?_
          refine wa_1 (i := 17) (by kernel_rfl) ?_
          refine ws_eff rfl (eo_buildSlice rfl (sb_24_1 v2.Split v2.A v2.B)) (fun _ => (sts_some (some_cons (pickS pick0) (some_cons (pickS pick0) (some_cons (pickS pick0) some_nil))))) rfl fun b4 => ?_
          refine wa_1 (i := 18) (by kernel_rfl) ?_
          refine gdO t2 fun g3 t2 => ?_
          refine ws_eff rfl (eo_append (xs := s2) (ys := ([v2] : List GCell)) ak_24 (pickS (pickS (pickS (pickS pick0)))) rfl rfl (slin_rd fun _ g => Rg.on (rds_own (pick_box_own pick0 (n := 1) (xs := ([v2] : List GCell)) rfl rfl (by unfold maxLen; omega))) g) g3) (fun _ => (sts_some (some_cons (pickS (pickS pick0)) (some_cons (pickS (pickS pick0)) (some_cons (pickS (pickS pick0)) some_nil))))) rfl fun x3 => ?_
          refine wa_pure 19 rfl (po_fld fo_26_1 rfl) (some_cons (pickS (pickS pick0)) (some_cons (pickS (pickS pick0)) (some_cons (pickS (pickS pick0)) some_nil))) rfl (by kernel_rfl) (fun _ _ _ h => h) ?_
          refine wa_1 (i := 20) (by kernel_rfl) ?_
          refine ws_skipop rfl (so_box (cs' := [.int .i64 a_b.Size, (sl x3)]) tk_24 (pickS (pickS pick0)) rfl rfl rfl rfl rfl rfl rfl) (sts_past (by kernel_rfl)) ?_
          refine wa_done (by kernel_rfl) ?_
          refine wq_block ?_
          refine wq_then ?_
          refine wc_region ?_
          refine mv rfl rfl ?_
          refine wl_pure (po_inc rfl rfl (by omega)) rfl ?_
          refine asg rfl rfl ?_
          refine wl_nil ?_
          exact wq_rnd hk2 (stpN l2 t2) x3 (sub_cons rfl (sub_cons rfl (sub_cons rfl (sub_cons rfl (sub_cons rfl sub_nil))))) (some_cons pick0 (some_cons (pickS (pickS pick0)) (some_cons (pickS (pickS pick0)) (some_cons pick0 some_nil))))
        have c2 : (decide (((k2 : Nat) : Int) < a_b.Size)) = false := decide_eq_false (by omega)
        have en1 := forO_end l2 hk2
        refine wc_seq ?_
        refine wcr ?_
        refine mv rfl rfl ?_
        refine wl_pure (po_fld fo_26_0 rfl) rfl ?_
        refine wl_pure (v := .int .i64 a_b.Size) (po_load_box tk_3 (pickS (pickS pick0)) rfl rfl) rfl ?_
        refine wl_pure (po_lss rfl rfl) rfl ?_
        refine wnt ?_
        refine wc_cond_f rfl c2 ?_
        refine wc_exit ?_
        refine wq_then_exit ?_
        refine wq_then_exit ?_
        refine wq_block_exit ?_
        exact wj_meet _ x2l (Sum.inl.inj en1) (sub_cons rfl (sub_cons rfl (sub_cons rfl (sub_cons rfl sub_nil)))) (some_cons pick0 (some_cons pick0 (some_cons pick0 (some_cons pick0 some_nil))))
      intro e2 x2 hp
      obtain rfl : e2 = y2 := hp.symm
      refine wq_block ?_
      refine wq_then ?_
      refine wc_region ?_
      refine mv rfl rfl ?_
      refine wl_pure (po_inc rfl rfl (by omega)) rfl ?_
      refine asg rfl rfl ?_
      refine wl_nil ?_
      exact wq_rnd hk1 (stpN l1 t1) x2 (sub_cons rfl (sub_cons rfl (sub_cons rfl (sub_cons rfl sub_nil)))) (some_cons pick0 (some_cons pick0 (some_cons pick0 (some_cons pick0 some_nil))))
    have c1 : (decide (((k1 : Nat) : Int) < a_b.Size)) = false := decide_eq_false (by omega)
    have en2 := forO_end l1 hk1
    refine wc_seq ?_
    refine wcr ?_
    refine mv rfl rfl ?_
    refine wl_pure (po_fld fo_26_0 rfl) rfl ?_
    refine wl_pure (v := .int .i64 a_b.Size) (po_load_box tk_3 (pickS (pickS pick0)) rfl rfl) rfl ?_
    refine wl_pure (po_lss rfl rfl) rfl ?_
    refine wnt ?_
    refine wc_cond_f rfl c1 ?_
    refine wc_exit ?_
    refine wq_then_exit ?_
    refine wq_then_exit ?_
    refine wq_block_exit ?_
    exact wj_meet _ x1l (Sum.inl.inj en2) (sub_cons rfl (sub_cons rfl sub_nil)) (some_cons pick0 (some_cons pick0 (some_cons (pickS pick0) some_nil)))
  intro e1 x1 hp
  obtain rfl : e1 = y1 := hp.symm
  refine wq_then ?_
  refine wcr ?_
  refine wl_pure (v := .agg #[.int .i64 a_b.Size, (sl x1)]) (po_load_boxs tk_26 pick0 rfl rfl rfl) rfl ?_
  refine wl_skipop (so_box (cs' := [.int .i64 a_b.Size, (sl x1)]) tk_26 (pickS pick0) rfl rfl rfl rfl rfl rfl rfl) ?_
  refine wnt ?_
  refine wc_ret ?_
  obtain rfl := Option.some.inj t0
  exact wq_retc rfl tk_26 rfl pick0 rfl fun w hw => ⟨x1, rfl, hw.weak (some_cons (pickS (pickS pick0)) some_nil)⟩

theorem c_spec_TurnCell (w : World) (a_c : GCell) {r : GCell} (t0 : spec_TurnCell a_c = some r) : Calls Tryd.prog 39 #[.agg #[.int .i64 a_c.Split, .int .i64 a_c.A, .int .i64 a_c.B]] w fun e w' => e = .returned (.agg #[.int .i64 r.Split, .int .i64 r.A, .int .i64 r.B]) ∧ SH w [] [] w' := by
  refine calls_of_wc (args := [_]) Tryd.func39 rfl Tryd.ntmps39 rfl ?_
  unfold spec_TurnCell at t0
  refine wcr ?_
  refine wl_eff (eo_box rfl rfl) rfl fun b1 => ?_
  refine wl_eff (eo_alloc (cs := [.int .i64 0, .int .i64 0, .int .i64 0]) za_49) rfl fun b2 => ?_
  refine wnt ?_
  refine wc_seq ?_
  refine wcr ?_
  refine wl_pure (v := .agg #[.int .i64 a_c.Split, .int .i64 a_c.A, .int .i64 a_c.B]) (po_load_boxs tk_49 (pickS pick0) rfl rfl rfl) rfl ?_
  refine bdO t0 fun v1 hv1 t0 => ?_
  refine wl_call (co_c0 fa_37 rfl fun w hw => c_spec_CellOk w a_c hv1) rfl fun _ => ?_
  refine wl_pure (po_not rfl) rfl ?_
  refine wnt ?_
  refine wcO t0 rfl (fun h1 t0 => ?_) fun h1 t0 => ?_
  · skip
    refine wcr ?_
    refine wl_pure (po_build rfl bd_49) rfl ?_
    refine wl_skipop (so_box (cs' := [.int .i64 0, .int .i64 0, .int .i64 0]) tk_49 pick0 rfl rfl rfl rfl rfl rfl rfl) ?_
    refine wnt ?_
    refine wc_ret ?_
    refine wq_then_ret ?_
    obtain rfl := Option.some.inj t0
    exact wq_retc rfl tk_49 rfl pick0 rfl fun w hw => ⟨rfl, hw.weak some_nil⟩
  refine wc_skip ?_
  refine wq_then ?_
  refine wc_seq ?_
  refine wcr ?_
  refine wl_pure (po_fld fo_49_0 rfl) rfl ?_
  refine wl_pure (v := .int .i64 a_c.Split) (po_load_box tk_3 (pickS pick0) rfl rfl) rfl ?_
  refine wnt ?_
  refine wc_block ?_
  refine wcr ?_
  refine wl_pure (po_eql rfl rfl) rfl ?_
  refine asg rfl rfl ?_
  refine wnt ?_
  refine wcO t0 rfl (fun h2 t0 => ?_) fun h2 t0 => ?_
  · skip
    refine wcr ?_
    refine wl_pure (po_fld fo_49_2 rfl) rfl ?_
    refine wl_pure (v := .int .i64 a_c.B) (po_load_box tk_3 (pickS pick0) rfl rfl) rfl ?_
    refine wl_pure (po_fld fo_49_1 rfl) rfl ?_
    refine wl_pure (v := .int .i64 a_c.A) (po_load_box tk_3 (pickS pick0) rfl rfl) rfl ?_
    refine wl_pure (po_build rfl (bd_49_0_1_2 2 a_c.B a_c.A)) rfl ?_
    refine wl_skipop (so_box (cs' := [.int .i64 2, .int .i64 a_c.B, .int .i64 a_c.A]) tk_49 pick0 rfl rfl rfl rfl rfl rfl rfl) ?_
    refine wnt ?_
    refine wc_ret ?_
    refine wq_block_ret ?_
    refine wq_then_ret ?_
    obtain rfl := Option.some.inj t0
    exact wq_retc rfl tk_49 rfl pick0 rfl fun w hw => ⟨rfl, hw.weak some_nil⟩
  refine wcr ?_
  refine wl_pure (po_eql rfl rfl) rfl ?_
  refine asg rfl rfl ?_
  refine wnt ?_
  refine wcO t0 rfl (fun h3 t0 => ?_) fun h3 t0 => ?_
  · skip
    refine wcr ?_
    refine wl_pure (po_fld fo_49_1 rfl) rfl ?_
    refine wl_pure (v := .int .i64 a_c.A) (po_load_box tk_3 (pickS pick0) rfl rfl) rfl ?_
    refine wl_pure (po_fld fo_49_2 rfl) rfl ?_
    refine wl_pure (v := .int .i64 a_c.B) (po_load_box tk_3 (pickS pick0) rfl rfl) rfl ?_
    refine wl_pure (po_build rfl (bd_49_0_1_2 1 a_c.A a_c.B)) rfl ?_
    refine wl_skipop (so_box (cs' := [.int .i64 1, .int .i64 a_c.A, .int .i64 a_c.B]) tk_49 pick0 rfl rfl rfl rfl rfl rfl rfl) ?_
    refine wnt ?_
    refine wc_ret ?_
    refine wq_block_ret ?_
    refine wq_then_ret ?_
    obtain rfl := Option.some.inj t0
    exact wq_retc rfl tk_49 rfl pick0 rfl fun w hw => ⟨rfl, hw.weak some_nil⟩
  refine wc_skip ?_
  refine wq_block ?_
  refine wq_then ?_
  refine wcr ?_
  refine wl_pure (v := .agg #[.int .i64 a_c.Split, .int .i64 a_c.A, .int .i64 a_c.B]) (po_load_boxs tk_49 (pickS pick0) rfl rfl rfl) rfl ?_
  refine wl_skipop (so_box (cs' := [.int .i64 a_c.Split, .int .i64 a_c.A, .int .i64 a_c.B]) tk_49 pick0 rfl rfl rfl rfl rfl rfl rfl) ?_
  refine wnt ?_
  refine wc_ret ?_
  obtain rfl := Option.some.inj t0
  exact wq_retc rfl tk_49 rfl pick0 rfl fun w hw => ⟨rfl, hw.weak some_nil⟩

theorem c_spec_TurnBlock (w : World) (a_b : GBlock) (v0a : Hd) (r0 : rdF w (dm w []) (sl v0a) a_b.Cells) {r : GBlock} (t0 : spec_TurnBlock a_b = some r) : Calls Tryd.prog 23 #[.agg #[.int .i64 a_b.Size, (sl v0a)]] w fun e w' => ∃ x : Hd, e = .returned (.agg #[.int .i64 r.Size, (sl x)]) ∧ SH w [] [ownF (sl x) r.Cells] w' := by
  refine calls_of_wc (args := [_]) Tryd.func23 rfl Tryd.ntmps23 rfl ?_
  unfold spec_TurnBlock at t0
  refine wcr ?_
  refine wl_eff (eo_box rfl rfl) rfl fun b1 => ?_
  refine wl_eff (eo_alloc (cs := [.int .i64 0, (sl (⟨none, 0, 0⟩ : Hd))]) za_26) rfl fun b2 => ?_
  refine wnt ?_
  refine wc_seq ?_
  refine wcr ?_
  refine wl_pure (v := .agg #[.int .i64 a_b.Size, (sl v0a)]) (po_load_boxs tk_26 (pickS pick0) rfl rfl rfl) rfl ?_
  refine bdO t0 fun v1 hv1 t0 => ?_
  refine wl_call (co_c0 fa_19 rfl fun w hw => c_spec_BlockOk w a_b v0a (Rg.on (rds_arg r0) hw) hv1) rfl fun _ => ?_
  refine wl_pure (po_not rfl) rfl ?_
  refine wnt ?_
  refine wcO t0 rfl (fun h1 t0 => ?_) fun h1 t0 => ?_
  · skip
    refine wcr ?_
    refine wl_pure (po_build rfl bd_26) rfl ?_
    refine wl_skipop (so_box (cs' := [.int .i64 0, (sl (⟨none, 0, 0⟩ : Hd))]) tk_26 pick0 rfl rfl rfl rfl rfl rfl rfl) ?_
    refine wnt ?_
    refine wc_ret ?_
    refine wq_then_ret ?_
    obtain rfl := Option.some.inj t0
    exact wq_retc rfl tk_26 rfl pick0 rfl fun w hw => ⟨(⟨none, 0, 0⟩ : Hd), rfl, hw.weak (some_cons pick_nil some_nil)⟩
  refine wc_skip ?_
  refine wq_then ?_
  refine wcr ?_
  refine wl_pure (po_fld fo_26_0 rfl) rfl ?_
  refine wl_pure (v := .int .i64 a_b.Size) (po_load_box tk_3 (pickS pick0) rfl rfl) rfl ?_
  refine wl_pure (po_build rfl (bd_26_0 a_b.Size)) rfl ?_
  refine wl_eff (eo_alloc (cs := [.int .i64 0, (sl (⟨none, 0, 0⟩ : Hd))]) za_26) rfl fun b3 => ?_
  refine wl_skipop (so_box (cs' := [.int .i64 a_b.Size, (sl (⟨none, 0, 0⟩ : Hd))]) tk_26 pick0 rfl rfl rfl rfl rfl rfl rfl) ?_
  refine wnt ?_
  refine wc_seq ?_
  refine wcr ?_
  refine asg rfl rfl ?_
  refine wnt ?_
  refine gdO t0 fun g1 t0 => ?_
  refine lpO_inv t0 fun y1 l1 t0 => ?_
  refine wj (J := List GCell) (X := Hd) (fun z => y1 = z) (fun _ _ => [(2, ptr b2 0), (3, ptr b3 0)]) (fun z x => [box b3 [.int .i64 a_b.Size, (sl x)], box b2 [.int .i64 0, (sl (⟨none, 0, 0⟩ : Hd))], ownF (sl x) z]) ?_ ?_
  · skip
    refine wc_block ?_
    refine wc_forO (X := Hd) l1 (fun k1 s1 x1l => [(1, ptr b1 0), (2, ptr b2 0), (3, ptr b3 0), (4, .int .i64 ((k1 : Nat) : Int))]) (fun k1 s1 x1l => [box b3 [.int .i64 a_b.Size, (sl x1l)], box b2 [.int .i64 0, (sl (⟨none, 0, 0⟩ : Hd))], box b1 [.int .i64 a_b.Size, (sl v0a)], ownF (sl x1l) s1]) (⟨none, 0, 0⟩ : Hd) (sub_cons rfl (sub_cons rfl (sub_cons rfl (sub_cons rfl sub_nil)))) (some_cons pick0 (some_cons pick0 (some_cons pick0 (some_cons pick_nil some_nil)))) fun k1 s1 x1l hN1 l1 => ?_
    by_cases hk1 : k1 < (a_b.Size).toNat
    · skip
      refine forO_step l1 hk1 fun _ t1 l1 => ?_
      unfold spec_TurnBlock_L1 at t1
      have c1 : (decide (((k1 : Nat) : Int) < a_b.Size)) = true := decide_eq_true (by omega)
      refine wc_seq ?_
      refine wcr ?_
      refine mv rfl rfl ?_
      refine wl_pure (po_fld fo_26_0 rfl) rfl ?_
      refine wl_pure (v := .int .i64 a_b.Size) (po_load_box tk_3 (pickS (pickS pick0)) rfl rfl) rfl ?_
      refine wl_pure (po_lss rfl rfl) rfl ?_
      refine wnt ?_
      refine wc_cond_t rfl c1 ?_
      refine wc_skip ?_
      refine wq_then ?_
      refine wc_seq ?_
      refine wc_block ?_
      refine wcr ?_
      refine asg rfl rfl ?_
      refine wnt ?_
      refine lpO_inv t1 fun y2 l2 t1 => ?_
      refine wj (J := List GCell) (X := Hd) (fun z => y2 = z) (fun _ _ => [(1, ptr b1 0), (2, ptr b2 0), (3, ptr b3 0), (4, .int .i64 ((k1 : Nat) : Int))]) (fun z x => [box b3 [.int .i64 a_b.Size, (sl x)], box b2 [.int .i64 0, (sl (⟨none, 0, 0⟩ : Hd))], box b1 [.int .i64 a_b.Size, (sl v0a)], ownF (sl x) z]) ?_ ?_
      · skip
        refine wc_block ?_
        refine wc_forO (X := Hd) l2 (fun k2 s2 x2l => [(1, ptr b1 0), (2, ptr b2 0), (3, ptr b3 0), (4, .int .i64 ((k1 : Nat) : Int)), (5, .int .i64 ((k2 : Nat) : Int))]) (fun k2 s2 x2l => [box b3 [.int .i64 a_b.Size, (sl x2l)], box b2 [.int .i64 0, (sl (⟨none, 0, 0⟩ : Hd))], box b1 [.int .i64 a_b.Size, (sl v0a)], ownF (sl x2l) s2]) x1l (sub_cons rfl (sub_cons rfl (sub_cons rfl (sub_cons rfl (sub_cons rfl sub_nil))))) (some_cons pick0 (some_cons pick0 (some_cons pick0 (some_cons pick0 some_nil)))) fun k2 s2 x2l hN2 l2 => ?_
        by_cases hk2 : k2 < (a_b.Size).toNat
        · skip
          refine forO_step l2 hk2 fun _ t2 l2 => ?_
          unfold spec_TurnBlock_L2 at t2
          have c2 : (decide (((k2 : Nat) : Int) < a_b.Size)) = true := decide_eq_true (by omega)
          refine wc_seq ?_
          refine wcr ?_
          refine mv rfl rfl ?_
          refine wl_pure (po_fld fo_26_0 rfl) rfl ?_
          refine wl_pure (v := .int .i64 a_b.Size) (po_load_box tk_3 (pickS (pickS pick0)) rfl rfl) rfl ?_
          refine wl_pure (po_lss rfl rfl) rfl ?_
          refine wnt ?_
          refine wc_cond_t rfl c2 ?_
          refine wc_skip ?_
          refine wq_then ?_
          refine wc_seq ?_
          refine wc_block ?_
          refine wc_draw [box b3 [.int .i64 a_b.Size, (sl x2l)], box b2 [.int .i64 0, (sl (⟨none, 0, 0⟩ : Hd))], box b1 [.int .i64 a_b.Size, (sl v0a)]] 20 mixed ?_
          refine wa_pure 0 rfl (po_fld fo_26_1 rfl) (some_cons pick0 (some_cons pick0 (some_cons pick0 some_nil))) rfl (by kernel_rfl) (fun _ _ _ h => h) ?_
          refine wa_pure (v := (sl x2l)) 1 rfl (po_load_box tk_24 pick0 rfl rfl) (some_cons pick0 (some_cons pick0 (some_cons pick0 some_nil))) rfl (by kernel_rfl) (fun _ _ _ h => h) ?_
          refine wa_pure 2 rfl (po_fld fo_26_1 rfl) (some_cons pick0 (some_cons pick0 (some_cons pick0 some_nil))) rfl (by kernel_rfl) (fun _ _ _ h => h) ?_
          refine wa_pure (v := (sl v0a)) 3 rfl (po_load_box tk_24 (pickS (pickS pick0)) rfl rfl) (some_cons pick0 (some_cons pick0 (some_cons pick0 some_nil))) rfl (by kernel_rfl) (fun _ _ _ h => h) ?_
          refine wa_pure 4 rfl (po_fld fo_26_0 rfl) (some_cons pick0 (some_cons pick0 (some_cons pick0 some_nil))) rfl (by kernel_rfl) (fun _ _ _ h => h) ?_
          refine wa_pure (v := .int .i64 a_b.Size) 5 rfl (po_load_box tk_3 (pickS (pickS pick0)) rfl rfl) (some_cons pick0 (some_cons pick0 (some_cons pick0 some_nil))) rfl (by kernel_rfl) (fun _ _ _ h => h) ?_
          refine wa_pure 6 rfl (po_sub rfl rfl) (some_cons pick0 (some_cons pick0 (some_cons pick0 some_nil))) rfl (by kernel_rfl) (fun _ _ _ h => h) ?_
          refine wa_pure 7 rfl (po_move rfl) (some_cons pick0 (some_cons pick0 (some_cons pick0 some_nil))) rfl (by kernel_rfl) (fun _ _ _ h => h) ?_
          refine wa_pure 8 rfl (po_sub rfl rfl) (some_cons pick0 (some_cons pick0 (some_cons pick0 some_nil))) rfl (by kernel_rfl) (fun _ _ _ h => h) ?_
          refine wa_pure 9 rfl (po_fld fo_26_0 rfl) (some_cons pick0 (some_cons pick0 (some_cons pick0 some_nil))) rfl (by kernel_rfl) (fun _ _ _ h => h) ?_
          refine wa_pure (v := .int .i64 a_b.Size) 10 rfl (po_load_box tk_3 (pickS (pickS pick0)) rfl rfl) (some_cons pick0 (some_cons pick0 (some_cons pick0 some_nil))) rfl (by kernel_rfl) (fun _ _ _ h => h) ?_
          refine wa_pure 11 rfl (po_mul rfl rfl) (some_cons pick0 (some_cons pick0 (some_cons pick0 some_nil))) rfl (by kernel_rfl) (fun _ _ _ h => h) ?_
          refine wa_pure 12 rfl (po_move rfl) (some_cons pick0 (some_cons pick0 (some_cons pick0 some_nil))) rfl (by kernel_rfl) (fun _ _ _ h => h) ?_
          refine wa_pure 13 rfl (po_add rfl rfl) (some_cons pick0 (some_cons pick0 (some_cons pick0 some_nil))) rfl (by kernel_rfl) (fun _ _ _ h => h) ?_
          refine gdO t2 fun g2 t2 => ?_
          refine wa_pure 14 rfl (po_ixr (rds_arg r0) el_24 rfl rfl g2.1 g2.2) (some_cons pick0 (some_cons pick0 (some_cons pick0 some_nil))) rfl (by kernel_rfl) (fun _ _ _ h => h) ?_
          refine wa_pure (v := .agg #[.int .i64 ((gx a_b.Cells (((wr ((wr ((wr ((wr (a_b.Size - 1)) - ((k2 : Nat) : Int))) * a_b.Size)) + ((k1 : Nat) : Int)))).toNat)).Split), .int .i64 ((gx a_b.Cells (((wr ((wr ((wr ((wr (a_b.Size - 1)) - ((k2 : Nat) : Int))) * a_b.Size)) + ((k1 : Nat) : Int)))).toNat)).A), .int .i64 ((gx a_b.Cells (((wr ((wr ((wr ((wr (a_b.Size - 1)) - ((k2 : Nat) : Int))) * a_b.Size)) + ((k1 : Nat) : Int)))).toNat)).B)]) 15 rfl (po_ldfs (rds_arg r0) tk_49 rfl (ix_lt g2) rfl rfl rfl) (some_cons pick0 (some_cons pick0 (some_cons pick0 some_nil))) rfl (by kernel_rfl) (fun _ _ _ h => h) ?_
          refine wa_1 (i := 16) (by kernel_rfl) ?_
          refine bdO t2 fun v2 hv2 t2 => ?_
          refine ws_call rfl (co_c0 fa_39 rfl fun w hw => c_spec_TurnCell w (gx a_b.Cells (((wr ((wr ((wr ((wr (a_b.Size - 1)) - ((k2 : Nat) : Int))) * a_b.Size)) + ((k1 : Nat) : Int)))).toNat)) hv2) (fun _ => (sts_some (some_cons pick0 (some_cons pick0 (some_cons pick0 some_nil))))) rfl fun _ => ?_
          refine wa_1 (i := 17) (by kernel_rfl) ?_
          refine ws_eff rfl (eo_buildSlice rfl (sb_24_1 v2.Split v2.A v2.B)) (fun _ => (sts_some (some_cons (pickS pick0) (some_cons (pickS pick0) (some_cons (pickS pick0) some_nil))))) rfl fun b4 => ?_
          refine wa_1 (i := 18) (by kernel_rfl) ?_
          refine gdO t2 fun g3 t2 => ?_
          refine ws_eff rfl (eo_append (xs := s2) (ys := ([v2] : List GCell)) ak_24 (pickS (pickS (pickS (pickS pick0)))) rfl rfl (slin_rd fun _ g => Rg.on (rds_own (pick_box_own pick0 (n := 1) (xs := ([v2] : List GCell)) rfl rfl (by unfold maxLen; omega))) g) g3) (fun _ => (sts_some (some_cons (pickS (pickS pick0)) (some_cons (pickS (pickS pick0)) (some_cons (pickS (pickS pick0)) some_nil))))) rfl fun x3 => ?_
          refine wa_pure 19 rfl (po_fld fo_26_1 rfl) (some_cons (pickS (pickS pick0)) (some_cons (pickS (pickS pick0)) (some_cons (pickS (pickS pick0)) some_nil))) rfl (by kernel_rfl) (fun _ _ _ h => h) ?_
          refine wa_1 (i := 20) (by kernel_rfl) ?_
          refine ws_skipop rfl (so_box (cs' := [.int .i64 a_b.Size, (sl x3)]) tk_24 (pickS (pickS pick0)) rfl rfl rfl rfl rfl rfl rfl) (sts_past (by kernel_rfl)) ?_
          refine wa_done (by kernel_rfl) ?_
          refine wq_block ?_
          refine wq_then ?_
          refine wc_region ?_
          refine mv rfl rfl ?_
          refine wl_pure (po_inc rfl rfl (by omega)) rfl ?_
          refine asg rfl rfl ?_
          refine wl_nil ?_
          exact wq_rnd hk2 (stpN l2 t2) x3 (sub_cons rfl (sub_cons rfl (sub_cons rfl (sub_cons rfl (sub_cons rfl sub_nil))))) (some_cons pick0 (some_cons (pickS (pickS pick0)) (some_cons (pickS (pickS pick0)) (some_cons pick0 some_nil))))
        have c2 : (decide (((k2 : Nat) : Int) < a_b.Size)) = false := decide_eq_false (by omega)
        have en1 := forO_end l2 hk2
        refine wc_seq ?_
        refine wcr ?_
        refine mv rfl rfl ?_
        refine wl_pure (po_fld fo_26_0 rfl) rfl ?_
        refine wl_pure (v := .int .i64 a_b.Size) (po_load_box tk_3 (pickS (pickS pick0)) rfl rfl) rfl ?_
        refine wl_pure (po_lss rfl rfl) rfl ?_
        refine wnt ?_
        refine wc_cond_f rfl c2 ?_
        refine wc_exit ?_
        refine wq_then_exit ?_
        refine wq_then_exit ?_
        refine wq_block_exit ?_
        exact wj_meet _ x2l (Sum.inl.inj en1) (sub_cons rfl (sub_cons rfl (sub_cons rfl (sub_cons rfl sub_nil)))) (some_cons pick0 (some_cons pick0 (some_cons pick0 (some_cons pick0 some_nil))))
      intro e2 x2 hp
      obtain rfl : e2 = y2 := hp.symm
      refine wq_block ?_
      refine wq_then ?_
      refine wc_region ?_
      refine mv rfl rfl ?_
      refine wl_pure (po_inc rfl rfl (by omega)) rfl ?_
      refine asg rfl rfl ?_
      refine wl_nil ?_
      exact wq_rnd hk1 (stpN l1 t1) x2 (sub_cons rfl (sub_cons rfl (sub_cons rfl (sub_cons rfl sub_nil)))) (some_cons pick0 (some_cons pick0 (some_cons pick0 (some_cons pick0 some_nil))))
    have c1 : (decide (((k1 : Nat) : Int) < a_b.Size)) = false := decide_eq_false (by omega)
    have en2 := forO_end l1 hk1
    refine wc_seq ?_
    refine wcr ?_
    refine mv rfl rfl ?_
    refine wl_pure (po_fld fo_26_0 rfl) rfl ?_
    refine wl_pure (v := .int .i64 a_b.Size) (po_load_box tk_3 (pickS (pickS pick0)) rfl rfl) rfl ?_
    refine wl_pure (po_lss rfl rfl) rfl ?_
    refine wnt ?_
    refine wc_cond_f rfl c1 ?_
    refine wc_exit ?_
    refine wq_then_exit ?_
    refine wq_then_exit ?_
    refine wq_block_exit ?_
    exact wj_meet _ x1l (Sum.inl.inj en2) (sub_cons rfl (sub_cons rfl sub_nil)) (some_cons pick0 (some_cons pick0 (some_cons (pickS pick0) some_nil)))
  intro e1 x1 hp
  obtain rfl : e1 = y1 := hp.symm
  refine wq_then ?_
  refine wcr ?_
  refine wl_pure (v := .agg #[.int .i64 a_b.Size, (sl x1)]) (po_load_boxs tk_26 pick0 rfl rfl rfl) rfl ?_
  refine wl_skipop (so_box (cs' := [.int .i64 a_b.Size, (sl x1)]) tk_26 (pickS pick0) rfl rfl rfl rfl rfl rfl rfl) ?_
  refine wnt ?_
  refine wc_ret ?_
  obtain rfl := Option.some.inj t0
  exact wq_retc rfl tk_26 rfl pick0 rfl fun w hw => ⟨x1, rfl, hw.weak (some_cons (pickS (pickS pick0)) some_nil)⟩

theorem c_spec_SeenFrom (w : World) (a_b : GBlock) (v0a : Hd) (r0 : rdF w (dm w []) (sl v0a) a_b.Cells) (a_k : Int) {r : GBlock} (t0 : spec_SeenFrom a_b a_k = some r) : Calls Tryd.prog 7 #[.agg #[.int .i64 a_b.Size, (sl v0a)], .int .i64 a_k] w fun e w' => ∃ x : Hd, e = .returned (.agg #[.int .i64 r.Size, (sl x)]) ∧ SH w [] [ownF (sl x) r.Cells] w' := by
  refine calls_of_wc (args := [_, _]) Tryd.func7 rfl Tryd.ntmps7 rfl ?_
  unfold spec_SeenFrom at t0
  refine wcr ?_
  refine wl_eff (eo_box rfl rfl) rfl fun b1 => ?_
  refine wl_eff (eo_alloc (cs := [.int .i64 0, (sl (⟨none, 0, 0⟩ : Hd))]) za_26) rfl fun b2 => ?_
  refine wnt ?_
  refine wc_seq ?_
  refine wc_seq ?_
  refine bdO t0 fun y1 t1 t0 => ?_
  refine wj (J := Bool) (X := Unit) (fun z => y1 = z) (fun z _ => [(1, .int .i64 a_k), (2, ptr b1 0), (4, ptr b2 0), (14, .bool z)]) (fun _ _ => [box b2 [.int .i64 0, (sl (⟨none, 0, 0⟩ : Hd))], box b1 [.int .i64 a_b.Size, (sl v0a)]]) ?_ ?_
  · skip
    refine wc_region ?_
    refine wl_pure (v := .agg #[.int .i64 a_b.Size, (sl v0a)]) (po_load_boxs tk_26 (pickS pick0) rfl rfl rfl) rfl ?_
    refine bdO t1 fun v1 hv1 t1 => ?_
    refine wl_call (co_c0 fa_19 rfl fun w hw => c_spec_BlockOk w a_b v0a (Rg.on (rds_arg r0) hw) hv1) rfl fun _ => ?_
    refine wl_pure (po_not rfl) rfl ?_
    refine mv rfl rfl ?_
    refine wlO_ (t := 10) t1 rfl (fun h1 t1 => ?_) fun h1 t1 => ?_
    · skip
      refine wl_guard_off (j := 3) rfl rfl rfl rfl rfl ?_
      refine wl_guard_off (j := 3) rfl rfl rfl rfl rfl ?_
      refine wl_guard_off (j := 3) rfl rfl rfl rfl rfl ?_
      refine wl_pure (po_pick_t rfl rfl) rfl ?_
      refine wl_nil ?_
      exact wj_meet _ () (mtE t1) (sub_cons rfl (sub_cons rfl (sub_cons rfl (sub_cons rfl sub_nil)))) (some_cons pick0 (some_cons pick0 some_nil))
    refine wl_guard_on (j := 3) rfl rfl rfl (mv rfl rfl ?_)
    refine bdO t1 fun v2 hv2 t1 => ?_
    refine wl_guard_on (j := 3) rfl rfl rfl (wl_call (co_c0 fa_20 rfl fun w hw => c_spec_l01In w a_k 0 7 hv2) rfl (fun _ => ?_))
    refine wl_guard_on (j := 3) rfl rfl rfl (wl_pure (po_not rfl) rfl ?_)
    refine wl_pure (po_pick_f rfl rfl) rfl ?_
    refine wl_nil ?_
    exact wj_meet _ () (mtE t1) (sub_cons rfl (sub_cons rfl (sub_cons rfl (sub_cons rfl sub_nil)))) (some_cons pick0 (some_cons pick0 some_nil))
  intro j1 _ hp
  obtain rfl : j1 = y1 := hp.symm
  refine wq_then ?_
  refine wcO t0 rfl (fun h2 t0 => ?_) fun h2 t0 => ?_
  · skip
    refine wcr ?_
    refine wl_pure (po_build rfl bd_26) rfl ?_
    refine wl_skipop (so_box (cs' := [.int .i64 0, (sl (⟨none, 0, 0⟩ : Hd))]) tk_26 pick0 rfl rfl rfl rfl rfl rfl rfl) ?_
    refine wnt ?_
    refine wc_ret ?_
    refine wq_then_ret ?_
    obtain rfl := Option.some.inj t0
    exact wq_retc rfl tk_26 rfl pick0 rfl fun w hw => ⟨(⟨none, 0, 0⟩ : Hd), rfl, hw.weak (some_cons pick_nil some_nil)⟩
  refine wc_skip ?_
  refine wq_then ?_
  refine wcr ?_
  refine wl_pure (v := .agg #[.int .i64 a_b.Size, (sl v0a)]) (po_load_boxs tk_26 (pickS pick0) rfl rfl rfl) rfl ?_
  refine bdO t0 fun v3 hv3 t0 => ?_
  refine wl_call (co_c1 fa_21 rfl fun w hw => c_spec_l03Copy w a_b v0a (Rg.on (rds_arg r0) hw) hv3) rfl fun x2 => ?_
  refine wl_eff (eo_alloc (cs := [.int .i64 0, (sl (⟨none, 0, 0⟩ : Hd))]) za_26) rfl fun b3 => ?_
  refine wl_skipop (so_box (cs' := [.int .i64 v3.Size, (sl x2)]) tk_26 pick0 rfl rfl rfl rfl rfl rfl rfl) ?_
  refine wnt ?_
  refine wc_seq ?_
  refine wcr ?_
  refine mv rfl rfl ?_
  refine wl_pure (po_geq rfl rfl) rfl ?_
  refine wnt ?_
  refine bdO t0 fun y1 t1 t0 => ?_
  refine wj (J := GBlock) (X := Hd) (fun z => y1 = z) (fun _ _ => [(1, .int .i64 a_k), (4, ptr b2 0), (5, ptr b3 0)]) (fun z x => [box b3 [.int .i64 ((z).Size), (sl x)], box b2 [.int .i64 0, (sl (⟨none, 0, 0⟩ : Hd))], ownF (sl x) ((z).Cells)]) ?_ ?_
  · skip
    refine wcO t1 rfl (fun h3 t1 => ?_) fun h3 t1 => ?_
    · skip
      refine wc_region ?_
      refine wl_pure (v := .agg #[.int .i64 a_b.Size, (sl v0a)]) (po_load_boxs tk_26 (pickS (pickS (pickS pick0))) rfl rfl rfl) rfl ?_
      refine bdO t1 fun v4 hv4 t1 => ?_
      refine wl_call (co_c1 fa_22 rfl fun w hw => c_spec_MirrorBlock w a_b v0a (Rg.on (rds_arg r0) hw) hv4) rfl fun x4 => ?_
      refine wl_skipop (so_box (cs' := [.int .i64 v4.Size, (sl x4)]) tk_26 (pickS pick0) rfl rfl rfl rfl rfl rfl rfl) ?_
      refine wl_nil ?_
      exact wj_meet _ x4 (mtE t1) (sub_cons rfl (sub_cons rfl (sub_cons rfl sub_nil))) (some_cons pick0 (some_cons (pickS (pickS pick0)) (some_cons pick0 some_nil)))
    refine wc_skip ?_
    exact wj_meet _ x2 (mtE t1) (sub_cons rfl (sub_cons rfl (sub_cons rfl sub_nil))) (some_cons pick0 (some_cons (pickS pick0) (some_cons pick0 some_nil)))
  intro j2 x3 hp
  obtain rfl : j2 = y1 := hp.symm
  refine wq_then ?_
  refine wc_seq ?_
  refine wcr ?_
  refine asg rfl rfl ?_
  refine wnt ?_
  refine gdO t0 fun g1 t0 => ?_
  refine lpO_inv t0 fun y1 l1 t0 => ?_
  refine wj (J := Int × (List GCell)) (X := Hd) (fun z => y1 = z) (fun _ _ => [(4, ptr b2 0), (5, ptr b3 0)]) (fun z x => [box b3 [.int .i64 z.1, (sl x)], box b2 [.int .i64 0, (sl (⟨none, 0, 0⟩ : Hd))], ownF (sl x) z.2]) ?_ ?_
  · skip
    refine wc_block ?_
    refine wc_forO (X := Hd) l1 (fun k1 s1 x1l => [(1, .int .i64 a_k), (4, ptr b2 0), (5, ptr b3 0), (6, .int .i64 ((k1 : Nat) : Int))]) (fun k1 s1 x1l => [box b3 [.int .i64 s1.1, (sl x1l)], box b2 [.int .i64 0, (sl (⟨none, 0, 0⟩ : Hd))], ownF (sl x1l) s1.2]) x3 (sub_cons rfl (sub_cons rfl (sub_cons rfl (sub_cons rfl sub_nil)))) (some_cons pick0 (some_cons pick0 (some_cons pick0 some_nil))) fun k1 s1 x1l hN1 l1 => ?_
    by_cases hk1 : k1 < ((a_k.tmod 4)).toNat
    · skip
      refine forO_step l1 hk1 fun _ t1 l1 => ?_
      unfold spec_SeenFrom_L1 at t1
      have c1 : (decide (((k1 : Nat) : Int) < (a_k.tmod 4))) = true := decide_eq_true (by omega)
      refine wc_seq ?_
      refine wcr ?_
      refine mv rfl rfl ?_
      refine mv rfl rfl ?_
      refine wl_pure (po_rem rfl rfl (by decide)) rfl ?_
      refine wl_pure (po_lss rfl rfl) rfl ?_
      refine wnt ?_
      refine wc_cond_t rfl c1 ?_
      refine wc_skip ?_
      refine wq_then ?_
      refine wc_seq ?_
      refine wc_block ?_
      refine wc_region ?_
      refine wl_pure (v := .agg #[.int .i64 s1.1, (sl x1l)]) (po_load_boxs tk_26 pick0 rfl rfl rfl) rfl ?_
      refine bdO t1 fun v5 hv5 t1 => ?_
      refine wl_call (co_c1 fa_23 rfl fun w hw => c_spec_TurnBlock w (GBlock.mk s1.1 s1.2) x1l (Rg.on (rds_own (pickS (pickS pick0))) hw) hv5) rfl fun x6 => ?_
      refine wl_skipop (so_box (cs' := [.int .i64 v5.Size, (sl x6)]) tk_26 (pickS pick0) rfl rfl rfl rfl rfl rfl rfl) ?_
      refine wl_nil ?_
      refine wq_block ?_
      refine wq_then ?_
      refine wc_region ?_
      refine mv rfl rfl ?_
      refine wl_pure (po_inc rfl rfl (by omega)) rfl ?_
      refine asg rfl rfl ?_
      refine wl_nil ?_
      exact wq_rnd hk1 (stpN l1 t1) x6 (sub_cons rfl (sub_cons rfl (sub_cons rfl (sub_cons rfl sub_nil)))) (some_cons pick0 (some_cons (pickS pick0) (some_cons pick0 some_nil)))
    have c1 : (decide (((k1 : Nat) : Int) < (a_k.tmod 4))) = false := decide_eq_false (by omega)
    have en1 := forO_end l1 hk1
    refine wc_seq ?_
    refine wcr ?_
    refine mv rfl rfl ?_
    refine mv rfl rfl ?_
    refine wl_pure (po_rem rfl rfl (by decide)) rfl ?_
    refine wl_pure (po_lss rfl rfl) rfl ?_
    refine wnt ?_
    refine wc_cond_f rfl c1 ?_
    refine wc_exit ?_
    refine wq_then_exit ?_
    refine wq_then_exit ?_
    refine wq_block_exit ?_
    exact wj_meet _ x1l (Sum.inl.inj en1) (sub_cons rfl (sub_cons rfl sub_nil)) (some_cons pick0 (some_cons pick0 (some_cons pick0 some_nil)))
  intro e1 x5 hp
  obtain rfl : e1 = y1 := hp.symm
  refine wq_then ?_
  refine wcr ?_
  refine wl_pure (v := .agg #[.int .i64 e1.1, (sl x5)]) (po_load_boxs tk_26 pick0 rfl rfl rfl) rfl ?_
  refine wl_skipop (so_box (cs' := [.int .i64 e1.1, (sl x5)]) tk_26 (pickS pick0) rfl rfl rfl rfl rfl rfl rfl) ?_
  refine wnt ?_
  refine wc_ret ?_
  obtain rfl := Option.some.inj t0
  exact wq_retc rfl tk_26 rfl pick0 rfl fun w hw => ⟨x5, rfl, hw.weak (some_cons (pickS (pickS pick0)) some_nil)⟩

theorem c_impl_within (w : World) (a_n : Int) (a_a : Int) (a_b : Int) {r : Bool} (t0 : impl_within a_n a_a a_b = some r) : Calls Tryd.prog 40 #[.int .i64 a_n, .int .i64 a_a, .int .i64 a_b] w fun e w' => e = .returned (.bool r) ∧ SH w [] [] w' := by
  refine calls_of_wc (args := [_, _, _]) Tryd.func40 rfl Tryd.ntmps40 rfl ?_
  unfold impl_within at t0
  refine wcr ?_
  refine asg rfl rfl ?_
  refine wnt ?_
  refine wc_seq ?_
  refine wc_join (X := Unit) (fun _ => True) (fun _ => [(6, .bool ((decide (a_n ≥ a_a)) && (decide (a_n ≤ a_b))))]) (fun _ => []) ?_ ?_
  · skip
    refine wc_region ?_
    refine mv rfl rfl ?_
    refine mv rfl rfl ?_
    refine wl_pure (po_geq rfl rfl) rfl ?_
    refine mv rfl rfl ?_
    refine wl_fork (t := 10) rfl (fun h1 => ?_) fun h1 => ?_
    · skip
      refine wl_guard_on (j := 3) rfl rfl rfl (mv rfl rfl ?_)
      refine wl_guard_on (j := 3) rfl rfl rfl (mv rfl rfl ?_)
      refine wl_guard_on (j := 3) rfl rfl rfl (wl_pure (po_leq rfl rfl) rfl ?_)
      refine wl_pure (po_pick_t rfl rfl) rfl ?_
      refine asg rfl rfl ?_
      refine wl_nil ?_
      exact wq_meet () trivial (sub_b rfl (by rw [h1]; rfl) sub_nil) some_nil
    refine wl_guard_off (j := 3) rfl rfl rfl rfl rfl ?_
    refine wl_guard_off (j := 3) rfl rfl rfl rfl rfl ?_
    refine wl_guard_off (j := 3) rfl rfl rfl rfl rfl ?_
    refine wl_pure (po_pick_f rfl rfl) rfl ?_
    refine asg rfl rfl ?_
    refine wl_nil ?_
    exact wq_meet () trivial (sub_b rfl (by rw [h1]; rfl) sub_nil) some_nil
  intro _ _
  refine wq_then ?_
  refine wc_ret ?_
  obtain rfl := Option.some.inj t0
  exact wq_ret1 rfl rfl fun w hw => ⟨rfl, hw.weak some_nil⟩

theorem c_impl_isColor (w : World) (a_a : Int) {r : Bool} (t0 : impl_isColor a_a = some r) : Calls Tryd.prog 49 #[.int .i64 a_a] w fun e w' => e = .returned (.bool r) ∧ SH w [] [] w' := by
  refine calls_of_wc (args := [_]) Tryd.func49 rfl Tryd.ntmps49 rfl ?_
  unfold impl_isColor at t0
  refine wcr ?_
  refine asg rfl rfl ?_
  refine wnt ?_
  refine wcr ?_
  refine mv rfl rfl ?_
  refine bdO t0 fun v1 hv1 t0 => ?_
  refine wl_call (co_c0 fa_40 rfl fun w hw => c_impl_within w a_a 0 5 hv1) rfl fun _ => ?_
  refine asg rfl rfl ?_
  refine wnt ?_
  refine wc_ret ?_
  obtain rfl := Option.some.inj t0
  exact wq_ret1 rfl rfl fun w hw => ⟨rfl, hw.weak some_nil⟩

theorem c_impl_CellOk (w : World) (a_c : GCell) {r : Bool} (t0 : impl_CellOk a_c = some r) : Calls Tryd.prog 41 #[.agg #[.int .i64 a_c.Split, .int .i64 a_c.A, .int .i64 a_c.B]] w fun e w' => e = .returned (.bool r) ∧ SH w [] [] w' := by
  refine calls_of_wc (args := [_]) Tryd.func41 rfl Tryd.ntmps41 rfl ?_
  unfold impl_CellOk at t0
  refine wcr ?_
  refine wl_eff (eo_box rfl rfl) rfl fun b1 => ?_
  refine asg rfl rfl ?_
  refine wnt ?_
  refine wc_seq ?_
  refine bdO t0 fun y1 t1 t0 => ?_
  refine wj (J := Bool) (X := Unit) (fun z => y1 = z) (fun z _ => [(2, .bool z)]) (fun _ _ => []) ?_ ?_
  · skip
    refine wc_region ?_
    refine wl_pure (po_fld fo_49_0 rfl) rfl ?_
    refine wl_pure (v := .int .i64 a_c.Split) (po_load_box tk_3 pick0 rfl rfl) rfl ?_
    refine bdO t1 fun v1 hv1 t1 => ?_
    refine wl_call (co_c0 fa_40 rfl fun w hw => c_impl_within w a_c.Split 0 2 hv1) rfl fun _ => ?_
    refine mv rfl rfl ?_
    refine wlO_ (t := 6) t1 rfl (fun h1 t1 => ?_) fun h1 t1 => ?_
    · skip
      refine wl_guard_on (j := 3) rfl rfl rfl (wl_pure (po_fld fo_49_1 rfl) rfl ?_)
      refine wl_guard_on (j := 3) rfl rfl rfl (wl_pure (v := .int .i64 a_c.A) (po_load_box tk_3 pick0 rfl rfl) rfl ?_)
      refine bdO t1 fun v2 hv2 t1 => ?_
      refine wl_guard_on (j := 3) rfl rfl rfl (wl_call (co_c0 fa_49 rfl fun w hw => c_impl_isColor w a_c.A hv2) rfl (fun _ => ?_))
      refine wl_pure (po_pick_t rfl rfl) rfl ?_
      refine mv rfl rfl ?_
      refine wlO_ (t := 11) t1 rfl (fun h2 t1 => ?_) fun h2 t1 => ?_
      · skip
        refine wl_guard_on (j := 8) rfl rfl rfl (wl_pure (po_fld fo_49_2 rfl) rfl ?_)
        refine wl_guard_on (j := 8) rfl rfl rfl (wl_pure (v := .int .i64 a_c.B) (po_load_box tk_3 pick0 rfl rfl) rfl ?_)
        refine bdO t1 fun v3 hv3 t1 => ?_
        refine wl_guard_on (j := 8) rfl rfl rfl (wl_call (co_c0 fa_49 rfl fun w hw => c_impl_isColor w a_c.B hv3) rfl (fun _ => ?_))
        refine wl_pure (po_pick_t rfl rfl) rfl ?_
        refine mv rfl rfl ?_
        refine wlO_ (t := 16) t1 rfl (fun h3 t1 => ?_) fun h3 t1 => ?_
        · skip
          refine wl_guard_on (j := 13) rfl rfl rfl (wl_pure (po_fld fo_49_0 rfl) rfl ?_)
          refine wl_guard_on (j := 13) rfl rfl rfl (wl_pure (v := .int .i64 a_c.Split) (po_load_box tk_3 pick0 rfl rfl) rfl ?_)
          refine wl_guard_on (j := 13) rfl rfl rfl (wl_pure (po_eql rfl rfl) rfl ?_)
          refine wl_guard_on (j := 13) rfl rfl rfl (wl_pure (po_fld fo_49_1 rfl) rfl ?_)
          refine wl_guard_on (j := 13) rfl rfl rfl (wl_pure (v := .int .i64 a_c.A) (po_load_box tk_3 pick0 rfl rfl) rfl ?_)
          refine wl_guard_on (j := 13) rfl rfl rfl (wl_pure (po_fld fo_49_2 rfl) rfl ?_)
          refine wl_guard_on (j := 13) rfl rfl rfl (wl_pure (v := .int .i64 a_c.B) (po_load_box tk_3 pick0 rfl rfl) rfl ?_)
          refine wl_guard_on (j := 13) rfl rfl rfl (wl_pure (po_eql rfl rfl) rfl ?_)
          refine wl_guard_on (j := 13) rfl rfl rfl (wl_pure (po_eql_bool ub_4 rfl rfl) rfl ?_)
          refine wl_pure (po_pick_t rfl rfl) rfl ?_
          refine asg rfl rfl ?_
          refine wl_nil ?_
          exact wj_meet _ () (mtE t1) (sub_cons rfl sub_nil) some_nil
        refine wl_guard_off (j := 13) rfl rfl rfl rfl rfl ?_
        refine wl_guard_off (j := 13) rfl rfl rfl rfl rfl ?_
        refine wl_guard_off (j := 13) rfl rfl rfl rfl rfl ?_
        refine wl_guard_off (j := 13) rfl rfl rfl rfl rfl ?_
        refine wl_guard_off (j := 13) rfl rfl rfl rfl rfl ?_
        refine wl_guard_off (j := 13) rfl rfl rfl rfl rfl ?_
        refine wl_guard_off (j := 13) rfl rfl rfl rfl rfl ?_
        refine wl_guard_off (j := 13) rfl rfl rfl rfl rfl ?_
        refine wl_guard_off (j := 13) rfl rfl rfl rfl rfl ?_
        refine wl_pure (po_pick_f rfl rfl) rfl ?_
        refine asg rfl rfl ?_
        refine wl_nil ?_
        exact wj_meet _ () (mtE t1) (sub_cons rfl sub_nil) some_nil
      refine wl_guard_off (j := 8) rfl rfl rfl rfl rfl ?_
      refine wl_guard_off (j := 8) rfl rfl rfl rfl rfl ?_
      refine wl_guard_off (j := 8) rfl rfl rfl rfl rfl ?_
      refine wl_pure (po_pick_f rfl rfl) rfl ?_
      refine mv rfl rfl ?_
      refine wl_guard_off (j := 13) rfl rfl rfl rfl rfl ?_
      refine wl_guard_off (j := 13) rfl rfl rfl rfl rfl ?_
      refine wl_guard_off (j := 13) rfl rfl rfl rfl rfl ?_
      refine wl_guard_off (j := 13) rfl rfl rfl rfl rfl ?_
      refine wl_guard_off (j := 13) rfl rfl rfl rfl rfl ?_
      refine wl_guard_off (j := 13) rfl rfl rfl rfl rfl ?_
      refine wl_guard_off (j := 13) rfl rfl rfl rfl rfl ?_
      refine wl_guard_off (j := 13) rfl rfl rfl rfl rfl ?_
      refine wl_guard_off (j := 13) rfl rfl rfl rfl rfl ?_
      refine wl_pure (po_pick_f rfl rfl) rfl ?_
      refine asg rfl rfl ?_
      refine wl_nil ?_
      exact wj_meet _ () (mtE t1) (sub_cons rfl sub_nil) some_nil
    refine wl_guard_off (j := 3) rfl rfl rfl rfl rfl ?_
    refine wl_guard_off (j := 3) rfl rfl rfl rfl rfl ?_
    refine wl_guard_off (j := 3) rfl rfl rfl rfl rfl ?_
    refine wl_pure (po_pick_f rfl rfl) rfl ?_
    refine mv rfl rfl ?_
    refine wl_guard_off (j := 8) rfl rfl rfl rfl rfl ?_
    refine wl_guard_off (j := 8) rfl rfl rfl rfl rfl ?_
    refine wl_guard_off (j := 8) rfl rfl rfl rfl rfl ?_
    refine wl_pure (po_pick_f rfl rfl) rfl ?_
    refine mv rfl rfl ?_
    refine wl_guard_off (j := 13) rfl rfl rfl rfl rfl ?_
    refine wl_guard_off (j := 13) rfl rfl rfl rfl rfl ?_
    refine wl_guard_off (j := 13) rfl rfl rfl rfl rfl ?_
    refine wl_guard_off (j := 13) rfl rfl rfl rfl rfl ?_
    refine wl_guard_off (j := 13) rfl rfl rfl rfl rfl ?_
    refine wl_guard_off (j := 13) rfl rfl rfl rfl rfl ?_
    refine wl_guard_off (j := 13) rfl rfl rfl rfl rfl ?_
    refine wl_guard_off (j := 13) rfl rfl rfl rfl rfl ?_
    refine wl_guard_off (j := 13) rfl rfl rfl rfl rfl ?_
    refine wl_pure (po_pick_f rfl rfl) rfl ?_
    refine asg rfl rfl ?_
    refine wl_nil ?_
    exact wj_meet _ () (mtE t1) (sub_cons rfl sub_nil) some_nil
  intro j1 _ hp
  obtain rfl : j1 = y1 := hp.symm
  refine wq_then ?_
  refine wc_ret ?_
  obtain rfl := Option.some.inj t0
  exact wq_ret1 rfl rfl fun w hw => ⟨rfl, hw.weak some_nil⟩

theorem c_impl_BlockOk (w : World) (a_b : GBlock) (v0a : Hd) (r0 : rdF w (dm w []) (sl v0a) a_b.Cells) {r : Bool} (t0 : impl_BlockOk a_b = some r) : Calls Tryd.prog 24 #[.agg #[.int .i64 a_b.Size, (sl v0a)]] w fun e w' => e = .returned (.bool r) ∧ SH w [] [] w' := by
  refine calls_of_wc (args := [_]) Tryd.func24 rfl Tryd.ntmps24 rfl ?_
  unfold impl_BlockOk at t0
  refine wcr ?_
  refine wl_eff (eo_box rfl rfl) rfl fun b1 => ?_
  refine asg rfl rfl ?_
  refine wnt ?_
  refine wc_seq ?_
  refine wc_seq ?_
  refine bdO t0 fun y1 t1 t0 => ?_
  refine wj (J := Bool) (X := Unit) (fun z => y1 = z) (fun z _ => [(1, ptr b1 0), (19, .bool z)]) (fun _ _ => [box b1 [.int .i64 a_b.Size, (sl v0a)]]) ?_ ?_
  · skip
    refine wc_region ?_
    refine wl_pure (po_fld fo_26_0 rfl) rfl ?_
    refine wl_pure (v := .int .i64 a_b.Size) (po_load_box tk_3 pick0 rfl rfl) rfl ?_
    refine bdO t1 fun v1 hv1 t1 => ?_
    refine wl_call (co_c0 fa_40 rfl fun w hw => c_impl_within w a_b.Size 1 4 hv1) rfl fun _ => ?_
    refine wl_pure (po_not rfl) rfl ?_
    refine mv rfl rfl ?_
    refine wlO_ (t := 9) t1 rfl (fun h1 t1 => ?_) fun h1 t1 => ?_
    · skip
      refine wl_guard_off (j := 4) rfl rfl rfl rfl rfl ?_
      refine wl_guard_off (j := 4) rfl rfl rfl rfl rfl ?_
      refine wl_guard_off (j := 4) rfl rfl rfl rfl rfl ?_
      refine wl_guard_off (j := 4) rfl rfl rfl rfl rfl ?_
      refine wl_guard_off (j := 4) rfl rfl rfl rfl rfl ?_
      refine wl_guard_off (j := 4) rfl rfl rfl rfl rfl ?_
      refine wl_guard_off (j := 4) rfl rfl rfl rfl rfl ?_
      refine wl_guard_off (j := 4) rfl rfl rfl rfl rfl ?_
      refine wl_guard_off (j := 4) rfl rfl rfl rfl rfl ?_
      refine wl_pure (po_pick_t rfl rfl) rfl ?_
      refine wl_nil ?_
      exact wj_meet _ () (mtE t1) (sub_cons rfl (sub_cons rfl sub_nil)) (some_cons pick0 some_nil)
    refine wl_guard_on (j := 4) rfl rfl rfl (wl_pure (po_fld fo_26_1 rfl) rfl ?_)
    refine wl_guard_on (j := 4) rfl rfl rfl (wl_pure (v := (sl v0a)) (po_load_box tk_24 pick0 rfl rfl) rfl ?_)
    refine wl_guard_on (j := 4) rfl rfl rfl (wl_pure (po_lenr (rds_arg r0) el_24 rfl) rfl ?_)
    refine wl_guard_on (j := 4) rfl rfl rfl (wl_pure (po_fld fo_26_0 rfl) rfl ?_)
    refine wl_guard_on (j := 4) rfl rfl rfl (wl_pure (v := .int .i64 a_b.Size) (po_load_box tk_3 pick0 rfl rfl) rfl ?_)
    refine wl_guard_on (j := 4) rfl rfl rfl (wl_pure (po_fld fo_26_0 rfl) rfl ?_)
    refine wl_guard_on (j := 4) rfl rfl rfl (wl_pure (v := .int .i64 a_b.Size) (po_load_box tk_3 pick0 rfl rfl) rfl ?_)
    refine wl_guard_on (j := 4) rfl rfl rfl (wl_pure (po_mul rfl rfl) rfl ?_)
    refine wl_guard_on (j := 4) rfl rfl rfl (wl_pure (po_neq rfl rfl) rfl ?_)
    refine wl_pure (po_pick_f rfl rfl) rfl ?_
    refine wl_nil ?_
    exact wj_meet _ () (mtE t1) (sub_cons rfl (sub_cons rfl sub_nil)) (some_cons pick0 some_nil)
  intro j1 _ hp
  obtain rfl : j1 = y1 := hp.symm
  refine wq_then ?_
  refine wcO t0 rfl (fun h2 t0 => ?_) fun h2 t0 => ?_
  · skip
    refine wcr ?_
    refine asg rfl rfl ?_
    refine wnt ?_
    refine wc_ret ?_
    refine wq_then_ret ?_
    obtain rfl := Option.some.inj t0
    exact wq_ret1 rfl rfl fun w hw => ⟨rfl, hw.weak some_nil⟩
  refine wc_skip ?_
  refine wq_then ?_
  refine wc_seq ?_
  refine wcr ?_
  refine wl_pure (po_fld fo_26_1 rfl) rfl ?_
  refine wl_pure (v := (sl v0a)) (po_load_box tk_24 pick0 rfl rfl) rfl ?_
  refine wl_pure (po_lenr (rds_arg r0) el_24 rfl) rfl ?_
  refine mv rfl rfl ?_
  refine wnt ?_
  refine gdO t0 fun g1 t0 => ?_
  refine sqO t0 fun y1 l1 t0 => ?_
  refine wj (J := Unit) (X := Unit) (fun z => y1 = .inl z) (fun _ _ => []) (fun _ _ => []) ?_ ?_
  · skip
    refine wc_block ?_
    refine wc_forO (X := Unit) l1 (fun k1 s1 x1l => [(21, (sl v0a)), (22, .int .i64 ((a_b.Cells.length : Nat) : Int)), (23, .int .i64 ((k1 : Nat) : Int))]) (fun k1 s1 x1l => []) () (sub_cons rfl (sub_cons rfl (sub_cons rfl sub_nil))) some_nil fun k1 s1 x1l hN1 l1 => ?_
    by_cases hk1 : k1 < a_b.Cells.length
    · skip
      refine forO_step l1 hk1 fun _ t1 l1 => ?_
      unfold impl_BlockOk_L1 at t1
      have c1 : (decide (((k1 : Nat) : Int) < ((a_b.Cells.length : Nat) : Int))) = true := decide_eq_true (by omega)
      refine wcr ?_
      refine wl_pure (po_lss rfl rfl) rfl ?_
      refine wnt ?_
      refine wc_seq ?_
      refine wc_cond_t rfl c1 ?_
      refine wc_skip ?_
      refine wq_then ?_
      refine wc_seq ?_
      refine wc_block ?_
      refine wcr ?_
      refine wl_pure (po_ixn (k := k1) (rds_arg r0) el_24 rfl rfl hk1) rfl ?_
      refine wl_pure (v := .agg #[.int .i64 ((gx a_b.Cells k1).Split), .int .i64 ((gx a_b.Cells k1).A), .int .i64 ((gx a_b.Cells k1).B)]) (po_ldfs (rds_arg r0) tk_49 rfl hk1 rfl rfl rfl) rfl ?_
      refine wl_eff (eo_alloc (cs := [.int .i64 0, .int .i64 0, .int .i64 0]) za_49) rfl fun b2 => ?_
      refine wl_skipop (so_box (cs' := [.int .i64 ((gx a_b.Cells k1).Split), .int .i64 ((gx a_b.Cells k1).A), .int .i64 ((gx a_b.Cells k1).B)]) tk_49 pick0 rfl rfl rfl rfl rfl rfl rfl) ?_
      refine wnt ?_
      refine wcr ?_
      refine wl_pure (v := .agg #[.int .i64 ((gx a_b.Cells k1).Split), .int .i64 ((gx a_b.Cells k1).A), .int .i64 ((gx a_b.Cells k1).B)]) (po_load_boxs tk_49 pick0 rfl rfl rfl) rfl ?_
      refine bdO t1 fun v2 hv2 t1 => ?_
      refine wl_call (co_c0 fa_41 rfl fun w hw => c_impl_CellOk w (gx a_b.Cells k1) hv2) rfl fun _ => ?_
      refine wl_pure (po_not rfl) rfl ?_
      refine wnt ?_
      refine wcO t1 rfl (fun h3 t1 => ?_) fun h3 t1 => ?_
      · skip
        refine wcr ?_
        refine asg rfl rfl ?_
        refine wnt ?_
        refine wc_ret ?_
        refine wq_block_ret ?_
        refine wq_then_ret ?_
        refine wq_then_ret ?_
        refine wq_block_ret ?_
        refine wq_then_ret ?_
        refine wq_then_ret ?_
        replace t0 := lpR t0 l1 t1
        obtain rfl := Option.some.inj t0
        exact wq_ret1 rfl rfl fun w hw => ⟨rfl, hw.weak some_nil⟩
      refine wc_skip ?_
      refine wq_block ?_
      refine wq_then ?_
      refine wc_region ?_
      refine wl_pure (po_inc rfl rfl (by omega)) rfl ?_
      refine mv rfl rfl ?_
      refine wl_nil ?_
      exact wq_rnd hk1 (stpN l1 t1) () (sub_cons rfl (sub_cons rfl (sub_cons rfl sub_nil))) some_nil
    have c1 : (decide (((k1 : Nat) : Int) < ((a_b.Cells.length : Nat) : Int))) = false := decide_eq_false (by omega)
    have en1 := forO_end l1 hk1
    refine wcr ?_
    refine wl_pure (po_lss rfl rfl) rfl ?_
    refine wnt ?_
    refine wc_seq ?_
    refine wc_cond_f rfl c1 ?_
    refine wc_exit ?_
    refine wq_then_exit ?_
    refine wq_then_exit ?_
    refine wq_block_exit ?_
    exact wj_meet _ () en1 sub_nil some_nil
  intro e1 _ hp
  replace t0 := sqE (j := e1) t0 hp
  refine wq_then ?_
  refine wcr ?_
  refine asg rfl rfl ?_
  refine wnt ?_
  refine wc_ret ?_
  obtain rfl := Option.some.inj t0
  exact wq_ret1 rfl rfl fun w hw => ⟨rfl, hw.weak some_nil⟩

theorem c_impl_Block_copied (w : World) (a_b : GBlock) (v0a : Hd) (r0 : rdF w (dm w []) (sl v0a) a_b.Cells) {r : GBlock} (t0 : impl_Block_copied a_b = some r) : Calls Tryd.prog 50 #[.agg #[.int .i64 a_b.Size, (sl v0a)]] w fun e w' => ∃ x : Hd, e = .returned (.agg #[.int .i64 r.Size, (sl x)]) ∧ SH w [] [ownF (sl x) r.Cells] w' := by
  refine calls_of_wc (args := [_]) Tryd.func50 rfl Tryd.ntmps50 rfl ?_
  unfold impl_Block_copied at t0
  refine wcr ?_
  refine wl_eff (eo_box rfl rfl) rfl fun b1 => ?_
  refine wl_eff (eo_alloc (cs := [.int .i64 0, (sl (⟨none, 0, 0⟩ : Hd))]) za_26) rfl fun b2 => ?_
  refine wnt ?_
  refine wc_seq ?_
  refine wc_draw [box b2 [.int .i64 0, (sl (⟨none, 0, 0⟩ : Hd))], box b1 [.int .i64 a_b.Size, (sl v0a)]] 7 mixed ?_
  refine wa_pure 0 rfl (po_fld fo_26_0 rfl) (some_cons pick0 (some_cons pick0 some_nil)) rfl (by kernel_rfl) (fun _ _ _ h => h) ?_
  refine wa_pure (v := .int .i64 a_b.Size) 1 rfl (po_load_box tk_3 (pickS pick0) rfl rfl) (some_cons pick0 (some_cons pick0 some_nil)) rfl (by kernel_rfl) (fun _ _ _ h => h) ?_
  refine wa_pure 3 rfl (po_fld fo_26_1 rfl) (some_cons pick0 (some_cons pick0 some_nil)) rfl (by kernel_rfl) (fun _ _ _ h => h) ?_
  refine wa_pure (v := (sl v0a)) 4 rfl (po_load_box tk_24 (pickS pick0) rfl rfl) (some_cons pick0 (some_cons pick0 some_nil)) rfl (by kernel_rfl) (fun _ _ _ h => h) ?_
  refine wa_1 (i := 2) (by kernel_rfl) ?_
  refine ws_eff rfl (eo_buildSlice rfl sb_24_0) (fun _ => (sts_some (some_cons (pickS pick0) (some_cons (pickS pick0) some_nil)))) rfl fun b3 => ?_
  refine wa_1 (i := 5) (by kernel_rfl) ?_
  refine gdO t0 fun g1 t0 => ?_
  refine ws_eff rfl (eo_append (xs := ([] : List GCell)) (ys := a_b.Cells) ak_24 (pick_box_own pick0 (n := 0) (xs := ([] : List GCell)) rfl rfl (by unfold maxLen; omega)) rfl rfl (slin_rd fun _ g => Rg.on (rds_arg r0) g) g1) (fun _ => (sts_some (some_cons (pickS pick0) (some_cons (pickS pick0) some_nil)))) rfl fun x1 => ?_
  refine wa_pure 6 rfl (po_build rfl (bd_26_0_1 a_b.Size x1)) (some_cons (pickS pick0) (some_cons (pickS pick0) some_nil)) rfl (by kernel_rfl) (fun _ _ _ h => h) ?_
  refine wa_1 (i := 7) (by kernel_rfl) ?_
  refine ws_skipop rfl (so_box (cs' := [.int .i64 a_b.Size, (sl x1)]) tk_26 (pickS pick0) rfl rfl rfl rfl rfl rfl rfl) (sts_past (by kernel_rfl)) ?_
  refine wa_done (by kernel_rfl) ?_
  refine wq_then ?_
  refine wc_ret ?_
  obtain rfl := Option.some.inj t0
  exact wq_retc rfl tk_26 rfl pick0 rfl fun w hw => ⟨x1, rfl, hw.weak (some_cons (pickS pick0) some_nil)⟩

theorem c_impl_Block_isPlace (w : World) (a_b : GBlock) (v0a : Hd) (r0 : rdF w (dm w []) (sl v0a) a_b.Cells) (a_x : Int) (a_y : Int) {r : Bool} (t0 : impl_Block_isPlace a_b a_x a_y = some r) : Calls Tryd.prog 67 #[.agg #[.int .i64 a_b.Size, (sl v0a)], .int .i64 a_x, .int .i64 a_y] w fun e w' => e = .returned (.bool r) ∧ SH w [] [] w' := by
  refine calls_of_wc (args := [_, _, _]) Tryd.func67 rfl Tryd.ntmps67 rfl ?_
  unfold impl_Block_isPlace at t0
  refine wcr ?_
  refine wl_eff (eo_box rfl rfl) rfl fun b1 => ?_
  refine asg rfl rfl ?_
  refine wnt ?_
  refine wc_seq ?_
  refine bdO t0 fun y1 t1 t0 => ?_
  refine wj (J := Bool) (X := Unit) (fun z => y1 = z) (fun z _ => [(6, .bool z)]) (fun _ _ => []) ?_ ?_
  · skip
    refine wc_region ?_
    refine wl_pure (v := .agg #[.int .i64 a_b.Size, (sl v0a)]) (po_load_boxs tk_26 pick0 rfl rfl rfl) rfl ?_
    refine bdO t1 fun v1 hv1 t1 => ?_
    refine wl_call (co_c0 fa_24 rfl fun w hw => c_impl_BlockOk w a_b v0a (Rg.on (rds_arg r0) hw) hv1) rfl fun _ => ?_
    refine mv rfl rfl ?_
    refine wlO_ (t := 9) t1 rfl (fun h1 t1 => ?_) fun h1 t1 => ?_
    · skip
      refine wl_guard_on (j := 2) rfl rfl rfl (mv rfl rfl ?_)
      refine wl_guard_on (j := 2) rfl rfl rfl (wl_pure (po_fld fo_26_0 rfl) rfl ?_)
      refine wl_guard_on (j := 2) rfl rfl rfl (wl_pure (v := .int .i64 a_b.Size) (po_load_box tk_3 pick0 rfl rfl) rfl ?_)
      refine wl_guard_on (j := 2) rfl rfl rfl (wl_pure (po_sub rfl rfl) rfl ?_)
      refine bdO t1 fun v2 hv2 t1 => ?_
      refine wl_guard_on (j := 2) rfl rfl rfl (wl_call (co_c0 fa_40 rfl fun w hw => c_impl_within w a_x 0 (wr (a_b.Size - 1)) hv2) rfl (fun _ => ?_))
      refine wl_pure (po_pick_t rfl rfl) rfl ?_
      refine mv rfl rfl ?_
      refine wlO_ (t := 16) t1 rfl (fun h2 t1 => ?_) fun h2 t1 => ?_
      · skip
        refine wl_guard_on (j := 9) rfl rfl rfl (mv rfl rfl ?_)
        refine wl_guard_on (j := 9) rfl rfl rfl (wl_pure (po_fld fo_26_0 rfl) rfl ?_)
        refine wl_guard_on (j := 9) rfl rfl rfl (wl_pure (v := .int .i64 a_b.Size) (po_load_box tk_3 pick0 rfl rfl) rfl ?_)
        refine wl_guard_on (j := 9) rfl rfl rfl (wl_pure (po_sub rfl rfl) rfl ?_)
        refine bdO t1 fun v3 hv3 t1 => ?_
        refine wl_guard_on (j := 9) rfl rfl rfl (wl_call (co_c0 fa_40 rfl fun w hw => c_impl_within w a_y 0 (wr (a_b.Size - 1)) hv3) rfl (fun _ => ?_))
        refine wl_pure (po_pick_t rfl rfl) rfl ?_
        refine asg rfl rfl ?_
        refine wl_nil ?_
        exact wj_meet _ () (mtE t1) (sub_cons rfl sub_nil) some_nil
      refine wl_guard_off (j := 9) rfl rfl rfl rfl rfl ?_
      refine wl_guard_off (j := 9) rfl rfl rfl rfl rfl ?_
      refine wl_guard_off (j := 9) rfl rfl rfl rfl rfl ?_
      refine wl_guard_off (j := 9) rfl rfl rfl rfl rfl ?_
      refine wl_guard_off (j := 9) rfl rfl rfl rfl rfl ?_
      refine wl_pure (po_pick_f rfl rfl) rfl ?_
      refine asg rfl rfl ?_
      refine wl_nil ?_
      exact wj_meet _ () (mtE t1) (sub_cons rfl sub_nil) some_nil
    refine wl_guard_off (j := 2) rfl rfl rfl rfl rfl ?_
    refine wl_guard_off (j := 2) rfl rfl rfl rfl rfl ?_
    refine wl_guard_off (j := 2) rfl rfl rfl rfl rfl ?_
    refine wl_guard_off (j := 2) rfl rfl rfl rfl rfl ?_
    refine wl_guard_off (j := 2) rfl rfl rfl rfl rfl ?_
    refine wl_pure (po_pick_f rfl rfl) rfl ?_
    refine mv rfl rfl ?_
    refine wl_guard_off (j := 9) rfl rfl rfl rfl rfl ?_
    refine wl_guard_off (j := 9) rfl rfl rfl rfl rfl ?_
    refine wl_guard_off (j := 9) rfl rfl rfl rfl rfl ?_
    refine wl_guard_off (j := 9) rfl rfl rfl rfl rfl ?_
    refine wl_guard_off (j := 9) rfl rfl rfl rfl rfl ?_
    refine wl_pure (po_pick_f rfl rfl) rfl ?_
    refine asg rfl rfl ?_
    refine wl_nil ?_
    exact wj_meet _ () (mtE t1) (sub_cons rfl sub_nil) some_nil
  intro j1 _ hp
  obtain rfl : j1 = y1 := hp.symm
  refine wq_then ?_
  refine wc_ret ?_
  obtain rfl := Option.some.inj t0
  exact wq_ret1 rfl rfl fun w hw => ⟨rfl, hw.weak some_nil⟩

theorem c_impl_CellAt (w : World) (a_b : GBlock) (v0a : Hd) (r0 : rdF w (dm w []) (sl v0a) a_b.Cells) (a_x : Int) (a_y : Int) {r : GCell} (t0 : impl_CellAt a_b a_x a_y = some r) : Calls Tryd.prog 57 #[.agg #[.int .i64 a_b.Size, (sl v0a)], .int .i64 a_x, .int .i64 a_y] w fun e w' => e = .returned (.agg #[.int .i64 r.Split, .int .i64 r.A, .int .i64 r.B]) ∧ SH w [] [] w' := by
  refine calls_of_wc (args := [_, _, _]) Tryd.func57 rfl Tryd.ntmps57 rfl ?_
  unfold impl_CellAt at t0
  refine wcr ?_
  refine wl_eff (eo_box rfl rfl) rfl fun b1 => ?_
  refine wl_eff (eo_alloc (cs := [.int .i64 0, .int .i64 0, .int .i64 0]) za_49) rfl fun b2 => ?_
  refine wnt ?_
  refine wc_seq ?_
  refine wcr ?_
  refine wl_pure (v := .agg #[.int .i64 a_b.Size, (sl v0a)]) (po_load_boxs tk_26 (pickS pick0) rfl rfl rfl) rfl ?_
  refine mv rfl rfl ?_
  refine mv rfl rfl ?_
  refine bdO t0 fun v1 hv1 t0 => ?_
  refine wl_call (co_c0 fa_67 rfl fun w hw => c_impl_Block_isPlace w a_b v0a (Rg.on (rds_arg r0) hw) a_x a_y hv1) rfl fun _ => ?_
  refine wl_pure (po_not rfl) rfl ?_
  refine wnt ?_
  refine wcO t0 rfl (fun h1 t0 => ?_) fun h1 t0 => ?_
  · skip
    refine wcr ?_
    refine wl_pure (po_build rfl bd_49) rfl ?_
    refine wl_skipop (so_box (cs' := [.int .i64 0, .int .i64 0, .int .i64 0]) tk_49 pick0 rfl rfl rfl rfl rfl rfl rfl) ?_
    refine wnt ?_
    refine wc_ret ?_
    refine wq_then_ret ?_
    obtain rfl := Option.some.inj t0
    exact wq_retc rfl tk_49 rfl pick0 rfl fun w hw => ⟨rfl, hw.weak some_nil⟩
  refine wc_skip ?_
  refine wq_then ?_
  refine wcr ?_
  refine wl_pure (po_fld fo_26_1 rfl) rfl ?_
  refine wl_pure (v := (sl v0a)) (po_load_box tk_24 (pickS pick0) rfl rfl) rfl ?_
  refine mv rfl rfl ?_
  refine wl_pure (po_fld fo_26_0 rfl) rfl ?_
  refine wl_pure (v := .int .i64 a_b.Size) (po_load_box tk_3 (pickS pick0) rfl rfl) rfl ?_
  refine wl_pure (po_mul rfl rfl) rfl ?_
  refine mv rfl rfl ?_
  refine wl_pure (po_add rfl rfl) rfl ?_
  refine gdO t0 fun g1 t0 => ?_
  refine wl_pure (po_ixr (rds_arg r0) el_24 rfl rfl g1.1 g1.2) rfl ?_
  refine wl_pure (v := .agg #[.int .i64 ((gx a_b.Cells (((wr ((wr (a_y * a_b.Size)) + a_x))).toNat)).Split), .int .i64 ((gx a_b.Cells (((wr ((wr (a_y * a_b.Size)) + a_x))).toNat)).A), .int .i64 ((gx a_b.Cells (((wr ((wr (a_y * a_b.Size)) + a_x))).toNat)).B)]) (po_ldfs (rds_arg r0) tk_49 rfl (ix_lt g1) rfl rfl rfl) rfl ?_
  refine wl_skipop (so_box (cs' := [.int .i64 ((gx a_b.Cells (((wr ((wr (a_y * a_b.Size)) + a_x))).toNat)).Split), .int .i64 ((gx a_b.Cells (((wr ((wr (a_y * a_b.Size)) + a_x))).toNat)).A), .int .i64 ((gx a_b.Cells (((wr ((wr (a_y * a_b.Size)) + a_x))).toNat)).B)]) tk_49 pick0 rfl rfl rfl rfl rfl rfl rfl) ?_
  refine wnt ?_
  refine wc_ret ?_
  obtain rfl := Option.some.inj t0
  exact wq_retc rfl tk_49 rfl pick0 rfl fun w hw => ⟨rfl, hw.weak some_nil⟩

theorem c_impl_MirrorCell (w : World) (a_c : GCell) {r : GCell} (t0 : impl_MirrorCell a_c = some r) : Calls Tryd.prog 62 #[.agg #[.int .i64 a_c.Split, .int .i64 a_c.A, .int .i64 a_c.B]] w fun e w' => e = .returned (.agg #[.int .i64 r.Split, .int .i64 r.A, .int .i64 r.B]) ∧ SH w [] [] w' := by
  refine calls_of_wc (args := [_]) Tryd.func62 rfl Tryd.ntmps62 rfl ?_
  unfold impl_MirrorCell at t0
  refine wcr ?_
  refine wl_eff (eo_box rfl rfl) rfl fun b1 => ?_
  refine wl_eff (eo_alloc (cs := [.int .i64 0, .int .i64 0, .int .i64 0]) za_49) rfl fun b2 => ?_
  refine wnt ?_
  refine wc_seq ?_
  refine wc_block ?_
  refine wcr ?_
  refine wl_pure (v := .agg #[.int .i64 a_c.Split, .int .i64 a_c.A, .int .i64 a_c.B]) (po_load_boxs tk_49 (pickS pick0) rfl rfl rfl) rfl ?_
  refine bdO t0 fun v1 hv1 t0 => ?_
  refine wl_call (co_c0 fa_41 rfl fun w hw => c_impl_CellOk w a_c hv1) rfl fun _ => ?_
  refine wl_pure (po_not rfl) rfl ?_
  refine asg rfl rfl ?_
  refine wnt ?_
  refine wcO t0 rfl (fun h1 t0 => ?_) fun h1 t0 => ?_
  · skip
    refine wcr ?_
    refine wl_pure (po_build rfl bd_49) rfl ?_
    refine wl_skipop (so_box (cs' := [.int .i64 0, .int .i64 0, .int .i64 0]) tk_49 pick0 rfl rfl rfl rfl rfl rfl rfl) ?_
    refine wnt ?_
    refine wc_ret ?_
    refine wq_block_ret ?_
    refine wq_then_ret ?_
    obtain rfl := Option.some.inj t0
    exact wq_retc rfl tk_49 rfl pick0 rfl fun w hw => ⟨rfl, hw.weak some_nil⟩
  refine wcr ?_
  refine wl_pure (po_fld fo_49_0 rfl) rfl ?_
  refine wl_pure (v := .int .i64 a_c.Split) (po_load_box tk_3 (pickS pick0) rfl rfl) rfl ?_
  refine wl_pure (po_eql rfl rfl) rfl ?_
  refine asg rfl rfl ?_
  refine wnt ?_
  refine wcO t0 rfl (fun h2 t0 => ?_) fun h2 t0 => ?_
  · skip
    refine wcr ?_
    refine wl_pure (v := .agg #[.int .i64 a_c.Split, .int .i64 a_c.A, .int .i64 a_c.B]) (po_load_boxs tk_49 (pickS pick0) rfl rfl rfl) rfl ?_
    refine wl_skipop (so_box (cs' := [.int .i64 a_c.Split, .int .i64 a_c.A, .int .i64 a_c.B]) tk_49 pick0 rfl rfl rfl rfl rfl rfl rfl) ?_
    refine wnt ?_
    refine wc_ret ?_
    refine wq_block_ret ?_
    refine wq_then_ret ?_
    obtain rfl := Option.some.inj t0
    exact wq_retc rfl tk_49 rfl pick0 rfl fun w hw => ⟨rfl, hw.weak some_nil⟩
  refine wc_skip ?_
  refine wq_block ?_
  refine wq_then ?_
  refine wcr ?_
  refine wl_pure (po_fld fo_49_0 rfl) rfl ?_
  refine wl_pure (v := .int .i64 a_c.Split) (po_load_box tk_3 (pickS pick0) rfl rfl) rfl ?_
  refine wl_pure (po_sub rfl rfl) rfl ?_
  refine wl_pure (po_fld fo_49_2 rfl) rfl ?_
  refine wl_pure (v := .int .i64 a_c.B) (po_load_box tk_3 (pickS pick0) rfl rfl) rfl ?_
  refine wl_pure (po_fld fo_49_1 rfl) rfl ?_
  refine wl_pure (v := .int .i64 a_c.A) (po_load_box tk_3 (pickS pick0) rfl rfl) rfl ?_
  refine wl_pure (po_build rfl (bd_49_0_1_2 (wr (3 - a_c.Split)) a_c.B a_c.A)) rfl ?_
  refine wl_skipop (so_box (cs' := [.int .i64 (wr (3 - a_c.Split)), .int .i64 a_c.B, .int .i64 a_c.A]) tk_49 pick0 rfl rfl rfl rfl rfl rfl rfl) ?_
  refine wnt ?_
  refine wc_ret ?_
  obtain rfl := Option.some.inj t0
  exact wq_retc rfl tk_49 rfl pick0 rfl fun w hw => ⟨rfl, hw.weak some_nil⟩

theorem c_impl_MirrorBlock_c1 (w : World) (a_x : Int) (a_y : Int) (c_p2 : GBlock) (v0a : Hd) (r0 : rdF w (dm w []) (sl v0a) c_p2.Cells) (b2c : Nat) (q2 : Bx w b2c [.int .i64 c_p2.Size, (sl v0a)]) {r : GCell} (t0 : impl_MirrorBlock_c1 a_x a_y c_p2 = some r) : Calls Tryd.prog 61 #[.int .i64 a_x, .int .i64 a_y, ptr b2c 0] w fun e w' => e = .returned (.agg #[.int .i64 r.Split, .int .i64 r.A, .int .i64 r.B]) ∧ SH w [] [] w' := by
  refine calls_of_wc (args := [_, _, _]) Tryd.func61 rfl Tryd.ntmps61 rfl ?_
  unfold impl_MirrorBlock_c1 at t0
  refine wcr ?_
  refine wl_eff (eo_alloc (cs := [.int .i64 0, .int .i64 0, .int .i64 0]) za_49) rfl fun b1 => ?_
  refine wnt ?_
  refine wcr ?_
  refine wl_pure (v := .agg #[.int .i64 c_p2.Size, (sl v0a)]) (po_load_aboxs q2 tk_26 rfl rfl rfl) rfl ?_
  refine wl_pure (po_fld fo_26_0 rfl) rfl ?_
  refine wl_pure (v := .int .i64 c_p2.Size) (po_load_abox q2 tk_3 rfl rfl) rfl ?_
  refine wl_pure (po_sub rfl rfl) rfl ?_
  refine mv rfl rfl ?_
  refine wl_pure (po_sub rfl rfl) rfl ?_
  refine mv rfl rfl ?_
  refine bdO t0 fun v1 hv1 t0 => ?_
  refine wl_call (co_c0 fa_57 rfl fun w hw => c_impl_CellAt w c_p2 v0a (Rg.on (rds_arg r0) hw) (wr ((wr (c_p2.Size - 1)) - a_x)) a_y hv1) rfl fun _ => ?_
  refine bdO t0 fun v2 hv2 t0 => ?_
  refine wl_call (co_c0 fa_62 rfl fun w hw => c_impl_MirrorCell w v1 hv2) rfl fun _ => ?_
  refine wl_skipop (so_box (cs' := [.int .i64 v2.Split, .int .i64 v2.A, .int .i64 v2.B]) tk_49 pick0 rfl rfl rfl rfl rfl rfl rfl) ?_
  refine wnt ?_
  refine wc_ret ?_
  obtain rfl := Option.some.inj t0
  exact wq_retc rfl tk_49 rfl pick0 rfl fun w hw => ⟨rfl, hw.weak some_nil⟩

theorem c_impl_made (w : World) (a_size : Int) (a_one : Int → Int → Option GCell) (f1 : Nat) (us1 : List Value) (fn1 : FnAt Tryd.prog f1) (hg1 : ∀ (w' : World) (z0 : Int) (z1 : Int) (_ : Keep [] w w') (z : GCell) (_ : a_one z0 z1 = some z), Calls Tryd.prog f1 (([.int .i64 z0, .int .i64 z1] : List Value) ++ us1).toArray w' fun e w'' => e = .returned (.agg #[.int .i64 z.Split, .int .i64 z.A, .int .i64 z.B]) ∧ SH w' [] [] w'') {r : GBlock} (t0 : impl_made a_size a_one = some r) : Calls Tryd.prog 54 #[.int .i64 a_size, .func (.func f1) #[] us1.toArray] w fun e w' => ∃ x : Hd, e = .returned (.agg #[.int .i64 r.Size, (sl x)]) ∧ SH w [] [ownF (sl x) r.Cells] w' := by
  refine calls_of_wc (args := [_, _]) Tryd.func54 rfl Tryd.ntmps54 rfl ?_
  unfold impl_made at t0
  refine wcr ?_
  refine wl_eff (eo_alloc (cs := [.int .i64 0, (sl (⟨none, 0, 0⟩ : Hd))]) za_26) rfl fun b1 => ?_
  refine wnt ?_
  refine wcr ?_
  refine mv rfl rfl ?_
  refine wl_pure (po_build rfl (bd_26_0 a_size)) rfl ?_
  refine wl_eff (eo_alloc (cs := [.int .i64 0, (sl (⟨none, 0, 0⟩ : Hd))]) za_26) rfl fun b2 => ?_
  refine wl_skipop (so_box (cs' := [.int .i64 a_size, (sl (⟨none, 0, 0⟩ : Hd))]) tk_26 pick0 rfl rfl rfl rfl rfl rfl rfl) ?_
  refine wnt ?_
  refine wc_seq ?_
  refine wcr ?_
  refine mv rfl rfl ?_
  refine mv rfl rfl ?_
  refine wnt ?_
  refine gdO t0 fun g1 t0 => ?_
  refine lpO_inv t0 fun y1 l1 t0 => ?_
  refine wj (J := List GCell) (X := Hd) (fun z => y1 = z) (fun _ _ => [(4, ptr b1 0), (5, ptr b2 0)]) (fun z x => [box b2 [.int .i64 a_size, (sl x)], box b1 [.int .i64 0, (sl (⟨none, 0, 0⟩ : Hd))], ownF (sl x) z]) ?_ ?_
  · skip
    refine wc_block ?_
    refine wc_forO (X := Hd) l1 (fun k1 s1 x1l => [(0, .int .i64 a_size), (1, .func (.func f1) #[] us1.toArray), (4, ptr b1 0), (5, ptr b2 0), (10, .int .i64 a_size), (11, .int .i64 ((k1 : Nat) : Int))]) (fun k1 s1 x1l => [box b2 [.int .i64 a_size, (sl x1l)], box b1 [.int .i64 0, (sl (⟨none, 0, 0⟩ : Hd))], ownF (sl x1l) s1]) (⟨none, 0, 0⟩ : Hd) (sub_cons rfl (sub_cons rfl (sub_cons rfl (sub_cons rfl (sub_cons rfl (sub_cons rfl sub_nil)))))) (some_cons pick0 (some_cons pick0 (some_cons pick_nil some_nil))) fun k1 s1 x1l hN1 l1 => ?_
    by_cases hk1 : k1 < (a_size).toNat
    · skip
      refine forO_step l1 hk1 fun _ t1 l1 => ?_
      unfold impl_made_L1 at t1
      have c1 : (decide (((k1 : Nat) : Int) < a_size)) = true := decide_eq_true (by omega)
      refine wcr ?_
      refine wl_pure (po_lss rfl rfl) rfl ?_
      refine wnt ?_
      refine wc_seq ?_
      refine wc_cond_t rfl c1 ?_
      refine wc_skip ?_
      refine wq_then ?_
      refine wc_seq ?_
      refine wc_block ?_
      refine wcr ?_
      refine mv rfl rfl ?_
      refine asg rfl rfl ?_
      refine wnt ?_
      refine wcr ?_
      refine mv rfl rfl ?_
      refine mv rfl rfl ?_
      refine wnt ?_
      refine lpO_inv t1 fun y2 l2 t1 => ?_
      refine wj (J := List GCell) (X := Hd) (fun z => y2 = z) (fun _ _ => [(0, .int .i64 a_size), (1, .func (.func f1) #[] us1.toArray), (4, ptr b1 0), (5, ptr b2 0), (10, .int .i64 a_size), (11, .int .i64 ((k1 : Nat) : Int))]) (fun z x => [box b2 [.int .i64 a_size, (sl x)], box b1 [.int .i64 0, (sl (⟨none, 0, 0⟩ : Hd))], ownF (sl x) z]) ?_ ?_
      · skip
        refine wc_block ?_
        refine wc_forO (X := Hd) l2 (fun k2 s2 x2l => [(0, .int .i64 a_size), (1, .func (.func f1) #[] us1.toArray), (4, ptr b1 0), (5, ptr b2 0), (6, .int .i64 ((k1 : Nat) : Int)), (10, .int .i64 a_size), (11, .int .i64 ((k1 : Nat) : Int)), (14, .int .i64 a_size), (15, .int .i64 ((k2 : Nat) : Int))]) (fun k2 s2 x2l => [box b2 [.int .i64 a_size, (sl x2l)], box b1 [.int .i64 0, (sl (⟨none, 0, 0⟩ : Hd))], ownF (sl x2l) s2]) x1l (sub_cons rfl (sub_cons rfl (sub_cons rfl (sub_cons rfl (sub_cons rfl (sub_cons rfl (sub_cons rfl (sub_cons rfl (sub_cons rfl sub_nil))))))))) (some_cons pick0 (some_cons pick0 (some_cons pick0 some_nil))) fun k2 s2 x2l hN2 l2 => ?_
        by_cases hk2 : k2 < (a_size).toNat
        · skip
          refine forO_step l2 hk2 fun _ t2 l2 => ?_
          unfold impl_made_L2 at t2
          have c2 : (decide (((k2 : Nat) : Int) < a_size)) = true := decide_eq_true (by omega)
          refine wcr ?_
          refine wl_pure (po_lss rfl rfl) rfl ?_
          refine wnt ?_
          refine wc_seq ?_
          refine wc_cond_t rfl c2 ?_
          refine wc_skip ?_
          refine wq_then ?_
          refine wc_seq ?_
          refine wc_block ?_
          refine wcr ?_
          refine mv rfl rfl ?_
          refine asg rfl rfl ?_
          refine wnt ?_
          refine wc_draw [box b2 [.int .i64 a_size, (sl x2l)], box b1 [.int .i64 0, (sl (⟨none, 0, 0⟩ : Hd))]] 9 mixed ?_
          refine wa_pure 0 rfl (po_fld fo_26_1 rfl) (some_cons pick0 (some_cons pick0 some_nil)) rfl (by kernel_rfl) (fun _ _ _ h => h) ?_
          refine wa_pure (v := (sl x2l)) 1 rfl (po_load_box tk_24 pick0 rfl rfl) (some_cons pick0 (some_cons pick0 some_nil)) rfl (by kernel_rfl) (fun _ _ _ h => h) ?_
          refine wa_pure 2 rfl (po_move rfl) (some_cons pick0 (some_cons pick0 some_nil)) rfl (by kernel_rfl) (fun _ _ _ h => h) ?_
          refine wa_pure 3 rfl (po_move rfl) (some_cons pick0 (some_cons pick0 some_nil)) rfl (by kernel_rfl) (fun _ _ _ h => h) ?_
          refine wa_pure 4 rfl (po_move rfl) (some_cons pick0 (some_cons pick0 some_nil)) rfl (by kernel_rfl) (fun _ _ _ h => h) ?_
          refine wa_1 (i := 5) (by kernel_rfl) ?_
          refine bdO t2 fun v1 hv1 t2 => ?_
          refine ws_call rfl (co_d fn1 rfl rfl fun w hw => hg1 w ((k2 : Nat) : Int) ((k1 : Nat) : Int) hw.keep _ hv1) (fun _ => (sts_some (some_cons pick0 (some_cons pick0 some_nil)))) rfl fun _ => ?_
          refine wa_1 (i := 6) (by kernel_rfl) ?_
          refine ws_eff rfl (eo_buildSlice rfl (sb_24_1 v1.Split v1.A v1.B)) (fun _ => (sts_some (some_cons (pickS pick0) (some_cons (pickS pick0) some_nil)))) rfl fun b3 => ?_
          refine wa_1 (i := 7) (by kernel_rfl) ?_
          refine gdO t2 fun g2 t2 => ?_
          refine ws_eff rfl (eo_append (xs := s2) (ys := ([v1] : List GCell)) ak_24 (pickS (pickS (pickS pick0))) rfl rfl (slin_rd fun _ g => Rg.on (rds_own (pick_box_own pick0 (n := 1) (xs := ([v1] : List GCell)) rfl rfl (by unfold maxLen; omega))) g) g2) (fun _ => (sts_some (some_cons (pickS (pickS pick0)) (some_cons (pickS (pickS pick0)) some_nil)))) rfl fun x3 => ?_
          refine wa_pure 8 rfl (po_fld fo_26_1 rfl) (some_cons (pickS (pickS pick0)) (some_cons (pickS (pickS pick0)) some_nil)) rfl (by kernel_rfl) (fun _ _ _ h => h) ?_
          refine wa_1 (i := 9) (by kernel_rfl) ?_
          refine ws_skipop rfl (so_box (cs' := [.int .i64 a_size, (sl x3)]) tk_24 (pickS (pickS pick0)) rfl rfl rfl rfl rfl rfl rfl) (sts_past (by kernel_rfl)) ?_
          refine wa_done (by kernel_rfl) ?_
          refine wq_block ?_
          refine wq_then ?_
          refine wc_region ?_
          refine wl_pure (po_inc rfl rfl (by omega)) rfl ?_
          refine mv rfl rfl ?_
          refine wl_nil ?_
          exact wq_rnd hk2 (stpN l2 t2) x3 (sub_cons rfl (sub_cons rfl (sub_cons rfl (sub_cons rfl (sub_cons rfl (sub_cons rfl (sub_cons rfl (sub_cons rfl (sub_cons rfl sub_nil))))))))) (some_cons pick0 (some_cons (pickS (pickS pick0)) (some_cons pick0 some_nil)))
        have c2 : (decide (((k2 : Nat) : Int) < a_size)) = false := decide_eq_false (by omega)
        have en1 := forO_end l2 hk2
        refine wcr ?_
        refine wl_pure (po_lss rfl rfl) rfl ?_
        refine wnt ?_
        refine wc_seq ?_
        refine wc_cond_f rfl c2 ?_
        refine wc_exit ?_
        refine wq_then_exit ?_
        refine wq_then_exit ?_
        refine wq_block_exit ?_
        exact wj_meet _ x2l (Sum.inl.inj en1) (sub_cons rfl (sub_cons rfl (sub_cons rfl (sub_cons rfl (sub_cons rfl (sub_cons rfl sub_nil)))))) (some_cons pick0 (some_cons pick0 (some_cons pick0 some_nil)))
      intro e2 x2 hp
      obtain rfl : e2 = y2 := hp.symm
      refine wq_block ?_
      refine wq_then ?_
      refine wc_region ?_
      refine wl_pure (po_inc rfl rfl (by omega)) rfl ?_
      refine mv rfl rfl ?_
      refine wl_nil ?_
      exact wq_rnd hk1 (stpN l1 t1) x2 (sub_cons rfl (sub_cons rfl (sub_cons rfl (sub_cons rfl (sub_cons rfl (sub_cons rfl sub_nil)))))) (some_cons pick0 (some_cons pick0 (some_cons pick0 some_nil)))
    have c1 : (decide (((k1 : Nat) : Int) < a_size)) = false := decide_eq_false (by omega)
    have en2 := forO_end l1 hk1
    refine wcr ?_
    refine wl_pure (po_lss rfl rfl) rfl ?_
    refine wnt ?_
    refine wc_seq ?_
    refine wc_cond_f rfl c1 ?_
    refine wc_exit ?_
    refine wq_then_exit ?_
    refine wq_then_exit ?_
    refine wq_block_exit ?_
    exact wj_meet _ x1l (Sum.inl.inj en2) (sub_cons rfl (sub_cons rfl sub_nil)) (some_cons pick0 (some_cons pick0 (some_cons pick0 some_nil)))
  intro e1 x1 hp
  obtain rfl : e1 = y1 := hp.symm
  refine wq_then ?_
  refine wcr ?_
  refine wl_pure (v := .agg #[.int .i64 a_size, (sl x1)]) (po_load_boxs tk_26 pick0 rfl rfl rfl) rfl ?_
  refine wl_skipop (so_box (cs' := [.int .i64 a_size, (sl x1)]) tk_26 (pickS pick0) rfl rfl rfl rfl rfl rfl rfl) ?_
  refine wnt ?_
  refine wc_ret ?_
  obtain rfl := Option.some.inj t0
  exact wq_retc rfl tk_26 rfl pick0 rfl fun w hw => ⟨x1, rfl, hw.weak (some_cons (pickS (pickS pick0)) some_nil)⟩

theorem c_impl_MirrorBlock (w : World) (a_b : GBlock) (v0a : Hd) (r0 : rdF w (dm w []) (sl v0a) a_b.Cells) {r : GBlock} (t0 : impl_MirrorBlock a_b = some r) : Calls Tryd.prog 51 #[.agg #[.int .i64 a_b.Size, (sl v0a)]] w fun e w' => ∃ x : Hd, e = .returned (.agg #[.int .i64 r.Size, (sl x)]) ∧ SH w [] [ownF (sl x) r.Cells] w' := by
  refine calls_of_wc (args := [_]) Tryd.func51 rfl Tryd.ntmps51 rfl ?_
  unfold impl_MirrorBlock at t0
  refine wcr ?_
  refine wl_eff (eo_box rfl rfl) rfl fun b1 => ?_
  refine wl_eff (eo_alloc (cs := [.int .i64 0, (sl (⟨none, 0, 0⟩ : Hd))]) za_26) rfl fun b2 => ?_
  refine wnt ?_
  refine wc_seq ?_
  refine wcr ?_
  refine wl_pure (v := .agg #[.int .i64 a_b.Size, (sl v0a)]) (po_load_boxs tk_26 (pickS pick0) rfl rfl rfl) rfl ?_
  refine bdO t0 fun v1 hv1 t0 => ?_
  refine wl_call (co_c0 fa_24 rfl fun w hw => c_impl_BlockOk w a_b v0a (Rg.on (rds_arg r0) hw) hv1) rfl fun _ => ?_
  refine wl_pure (po_not rfl) rfl ?_
  refine wnt ?_
  refine wcO t0 rfl (fun h1 t0 => ?_) fun h1 t0 => ?_
  · skip
    refine wcr ?_
    refine wl_pure (po_build rfl bd_26) rfl ?_
    refine wl_skipop (so_box (cs' := [.int .i64 0, (sl (⟨none, 0, 0⟩ : Hd))]) tk_26 pick0 rfl rfl rfl rfl rfl rfl rfl) ?_
    refine wnt ?_
    refine wc_ret ?_
    refine wq_then_ret ?_
    obtain rfl := Option.some.inj t0
    exact wq_retc rfl tk_26 rfl pick0 rfl fun w hw => ⟨(⟨none, 0, 0⟩ : Hd), rfl, hw.weak (some_cons pick_nil some_nil)⟩
  refine wc_skip ?_
  refine wq_then ?_
  refine wcr ?_
  refine wl_pure (po_fld fo_26_0 rfl) rfl ?_
  refine wl_pure (v := .int .i64 a_b.Size) (po_load_box tk_3 (pickS pick0) rfl rfl) rfl ?_
  refine wl_pure (po_makeFunc rfl) rfl ?_
  refine bdO t0 fun v2 hv2 t0 => ?_
  refine wl_call (co_c1 fa_54 rfl fun w hw => c_impl_made w a_b.Size (fun z0 z1 => impl_MirrorBlock_c1 z0 z1 a_b) 61 [ptr b1 0] fa_61 (fun w2 z0 z1  hk _ hz => c_impl_MirrorBlock_c1 w2 z0 z1 a_b v0a (RdL.later (Rg.on (rds_arg r0) hw) hk) b1 (Bx.keep (hw.at_box (pickS pick0)) hk) hz) hv2) rfl fun x1 => ?_
  refine wl_skipop (so_box (cs' := [.int .i64 v2.Size, (sl x1)]) tk_26 (pickS pick0) rfl rfl rfl rfl rfl rfl rfl) ?_
  refine wnt ?_
  refine wc_ret ?_
  obtain rfl := Option.some.inj t0
  exact wq_retc rfl tk_26 rfl pick0 rfl fun w hw => ⟨x1, rfl, hw.weak (some_cons (pickS pick0) some_nil)⟩

theorem c_impl_TurnCell (w : World) (a_c : GCell) {r : GCell} (t0 : impl_TurnCell a_c = some r) : Calls Tryd.prog 64 #[.agg #[.int .i64 a_c.Split, .int .i64 a_c.A, .int .i64 a_c.B]] w fun e w' => e = .returned (.agg #[.int .i64 r.Split, .int .i64 r.A, .int .i64 r.B]) ∧ SH w [] [] w' := by
  refine calls_of_wc (args := [_]) Tryd.func64 rfl Tryd.ntmps64 rfl ?_
  unfold impl_TurnCell at t0
  refine wcr ?_
  refine wl_eff (eo_box rfl rfl) rfl fun b1 => ?_
  refine wl_eff (eo_alloc (cs := [.int .i64 0, .int .i64 0, .int .i64 0]) za_49) rfl fun b2 => ?_
  refine wnt ?_
  refine wc_seq ?_
  refine wc_block ?_
  refine wcr ?_
  refine wl_pure (v := .agg #[.int .i64 a_c.Split, .int .i64 a_c.A, .int .i64 a_c.B]) (po_load_boxs tk_49 (pickS pick0) rfl rfl rfl) rfl ?_
  refine bdO t0 fun v1 hv1 t0 => ?_
  refine wl_call (co_c0 fa_41 rfl fun w hw => c_impl_CellOk w a_c hv1) rfl fun _ => ?_
  refine wl_pure (po_not rfl) rfl ?_
  refine asg rfl rfl ?_
  refine wnt ?_
  refine wcO t0 rfl (fun h1 t0 => ?_) fun h1 t0 => ?_
  · skip
    refine wcr ?_
    refine wl_pure (po_build rfl bd_49) rfl ?_
    refine wl_skipop (so_box (cs' := [.int .i64 0, .int .i64 0, .int .i64 0]) tk_49 pick0 rfl rfl rfl rfl rfl rfl rfl) ?_
    refine wnt ?_
    refine wc_ret ?_
    refine wq_block_ret ?_
    refine wq_then_ret ?_
    obtain rfl := Option.some.inj t0
    exact wq_retc rfl tk_49 rfl pick0 rfl fun w hw => ⟨rfl, hw.weak some_nil⟩
  refine wcr ?_
  refine wl_pure (po_fld fo_49_0 rfl) rfl ?_
  refine wl_pure (v := .int .i64 a_c.Split) (po_load_box tk_3 (pickS pick0) rfl rfl) rfl ?_
  refine wl_pure (po_eql rfl rfl) rfl ?_
  refine asg rfl rfl ?_
  refine wnt ?_
  refine wcO t0 rfl (fun h2 t0 => ?_) fun h2 t0 => ?_
  · skip
    refine wcr ?_
    refine wl_pure (po_fld fo_49_2 rfl) rfl ?_
    refine wl_pure (v := .int .i64 a_c.B) (po_load_box tk_3 (pickS pick0) rfl rfl) rfl ?_
    refine wl_pure (po_fld fo_49_1 rfl) rfl ?_
    refine wl_pure (v := .int .i64 a_c.A) (po_load_box tk_3 (pickS pick0) rfl rfl) rfl ?_
    refine wl_pure (po_build rfl (bd_49_0_1_2 2 a_c.B a_c.A)) rfl ?_
    refine wl_skipop (so_box (cs' := [.int .i64 2, .int .i64 a_c.B, .int .i64 a_c.A]) tk_49 pick0 rfl rfl rfl rfl rfl rfl rfl) ?_
    refine wnt ?_
    refine wc_ret ?_
    refine wq_block_ret ?_
    refine wq_then_ret ?_
    obtain rfl := Option.some.inj t0
    exact wq_retc rfl tk_49 rfl pick0 rfl fun w hw => ⟨rfl, hw.weak some_nil⟩
  refine wcr ?_
  refine wl_pure (po_fld fo_49_0 rfl) rfl ?_
  refine wl_pure (v := .int .i64 a_c.Split) (po_load_box tk_3 (pickS pick0) rfl rfl) rfl ?_
  refine wl_pure (po_eql rfl rfl) rfl ?_
  refine asg rfl rfl ?_
  refine wnt ?_
  refine wcO t0 rfl (fun h3 t0 => ?_) fun h3 t0 => ?_
  · skip
    refine wcr ?_
    refine wl_pure (po_fld fo_49_1 rfl) rfl ?_
    refine wl_pure (v := .int .i64 a_c.A) (po_load_box tk_3 (pickS pick0) rfl rfl) rfl ?_
    refine wl_pure (po_fld fo_49_2 rfl) rfl ?_
    refine wl_pure (v := .int .i64 a_c.B) (po_load_box tk_3 (pickS pick0) rfl rfl) rfl ?_
    refine wl_pure (po_build rfl (bd_49_0_1_2 1 a_c.A a_c.B)) rfl ?_
    refine wl_skipop (so_box (cs' := [.int .i64 1, .int .i64 a_c.A, .int .i64 a_c.B]) tk_49 pick0 rfl rfl rfl rfl rfl rfl rfl) ?_
    refine wnt ?_
    refine wc_ret ?_
    refine wq_block_ret ?_
    refine wq_then_ret ?_
    obtain rfl := Option.some.inj t0
    exact wq_retc rfl tk_49 rfl pick0 rfl fun w hw => ⟨rfl, hw.weak some_nil⟩
  refine wc_skip ?_
  refine wq_block ?_
  refine wq_then ?_
  refine wcr ?_
  refine wl_pure (v := .agg #[.int .i64 a_c.Split, .int .i64 a_c.A, .int .i64 a_c.B]) (po_load_boxs tk_49 (pickS pick0) rfl rfl rfl) rfl ?_
  refine wl_skipop (so_box (cs' := [.int .i64 a_c.Split, .int .i64 a_c.A, .int .i64 a_c.B]) tk_49 pick0 rfl rfl rfl rfl rfl rfl rfl) ?_
  refine wnt ?_
  refine wc_ret ?_
  obtain rfl := Option.some.inj t0
  exact wq_retc rfl tk_49 rfl pick0 rfl fun w hw => ⟨rfl, hw.weak some_nil⟩

theorem c_impl_TurnBlock_c1 (w : World) (a_x : Int) (a_y : Int) (c_p2 : GBlock) (v0a : Hd) (r0 : rdF w (dm w []) (sl v0a) c_p2.Cells) (b2c : Nat) (q2 : Bx w b2c [.int .i64 c_p2.Size, (sl v0a)]) {r : GCell} (t0 : impl_TurnBlock_c1 a_x a_y c_p2 = some r) : Calls Tryd.prog 63 #[.int .i64 a_x, .int .i64 a_y, ptr b2c 0] w fun e w' => e = .returned (.agg #[.int .i64 r.Split, .int .i64 r.A, .int .i64 r.B]) ∧ SH w [] [] w' := by
  refine calls_of_wc (args := [_, _, _]) Tryd.func63 rfl Tryd.ntmps63 rfl ?_
  unfold impl_TurnBlock_c1 at t0
  refine wcr ?_
  refine wl_eff (eo_alloc (cs := [.int .i64 0, .int .i64 0, .int .i64 0]) za_49) rfl fun b1 => ?_
  refine wnt ?_
  refine wcr ?_
  refine wl_pure (v := .agg #[.int .i64 c_p2.Size, (sl v0a)]) (po_load_aboxs q2 tk_26 rfl rfl rfl) rfl ?_
  refine mv rfl rfl ?_
  refine wl_pure (po_fld fo_26_0 rfl) rfl ?_
  refine wl_pure (v := .int .i64 c_p2.Size) (po_load_abox q2 tk_3 rfl rfl) rfl ?_
  refine wl_pure (po_sub rfl rfl) rfl ?_
  refine mv rfl rfl ?_
  refine wl_pure (po_sub rfl rfl) rfl ?_
  refine bdO t0 fun v1 hv1 t0 => ?_
  refine wl_call (co_c0 fa_57 rfl fun w hw => c_impl_CellAt w c_p2 v0a (Rg.on (rds_arg r0) hw) a_y (wr ((wr (c_p2.Size - 1)) - a_x)) hv1) rfl fun _ => ?_
  refine bdO t0 fun v2 hv2 t0 => ?_
  refine wl_call (co_c0 fa_64 rfl fun w hw => c_impl_TurnCell w v1 hv2) rfl fun _ => ?_
  refine wl_skipop (so_box (cs' := [.int .i64 v2.Split, .int .i64 v2.A, .int .i64 v2.B]) tk_49 pick0 rfl rfl rfl rfl rfl rfl rfl) ?_
  refine wnt ?_
  refine wc_ret ?_
  obtain rfl := Option.some.inj t0
  exact wq_retc rfl tk_49 rfl pick0 rfl fun w hw => ⟨rfl, hw.weak some_nil⟩

theorem c_impl_TurnBlock (w : World) (a_b : GBlock) (v0a : Hd) (r0 : rdF w (dm w []) (sl v0a) a_b.Cells) {r : GBlock} (t0 : impl_TurnBlock a_b = some r) : Calls Tryd.prog 52 #[.agg #[.int .i64 a_b.Size, (sl v0a)]] w fun e w' => ∃ x : Hd, e = .returned (.agg #[.int .i64 r.Size, (sl x)]) ∧ SH w [] [ownF (sl x) r.Cells] w' := by
  refine calls_of_wc (args := [_]) Tryd.func52 rfl Tryd.ntmps52 rfl ?_
  unfold impl_TurnBlock at t0
  refine wcr ?_
  refine wl_eff (eo_box rfl rfl) rfl fun b1 => ?_
  refine wl_eff (eo_alloc (cs := [.int .i64 0, (sl (⟨none, 0, 0⟩ : Hd))]) za_26) rfl fun b2 => ?_
  refine wnt ?_
  refine wc_seq ?_
  refine wcr ?_
  refine wl_pure (v := .agg #[.int .i64 a_b.Size, (sl v0a)]) (po_load_boxs tk_26 (pickS pick0) rfl rfl rfl) rfl ?_
  refine bdO t0 fun v1 hv1 t0 => ?_
  refine wl_call (co_c0 fa_24 rfl fun w hw => c_impl_BlockOk w a_b v0a (Rg.on (rds_arg r0) hw) hv1) rfl fun _ => ?_
  refine wl_pure (po_not rfl) rfl ?_
  refine wnt ?_
  refine wcO t0 rfl (fun h1 t0 => ?_) fun h1 t0 => ?_
  · skip
    refine wcr ?_
    refine wl_pure (po_build rfl bd_26) rfl ?_
    refine wl_skipop (so_box (cs' := [.int .i64 0, (sl (⟨none, 0, 0⟩ : Hd))]) tk_26 pick0 rfl rfl rfl rfl rfl rfl rfl) ?_
    refine wnt ?_
    refine wc_ret ?_
    refine wq_then_ret ?_
    obtain rfl := Option.some.inj t0
    exact wq_retc rfl tk_26 rfl pick0 rfl fun w hw => ⟨(⟨none, 0, 0⟩ : Hd), rfl, hw.weak (some_cons pick_nil some_nil)⟩
  refine wc_skip ?_
  refine wq_then ?_
  refine wcr ?_
  refine wl_pure (po_fld fo_26_0 rfl) rfl ?_
  refine wl_pure (v := .int .i64 a_b.Size) (po_load_box tk_3 (pickS pick0) rfl rfl) rfl ?_
  refine wl_pure (po_makeFunc rfl) rfl ?_
  refine bdO t0 fun v2 hv2 t0 => ?_
  refine wl_call (co_c1 fa_54 rfl fun w hw => c_impl_made w a_b.Size (fun z0 z1 => impl_TurnBlock_c1 z0 z1 a_b) 63 [ptr b1 0] fa_63 (fun w2 z0 z1  hk _ hz => c_impl_TurnBlock_c1 w2 z0 z1 a_b v0a (RdL.later (Rg.on (rds_arg r0) hw) hk) b1 (Bx.keep (hw.at_box (pickS pick0)) hk) hz) hv2) rfl fun x1 => ?_
  refine wl_skipop (so_box (cs' := [.int .i64 v2.Size, (sl x1)]) tk_26 (pickS pick0) rfl rfl rfl rfl rfl rfl rfl) ?_
  refine wnt ?_
  refine wc_ret ?_
  obtain rfl := Option.some.inj t0
  exact wq_retc rfl tk_26 rfl pick0 rfl fun w hw => ⟨x1, rfl, hw.weak (some_cons (pickS pick0) some_nil)⟩

theorem c_impl_SeenFrom (w : World) (a_b : GBlock) (v0a : Hd) (r0 : rdF w (dm w []) (sl v0a) a_b.Cells) (a_k : Int) {r : GBlock} (t0 : impl_SeenFrom a_b a_k = some r) : Calls Tryd.prog 42 #[.agg #[.int .i64 a_b.Size, (sl v0a)], .int .i64 a_k] w fun e w' => ∃ x : Hd, e = .returned (.agg #[.int .i64 r.Size, (sl x)]) ∧ SH w [] [ownF (sl x) r.Cells] w' := by
  refine calls_of_wc (args := [_, _]) Tryd.func42 rfl Tryd.ntmps42 rfl ?_
  unfold impl_SeenFrom at t0
  refine wcr ?_
  refine wl_eff (eo_box rfl rfl) rfl fun b1 => ?_
  refine wl_eff (eo_alloc (cs := [.int .i64 0, (sl (⟨none, 0, 0⟩ : Hd))]) za_26) rfl fun b2 => ?_
  refine wnt ?_
  refine wc_seq ?_
  refine wc_seq ?_
  refine bdO t0 fun y1 t1 t0 => ?_
  refine wj (J := Bool) (X := Unit) (fun z => y1 = z) (fun z _ => [(1, .int .i64 a_k), (2, ptr b1 0), (4, ptr b2 0), (13, .bool z)]) (fun _ _ => [box b2 [.int .i64 0, (sl (⟨none, 0, 0⟩ : Hd))], box b1 [.int .i64 a_b.Size, (sl v0a)]]) ?_ ?_
  · skip
    refine wc_region ?_
    refine wl_pure (v := .agg #[.int .i64 a_b.Size, (sl v0a)]) (po_load_boxs tk_26 (pickS pick0) rfl rfl rfl) rfl ?_
    refine bdO t1 fun v1 hv1 t1 => ?_
    refine wl_call (co_c0 fa_24 rfl fun w hw => c_impl_BlockOk w a_b v0a (Rg.on (rds_arg r0) hw) hv1) rfl fun _ => ?_
    refine wl_pure (po_not rfl) rfl ?_
    refine mv rfl rfl ?_
    refine wlO_ (t := 9) t1 rfl (fun h1 t1 => ?_) fun h1 t1 => ?_
    · skip
      refine wl_guard_off (j := 3) rfl rfl rfl rfl rfl ?_
      refine wl_guard_off (j := 3) rfl rfl rfl rfl rfl ?_
      refine wl_guard_off (j := 3) rfl rfl rfl rfl rfl ?_
      refine wl_pure (po_pick_t rfl rfl) rfl ?_
      refine wl_nil ?_
      exact wj_meet _ () (mtE t1) (sub_cons rfl (sub_cons rfl (sub_cons rfl (sub_cons rfl sub_nil)))) (some_cons pick0 (some_cons pick0 some_nil))
    refine wl_guard_on (j := 3) rfl rfl rfl (mv rfl rfl ?_)
    refine bdO t1 fun v2 hv2 t1 => ?_
    refine wl_guard_on (j := 3) rfl rfl rfl (wl_call (co_c0 fa_40 rfl fun w hw => c_impl_within w a_k 0 7 hv2) rfl (fun _ => ?_))
    refine wl_guard_on (j := 3) rfl rfl rfl (wl_pure (po_not rfl) rfl ?_)
    refine wl_pure (po_pick_f rfl rfl) rfl ?_
    refine wl_nil ?_
    exact wj_meet _ () (mtE t1) (sub_cons rfl (sub_cons rfl (sub_cons rfl (sub_cons rfl sub_nil)))) (some_cons pick0 (some_cons pick0 some_nil))
  intro j1 _ hp
  obtain rfl : j1 = y1 := hp.symm
  refine wq_then ?_
  refine wcO t0 rfl (fun h2 t0 => ?_) fun h2 t0 => ?_
  · skip
    refine wcr ?_
    refine wl_pure (po_build rfl bd_26) rfl ?_
    refine wl_skipop (so_box (cs' := [.int .i64 0, (sl (⟨none, 0, 0⟩ : Hd))]) tk_26 pick0 rfl rfl rfl rfl rfl rfl rfl) ?_
    refine wnt ?_
    refine wc_ret ?_
    refine wq_then_ret ?_
    obtain rfl := Option.some.inj t0
    exact wq_retc rfl tk_26 rfl pick0 rfl fun w hw => ⟨(⟨none, 0, 0⟩ : Hd), rfl, hw.weak (some_cons pick_nil some_nil)⟩
  refine wc_skip ?_
  refine wq_then ?_
  refine wcr ?_
  refine wl_pure (v := .agg #[.int .i64 a_b.Size, (sl v0a)]) (po_load_boxs tk_26 (pickS pick0) rfl rfl rfl) rfl ?_
  refine bdO t0 fun v3 hv3 t0 => ?_
  refine wl_call (co_c1 fa_50 rfl fun w hw => c_impl_Block_copied w a_b v0a (Rg.on (rds_arg r0) hw) hv3) rfl fun x2 => ?_
  refine wl_eff (eo_alloc (cs := [.int .i64 0, (sl (⟨none, 0, 0⟩ : Hd))]) za_26) rfl fun b3 => ?_
  refine wl_skipop (so_box (cs' := [.int .i64 v3.Size, (sl x2)]) tk_26 pick0 rfl rfl rfl rfl rfl rfl rfl) ?_
  refine wnt ?_
  refine wc_seq ?_
  refine wcr ?_
  refine mv rfl rfl ?_
  refine wl_pure (po_geq rfl rfl) rfl ?_
  refine wnt ?_
  refine bdO t0 fun y1 t1 t0 => ?_
  refine wj (J := GBlock) (X := Hd) (fun z => y1 = z) (fun _ _ => [(1, .int .i64 a_k), (4, ptr b2 0), (5, ptr b3 0)]) (fun z x => [box b3 [.int .i64 ((z).Size), (sl x)], box b2 [.int .i64 0, (sl (⟨none, 0, 0⟩ : Hd))], ownF (sl x) ((z).Cells)]) ?_ ?_
  · skip
    refine wcO t1 rfl (fun h3 t1 => ?_) fun h3 t1 => ?_
    · skip
      refine wc_region ?_
      refine wl_pure (v := .agg #[.int .i64 a_b.Size, (sl v0a)]) (po_load_boxs tk_26 (pickS (pickS (pickS pick0))) rfl rfl rfl) rfl ?_
      refine bdO t1 fun v4 hv4 t1 => ?_
      refine wl_call (co_c1 fa_51 rfl fun w hw => c_impl_MirrorBlock w a_b v0a (Rg.on (rds_arg r0) hw) hv4) rfl fun x4 => ?_
      refine wl_skipop (so_box (cs' := [.int .i64 v4.Size, (sl x4)]) tk_26 (pickS pick0) rfl rfl rfl rfl rfl rfl rfl) ?_
      refine wl_nil ?_
      exact wj_meet _ x4 (mtE t1) (sub_cons rfl (sub_cons rfl (sub_cons rfl sub_nil))) (some_cons pick0 (some_cons (pickS (pickS pick0)) (some_cons pick0 some_nil)))
    refine wc_skip ?_
    exact wj_meet _ x2 (mtE t1) (sub_cons rfl (sub_cons rfl (sub_cons rfl sub_nil))) (some_cons pick0 (some_cons (pickS pick0) (some_cons pick0 some_nil)))
  intro j2 x3 hp
  obtain rfl : j2 = y1 := hp.symm
  refine wq_then ?_
  refine wc_seq ?_
  refine wcr ?_
  refine mv rfl rfl ?_
  refine wl_pure (po_rem rfl rfl (by decide)) rfl ?_
  refine mv rfl rfl ?_
  refine wnt ?_
  refine gdO t0 fun g1 t0 => ?_
  refine lpO_inv t0 fun y1 l1 t0 => ?_
  refine wj (J := Int × (List GCell)) (X := Hd) (fun z => y1 = z) (fun _ _ => [(4, ptr b2 0), (5, ptr b3 0)]) (fun z x => [box b3 [.int .i64 z.1, (sl x)], box b2 [.int .i64 0, (sl (⟨none, 0, 0⟩ : Hd))], ownF (sl x) z.2]) ?_ ?_
  · skip
    refine wc_block ?_
    refine wc_forO (X := Hd) l1 (fun k1 s1 x1l => [(4, ptr b2 0), (5, ptr b3 0), (22, .int .i64 (a_k.tmod 4)), (23, .int .i64 ((k1 : Nat) : Int))]) (fun k1 s1 x1l => [box b3 [.int .i64 s1.1, (sl x1l)], box b2 [.int .i64 0, (sl (⟨none, 0, 0⟩ : Hd))], ownF (sl x1l) s1.2]) x3 (sub_cons rfl (sub_cons rfl (sub_cons rfl (sub_cons rfl sub_nil)))) (some_cons pick0 (some_cons pick0 (some_cons pick0 some_nil))) fun k1 s1 x1l hN1 l1 => ?_
    by_cases hk1 : k1 < ((a_k.tmod 4)).toNat
    · skip
      refine forO_step l1 hk1 fun _ t1 l1 => ?_
      unfold impl_SeenFrom_L1 at t1
      have c1 : (decide (((k1 : Nat) : Int) < (a_k.tmod 4))) = true := decide_eq_true (by omega)
      refine wcr ?_
      refine wl_pure (po_lss rfl rfl) rfl ?_
      refine wnt ?_
      refine wc_seq ?_
      refine wc_cond_t rfl c1 ?_
      refine wc_skip ?_
      refine wq_then ?_
      refine wc_seq ?_
      refine wc_block ?_
      refine wc_region ?_
      refine wl_pure (v := .agg #[.int .i64 s1.1, (sl x1l)]) (po_load_boxs tk_26 pick0 rfl rfl rfl) rfl ?_
      refine bdO t1 fun v5 hv5 t1 => ?_
      refine wl_call (co_c1 fa_52 rfl fun w hw => c_impl_TurnBlock w (GBlock.mk s1.1 s1.2) x1l (Rg.on (rds_own (pickS (pickS pick0))) hw) hv5) rfl fun x6 => ?_
      refine wl_skipop (so_box (cs' := [.int .i64 v5.Size, (sl x6)]) tk_26 (pickS pick0) rfl rfl rfl rfl rfl rfl rfl) ?_
      refine wl_nil ?_
      refine wq_block ?_
      refine wq_then ?_
      refine wc_region ?_
      refine wl_pure (po_inc rfl rfl (by omega)) rfl ?_
      refine mv rfl rfl ?_
      refine wl_nil ?_
      exact wq_rnd hk1 (stpN l1 t1) x6 (sub_cons rfl (sub_cons rfl (sub_cons rfl (sub_cons rfl sub_nil)))) (some_cons pick0 (some_cons (pickS pick0) (some_cons pick0 some_nil)))
    have c1 : (decide (((k1 : Nat) : Int) < (a_k.tmod 4))) = false := decide_eq_false (by omega)
    have en1 := forO_end l1 hk1
    refine wcr ?_
    refine wl_pure (po_lss rfl rfl) rfl ?_
    refine wnt ?_
    refine wc_seq ?_
    refine wc_cond_f rfl c1 ?_
    refine wc_exit ?_
    refine wq_then_exit ?_
    refine wq_then_exit ?_
    refine wq_block_exit ?_
    exact wj_meet _ x1l (Sum.inl.inj en1) (sub_cons rfl (sub_cons rfl sub_nil)) (some_cons pick0 (some_cons pick0 (some_cons pick0 some_nil)))
  intro e1 x5 hp
  obtain rfl : e1 = y1 := hp.symm
  refine wq_then ?_
  refine wcr ?_
  refine wl_pure (v := .agg #[.int .i64 e1.1, (sl x5)]) (po_load_boxs tk_26 pick0 rfl rfl rfl) rfl ?_
  refine wl_skipop (so_box (cs' := [.int .i64 e1.1, (sl x5)]) tk_26 (pickS pick0) rfl rfl rfl rfl rfl rfl rfl) ?_
  refine wnt ?_
  refine wc_ret ?_
  obtain rfl := Option.some.inj t0
  exact wq_retc rfl tk_26 rfl pick0 rfl fun w hw => ⟨x5, rfl, hw.weak (some_cons (pickS (pickS pick0)) some_nil)⟩

theorem c_impl_views (w : World) (a_b : GBlock) (v0a : Hd) (r0 : rdF w (dm w []) (sl v0a) a_b.Cells) {r : List GBlock} (t0 : impl_views a_b = some r) : Calls Tryd.prog 26 #[.agg #[.int .i64 a_b.Size, (sl v0a)]] w fun e w' => ∃ x : Hd × (List Value), e = .returned ((sl x.1)) ∧ SH w [] [own (sl x.1) x.2 r] w' := by
  refine calls_of_wc (args := [_]) Tryd.func26 rfl Tryd.ntmps26 rfl ?_
  unfold impl_views at t0
  refine wcr ?_
  refine wl_eff (eo_box rfl rfl) rfl fun b1 => ?_
  refine asg rfl rfl ?_
  refine wnt ?_
  refine wcr ?_
  refine wl_eff (eo_buildSlice rfl sb_44_0) rfl fun b2 => ?_
  refine asg rfl rfl ?_
  refine wnt ?_
  refine wc_seq ?_
  refine wcr ?_
  refine mv rfl rfl ?_
  refine wnt ?_
  refine lpO_inv t0 fun y1 l1 t0 => ?_
  refine wj (J := List GBlock) (X := Hd × (List Value)) (fun z => y1 = z) (fun _ x => [(3, (sl x.1))]) (fun z x => [own (sl x.1) x.2 z]) ?_ ?_
  · skip
    refine wc_block ?_
    refine wc_forO (X := Hd × (List Value)) l1 (fun k1 s1 x1l => [(1, ptr b1 0), (3, (sl x1l.1)), (6, .int .i64 ((k1 : Nat) : Int))]) (fun k1 s1 x1l => [box b1 [.int .i64 a_b.Size, (sl v0a)], own (sl x1l.1) x1l.2 s1]) ((⟨some ⟨b2, 0, none⟩, 0, 0⟩ : Hd), []) (sub_cons rfl (sub_cons rfl (sub_cons rfl sub_nil))) (some_cons (pickS pick0) (some_cons (pick_box_nil pick0) some_nil)) fun k1 s1 x1l hN1 l1 => ?_
    by_cases hk1 : k1 < 8
    · skip
      refine forO_step l1 hk1 fun _ t1 l1 => ?_
      unfold impl_views_L1 at t1
      have c1 : (decide (((k1 : Nat) : Int) < 8)) = true := decide_eq_true (by omega)
      refine wcr ?_
      refine wl_pure (po_lss rfl rfl) rfl ?_
      refine wnt ?_
      refine wc_seq ?_
      refine wc_cond_t rfl c1 ?_
      refine wc_skip ?_
      refine wq_then ?_
      refine wc_seq ?_
      refine wc_block ?_
      refine wcr ?_
      refine mv rfl rfl ?_
      refine asg rfl rfl ?_
      refine wnt ?_
      refine wc_region ?_
      refine mv rfl rfl ?_
      refine wl_pure (v := .agg #[.int .i64 a_b.Size, (sl v0a)]) (po_load_boxs tk_26 pick0 rfl rfl rfl) rfl ?_
      refine mv rfl rfl ?_
      refine bdO t1 fun v1 hv1 t1 => ?_
      refine wl_call (co_c1 fa_42 rfl fun w hw => c_impl_SeenFrom w a_b v0a (Rg.on (rds_arg r0) hw) ((k1 : Nat) : Int) hv1) rfl fun x2 => ?_
      refine wl_eff (eo_buildSlice rfl (sb_44_1 v1.Size x2)) rfl fun b3 => ?_
      refine gdO t1 fun g1 t1 => ?_
      refine wl_eff (eo_append_one (us := x1l.2) (xs := s1) ak_44 (pickS (pickS (pickS pick0))) (pow_GBlock (x := v1) (pickS pick0)) pick0 rfl rfl rfl g1) rfl fun x3 => ?_
      refine asg rfl rfl ?_
      refine wl_nil ?_
      refine wq_block ?_
      refine wq_then ?_
      refine wc_region ?_
      refine wl_pure (po_inc rfl rfl (by omega)) rfl ?_
      refine mv rfl rfl ?_
      refine wl_nil ?_
      exact wq_rnd hk1 (stpN l1 t1) (x3, (x1l.2 ++ [.int .i64 v1.Size, (sl x2)])) (sub_cons rfl (sub_cons rfl (sub_cons rfl sub_nil))) (some_cons (pickS (pickS pick0)) (some_cons pick0 some_nil))
    have c1 : (decide (((k1 : Nat) : Int) < 8)) = false := decide_eq_false (by omega)
    have en1 := forO_end l1 hk1
    refine wcr ?_
    refine wl_pure (po_lss rfl rfl) rfl ?_
    refine wnt ?_
    refine wc_seq ?_
    refine wc_cond_f rfl c1 ?_
    refine wc_exit ?_
    refine wq_then_exit ?_
    refine wq_then_exit ?_
    refine wq_block_exit ?_
    exact wj_meet _ (x1l.1, x1l.2) (Sum.inl.inj en1) (sub_cons rfl sub_nil) (some_cons (pickS pick0) some_nil)
  intro e1 x1 hp
  obtain rfl : e1 = y1 := hp.symm
  refine wq_then ?_
  refine wcr ?_
  refine mv rfl rfl ?_
  refine asg rfl rfl ?_
  refine wnt ?_
  refine wc_ret ?_
  obtain rfl := Option.some.inj t0
  exact wq_ret1 rfl rfl fun w hw => ⟨(x1.1, x1.2), rfl, hw.weak (some_cons pick0 some_nil)⟩


theorem c_impl_FormatInt (w : World) (a_n : Int) {r : Str} (t0 : impl_FormatInt a_n = some r) : Calls Tryd.prog 46 #[.int .i64 a_n] w fun e w' => e = .returned (bs r) ∧ SH w [] [] w' := by
  refine calls_of_wc (args := [_]) Tryd.func46 rfl Tryd.ntmps46 rfl ?_
  unfold impl_FormatInt at t0
  refine wcr ?_
  refine asg rfl rfl ?_
  refine wnt ?_
  refine wcr ?_
  refine mv rfl rfl ?_
  refine bdO t0 fun v1 hv1 t0 => ?_
  refine wl_call (co_c0 fa_60 rfl fun w hw => c_strconv_Itoa w a_n hv1) rfl fun _ => ?_
  refine asg rfl rfl ?_
  refine wnt ?_
  refine wc_ret ?_
  obtain rfl := Option.some.inj t0
  exact wq_ret1 rfl rfl fun w hw => ⟨rfl, hw.weak some_nil⟩

theorem c_impl_CellText (w : World) (a_c : GCell) {r : Str} (t0 : impl_CellText a_c = some r) : Calls Tryd.prog 32 #[.agg #[.int .i64 a_c.Split, .int .i64 a_c.A, .int .i64 a_c.B]] w fun e w' => e = .returned (bs r) ∧ SH w [] [] w' := by
  refine calls_of_wc (args := [_]) Tryd.func32 rfl Tryd.ntmps32 rfl ?_
  unfold impl_CellText at t0
  refine wcr ?_
  refine wl_eff (eo_box rfl rfl) rfl fun b1 => ?_
  refine asg rfl rfl ?_
  refine wnt ?_
  refine wc_seq ?_
  refine wcr ?_
  refine wl_pure (v := .agg #[.int .i64 a_c.Split, .int .i64 a_c.A, .int .i64 a_c.B]) (po_load_boxs tk_49 pick0 rfl rfl rfl) rfl ?_
  refine bdO t0 fun v1 hv1 t0 => ?_
  refine wl_call (co_c0 fa_41 rfl fun w hw => c_impl_CellOk w a_c hv1) rfl fun _ => ?_
  refine wl_pure (po_not rfl) rfl ?_
  refine wnt ?_
  refine wcO t0 rfl (fun h1 t0 => ?_) fun h1 t0 => ?_
  · skip
    refine wcr ?_
    refine asg rfl rfl ?_
    refine wnt ?_
    refine wc_ret ?_
    refine wq_then_ret ?_
    obtain rfl := Option.some.inj t0
    exact wq_ret1 rfl rfl fun w hw => ⟨rfl, hw.weak some_nil⟩
  refine wc_skip ?_
  refine wq_then ?_
  refine wcr ?_
  refine wl_eff (eo_buildSlice rfl (sb_64_3 (⟨[]⟩ : Str) (⟨[47]⟩ : Str) (⟨[92]⟩ : Str))) rfl fun b2 => ?_
  refine wl_pure (po_fld fo_49_0 rfl) rfl ?_
  refine wl_pure (v := .int .i64 a_c.Split) (po_load_box tk_3 (pickS pick0) rfl rfl) rfl ?_
  refine gdO t0 fun g1 t0 => ?_
  refine wl_pure (po_ixr (rds_own (pick_box_own pick0 (n := 3) (xs := ([(⟨[]⟩ : Str), (⟨[47]⟩ : Str), (⟨[92]⟩ : Str)] : List Str)) rfl rfl (by unfold maxLen; omega))) el_64 rfl rfl g1.1 g1.2) rfl ?_
  refine wl_pure (v := bs (gx ([(⟨[]⟩ : Str), (⟨[47]⟩ : Str), (⟨[92]⟩ : Str)] : List Str) ((a_c.Split).toNat))) (po_ldf (rds_own (pick_box_own pick0 (n := 3) (xs := ([(⟨[]⟩ : Str), (⟨[47]⟩ : Str), (⟨[92]⟩ : Str)] : List Str)) rfl rfl (by unfold maxLen; omega))) tk_9 rfl (ix_lt g1) rfl) rfl ?_
  refine asg rfl rfl ?_
  refine wnt ?_
  refine wc_seq ?_
  refine wcr ?_
  refine mv rfl rfl ?_
  refine wl_pure (po_seql rfl rfl) rfl ?_
  refine wnt ?_
  refine wcO t0 rfl (fun h2 t0 => ?_) fun h2 t0 => ?_
  · skip
    refine wcr ?_
    refine wl_pure (po_fld fo_49_1 rfl) rfl ?_
    refine wl_pure (v := .int .i64 a_c.A) (po_load_box tk_3 (pickS pick0) rfl rfl) rfl ?_
    refine bdO t0 fun v2 hv2 t0 => ?_
    refine wl_call (co_c0 fa_46 rfl fun w hw => c_impl_FormatInt w a_c.A hv2) rfl fun _ => ?_
    refine asg rfl rfl ?_
    refine wnt ?_
    refine wc_ret ?_
    refine wq_then_ret ?_
    obtain rfl := Option.some.inj t0
    exact wq_ret1 rfl rfl fun w hw => ⟨rfl, hw.weak some_nil⟩
  refine wc_skip ?_
  refine wq_then ?_
  refine wc_seq ?_
  refine wc_draw [box b2 [bs (⟨[]⟩ : Str), bs (⟨[47]⟩ : Str), bs (⟨[92]⟩ : Str)], box b1 [.int .i64 a_c.Split, .int .i64 a_c.A, .int .i64 a_c.B]] 10 mixed ?_
  refine wa_pure 0 rfl (po_fld fo_49_1 rfl) (some_cons pick0 (some_cons pick0 some_nil)) rfl (by kernel_rfl) (fun _ _ _ h => h) ?_
  refine wa_pure (v := .int .i64 a_c.A) 1 rfl (po_load_box tk_3 (pickS pick0) rfl rfl) (some_cons pick0 (some_cons pick0 some_nil)) rfl (by kernel_rfl) (fun _ _ _ h => h) ?_
  refine wa_pure 3 rfl (po_move rfl) (some_cons pick0 (some_cons pick0 some_nil)) rfl (by kernel_rfl) (fun _ _ _ h => h) ?_
  refine wa_pure 5 rfl (po_fld fo_49_2 rfl) (some_cons pick0 (some_cons pick0 some_nil)) rfl (by kernel_rfl) (fun _ _ _ h => h) ?_
  refine wa_pure (v := .int .i64 a_c.B) 6 rfl (po_load_box tk_3 (pickS pick0) rfl rfl) (some_cons pick0 (some_cons pick0 some_nil)) rfl (by kernel_rfl) (fun _ _ _ h => h) ?_
  refine wa_1 (i := 2) (by kernel_rfl) ?_
  refine bdO t0 fun v3 hv3 t0 => ?_
  refine ws_call rfl (co_c0 fa_46 rfl fun w hw => c_impl_FormatInt w a_c.A hv3) (fun _ => (sts_some (some_cons pick0 (some_cons pick0 some_nil)))) rfl fun _ => ?_
  refine gdO t0 fun g2 t0 => ?_
  refine wa_pure 4 rfl (po_sadd rfl rfl g2) (some_cons pick0 (some_cons pick0 some_nil)) rfl (by kernel_rfl) (fun _ _ _ h => h) ?_
  refine wa_1 (i := 7) (by kernel_rfl) ?_
  refine bdO t0 fun v4 hv4 t0 => ?_
  refine ws_call rfl (co_c0 fa_46 rfl fun w hw => c_impl_FormatInt w a_c.B hv4) (fun _ => (sts_some (some_cons pick0 (some_cons pick0 some_nil)))) rfl fun _ => ?_
  refine gdO t0 fun g3 t0 => ?_
  refine wa_pure 8 rfl (po_sadd rfl rfl g3) (some_cons pick0 (some_cons pick0 some_nil)) rfl (by kernel_rfl) (fun _ _ _ h => h) ?_
  refine wa_pure 9 rfl (po_assign rfl) (some_cons pick0 (some_cons pick0 some_nil)) rfl (by kernel_rfl) (fun _ _ _ h => h) ?_
  refine wa_done (by kernel_rfl) ?_
  refine wq_then ?_
  refine wc_ret ?_
  obtain rfl := Option.some.inj t0
  exact wq_ret1 rfl rfl fun w hw => ⟨rfl, hw.weak some_nil⟩

theorem c_impl_TextOf (w : World) (a_b : GBlock) (v0a : Hd) (r0 : rdF w (dm w []) (sl v0a) a_b.Cells) {r : Str} (t0 : impl_TextOf a_b = some r) : Calls Tryd.prog 16 #[.agg #[.int .i64 a_b.Size, (sl v0a)]] w fun e w' => e = .returned (bs r) ∧ SH w [] [] w' := by
  refine calls_of_wc (args := [_]) Tryd.func16 rfl Tryd.ntmps16 rfl ?_
  unfold impl_TextOf at t0
  refine wcr ?_
  refine wl_eff (eo_box rfl rfl) rfl fun b1 => ?_
  refine asg rfl rfl ?_
  refine wnt ?_
  refine wc_seq ?_
  refine wcr ?_
  refine wl_pure (v := .agg #[.int .i64 a_b.Size, (sl v0a)]) (po_load_boxs tk_26 pick0 rfl rfl rfl) rfl ?_
  refine bdO t0 fun v1 hv1 t0 => ?_
  refine wl_call (co_c0 fa_24 rfl fun w hw => c_impl_BlockOk w a_b v0a (Rg.on (rds_arg r0) hw) hv1) rfl fun _ => ?_
  refine wl_pure (po_not rfl) rfl ?_
  refine wnt ?_
  refine wcO t0 rfl (fun h1 t0 => ?_) fun h1 t0 => ?_
  · skip
    refine wcr ?_
    refine asg rfl rfl ?_
    refine wnt ?_
    refine wc_ret ?_
    refine wq_then_ret ?_
    obtain rfl := Option.some.inj t0
    exact wq_ret1 rfl rfl fun w hw => ⟨rfl, hw.weak some_nil⟩
  refine wc_skip ?_
  refine wq_then ?_
  refine wcr ?_
  refine asg rfl rfl ?_
  refine wnt ?_
  refine wc_seq ?_
  refine wcr ?_
  refine wl_pure (po_fld fo_26_1 rfl) rfl ?_
  refine wl_pure (v := (sl v0a)) (po_load_box tk_24 pick0 rfl rfl) rfl ?_
  refine wl_pure (po_lenr (rds_arg r0) el_24 rfl) rfl ?_
  refine mv rfl rfl ?_
  refine wnt ?_
  refine gdO t0 fun g1 t0 => ?_
  refine lpO_inv t0 fun y1 l1 t0 => ?_
  refine wj (J := Str) (X := Unit) (fun z => y1 = z) (fun z _ => [(3, bs z)]) (fun _ _ => []) ?_ ?_
  · skip
    refine wc_block ?_
    refine wc_forO (X := Unit) l1 (fun k1 s1 x1l => [(3, bs s1), (10, (sl v0a)), (11, .int .i64 ((a_b.Cells.length : Nat) : Int)), (12, .int .i64 ((k1 : Nat) : Int))]) (fun k1 s1 x1l => []) () (sub_cons rfl (sub_cons rfl (sub_cons rfl (sub_cons rfl sub_nil)))) some_nil fun k1 s1 x1l hN1 l1 => ?_
    by_cases hk1 : k1 < a_b.Cells.length
    · skip
      refine forO_step l1 hk1 fun _ t1 l1 => ?_
      unfold impl_TextOf_L1 at t1
      have c1 : (decide (((k1 : Nat) : Int) < ((a_b.Cells.length : Nat) : Int))) = true := decide_eq_true (by omega)
      refine wcr ?_
      refine wl_pure (po_lss rfl rfl) rfl ?_
      refine wnt ?_
      refine wc_seq ?_
      refine wc_cond_t rfl c1 ?_
      refine wc_skip ?_
      refine wq_then ?_
      refine wc_seq ?_
      refine wc_block ?_
      refine wcr ?_
      refine wl_pure (po_ixn (k := k1) (rds_arg r0) el_24 rfl rfl hk1) rfl ?_
      refine wl_pure (v := .agg #[.int .i64 ((gx a_b.Cells k1).Split), .int .i64 ((gx a_b.Cells k1).A), .int .i64 ((gx a_b.Cells k1).B)]) (po_ldfs (rds_arg r0) tk_49 rfl hk1 rfl rfl rfl) rfl ?_
      refine wl_eff (eo_alloc (cs := [.int .i64 0, .int .i64 0, .int .i64 0]) za_49) rfl fun b2 => ?_
      refine wl_skipop (so_box (cs' := [.int .i64 ((gx a_b.Cells k1).Split), .int .i64 ((gx a_b.Cells k1).A), .int .i64 ((gx a_b.Cells k1).B)]) tk_49 pick0 rfl rfl rfl rfl rfl rfl rfl) ?_
      refine wnt ?_
      refine wc_region ?_
      refine mv rfl rfl ?_
      refine wl_pure (v := .agg #[.int .i64 ((gx a_b.Cells k1).Split), .int .i64 ((gx a_b.Cells k1).A), .int .i64 ((gx a_b.Cells k1).B)]) (po_load_boxs tk_49 pick0 rfl rfl rfl) rfl ?_
      refine bdO t1 fun v2 hv2 t1 => ?_
      refine wl_call (co_c0 fa_32 rfl fun w hw => c_impl_CellText w (gx a_b.Cells k1) hv2) rfl fun _ => ?_
      refine gdO t1 fun g2 t1 => ?_
      refine wl_pure (po_sadd rfl rfl g2) rfl ?_
      refine gdO t1 fun g3 t1 => ?_
      refine wl_pure (po_sadd rfl rfl g3) rfl ?_
      refine asg rfl rfl ?_
      refine wl_nil ?_
      refine wq_block ?_
      refine wq_then ?_
      refine wc_region ?_
      refine wl_pure (po_inc rfl rfl (by omega)) rfl ?_
      refine mv rfl rfl ?_
      refine wl_nil ?_
      exact wq_rnd hk1 (stpN l1 t1) () (sub_cons rfl (sub_cons rfl (sub_cons rfl (sub_cons rfl sub_nil)))) some_nil
    have c1 : (decide (((k1 : Nat) : Int) < ((a_b.Cells.length : Nat) : Int))) = false := decide_eq_false (by omega)
    have en1 := forO_end l1 hk1
    refine wcr ?_
    refine wl_pure (po_lss rfl rfl) rfl ?_
    refine wnt ?_
    refine wc_seq ?_
    refine wc_cond_f rfl c1 ?_
    refine wc_exit ?_
    refine wq_then_exit ?_
    refine wq_then_exit ?_
    refine wq_block_exit ?_
    exact wj_meet _ () (Sum.inl.inj en1) (sub_cons rfl sub_nil) some_nil
  intro e1 _ hp
  obtain rfl : e1 = y1 := hp.symm
  refine wq_then ?_
  refine wcr ?_
  refine mv rfl rfl ?_
  refine asg rfl rfl ?_
  refine wnt ?_
  refine wc_ret ?_
  obtain rfl := Option.some.inj t0
  exact wq_ret1 rfl rfl fun w hw => ⟨rfl, hw.weak some_nil⟩

theorem c_impl_least (w : World) (fp : List Nat) (a_list : List GBlock) (v0a : Hd) (u0a : List Value) (o : Ow w [own (sl v0a) u0a a_list] fp) {r : GBlock} (t0 : impl_least a_list = some r) : Calls Tryd.prog 25 #[(sl v0a)] w fun e w' => ∃ x : Hd, e = .returned (.agg #[.int .i64 r.Size, (sl x)]) ∧ SH w fp [ownF (sl x) r.Cells] w' := by
  have hf0 : ∀ k, k < a_list.length → ∃ h : Hd, chunk u0a k (Rep.sz GBlock) = [.int .i64 (gx a_list k).Size, sl h] := fun k hk => by
    obtain ⟨⟨f1, f2, _, hown, _⟩, _⟩ := o
    have hr : RdL w (fun _ => True) (sl v0a) u0a a_list := OwL.rd hown (fun _ _ => trivial)
    have hx : a_list[k]? = some (gx a_list k) := by simp [gx, List.getD, hk]
    obtain ⟨h0, e, _⟩ := rd_GBlock.1 (hr.2.2 k _ hx)
    exact ⟨h0, e⟩
  obtain ⟨f, hf⟩ : ∃ f : Nat → Hd, ∀ k, k < a_list.length → chunk u0a k (Rep.sz GBlock) = [.int .i64 (gx a_list k).Size, sl (f k)] :=
    ⟨fun k => if h : k < a_list.length then (hf0 k h).choose else ⟨none, 0, 0⟩, fun k hk => by
      simp only [hk, dite_true]
      exact (hf0 k hk).choose_spec⟩
  refine calls_of_wc_own (args := [_]) o Tryd.func25 rfl Tryd.ntmps25 rfl ?_
  unfold impl_least at t0
  refine wcr ?_
  refine wl_eff (eo_alloc (cs := [.int .i64 0, (sl (⟨none, 0, 0⟩ : Hd))]) za_26) rfl fun b1 => ?_
  refine wnt ?_
  refine wcr ?_
  refine mv rfl rfl ?_
  refine gdO t0 fun g1 t0 => ?_
  refine wl_pure (po_ixn (k := 0) (rds_own (pickS pick0)) el_44 rfl rfl g1) rfl ?_
  refine wl_pure (v := .agg #[.int .i64 ((gx a_list 0).Size), (sl (f 0))]) (po_ldns (rds_own (pickS pick0)) tk_26 rfl (hf 0 g1) rfl rfl rfl) rfl ?_
  refine wl_eff (eo_alloc (cs := [.int .i64 0, (sl (⟨none, 0, 0⟩ : Hd))]) za_26) rfl fun b2 => ?_
  refine wl_skipop (so_box (cs' := [.int .i64 ((gx a_list 0).Size), (sl (f 0))]) tk_26 pick0 rfl rfl rfl rfl rfl rfl rfl) ?_
  refine wnt ?_
  refine wc_seq ?_
  refine wcr ?_
  refine mv rfl rfl ?_
  refine wl_pure (po_lenr (rds_own (pickS (pickS pick0))) el_44 rfl) rfl ?_
  refine mv rfl rfl ?_
  refine wnt ?_
  refine gdO t0 fun g2 t0 => ?_
  refine lpO_inv t0 fun y1 l1 t0 => ?_
  refine wj (J := Nat) (X := Unit) (fun z => y1 = z) (fun _ _ => [(2, ptr b1 0), (3, ptr b2 0)]) (fun z _ => [box b2 [.int .i64 ((gx a_list z).Size), (sl (f z))], box b1 [.int .i64 0, (sl (⟨none, 0, 0⟩ : Hd))], own (sl v0a) u0a a_list]) ?_ ?_
  · skip
    refine wc_block ?_
    refine wc_forO (X := Unit) l1 (fun k1 s1 x1l => [(2, ptr b1 0), (3, ptr b2 0), (9, (sl v0a)), (10, .int .i64 ((a_list.length : Nat) : Int)), (11, .int .i64 ((k1 : Nat) : Int))]) (fun k1 s1 x1l => [box b2 [.int .i64 ((gx a_list s1).Size), (sl (f s1))], box b1 [.int .i64 0, (sl (⟨none, 0, 0⟩ : Hd))], own (sl v0a) u0a a_list]) () (sub_cons rfl (sub_cons rfl (sub_cons rfl (sub_cons rfl (sub_cons rfl sub_nil))))) (some_cons pick0 (some_cons pick0 (some_cons pick0 some_nil))) fun k1 s1 x1l hN1 l1 => ?_
    by_cases hk1 : k1 < a_list.length
    · skip
      refine forO_step l1 hk1 fun _ t1 l1 => ?_
      unfold impl_least_L1 at t1
      have c1 : (decide (((k1 : Nat) : Int) < ((a_list.length : Nat) : Int))) = true := decide_eq_true (by omega)
      refine wcr ?_
      refine wl_pure (po_lss rfl rfl) rfl ?_
      refine wnt ?_
      refine wc_seq ?_
      refine wc_cond_t rfl c1 ?_
      refine wc_skip ?_
      refine wq_then ?_
      refine wc_seq ?_
      refine wc_block ?_
      refine gdO t1 fun g3 t1 => ?_
      refine wcr ?_
      refine wl_pure (po_ixn (k := k1) (rds_own (pickS (pickS pick0))) el_44 rfl rfl hk1) rfl ?_
      refine wl_pure (v := .agg #[.int .i64 ((gx a_list k1).Size), (sl (f k1))]) (po_ldns (rds_own (pickS (pickS pick0))) tk_26 rfl (hf k1 hk1) rfl rfl rfl) rfl ?_
      refine wl_eff (eo_alloc (cs := [.int .i64 0, (sl (⟨none, 0, 0⟩ : Hd))]) za_26) rfl fun b3 => ?_
      refine wl_skipop (so_box (cs' := [.int .i64 ((gx a_list k1).Size), (sl (f k1))]) tk_26 pick0 rfl rfl rfl rfl rfl rfl rfl) ?_
      refine wnt ?_
      refine wc_seq ?_
      refine wc_draw [box b3 [.int .i64 ((gx a_list k1).Size), (sl (f k1))], box b2 [.int .i64 ((gx a_list s1).Size), (sl (f s1))], box b1 [.int .i64 0, (sl (⟨none, 0, 0⟩ : Hd))], own (sl v0a) u0a a_list] 5 mixed ?_
      refine wa_pure (v := .agg #[.int .i64 ((gx a_list k1).Size), (sl (f k1))]) 0 rfl (po_load_boxs tk_26 pick0 rfl rfl rfl) (some_cons pick0 (some_cons pick0 (some_cons pick0 (some_cons pick0 some_nil)))) rfl (by kernel_rfl) (fun _ _ _ h => h) ?_
      refine wa_pure (v := .agg #[.int .i64 ((gx a_list s1).Size), (sl (f s1))]) 2 rfl (po_load_boxs tk_26 (pickS pick0) rfl rfl rfl) (some_cons pick0 (some_cons pick0 (some_cons pick0 (some_cons pick0 some_nil)))) rfl (by kernel_rfl) (fun _ _ _ h => h) ?_
      refine wa_1 (i := 1) (by kernel_rfl) ?_
      refine bdO t1 fun v1 hv1 t1 => ?_
      refine ws_call rfl (co_c0 fa_16 rfl fun w hw => c_impl_TextOf w (gx a_list k1) (f k1) (Rg.on (er_GBlock_0 (hf k1 hk1) (rds_own (pickS (pickS (pickS pick0)))) hk1) hw) hv1) (fun _ => (sts_some (some_cons pick0 (some_cons pick0 (some_cons pick0 (some_cons pick0 some_nil)))))) rfl fun _ => ?_
      refine wa_1 (i := 3) (by kernel_rfl) ?_
      refine bdO t1 fun v2 hv2 t1 => ?_
      refine ws_call rfl (co_c0 fa_16 rfl fun w hw => c_impl_TextOf w (gx a_list s1) (f s1) (Rg.on (er_GBlock_0 (hf s1 g3) (rds_own (pickS (pickS (pickS pick0)))) g3) hw) hv2) (fun _ => (sts_some (some_cons pick0 (some_cons pick0 (some_cons pick0 (some_cons pick0 some_nil)))))) rfl fun _ => ?_
      refine wa_pure 4 rfl (po_slss rfl rfl) (some_cons pick0 (some_cons pick0 (some_cons pick0 (some_cons pick0 some_nil)))) rfl (by kernel_rfl) (fun _ _ _ h => h) ?_
      refine wa_done (by kernel_rfl) ?_
      refine wq_then ?_
      refine wc_join (X := Unit) (fun _ => True) (fun _ => [(2, ptr b1 0), (3, ptr b2 0), (9, (sl v0a)), (10, .int .i64 ((a_list.length : Nat) : Int)), (11, .int .i64 ((k1 : Nat) : Int))]) (fun _ => [box b2 [.int .i64 ((gx a_list (bif slt v1 v2 then k1 else s1)).Size), (sl (f (bif slt v1 v2 then k1 else s1)))], box b1 [.int .i64 0, (sl (⟨none, 0, 0⟩ : Hd))], own (sl v0a) u0a a_list]) ?_ ?_
      · skip
        refine wc_cond rfl (fun h2 => ?_) fun h2 => ?_
        · skip
          refine wc_region ?_
          refine wl_pure (v := .agg #[.int .i64 ((gx a_list k1).Size), (sl (f k1))]) (po_load_boxs tk_26 pick0 rfl rfl rfl) rfl ?_
          refine wl_skipop (so_box (cs' := [.int .i64 ((gx a_list k1).Size), (sl (f k1))]) tk_26 (pickS pick0) rfl rfl rfl rfl rfl rfl rfl) ?_
          refine wl_nil ?_
          rw [h2]
          exact wq_meet () trivial (sub_cons rfl (sub_cons rfl (sub_cons rfl (sub_cons rfl (sub_cons rfl sub_nil))))) (some_cons pick0 (some_cons (pickS pick0) (some_cons (pickS pick0) some_nil)))
        refine wc_skip ?_
        rw [h2]
        exact wq_meet () trivial (sub_cons rfl (sub_cons rfl (sub_cons rfl (sub_cons rfl (sub_cons rfl sub_nil))))) (some_cons (pickS pick0) (some_cons (pickS pick0) (some_cons (pickS pick0) some_nil)))
      intro x4 _
      refine wq_block ?_
      refine wq_then ?_
      refine wc_region ?_
      refine wl_pure (po_inc rfl rfl (by omega)) rfl ?_
      refine mv rfl rfl ?_
      refine wl_nil ?_
      exact wq_rnd hk1 (stpN l1 t1) () (sub_cons rfl (sub_cons rfl (sub_cons rfl (sub_cons rfl (sub_cons rfl sub_nil))))) (some_cons pick0 (some_cons pick0 (some_cons pick0 some_nil)))
    have c1 : (decide (((k1 : Nat) : Int) < ((a_list.length : Nat) : Int))) = false := decide_eq_false (by omega)
    have en1 := forO_end l1 hk1
    refine wcr ?_
    refine wl_pure (po_lss rfl rfl) rfl ?_
    refine wnt ?_
    refine wc_seq ?_
    refine wc_cond_f rfl c1 ?_
    refine wc_exit ?_
    refine wq_then_exit ?_
    refine wq_then_exit ?_
    refine wq_block_exit ?_
    exact wj_meet _ () (Sum.inl.inj en1) (sub_cons rfl (sub_cons rfl sub_nil)) (some_cons pick0 (some_cons pick0 (some_cons pick0 some_nil)))
  intro e1 x2 hp
  obtain rfl : e1 = y1 := hp.symm
  refine gdO t0 fun g4 t0 => ?_
  refine wq_then ?_
  refine wcr ?_
  refine wl_pure (v := .agg #[.int .i64 ((gx a_list e1).Size), (sl (f e1))]) (po_load_boxs tk_26 pick0 rfl rfl rfl) rfl ?_
  refine wl_skipop (so_box (cs' := [.int .i64 ((gx a_list e1).Size), (sl (f e1))]) tk_26 (pickS pick0) rfl rfl rfl rfl rfl rfl rfl) ?_
  refine wnt ?_
  refine wc_ret ?_
  obtain rfl := Option.some.inj t0
  exact wq_retc rfl tk_26 rfl pick0 rfl fun w hw => ⟨f e1, rfl, ((hw.ent (take_elem (pickS (pickS pick0)) g4 (hf e1 g4))).ent un_GBlock).weak (some_cons pick0 some_nil)⟩

theorem c_impl_LeastForm (w : World) (a_b : GBlock) (v0a : Hd) (r0 : rdF w (dm w []) (sl v0a) a_b.Cells) {r : GBlock} (t0 : impl_LeastForm a_b = some r) : Calls Tryd.prog 8 #[.agg #[.int .i64 a_b.Size, (sl v0a)]] w fun e w' => ∃ x : Hd, e = .returned (.agg #[.int .i64 r.Size, (sl x)]) ∧ SH w [] [ownF (sl x) r.Cells] w' := by
  refine calls_of_wc (args := [_]) Tryd.func8 rfl Tryd.ntmps8 rfl ?_
  unfold impl_LeastForm at t0
  refine wcr ?_
  refine wl_eff (eo_box rfl rfl) rfl fun b1 => ?_
  refine wl_eff (eo_alloc (cs := [.int .i64 0, (sl (⟨none, 0, 0⟩ : Hd))]) za_26) rfl fun b2 => ?_
  refine wnt ?_
  refine wc_seq ?_
  refine wcr ?_
  refine wl_pure (v := .agg #[.int .i64 a_b.Size, (sl v0a)]) (po_load_boxs tk_26 (pickS pick0) rfl rfl rfl) rfl ?_
  refine bdO t0 fun v1 hv1 t0 => ?_
  refine wl_call (co_c0 fa_24 rfl fun w hw => c_impl_BlockOk w a_b v0a (Rg.on (rds_arg r0) hw) hv1) rfl fun _ => ?_
  refine wl_pure (po_not rfl) rfl ?_
  refine wnt ?_
  refine wcO t0 rfl (fun h1 t0 => ?_) fun h1 t0 => ?_
  · skip
    refine wcr ?_
    refine wl_pure (po_build rfl bd_26) rfl ?_
    refine wl_skipop (so_box (cs' := [.int .i64 0, (sl (⟨none, 0, 0⟩ : Hd))]) tk_26 pick0 rfl rfl rfl rfl rfl rfl rfl) ?_
    refine wnt ?_
    refine wc_ret ?_
    refine wq_then_ret ?_
    obtain rfl := Option.some.inj t0
    exact wq_retc rfl tk_26 rfl pick0 rfl fun w hw => ⟨(⟨none, 0, 0⟩ : Hd), rfl, hw.weak (some_cons pick_nil some_nil)⟩
  refine wc_skip ?_
  refine wq_then ?_
  refine wcr ?_
  refine wl_pure (v := .agg #[.int .i64 a_b.Size, (sl v0a)]) (po_load_boxs tk_26 (pickS pick0) rfl rfl rfl) rfl ?_
  refine bdO t0 fun v2 hv2 t0 => ?_
  refine wl_call (co_c1 fa_26 rfl fun w hw => c_impl_views w a_b v0a (Rg.on (rds_arg r0) hw) hv2) rfl fun x1 => ?_
  refine bdO t0 fun v3 hv3 t0 => ?_
  refine wl_call (co_o1 [own (sl x1.1) x1.2 v2] fa_25 (some_cons pick0 some_refl) rfl fun w fp hw => c_impl_least w fp v2 x1.1 x1.2 hw.ow hv3) rfl fun x2 => ?_
  refine wl_skipop (so_box (cs' := [.int .i64 v3.Size, (sl x2)]) tk_26 (pickS pick0) rfl rfl rfl rfl rfl rfl rfl) ?_
  refine wnt ?_
  refine wc_ret ?_
  obtain rfl := Option.some.inj t0
  exact wq_retc rfl tk_26 rfl pick0 rfl fun w hw => ⟨x2, rfl, hw.weak (some_cons (pickS pick0) some_nil)⟩

theorem c_impl_indexOf (w : World) (a_list : List Int) (v0a : Hd) (r0 : rdF w (dm w []) (sl v0a) a_list) (a_n : Int) {r : Int} (t0 : impl_indexOf a_list a_n = some r) : Calls Tryd.prog 58 #[(sl v0a), .int .i64 a_n] w fun e w' => e = .returned (.int .i64 r) ∧ SH w [] [] w' := by
  refine calls_of_wc (args := [_, _]) Tryd.func58 rfl Tryd.ntmps58 rfl ?_
  unfold impl_indexOf at t0
  refine wcr ?_
  refine asg rfl rfl ?_
  refine wnt ?_
  refine wc_seq ?_
  refine wcr ?_
  refine mv rfl rfl ?_
  refine wl_pure (po_lenr (rds_arg r0) el_31 rfl) rfl ?_
  refine mv rfl rfl ?_
  refine wnt ?_
  refine gdO t0 fun g1 t0 => ?_
  refine sqO t0 fun y1 l1 t0 => ?_
  refine wj (J := Unit) (X := Unit) (fun z => y1 = .inl z) (fun _ _ => []) (fun _ _ => []) ?_ ?_
  · skip
    refine wc_block ?_
    refine wc_forO (X := Unit) l1 (fun k1 s1 x1l => [(1, .int .i64 a_n), (7, (sl v0a)), (8, .int .i64 ((a_list.length : Nat) : Int)), (9, .int .i64 ((k1 : Nat) : Int))]) (fun k1 s1 x1l => []) () (sub_cons rfl (sub_cons rfl (sub_cons rfl (sub_cons rfl sub_nil)))) some_nil fun k1 s1 x1l hN1 l1 => ?_
    by_cases hk1 : k1 < a_list.length
    · skip
      refine forO_step l1 hk1 fun _ t1 l1 => ?_
      unfold impl_indexOf_L1 at t1
      have c1 : (decide (((k1 : Nat) : Int) < ((a_list.length : Nat) : Int))) = true := decide_eq_true (by omega)
      refine wcr ?_
      refine wl_pure (po_lss rfl rfl) rfl ?_
      refine wnt ?_
      refine wc_seq ?_
      refine wc_cond_t rfl c1 ?_
      refine wc_skip ?_
      refine wq_then ?_
      refine wc_seq ?_
      refine wc_block ?_
      refine wcr ?_
      refine mv rfl rfl ?_
      refine wl_pure (po_ixn (k := k1) (rds_arg r0) el_31 rfl rfl hk1) rfl ?_
      refine wl_pure (v := .int .i64 (gx a_list k1)) (po_ldf (rds_arg r0) tk_3 rfl hk1 rfl) rfl ?_
      refine asg rfl rfl ?_
      refine asg rfl rfl ?_
      refine wnt ?_
      refine wcr ?_
      refine mv rfl rfl ?_
      refine mv rfl rfl ?_
      refine wl_pure (po_eql rfl rfl) rfl ?_
      refine wnt ?_
      refine wcO t1 rfl (fun h1 t1 => ?_) fun h1 t1 => ?_
      · skip
        refine wcr ?_
        refine mv rfl rfl ?_
        refine asg rfl rfl ?_
        refine wnt ?_
        refine wc_ret ?_
        refine wq_block_ret ?_
        refine wq_then_ret ?_
        refine wq_then_ret ?_
        refine wq_block_ret ?_
        refine wq_then_ret ?_
        refine wq_then_ret ?_
        replace t0 := lpR t0 l1 t1
        obtain rfl := Option.some.inj t0
        exact wq_ret1 rfl rfl fun w hw => ⟨rfl, hw.weak some_nil⟩
      refine wc_skip ?_
      refine wq_block ?_
      refine wq_then ?_
      refine wc_region ?_
      refine wl_pure (po_inc rfl rfl (by omega)) rfl ?_
      refine mv rfl rfl ?_
      refine wl_nil ?_
      exact wq_rnd hk1 (stpN l1 t1) () (sub_cons rfl (sub_cons rfl (sub_cons rfl (sub_cons rfl sub_nil)))) some_nil
    have c1 : (decide (((k1 : Nat) : Int) < ((a_list.length : Nat) : Int))) = false := decide_eq_false (by omega)
    have en1 := forO_end l1 hk1
    refine wcr ?_
    refine wl_pure (po_lss rfl rfl) rfl ?_
    refine wnt ?_
    refine wc_seq ?_
    refine wc_cond_f rfl c1 ?_
    refine wc_exit ?_
    refine wq_then_exit ?_
    refine wq_then_exit ?_
    refine wq_block_exit ?_
    exact wj_meet _ () en1 sub_nil some_nil
  intro e1 _ hp
  replace t0 := sqE (j := e1) t0 hp
  refine wq_then ?_
  refine wcr ?_
  refine asg rfl rfl ?_
  refine wnt ?_
  refine wc_ret ?_
  obtain rfl := Option.some.inj t0
  exact wq_ret1 rfl rfl fun w hw => ⟨rfl, hw.weak some_nil⟩

theorem c_impl_put (w : World) (a_list : List Int) (v0a : Hd) (r0 : rdF w (dm w []) (sl v0a) a_list) (a_n : Int) {r : List Int} (t0 : impl_put a_list a_n = some r) : Calls Tryd.prog 74 #[(sl v0a), .int .i64 a_n] w fun e w' => ∃ x : Hd, e = .returned ((sl x)) ∧ SH w [] [ownF (sl x) r] w' := by
  refine calls_of_wc (args := [_, _]) Tryd.func74 rfl Tryd.ntmps74 rfl ?_
  unfold impl_put at t0
  refine wcr ?_
  refine asg rfl rfl ?_
  refine wnt ?_
  refine wcr ?_
  refine wl_eff (eo_buildSlice rfl sb_31_0) rfl fun b1 => ?_
  refine asg rfl rfl ?_
  refine asg rfl rfl ?_
  refine wnt ?_
  refine wc_seq ?_
  refine wcr ?_
  refine mv rfl rfl ?_
  refine wl_pure (po_lenr (rds_arg r0) el_31 rfl) rfl ?_
  refine mv rfl rfl ?_
  refine wnt ?_
  refine gdO t0 fun g1 t0 => ?_
  refine lpO_inv t0 fun y1 l1 t0 => ?_
  refine wj (J := (List Int) × Bool) (X := Hd) (fun z => y1 = z) (fun z x => [(1, .int .i64 a_n), (5, (sl x)), (6, .bool z.2)]) (fun z x => [ownF (sl x) z.1]) ?_ ?_
  · skip
    refine wc_block ?_
    refine wc_forO (X := Hd) l1 (fun k1 s1 x1l => [(1, .int .i64 a_n), (5, (sl x1l)), (6, .bool s1.2), (10, (sl v0a)), (11, .int .i64 ((a_list.length : Nat) : Int)), (12, .int .i64 ((k1 : Nat) : Int))]) (fun k1 s1 x1l => [ownF (sl x1l) s1.1]) (⟨some ⟨b1, 0, none⟩, 0, 0⟩ : Hd) (sub_cons rfl (sub_cons rfl (sub_cons rfl (sub_cons rfl (sub_cons rfl (sub_cons rfl sub_nil)))))) (some_cons (pick_box_own pick0 (n := 0) (xs := ([] : List Int)) rfl rfl (by unfold maxLen; omega)) some_nil) fun k1 s1 x1l hN1 l1 => ?_
    by_cases hk1 : k1 < a_list.length
    · skip
      refine forO_step l1 hk1 fun _ t1 l1 => ?_
      unfold impl_put_L1 at t1
      have c1 : (decide (((k1 : Nat) : Int) < ((a_list.length : Nat) : Int))) = true := decide_eq_true (by omega)
      refine wcr ?_
      refine wl_pure (po_lss rfl rfl) rfl ?_
      refine wnt ?_
      refine wc_seq ?_
      refine wc_cond_t rfl c1 ?_
      refine wc_skip ?_
      refine wq_then ?_
      refine wc_seq ?_
      refine wc_block ?_
      refine wcr ?_
      refine wl_pure (po_ixn (k := k1) (rds_arg r0) el_31 rfl rfl hk1) rfl ?_
      refine wl_pure (v := .int .i64 (gx a_list k1)) (po_ldf (rds_arg r0) tk_3 rfl hk1 rfl) rfl ?_
      refine asg rfl rfl ?_
      refine wnt ?_
      refine wc_seq ?_
      refine wc_seq ?_
      refine wc_join (X := Unit) (fun _ => True) (fun _ => [(1, .int .i64 a_n), (5, (sl x1l)), (6, .bool s1.2), (8, .int .i64 (gx a_list k1)), (10, (sl v0a)), (11, .int .i64 ((a_list.length : Nat) : Int)), (12, .int .i64 ((k1 : Nat) : Int)), (22, .bool ((!s1.2) && (decide (a_n ≤ (gx a_list k1)))))]) (fun _ => [ownF (sl x1l) s1.1]) ?_ ?_
      · skip
        refine wc_region ?_
        refine mv rfl rfl ?_
        refine wl_pure (po_not rfl) rfl ?_
        refine mv rfl rfl ?_
        refine wl_fork (t := 18) rfl (fun h1 => ?_) fun h1 => ?_
        · skip
          refine wl_guard_on (j := 2) rfl rfl rfl (mv rfl rfl ?_)
          refine wl_guard_on (j := 2) rfl rfl rfl (mv rfl rfl ?_)
          refine wl_guard_on (j := 2) rfl rfl rfl (wl_pure (po_leq rfl rfl) rfl ?_)
          refine wl_pure (po_pick_t rfl rfl) rfl ?_
          refine wl_nil ?_
          exact wq_meet () trivial (sub_cons rfl (sub_cons rfl (sub_cons rfl (sub_cons rfl (sub_cons rfl (sub_cons rfl (sub_cons rfl (sub_b rfl (by rw [h1]; rfl) sub_nil)))))))) (some_cons pick0 some_nil)
        refine wl_guard_off (j := 2) rfl rfl rfl rfl rfl ?_
        refine wl_guard_off (j := 2) rfl rfl rfl rfl rfl ?_
        refine wl_guard_off (j := 2) rfl rfl rfl rfl rfl ?_
        refine wl_pure (po_pick_f rfl rfl) rfl ?_
        refine wl_nil ?_
        exact wq_meet () trivial (sub_cons rfl (sub_cons rfl (sub_cons rfl (sub_cons rfl (sub_cons rfl (sub_cons rfl (sub_cons rfl (sub_b rfl (by rw [h1]; rfl) sub_nil)))))))) (some_cons pick0 some_nil)
      intro _ _
      refine wq_then ?_
      refine bdO t1 fun y2 t2 t1 => ?_
      refine wj (J := (List Int) × Bool) (X := Hd) (fun z => y2 = z) (fun z x => [(1, .int .i64 a_n), (5, (sl x)), (6, .bool z.2), (8, .int .i64 (gx a_list k1)), (10, (sl v0a)), (11, .int .i64 ((a_list.length : Nat) : Int)), (12, .int .i64 ((k1 : Nat) : Int))]) (fun z x => [ownF (sl x) z.1]) ?_ ?_
      · skip
        refine wcO t2 rfl (fun h2 t2 => ?_) fun h2 t2 => ?_
        · skip
          refine wcr ?_
          refine mv rfl rfl ?_
          refine mv rfl rfl ?_
          refine wl_eff (eo_buildSlice rfl (sb_31_1 a_n)) rfl fun b2 => ?_
          refine gdO t2 fun g2 t2 => ?_
          refine wl_eff (eo_append (xs := s1.1) (ys := ([a_n] : List Int)) ak_31 (pickS pick0) rfl rfl (slin_rd fun _ g => Rg.on (rds_own (pick_box_own pick0 (n := 1) (xs := ([a_n] : List Int)) rfl rfl (by unfold maxLen; omega))) g) g2) rfl fun x4 => ?_
          refine asg rfl rfl ?_
          refine wnt ?_
          refine wc_region ?_
          refine asg rfl rfl ?_
          refine wl_nil ?_
          exact wj_meet _ x4 (mtE t2) (sub_cons rfl (sub_cons rfl (sub_cons rfl (sub_cons rfl (sub_cons rfl (sub_cons rfl (sub_cons rfl sub_nil))))))) (some_cons pick0 some_nil)
        refine wc_skip ?_
        exact wj_meet _ x1l (mtE t2) (sub_cons rfl (sub_cons rfl (sub_cons rfl (sub_cons rfl (sub_cons rfl (sub_cons rfl (sub_cons rfl sub_nil))))))) (some_cons pick0 some_nil)
      intro j2 x3 hp
      obtain rfl : j2 = y2 := hp.symm
      refine wq_then ?_
      refine wc_region ?_
      refine mv rfl rfl ?_
      refine mv rfl rfl ?_
      refine wl_eff (eo_buildSlice rfl (sb_31_1 (gx a_list k1))) rfl fun b3 => ?_
      refine gdO t1 fun g3 t1 => ?_
      refine wl_eff (eo_append (xs := j2.1) (ys := ([(gx a_list k1)] : List Int)) ak_31 (pickS pick0) rfl rfl (slin_rd fun _ g => Rg.on (rds_own (pick_box_own pick0 (n := 1) (xs := ([(gx a_list k1)] : List Int)) rfl rfl (by unfold maxLen; omega))) g) g3) rfl fun x5 => ?_
      refine asg rfl rfl ?_
      refine wl_nil ?_
      refine wq_block ?_
      refine wq_then ?_
      refine wc_region ?_
      refine wl_pure (po_inc rfl rfl (by omega)) rfl ?_
      refine mv rfl rfl ?_
      refine wl_nil ?_
      exact wq_rnd hk1 (stpN l1 t1) x5 (sub_cons rfl (sub_cons rfl (sub_cons rfl (sub_cons rfl (sub_cons rfl (sub_cons rfl sub_nil)))))) (some_cons pick0 some_nil)
    have c1 : (decide (((k1 : Nat) : Int) < ((a_list.length : Nat) : Int))) = false := decide_eq_false (by omega)
    have en1 := forO_end l1 hk1
    refine wcr ?_
    refine wl_pure (po_lss rfl rfl) rfl ?_
    refine wnt ?_
    refine wc_seq ?_
    refine wc_cond_f rfl c1 ?_
    refine wc_exit ?_
    refine wq_then_exit ?_
    refine wq_then_exit ?_
    refine wq_block_exit ?_
    exact wj_meet _ x1l (Sum.inl.inj en1) (sub_cons rfl (sub_cons rfl (sub_cons rfl sub_nil))) (some_cons pick0 some_nil)
  intro e1 x1 hp
  obtain rfl : e1 = y1 := hp.symm
  refine wq_then ?_
  refine wc_seq ?_
  refine wcr ?_
  refine mv rfl rfl ?_
  refine wl_pure (po_not rfl) rfl ?_
  refine wnt ?_
  refine bdO t0 fun y1 t1 t0 => ?_
  refine wj (J := List Int) (X := Hd) (fun z => y1 = z) (fun _ x => [(5, (sl x))]) (fun z x => [ownF (sl x) z]) ?_ ?_
  · skip
    refine wcO t1 rfl (fun h3 t1 => ?_) fun h3 t1 => ?_
    · skip
      refine wc_region ?_
      refine mv rfl rfl ?_
      refine mv rfl rfl ?_
      refine wl_eff (eo_buildSlice rfl (sb_31_1 a_n)) rfl fun b4 => ?_
      refine gdO t1 fun g4 t1 => ?_
      refine wl_eff (eo_append (xs := e1.1) (ys := ([a_n] : List Int)) ak_31 (pickS pick0) rfl rfl (slin_rd fun _ g => Rg.on (rds_own (pick_box_own pick0 (n := 1) (xs := ([a_n] : List Int)) rfl rfl (by unfold maxLen; omega))) g) g4) rfl fun x7 => ?_
      refine asg rfl rfl ?_
      refine wl_nil ?_
      exact wj_meet _ x7 (mtE t1) (sub_cons rfl sub_nil) (some_cons pick0 some_nil)
    refine wc_skip ?_
    exact wj_meet _ x1 (mtE t1) (sub_cons rfl sub_nil) (some_cons pick0 some_nil)
  intro j3 x6 hp
  obtain rfl : j3 = y1 := hp.symm
  refine wq_then ?_
  refine wcr ?_
  refine mv rfl rfl ?_
  refine asg rfl rfl ?_
  refine wnt ?_
  refine wc_ret ?_
  obtain rfl := Option.some.inj t0
  exact wq_ret1 rfl rfl fun w hw => ⟨x6, rfl, hw.weak (some_cons pick0 some_nil)⟩

theorem c_impl_sorted (w : World) (a_list : List Int) (v0a : Hd) (r0 : rdF w (dm w []) (sl v0a) a_list) {r : List Int} (t0 : impl_sorted a_list = some r) : Calls Tryd.prog 72 #[(sl v0a)] w fun e w' => ∃ x : Hd, e = .returned ((sl x)) ∧ SH w [] [ownF (sl x) r] w' := by
  refine calls_of_wc (args := [_]) Tryd.func72 rfl Tryd.ntmps72 rfl ?_
  unfold impl_sorted at t0
  refine wcr ?_
  refine asg rfl rfl ?_
  refine wnt ?_
  refine wcr ?_
  refine wl_eff (eo_buildSlice rfl sb_31_0) rfl fun b1 => ?_
  refine asg rfl rfl ?_
  refine wnt ?_
  refine wc_seq ?_
  refine wcr ?_
  refine mv rfl rfl ?_
  refine wl_pure (po_lenr (rds_arg r0) el_31 rfl) rfl ?_
  refine mv rfl rfl ?_
  refine wnt ?_
  refine gdO t0 fun g1 t0 => ?_
  refine lpO_inv t0 fun y1 l1 t0 => ?_
  refine wj (J := List Int) (X := Hd) (fun z => y1 = z) (fun _ x => [(3, (sl x))]) (fun z x => [ownF (sl x) z]) ?_ ?_
  · skip
    refine wc_block ?_
    refine wc_forO (X := Hd) l1 (fun k1 s1 x1l => [(3, (sl x1l)), (7, (sl v0a)), (8, .int .i64 ((a_list.length : Nat) : Int)), (9, .int .i64 ((k1 : Nat) : Int))]) (fun k1 s1 x1l => [ownF (sl x1l) s1]) (⟨some ⟨b1, 0, none⟩, 0, 0⟩ : Hd) (sub_cons rfl (sub_cons rfl (sub_cons rfl (sub_cons rfl sub_nil)))) (some_cons (pick_box_own pick0 (n := 0) (xs := ([] : List Int)) rfl rfl (by unfold maxLen; omega)) some_nil) fun k1 s1 x1l hN1 l1 => ?_
    by_cases hk1 : k1 < a_list.length
    · skip
      refine forO_step l1 hk1 fun _ t1 l1 => ?_
      unfold impl_sorted_L1 at t1
      have c1 : (decide (((k1 : Nat) : Int) < ((a_list.length : Nat) : Int))) = true := decide_eq_true (by omega)
      refine wcr ?_
      refine wl_pure (po_lss rfl rfl) rfl ?_
      refine wnt ?_
      refine wc_seq ?_
      refine wc_cond_t rfl c1 ?_
      refine wc_skip ?_
      refine wq_then ?_
      refine wc_seq ?_
      refine wc_block ?_
      refine wcr ?_
      refine wl_pure (po_ixn (k := k1) (rds_arg r0) el_31 rfl rfl hk1) rfl ?_
      refine wl_pure (v := .int .i64 (gx a_list k1)) (po_ldf (rds_arg r0) tk_3 rfl hk1 rfl) rfl ?_
      refine asg rfl rfl ?_
      refine wnt ?_
      refine wc_region ?_
      refine mv rfl rfl ?_
      refine mv rfl rfl ?_
      refine bdO t1 fun v1 hv1 t1 => ?_
      refine wl_call (co_c1 fa_74 rfl fun w hw => c_impl_put w s1 x1l (Rg.on (rds_own pick0) hw) (gx a_list k1) hv1) rfl fun x2 => ?_
      refine asg rfl rfl ?_
      refine wl_nil ?_
      refine wq_block ?_
      refine wq_then ?_
      refine wc_region ?_
      refine wl_pure (po_inc rfl rfl (by omega)) rfl ?_
      refine mv rfl rfl ?_
      refine wl_nil ?_
      exact wq_rnd hk1 (stpN l1 t1) x2 (sub_cons rfl (sub_cons rfl (sub_cons rfl (sub_cons rfl sub_nil)))) (some_cons pick0 some_nil)
    have c1 : (decide (((k1 : Nat) : Int) < ((a_list.length : Nat) : Int))) = false := decide_eq_false (by omega)
    have en1 := forO_end l1 hk1
    refine wcr ?_
    refine wl_pure (po_lss rfl rfl) rfl ?_
    refine wnt ?_
    refine wc_seq ?_
    refine wc_cond_f rfl c1 ?_
    refine wc_exit ?_
    refine wq_then_exit ?_
    refine wq_then_exit ?_
    refine wq_block_exit ?_
    exact wj_meet _ x1l (Sum.inl.inj en1) (sub_cons rfl sub_nil) (some_cons pick0 some_nil)
  intro e1 x1 hp
  obtain rfl : e1 = y1 := hp.symm
  refine wq_then ?_
  refine wcr ?_
  refine mv rfl rfl ?_
  refine asg rfl rfl ?_
  refine wnt ?_
  refine wc_ret ?_
  obtain rfl := Option.some.inj t0
  exact wq_ret1 rfl rfl fun w hw => ⟨x1, rfl, hw.weak (some_cons pick0 some_nil)⟩

theorem c_impl_allWithin (w : World) (a_list : List Int) (v0a : Hd) (r0 : rdF w (dm w []) (sl v0a) a_list) (a_a : Int) (a_b : Int) {r : Bool} (t0 : impl_allWithin a_list a_a a_b = some r) : Calls Tryd.prog 65 #[(sl v0a), .int .i64 a_a, .int .i64 a_b] w fun e w' => e = .returned (.bool r) ∧ SH w [] [] w' := by
  refine calls_of_wc (args := [_, _, _]) Tryd.func65 rfl Tryd.ntmps65 rfl ?_
  unfold impl_allWithin at t0
  refine wcr ?_
  refine asg rfl rfl ?_
  refine wnt ?_
  refine wc_seq ?_
  refine wcr ?_
  refine mv rfl rfl ?_
  refine wl_pure (po_lenr (rds_arg r0) el_31 rfl) rfl ?_
  refine mv rfl rfl ?_
  refine wnt ?_
  refine gdO t0 fun g1 t0 => ?_
  refine sqO t0 fun y1 l1 t0 => ?_
  refine wj (J := Unit) (X := Unit) (fun z => y1 = .inl z) (fun _ _ => []) (fun _ _ => []) ?_ ?_
  · skip
    refine wc_block ?_
    refine wc_forO (X := Unit) l1 (fun k1 s1 x1l => [(1, .int .i64 a_a), (2, .int .i64 a_b), (9, (sl v0a)), (10, .int .i64 ((a_list.length : Nat) : Int)), (11, .int .i64 ((k1 : Nat) : Int))]) (fun k1 s1 x1l => []) () (sub_cons rfl (sub_cons rfl (sub_cons rfl (sub_cons rfl (sub_cons rfl sub_nil))))) some_nil fun k1 s1 x1l hN1 l1 => ?_
    by_cases hk1 : k1 < a_list.length
    · skip
      refine forO_step l1 hk1 fun _ t1 l1 => ?_
      unfold impl_allWithin_L1 at t1
      have c1 : (decide (((k1 : Nat) : Int) < ((a_list.length : Nat) : Int))) = true := decide_eq_true (by omega)
      refine wcr ?_
      refine wl_pure (po_lss rfl rfl) rfl ?_
      refine wnt ?_
      refine wc_seq ?_
      refine wc_cond_t rfl c1 ?_
      refine wc_skip ?_
      refine wq_then ?_
      refine wc_seq ?_
      refine wc_block ?_
      refine wcr ?_
      refine wl_pure (po_ixn (k := k1) (rds_arg r0) el_31 rfl rfl hk1) rfl ?_
      refine wl_pure (v := .int .i64 (gx a_list k1)) (po_ldf (rds_arg r0) tk_3 rfl hk1 rfl) rfl ?_
      refine asg rfl rfl ?_
      refine wnt ?_
      refine wcr ?_
      refine mv rfl rfl ?_
      refine mv rfl rfl ?_
      refine mv rfl rfl ?_
      refine bdO t1 fun v1 hv1 t1 => ?_
      refine wl_call (co_c0 fa_40 rfl fun w hw => c_impl_within w (gx a_list k1) a_a a_b hv1) rfl fun _ => ?_
      refine wl_pure (po_not rfl) rfl ?_
      refine wnt ?_
      refine wcO t1 rfl (fun h1 t1 => ?_) fun h1 t1 => ?_
      · skip
        refine wcr ?_
        refine asg rfl rfl ?_
        refine wnt ?_
        refine wc_ret ?_
        refine wq_block_ret ?_
        refine wq_then_ret ?_
        refine wq_then_ret ?_
        refine wq_block_ret ?_
        refine wq_then_ret ?_
        refine wq_then_ret ?_
        replace t0 := lpR t0 l1 t1
        obtain rfl := Option.some.inj t0
        exact wq_ret1 rfl rfl fun w hw => ⟨rfl, hw.weak some_nil⟩
      refine wc_skip ?_
      refine wq_block ?_
      refine wq_then ?_
      refine wc_region ?_
      refine wl_pure (po_inc rfl rfl (by omega)) rfl ?_
      refine mv rfl rfl ?_
      refine wl_nil ?_
      exact wq_rnd hk1 (stpN l1 t1) () (sub_cons rfl (sub_cons rfl (sub_cons rfl (sub_cons rfl (sub_cons rfl sub_nil))))) some_nil
    have c1 : (decide (((k1 : Nat) : Int) < ((a_list.length : Nat) : Int))) = false := decide_eq_false (by omega)
    have en1 := forO_end l1 hk1
    refine wcr ?_
    refine wl_pure (po_lss rfl rfl) rfl ?_
    refine wnt ?_
    refine wc_seq ?_
    refine wc_cond_f rfl c1 ?_
    refine wc_exit ?_
    refine wq_then_exit ?_
    refine wq_then_exit ?_
    refine wq_block_exit ?_
    exact wj_meet _ () en1 sub_nil some_nil
  intro e1 _ hp
  replace t0 := sqE (j := e1) t0 hp
  refine wq_then ?_
  refine wcr ?_
  refine asg rfl rfl ?_
  refine wnt ?_
  refine wc_ret ?_
  obtain rfl := Option.some.inj t0
  exact wq_ret1 rfl rfl fun w hw => ⟨rfl, hw.weak some_nil⟩

theorem c_impl_isStrict (w : World) (a_list : List Int) (v0a : Hd) (r0 : rdF w (dm w []) (sl v0a) a_list) (a_a : Int) (a_b : Int) {r : Bool} (t0 : impl_isStrict a_list a_a a_b = some r) : Calls Tryd.prog 71 #[(sl v0a), .int .i64 a_a, .int .i64 a_b] w fun e w' => e = .returned (.bool r) ∧ SH w [] [] w' := by
  refine calls_of_wc (args := [_, _, _]) Tryd.func71 rfl Tryd.ntmps71 rfl ?_
  unfold impl_isStrict at t0
  refine wcr ?_
  refine asg rfl rfl ?_
  refine wnt ?_
  refine wc_seq ?_
  refine wcr ?_
  refine mv rfl rfl ?_
  refine wl_pure (po_lenr (rds_arg r0) el_31 rfl) rfl ?_
  refine mv rfl rfl ?_
  refine wnt ?_
  refine gdO t0 fun g1 t0 => ?_
  refine sqO t0 fun y1 l1 t0 => ?_
  refine wj (J := Unit) (X := Unit) (fun z => y1 = .inl z) (fun _ _ => [(0, (sl v0a)), (1, .int .i64 a_a), (2, .int .i64 a_b)]) (fun _ _ => []) ?_ ?_
  · skip
    refine wc_block ?_
    refine wc_forO (X := Unit) l1 (fun k1 s1 x1l => [(0, (sl v0a)), (1, .int .i64 a_a), (2, .int .i64 a_b), (9, .int .i64 ((a_list.length : Nat) : Int)), (10, .int .i64 ((k1 : Nat) : Int))]) (fun k1 s1 x1l => []) () (sub_cons rfl (sub_cons rfl (sub_cons rfl (sub_cons rfl (sub_cons rfl sub_nil))))) some_nil fun k1 s1 x1l hN1 l1 => ?_
    by_cases hk1 : k1 < a_list.length
    · skip
      refine forO_step l1 hk1 fun _ t1 l1 => ?_
      unfold impl_isStrict_L1 at t1
      have c1 : (decide (((k1 : Nat) : Int) < ((a_list.length : Nat) : Int))) = true := decide_eq_true (by omega)
      refine wcr ?_
      refine wl_pure (po_lss rfl rfl) rfl ?_
      refine wnt ?_
      refine wc_seq ?_
      refine wc_cond_t rfl c1 ?_
      refine wc_skip ?_
      refine wq_then ?_
      refine wc_seq ?_
      refine wc_block ?_
      refine wcr ?_
      refine mv rfl rfl ?_
      refine asg rfl rfl ?_
      refine wnt ?_
      refine wc_seq ?_
      refine bdO t1 fun y2 t2 t1 => ?_
      refine wj (J := Bool) (X := Unit) (fun z => y2 = z) (fun z _ => [(0, (sl v0a)), (1, .int .i64 a_a), (2, .int .i64 a_b), (9, .int .i64 ((a_list.length : Nat) : Int)), (10, .int .i64 ((k1 : Nat) : Int)), (26, .bool z)]) (fun _ _ => []) ?_ ?_
      · skip
        refine wc_draw [] 14 mixed ?_
        refine wa_pure 0 rfl (po_move rfl) some_nil rfl (by kernel_rfl) (fun _ _ _ h => h) ?_
        refine wa_pure 1 rfl (po_gtr rfl rfl) some_nil rfl (by kernel_rfl) (fun _ _ _ h => h) ?_
        refine wa_pure 2 rfl (po_move rfl) some_nil rfl (by kernel_rfl) (fun _ _ _ h => h) ?_
        refine waO_ (t := 15) t2 rfl (fun h1 t2 => ?_) fun h1 t2 => ?_
        · skip
          refine wa_pure_on 3 (j := 2) rfl rfl rfl rfl (po_move rfl) some_nil rfl (by kernel_rfl) (fun _ _ _ h => h) ?_
          refine wa_pure_on 4 (j := 2) rfl rfl rfl rfl (po_move rfl) some_nil rfl (by kernel_rfl) (fun _ _ _ h => h) ?_
          refine wa_pure_on 5 (j := 2) rfl rfl rfl rfl (po_ixn (k := k1) (rds_arg r0) el_31 rfl rfl hk1) some_nil rfl (by kernel_rfl) (fun _ _ _ h => h) ?_
          refine wa_pure_on (v := .int .i64 (gx a_list k1)) 6 (j := 2) rfl rfl rfl rfl (po_ldf (rds_arg r0) tk_3 rfl hk1 rfl) some_nil rfl (by kernel_rfl) (fun _ _ _ h => h) ?_
          refine wa_pure_on 7 (j := 2) rfl rfl rfl rfl (po_move rfl) some_nil rfl (by kernel_rfl) (fun _ _ _ h => h) ?_
          refine wa_pure_on 8 (j := 2) rfl rfl rfl rfl (po_move rfl) some_nil rfl (by kernel_rfl) (fun _ _ _ h => h) ?_
          refine wa_pure_on 9 (j := 2) rfl rfl rfl rfl (po_sub rfl rfl) some_nil rfl (by kernel_rfl) (fun _ _ _ h => h) ?_
          refine gdO t2 fun g2 t2 => ?_
          refine wa_pure_on 10 (j := 2) rfl rfl rfl rfl (po_ixr (rds_arg r0) el_31 rfl rfl g2.1 g2.2) some_nil rfl (by kernel_rfl) (fun _ _ _ h => h) ?_
          refine wa_pure_on (v := .int .i64 (gx a_list (((wr (((k1 : Nat) : Int) - 1))).toNat))) 11 (j := 2) rfl rfl rfl rfl (po_ldf (rds_arg r0) tk_3 rfl (ix_lt g2) rfl) some_nil rfl (by kernel_rfl) (fun _ _ _ h => h) ?_
          refine wa_pure_on 12 (j := 2) rfl rfl rfl rfl (po_leq rfl rfl) some_nil rfl (by kernel_rfl) (fun _ _ _ h => h) ?_
          refine wa_pure 13 rfl (po_pick_t rfl rfl) some_nil rfl (by kernel_rfl) (fun _ _ _ h => h) ?_
          refine wa_done (by kernel_rfl) ?_
          exact wj_meet _ () (mtE t2) (sub_cons rfl (sub_cons rfl (sub_cons rfl (sub_cons rfl (sub_cons rfl (sub_cons rfl sub_nil)))))) some_nil
        refine wa_off 3 (j := 2) rfl rfl rfl rfl rfl some_nil rfl (by kernel_rfl) (fun _ _ _ h => h) ?_
        refine wa_off 4 (j := 2) rfl rfl rfl rfl rfl some_nil rfl (by kernel_rfl) (fun _ _ _ h => h) ?_
        refine wa_off 5 (j := 2) rfl rfl rfl rfl rfl some_nil rfl (by kernel_rfl) (fun _ _ _ h => h) ?_
        refine wa_off 6 (j := 2) rfl rfl rfl rfl rfl some_nil rfl (by kernel_rfl) (fun _ _ _ h => h) ?_
        refine wa_off 7 (j := 2) rfl rfl rfl rfl rfl some_nil rfl (by kernel_rfl) (fun _ _ _ h => h) ?_
        refine wa_off 8 (j := 2) rfl rfl rfl rfl rfl some_nil rfl (by kernel_rfl) (fun _ _ _ h => h) ?_
        refine wa_off 9 (j := 2) rfl rfl rfl rfl rfl some_nil rfl (by kernel_rfl) (fun _ _ _ h => h) ?_
        refine wa_off 10 (j := 2) rfl rfl rfl rfl rfl some_nil rfl (by kernel_rfl) (fun _ _ _ h => h) ?_
        refine wa_off 11 (j := 2) rfl rfl rfl rfl rfl some_nil rfl (by kernel_rfl) (fun _ _ _ h => h) ?_
        refine wa_off 12 (j := 2) rfl rfl rfl rfl rfl some_nil rfl (by kernel_rfl) (fun _ _ _ h => h) ?_
        refine wa_pure 13 rfl (po_pick_f rfl rfl) some_nil rfl (by kernel_rfl) (fun _ _ _ h => h) ?_
        refine wa_done (by kernel_rfl) ?_
        exact wj_meet _ () (mtE t2) (sub_cons rfl (sub_cons rfl (sub_cons rfl (sub_cons rfl (sub_cons rfl (sub_cons rfl sub_nil)))))) some_nil
      intro j1 _ hp
      obtain rfl : j1 = y2 := hp.symm
      refine wq_then ?_
      refine wcO t1 rfl (fun h2 t1 => ?_) fun h2 t1 => ?_
      · skip
        refine wcr ?_
        refine asg rfl rfl ?_
        refine wnt ?_
        refine wc_ret ?_
        refine wq_block_ret ?_
        refine wq_then_ret ?_
        refine wq_then_ret ?_
        refine wq_block_ret ?_
        refine wq_then_ret ?_
        refine wq_then_ret ?_
        replace t0 := lpR t0 l1 t1
        obtain rfl := Option.some.inj t0
        exact wq_ret1 rfl rfl fun w hw => ⟨rfl, hw.weak some_nil⟩
      refine wc_skip ?_
      refine wq_block ?_
      refine wq_then ?_
      refine wc_region ?_
      refine wl_pure (po_inc rfl rfl (by omega)) rfl ?_
      refine mv rfl rfl ?_
      refine wl_nil ?_
      exact wq_rnd hk1 (stpN l1 t1) () (sub_cons rfl (sub_cons rfl (sub_cons rfl (sub_cons rfl (sub_cons rfl sub_nil))))) some_nil
    have c1 : (decide (((k1 : Nat) : Int) < ((a_list.length : Nat) : Int))) = false := decide_eq_false (by omega)
    have en1 := forO_end l1 hk1
    refine wcr ?_
    refine wl_pure (po_lss rfl rfl) rfl ?_
    refine wnt ?_
    refine wc_seq ?_
    refine wc_cond_f rfl c1 ?_
    refine wc_exit ?_
    refine wq_then_exit ?_
    refine wq_then_exit ?_
    refine wq_block_exit ?_
    exact wj_meet _ () en1 (sub_cons rfl (sub_cons rfl (sub_cons rfl sub_nil))) some_nil
  intro e1 _ hp
  replace t0 := sqE (j := e1) t0 hp
  refine wq_then ?_
  refine wcr ?_
  refine mv rfl rfl ?_
  refine mv rfl rfl ?_
  refine mv rfl rfl ?_
  refine bdO t0 fun v1 hv1 t0 => ?_
  refine wl_call (co_c0 fa_65 rfl fun w hw => c_impl_allWithin w a_list v0a (Rg.on (rds_arg r0) hw) a_a a_b hv1) rfl fun _ => ?_
  refine asg rfl rfl ?_
  refine wnt ?_
  refine wc_ret ?_
  obtain rfl := Option.some.inj t0
  exact wq_ret1 rfl rfl fun w hw => ⟨rfl, hw.weak some_nil⟩

theorem c_impl_IsExchange (w : World) (a_l : List Int) (v0a : Hd) (r0 : rdF w (dm w []) (sl v0a) a_l) {r : Bool} (t0 : impl_IsExchange a_l = some r) : Calls Tryd.prog 68 #[(sl v0a)] w fun e w' => e = .returned (.bool r) ∧ SH w [] [] w' := by
  refine calls_of_wc (args := [_]) Tryd.func68 rfl Tryd.ntmps68 rfl ?_
  unfold impl_IsExchange at t0
  refine wcr ?_
  refine asg rfl rfl ?_
  refine wnt ?_
  refine wc_seq ?_
  refine bdO t0 fun y1 t1 t0 => ?_
  refine wj (J := Bool) (X := Unit) (fun z => y1 = z) (fun z _ => [(2, .bool z)]) (fun _ _ => []) ?_ ?_
  · skip
    refine wc_region ?_
    refine mv rfl rfl ?_
    refine wl_pure (po_lenr (rds_arg r0) el_31 rfl) rfl ?_
    refine wl_pure (po_eql rfl rfl) rfl ?_
    refine mv rfl rfl ?_
    refine wlO_ (t := 6) t1 rfl (fun h1 t1 => ?_) fun h1 t1 => ?_
    · skip
      refine wl_guard_on (j := 3) rfl rfl rfl (mv rfl rfl ?_)
      refine bdO t1 fun v1 hv1 t1 => ?_
      refine wl_guard_on (j := 3) rfl rfl rfl (wl_call (co_c1 fa_72 rfl fun w hw => c_impl_sorted w a_l v0a (Rg.on (rds_arg r0) hw) hv1) rfl (fun x2 => ?_))
      refine bdO t1 fun v2 hv2 t1 => ?_
      refine wl_guard_on (j := 3) rfl rfl rfl (wl_call (co_c0 fa_71 rfl fun w hw => c_impl_isStrict w v1 x2 (Rg.on (rds_own pick0) hw) 0 5 hv2) rfl (fun _ => ?_))
      refine wl_pure (po_pick_t rfl rfl) rfl ?_
      refine asg rfl rfl ?_
      refine wl_nil ?_
      exact wj_meet _ () (mtE t1) (sub_cons rfl sub_nil) some_nil
    refine wl_guard_off (j := 3) rfl rfl rfl rfl rfl ?_
    refine wl_guard_off (j := 3) rfl rfl rfl rfl rfl ?_
    refine wl_guard_off (j := 3) rfl rfl rfl rfl rfl ?_
    refine wl_pure (po_pick_f rfl rfl) rfl ?_
    refine asg rfl rfl ?_
    refine wl_nil ?_
    exact wj_meet _ () (mtE t1) (sub_cons rfl sub_nil) some_nil
  intro j1 _ hp
  obtain rfl : j1 = y1 := hp.symm
  refine wq_then ?_
  refine wc_ret ?_
  obtain rfl := Option.some.inj t0
  exact wq_ret1 rfl rfl fun w hw => ⟨rfl, hw.weak some_nil⟩

theorem c_impl_UndoList (w : World) (a_l : List Int) (v0a : Hd) (r0 : rdF w (dm w []) (sl v0a) a_l) {r : List Int} (t0 : impl_UndoList a_l = some r) : Calls Tryd.prog 59 #[(sl v0a)] w fun e w' => ∃ x : Hd, e = .returned ((sl x)) ∧ SH w [] [ownF (sl x) r] w' := by
  refine calls_of_wc (args := [_]) Tryd.func59 rfl Tryd.ntmps59 rfl ?_
  unfold impl_UndoList at t0
  refine wcr ?_
  refine asg rfl rfl ?_
  refine wnt ?_
  refine wc_seq ?_
  refine wcr ?_
  refine mv rfl rfl ?_
  refine bdO t0 fun v1 hv1 t0 => ?_
  refine wl_call (co_c0 fa_68 rfl fun w hw => c_impl_IsExchange w a_l v0a (Rg.on (rds_arg r0) hw) hv1) rfl fun _ => ?_
  refine wl_pure (po_not rfl) rfl ?_
  refine wnt ?_
  refine wcO t0 rfl (fun h1 t0 => ?_) fun h1 t0 => ?_
  · skip
    refine wcr ?_
    refine asg rfl rfl ?_
    refine wnt ?_
    refine wc_ret ?_
    refine wq_then_ret ?_
    obtain rfl := Option.some.inj t0
    exact wq_ret1 rfl rfl fun w hw => ⟨(⟨none, 0, 0⟩ : Hd), rfl, hw.weak (some_cons pick_nil some_nil)⟩
  refine wc_skip ?_
  refine wq_then ?_
  refine wcr ?_
  refine wl_eff (eo_make_ (n := 6) (0 : Int) mk_31 rfl rfl rfl (by omega) rfl) rfl fun x1 => ?_
  refine asg rfl rfl ?_
  refine wnt ?_
  refine wc_seq ?_
  refine wcr ?_
  refine mv rfl rfl ?_
  refine wl_pure (po_lenr (rds_arg r0) el_31 rfl) rfl ?_
  refine mv rfl rfl ?_
  refine wnt ?_
  refine gdO t0 fun g1 t0 => ?_
  refine lpO_inv t0 fun y1 l1 t0 => ?_
  refine wj (J := List Int) (X := Unit) (fun z => y1 = z) (fun _ _ => [(3, (sl x1))]) (fun z _ => [ownF (sl x1) z]) ?_ ?_
  · skip
    refine wc_block ?_
    refine wc_forO (X := Unit) l1 (fun k1 s1 x1l => [(3, (sl x1)), (10, (sl v0a)), (11, .int .i64 ((a_l.length : Nat) : Int)), (12, .int .i64 ((k1 : Nat) : Int))]) (fun k1 s1 x1l => [ownF (sl x1) s1]) () (sub_cons rfl (sub_cons rfl (sub_cons rfl (sub_cons rfl sub_nil)))) (some_cons pick0 some_nil) fun k1 s1 x1l hN1 l1 => ?_
    by_cases hk1 : k1 < a_l.length
    · skip
      refine forO_step l1 hk1 fun _ t1 l1 => ?_
      unfold impl_UndoList_L1 at t1
      have c1 : (decide (((k1 : Nat) : Int) < ((a_l.length : Nat) : Int))) = true := decide_eq_true (by omega)
      refine wcr ?_
      refine wl_pure (po_lss rfl rfl) rfl ?_
      refine wnt ?_
      refine wc_seq ?_
      refine wc_cond_t rfl c1 ?_
      refine wc_skip ?_
      refine wq_then ?_
      refine wc_seq ?_
      refine wc_block ?_
      refine wcr ?_
      refine mv rfl rfl ?_
      refine wl_pure (po_ixn (k := k1) (rds_arg r0) el_31 rfl rfl hk1) rfl ?_
      refine wl_pure (v := .int .i64 (gx a_l k1)) (po_ldf (rds_arg r0) tk_3 rfl hk1 rfl) rfl ?_
      refine asg rfl rfl ?_
      refine asg rfl rfl ?_
      refine wnt ?_
      refine wc_region ?_
      refine mv rfl rfl ?_
      refine mv rfl rfl ?_
      refine mv rfl rfl ?_
      refine gdO t1 fun g2 t1 => ?_
      refine wl_pure (po_ixr (rds_own pick0) el_31 rfl rfl g2.1 g2.2) rfl ?_
      refine wl_skipop (so_own (x' := ((k1 : Nat) : Int)) tk_3 pick0 rfl rfl rfl rfl rfl rfl (ix_lt g2) rfl) ?_
      refine wl_nil ?_
      refine wq_block ?_
      refine wq_then ?_
      refine wc_region ?_
      refine wl_pure (po_inc rfl rfl (by omega)) rfl ?_
      refine mv rfl rfl ?_
      refine wl_nil ?_
      exact wq_rnd hk1 (stpN l1 t1) () (sub_cons rfl (sub_cons rfl (sub_cons rfl (sub_cons rfl sub_nil)))) (some_cons pick0 some_nil)
    have c1 : (decide (((k1 : Nat) : Int) < ((a_l.length : Nat) : Int))) = false := decide_eq_false (by omega)
    have en1 := forO_end l1 hk1
    refine wcr ?_
    refine wl_pure (po_lss rfl rfl) rfl ?_
    refine wnt ?_
    refine wc_seq ?_
    refine wc_cond_f rfl c1 ?_
    refine wc_exit ?_
    refine wq_then_exit ?_
    refine wq_then_exit ?_
    refine wq_block_exit ?_
    exact wj_meet _ () (Sum.inl.inj en1) (sub_cons rfl sub_nil) (some_cons pick0 some_nil)
  intro e1 _ hp
  obtain rfl : e1 = y1 := hp.symm
  refine wq_then ?_
  refine wcr ?_
  refine mv rfl rfl ?_
  refine asg rfl rfl ?_
  refine wnt ?_
  refine wc_ret ?_
  obtain rfl := Option.some.inj t0
  exact wq_ret1 rfl rfl fun w hw => ⟨x1, rfl, hw.weak (some_cons pick0 some_nil)⟩

theorem c_impl_FirstUse (w : World) (a_b : GBlock) (v0a : Hd) (r0 : rdF w (dm w []) (sl v0a) a_b.Cells) {r : List Int} (t0 : impl_FirstUse a_b = some r) : Calls Tryd.prog 44 #[.agg #[.int .i64 a_b.Size, (sl v0a)]] w fun e w' => ∃ x : Hd, e = .returned ((sl x)) ∧ SH w [] [ownF (sl x) r] w' := by
  refine calls_of_wc (args := [_]) Tryd.func44 rfl Tryd.ntmps44 rfl ?_
  unfold impl_FirstUse at t0
  refine wcr ?_
  refine wl_eff (eo_box rfl rfl) rfl fun b1 => ?_
  refine asg rfl rfl ?_
  refine wnt ?_
  refine wc_seq ?_
  refine wcr ?_
  refine wl_pure (v := .agg #[.int .i64 a_b.Size, (sl v0a)]) (po_load_boxs tk_26 pick0 rfl rfl rfl) rfl ?_
  refine bdO t0 fun v1 hv1 t0 => ?_
  refine wl_call (co_c0 fa_24 rfl fun w hw => c_impl_BlockOk w a_b v0a (Rg.on (rds_arg r0) hw) hv1) rfl fun _ => ?_
  refine wl_pure (po_not rfl) rfl ?_
  refine wnt ?_
  refine wcO t0 rfl (fun h1 t0 => ?_) fun h1 t0 => ?_
  · skip
    refine wcr ?_
    refine asg rfl rfl ?_
    refine wnt ?_
    refine wc_ret ?_
    refine wq_then_ret ?_
    obtain rfl := Option.some.inj t0
    exact wq_ret1 rfl rfl fun w hw => ⟨(⟨none, 0, 0⟩ : Hd), rfl, hw.weak (some_cons pick_nil some_nil)⟩
  refine wc_skip ?_
  refine wq_then ?_
  refine wcr ?_
  refine wl_eff (eo_buildSlice rfl sb_31_0) rfl fun b2 => ?_
  refine asg rfl rfl ?_
  refine wnt ?_
  refine wc_seq ?_
  refine wcr ?_
  refine wl_pure (po_fld fo_26_1 rfl) rfl ?_
  refine wl_pure (v := (sl v0a)) (po_load_box tk_24 (pickS pick0) rfl rfl) rfl ?_
  refine wl_pure (po_lenr (rds_arg r0) el_24 rfl) rfl ?_
  refine mv rfl rfl ?_
  refine wnt ?_
  refine gdO t0 fun g1 t0 => ?_
  refine lpO_inv t0 fun y1 l1 t0 => ?_
  refine wj (J := List Int) (X := Hd) (fun z => y1 = z) (fun _ x => [(3, (sl x))]) (fun z x => [ownF (sl x) z]) ?_ ?_
  · skip
    refine wc_block ?_
    refine wc_forO (X := Hd) l1 (fun k1 s1 x1l => [(3, (sl x1l)), (14, (sl v0a)), (15, .int .i64 ((a_b.Cells.length : Nat) : Int)), (16, .int .i64 ((k1 : Nat) : Int))]) (fun k1 s1 x1l => [ownF (sl x1l) s1]) (⟨some ⟨b2, 0, none⟩, 0, 0⟩ : Hd) (sub_cons rfl (sub_cons rfl (sub_cons rfl (sub_cons rfl sub_nil)))) (some_cons (pick_box_own pick0 (n := 0) (xs := ([] : List Int)) rfl rfl (by unfold maxLen; omega)) some_nil) fun k1 s1 x1l hN1 l1 => ?_
    by_cases hk1 : k1 < a_b.Cells.length
    · skip
      refine forO_step l1 hk1 fun _ t1 l1 => ?_
      unfold impl_FirstUse_L1 at t1
      have c1 : (decide (((k1 : Nat) : Int) < ((a_b.Cells.length : Nat) : Int))) = true := decide_eq_true (by omega)
      refine wcr ?_
      refine wl_pure (po_lss rfl rfl) rfl ?_
      refine wnt ?_
      refine wc_seq ?_
      refine wc_cond_t rfl c1 ?_
      refine wc_skip ?_
      refine wq_then ?_
      refine wc_seq ?_
      refine wc_block ?_
      refine wcr ?_
      refine wl_pure (po_ixn (k := k1) (rds_arg r0) el_24 rfl rfl hk1) rfl ?_
      refine wl_pure (v := .agg #[.int .i64 ((gx a_b.Cells k1).Split), .int .i64 ((gx a_b.Cells k1).A), .int .i64 ((gx a_b.Cells k1).B)]) (po_ldfs (rds_arg r0) tk_49 rfl hk1 rfl rfl rfl) rfl ?_
      refine wl_eff (eo_alloc (cs := [.int .i64 0, .int .i64 0, .int .i64 0]) za_49) rfl fun b3 => ?_
      refine wl_skipop (so_box (cs' := [.int .i64 ((gx a_b.Cells k1).Split), .int .i64 ((gx a_b.Cells k1).A), .int .i64 ((gx a_b.Cells k1).B)]) tk_49 pick0 rfl rfl rfl rfl rfl rfl rfl) ?_
      refine wnt ?_
      refine wcr ?_
      refine wl_pure (po_fld fo_49_1 rfl) rfl ?_
      refine wl_pure (v := .int .i64 ((gx a_b.Cells k1).A)) (po_load_box tk_3 pick0 rfl rfl) rfl ?_
      refine wl_pure (po_fld fo_49_2 rfl) rfl ?_
      refine wl_pure (v := .int .i64 ((gx a_b.Cells k1).B)) (po_load_box tk_3 pick0 rfl rfl) rfl ?_
      refine wl_eff (eo_buildSlice rfl (sb_31_2 ((gx a_b.Cells k1).A) ((gx a_b.Cells k1).B))) rfl fun b4 => ?_
      refine wl_pure (po_lenr (rds_own (pick_box_own pick0 (n := 2) (xs := ([(gx a_b.Cells k1).A, (gx a_b.Cells k1).B] : List Int)) rfl rfl (by unfold maxLen; omega))) el_31 rfl) rfl ?_
      refine mv rfl rfl ?_
      refine wnt ?_
      refine gdO t1 fun g2 t1 => ?_
      refine lpO_inv t1 fun y2 l2 t1 => ?_
      refine wj (J := List Int) (X := Hd) (fun z => y2 = z) (fun _ x => [(3, (sl x)), (14, (sl v0a)), (15, .int .i64 ((a_b.Cells.length : Nat) : Int)), (16, .int .i64 ((k1 : Nat) : Int))]) (fun z x => [ownF (sl x) z]) ?_ ?_
      · skip
        refine wc_block ?_
        refine wc_forO (X := Hd) l2 (fun k2 s2 x2l => [(3, (sl x2l)), (14, (sl v0a)), (15, .int .i64 ((a_b.Cells.length : Nat) : Int)), (16, .int .i64 ((k1 : Nat) : Int)), (24, (sl (⟨some ⟨b4, 0, none⟩, 2, 2⟩ : Hd))), (25, .int .i64 ((([(gx a_b.Cells k1).A, (gx a_b.Cells k1).B] : List Int).length : Nat) : Int)), (26, .int .i64 ((k2 : Nat) : Int))]) (fun k2 s2 x2l => [box b4 [.int .i64 ((gx a_b.Cells k1).A), .int .i64 ((gx a_b.Cells k1).B)], ownF (sl x2l) s2]) x1l (sub_cons rfl (sub_cons rfl (sub_cons rfl (sub_cons rfl (sub_cons rfl (sub_cons rfl (sub_cons rfl sub_nil))))))) (some_cons pick0 (some_cons (pickS pick0) some_nil)) fun k2 s2 x2l hN2 l2 => ?_
        by_cases hk2 : k2 < ([(gx a_b.Cells k1).A, (gx a_b.Cells k1).B] : List Int).length
        · skip
          refine forO_step l2 hk2 fun _ t2 l2 => ?_
          unfold impl_FirstUse_L2 at t2
          have c2 : (decide (((k2 : Nat) : Int) < ((([(gx a_b.Cells k1).A, (gx a_b.Cells k1).B] : List Int).length : Nat) : Int))) = true := decide_eq_true (by omega)
          refine wcr ?_
          refine wl_pure (po_lss rfl rfl) rfl ?_
          refine wnt ?_
          refine wc_seq ?_
          refine wc_cond_t rfl c2 ?_
          refine wc_skip ?_
          refine wq_then ?_
          refine wc_seq ?_
          refine wc_block ?_
          refine wcr ?_
          refine wl_pure (po_ixn (k := k2) (rds_own (pick_box_own pick0 (n := 2) (xs := ([(gx a_b.Cells k1).A, (gx a_b.Cells k1).B] : List Int)) rfl rfl (by unfold maxLen; omega))) el_31 rfl rfl hk2) rfl ?_
          refine wl_pure (v := .int .i64 (gx ([(gx a_b.Cells k1).A, (gx a_b.Cells k1).B] : List Int) k2)) (po_ldf (rds_own (pick_box_own pick0 (n := 2) (xs := ([(gx a_b.Cells k1).A, (gx a_b.Cells k1).B] : List Int)) rfl rfl (by unfold maxLen; omega))) tk_3 rfl hk2 rfl) rfl ?_
          refine asg rfl rfl ?_
          refine wnt ?_
          refine wcr ?_
          refine mv rfl rfl ?_
          refine mv rfl rfl ?_
          refine bdO t2 fun v2 hv2 t2 => ?_
          refine wl_call (co_c0 fa_58 rfl fun w hw => c_impl_indexOf w s2 x2l (Rg.on (rds_own (pickS pick0)) hw) (gx ([(gx a_b.Cells k1).A, (gx a_b.Cells k1).B] : List Int) k2) hv2) rfl fun _ => ?_
          refine wl_pure (po_lss rfl rfl) rfl ?_
          refine wnt ?_
          refine bdO t2 fun y3 t3 t2 => ?_
          refine wj (J := List Int) (X := Hd) (fun z => y3 = z) (fun _ x => [(3, (sl x)), (14, (sl v0a)), (15, .int .i64 ((a_b.Cells.length : Nat) : Int)), (16, .int .i64 ((k1 : Nat) : Int)), (24, (sl (⟨some ⟨b4, 0, none⟩, 2, 2⟩ : Hd))), (25, .int .i64 ((([(gx a_b.Cells k1).A, (gx a_b.Cells k1).B] : List Int).length : Nat) : Int)), (26, .int .i64 ((k2 : Nat) : Int))]) (fun z x => [box b4 [.int .i64 ((gx a_b.Cells k1).A), .int .i64 ((gx a_b.Cells k1).B)], ownF (sl x) z]) ?_ ?_
          · skip
            refine wcO t3 rfl (fun h2 t3 => ?_) fun h2 t3 => ?_
            · skip
              refine wc_region ?_
              refine mv rfl rfl ?_
              refine mv rfl rfl ?_
              refine wl_eff (eo_buildSlice rfl (sb_31_1 (gx ([(gx a_b.Cells k1).A, (gx a_b.Cells k1).B] : List Int) k2))) rfl fun b5 => ?_
              refine gdO t3 fun g3 t3 => ?_
              refine wl_eff (eo_append (xs := s2) (ys := ([(gx ([(gx a_b.Cells k1).A, (gx a_b.Cells k1).B] : List Int) k2)] : List Int)) ak_31 (pickS (pickS pick0)) rfl rfl (slin_rd fun _ g => Rg.on (rds_own (pick_box_own pick0 (n := 1) (xs := ([(gx ([(gx a_b.Cells k1).A, (gx a_b.Cells k1).B] : List Int) k2)] : List Int)) rfl rfl (by unfold maxLen; omega))) g) g3) rfl fun x4 => ?_
              refine asg rfl rfl ?_
              refine wl_nil ?_
              exact wj_meet _ x4 (mtE t3) (sub_cons rfl (sub_cons rfl (sub_cons rfl (sub_cons rfl (sub_cons rfl (sub_cons rfl (sub_cons rfl sub_nil))))))) (some_cons (pickS (pickS pick0)) (some_cons pick0 some_nil))
            refine wc_skip ?_
            exact wj_meet _ x2l (mtE t3) (sub_cons rfl (sub_cons rfl (sub_cons rfl (sub_cons rfl (sub_cons rfl (sub_cons rfl (sub_cons rfl sub_nil))))))) (some_cons pick0 (some_cons pick0 some_nil))
          intro j1 x3 hp
          obtain rfl : j1 = y3 := hp.symm
          refine wq_block ?_
          refine wq_then ?_
          refine wc_region ?_
          refine wl_pure (po_inc rfl rfl (by omega)) rfl ?_
          refine mv rfl rfl ?_
          refine wl_nil ?_
          exact wq_rnd hk2 (stpN l2 t2) x3 (sub_cons rfl (sub_cons rfl (sub_cons rfl (sub_cons rfl (sub_cons rfl (sub_cons rfl (sub_cons rfl sub_nil))))))) (some_cons pick0 (some_cons pick0 some_nil))
        have c2 : (decide (((k2 : Nat) : Int) < ((([(gx a_b.Cells k1).A, (gx a_b.Cells k1).B] : List Int).length : Nat) : Int))) = false := decide_eq_false (by omega)
        have en1 := forO_end l2 hk2
        refine wcr ?_
        refine wl_pure (po_lss rfl rfl) rfl ?_
        refine wnt ?_
        refine wc_seq ?_
        refine wc_cond_f rfl c2 ?_
        refine wc_exit ?_
        refine wq_then_exit ?_
        refine wq_then_exit ?_
        refine wq_block_exit ?_
        exact wj_meet _ x2l (Sum.inl.inj en1) (sub_cons rfl (sub_cons rfl (sub_cons rfl (sub_cons rfl sub_nil)))) (some_cons (pickS pick0) some_nil)
      intro e2 x2 hp
      obtain rfl : e2 = y2 := hp.symm
      refine wq_block ?_
      refine wq_then ?_
      refine wc_region ?_
      refine wl_pure (po_inc rfl rfl (by omega)) rfl ?_
      refine mv rfl rfl ?_
      refine wl_nil ?_
      exact wq_rnd hk1 (stpN l1 t1) x2 (sub_cons rfl (sub_cons rfl (sub_cons rfl (sub_cons rfl sub_nil)))) (some_cons pick0 some_nil)
    have c1 : (decide (((k1 : Nat) : Int) < ((a_b.Cells.length : Nat) : Int))) = false := decide_eq_false (by omega)
    have en2 := forO_end l1 hk1
    refine wcr ?_
    refine wl_pure (po_lss rfl rfl) rfl ?_
    refine wnt ?_
    refine wc_seq ?_
    refine wc_cond_f rfl c1 ?_
    refine wc_exit ?_
    refine wq_then_exit ?_
    refine wq_then_exit ?_
    refine wq_block_exit ?_
    exact wj_meet _ x1l (Sum.inl.inj en2) (sub_cons rfl sub_nil) (some_cons pick0 some_nil)
  intro e1 x1 hp
  obtain rfl : e1 = y1 := hp.symm
  refine wq_then ?_
  refine wc_seq ?_
  refine wcr ?_
  refine mv rfl rfl ?_
  refine wnt ?_
  refine lpO_inv t0 fun y1 l1 t0 => ?_
  refine wj (J := List Int) (X := Hd) (fun z => y1 = z) (fun _ x => [(3, (sl x))]) (fun z x => [ownF (sl x) z]) ?_ ?_
  · skip
    refine wc_block ?_
    refine wc_forO (X := Hd) l1 (fun k3 s3 x3l => [(3, (sl x3l)), (40, .int .i64 ((k3 : Nat) : Int))]) (fun k3 s3 x3l => [ownF (sl x3l) s3]) x1 (sub_cons rfl (sub_cons rfl sub_nil)) (some_cons pick0 some_nil) fun k3 s3 x3l hN3 l1 => ?_
    by_cases hk3 : k3 < 6
    · skip
      refine forO_step l1 hk3 fun _ t1 l1 => ?_
      unfold impl_FirstUse_L3 at t1
      have c3 : (decide (((k3 : Nat) : Int) < 6)) = true := decide_eq_true (by omega)
      refine wcr ?_
      refine wl_pure (po_lss rfl rfl) rfl ?_
      refine wnt ?_
      refine wc_seq ?_
      refine wc_cond_t rfl c3 ?_
      refine wc_skip ?_
      refine wq_then ?_
      refine wc_seq ?_
      refine wc_block ?_
      refine wcr ?_
      refine mv rfl rfl ?_
      refine asg rfl rfl ?_
      refine wnt ?_
      refine wcr ?_
      refine mv rfl rfl ?_
      refine mv rfl rfl ?_
      refine bdO t1 fun v3 hv3 t1 => ?_
      refine wl_call (co_c0 fa_58 rfl fun w hw => c_impl_indexOf w s3 x3l (Rg.on (rds_own pick0) hw) ((k3 : Nat) : Int) hv3) rfl fun _ => ?_
      refine wl_pure (po_lss rfl rfl) rfl ?_
      refine wnt ?_
      refine bdO t1 fun y2 t2 t1 => ?_
      refine wj (J := List Int) (X := Hd) (fun z => y2 = z) (fun _ x => [(3, (sl x)), (40, .int .i64 ((k3 : Nat) : Int))]) (fun z x => [ownF (sl x) z]) ?_ ?_
      · skip
        refine wcO t2 rfl (fun h3 t2 => ?_) fun h3 t2 => ?_
        · skip
          refine wc_region ?_
          refine mv rfl rfl ?_
          refine mv rfl rfl ?_
          refine wl_eff (eo_buildSlice rfl (sb_31_1 ((k3 : Nat) : Int))) rfl fun b6 => ?_
          refine gdO t2 fun g4 t2 => ?_
          refine wl_eff (eo_append (xs := s3) (ys := ([((k3 : Nat) : Int)] : List Int)) ak_31 (pickS pick0) rfl rfl (slin_rd fun _ g => Rg.on (rds_own (pick_box_own pick0 (n := 1) (xs := ([((k3 : Nat) : Int)] : List Int)) rfl rfl (by unfold maxLen; omega))) g) g4) rfl fun x7 => ?_
          refine asg rfl rfl ?_
          refine wl_nil ?_
          exact wj_meet _ x7 (mtE t2) (sub_cons rfl (sub_cons rfl sub_nil)) (some_cons pick0 some_nil)
        refine wc_skip ?_
        exact wj_meet _ x3l (mtE t2) (sub_cons rfl (sub_cons rfl sub_nil)) (some_cons pick0 some_nil)
      intro j2 x6 hp
      obtain rfl : j2 = y2 := hp.symm
      refine wq_block ?_
      refine wq_then ?_
      refine wc_region ?_
      refine wl_pure (po_inc rfl rfl (by omega)) rfl ?_
      refine mv rfl rfl ?_
      refine wl_nil ?_
      exact wq_rnd hk3 (stpN l1 t1) x6 (sub_cons rfl (sub_cons rfl sub_nil)) (some_cons pick0 some_nil)
    have c3 : (decide (((k3 : Nat) : Int) < 6)) = false := decide_eq_false (by omega)
    have en3 := forO_end l1 hk3
    refine wcr ?_
    refine wl_pure (po_lss rfl rfl) rfl ?_
    refine wnt ?_
    refine wc_seq ?_
    refine wc_cond_f rfl c3 ?_
    refine wc_exit ?_
    refine wq_then_exit ?_
    refine wq_then_exit ?_
    refine wq_block_exit ?_
    exact wj_meet _ x3l (Sum.inl.inj en3) (sub_cons rfl sub_nil) (some_cons pick0 some_nil)
  intro e3 x5 hp
  obtain rfl : e3 = y1 := hp.symm
  refine wq_then ?_
  refine wcr ?_
  refine mv rfl rfl ?_
  refine bdO t0 fun v4 hv4 t0 => ?_
  refine wl_call (co_c1 fa_59 rfl fun w hw => c_impl_UndoList w e3 x5 (Rg.on (rds_own pick0) hw) hv4) rfl fun x8 => ?_
  refine asg rfl rfl ?_
  refine wnt ?_
  refine wc_ret ?_
  obtain rfl := Option.some.inj t0
  exact wq_ret1 rfl rfl fun w hw => ⟨x8, rfl, hw.weak (some_cons pick0 some_nil)⟩

theorem c_impl_ListOk (w : World) (a_l : List Int) (v0a : Hd) (r0 : rdF w (dm w []) (sl v0a) a_l) {r : Bool} (t0 : impl_ListOk a_l = some r) : Calls Tryd.prog 53 #[(sl v0a)] w fun e w' => e = .returned (.bool r) ∧ SH w [] [] w' := by
  refine calls_of_wc (args := [_]) Tryd.func53 rfl Tryd.ntmps53 rfl ?_
  unfold impl_ListOk at t0
  refine wcr ?_
  refine asg rfl rfl ?_
  refine wnt ?_
  refine wc_seq ?_
  refine bdO t0 fun y1 t1 t0 => ?_
  refine wj (J := Bool) (X := Unit) (fun z => y1 = z) (fun z _ => [(2, .bool z)]) (fun _ _ => []) ?_ ?_
  · skip
    refine wc_region ?_
    refine mv rfl rfl ?_
    refine wl_pure (po_lenr (rds_arg r0) el_31 rfl) rfl ?_
    refine wl_pure (po_eql rfl rfl) rfl ?_
    refine mv rfl rfl ?_
    refine wlO_ (t := 6) t1 rfl (fun h1 t1 => ?_) fun h1 t1 => ?_
    · skip
      refine wl_guard_on (j := 3) rfl rfl rfl (mv rfl rfl ?_)
      refine bdO t1 fun v1 hv1 t1 => ?_
      refine wl_guard_on (j := 3) rfl rfl rfl (wl_call (co_c0 fa_65 rfl fun w hw => c_impl_allWithin w a_l v0a (Rg.on (rds_arg r0) hw) 0 5 hv1) rfl (fun _ => ?_))
      refine wl_pure (po_pick_t rfl rfl) rfl ?_
      refine asg rfl rfl ?_
      refine wl_nil ?_
      exact wj_meet _ () (mtE t1) (sub_cons rfl sub_nil) some_nil
    refine wl_guard_off (j := 3) rfl rfl rfl rfl rfl ?_
    refine wl_guard_off (j := 3) rfl rfl rfl rfl rfl ?_
    refine wl_pure (po_pick_f rfl rfl) rfl ?_
    refine asg rfl rfl ?_
    refine wl_nil ?_
    exact wj_meet _ () (mtE t1) (sub_cons rfl sub_nil) some_nil
  intro j1 _ hp
  obtain rfl : j1 = y1 := hp.symm
  refine wq_then ?_
  refine wc_ret ?_
  obtain rfl := Option.some.inj t0
  exact wq_ret1 rfl rfl fun w hw => ⟨rfl, hw.weak some_nil⟩

theorem c_impl_WholeCell (w : World) (a_a : Int) {r : GCell} (t0 : impl_WholeCell a_a = some r) : Calls Tryd.prog 70 #[.int .i64 a_a] w fun e w' => e = .returned (.agg #[.int .i64 r.Split, .int .i64 r.A, .int .i64 r.B]) ∧ SH w [] [] w' := by
  refine calls_of_wc (args := [_]) Tryd.func70 rfl Tryd.ntmps70 rfl ?_
  unfold impl_WholeCell at t0
  refine wcr ?_
  refine wl_eff (eo_alloc (cs := [.int .i64 0, .int .i64 0, .int .i64 0]) za_49) rfl fun b1 => ?_
  refine wnt ?_
  refine wc_seq ?_
  refine wcr ?_
  refine mv rfl rfl ?_
  refine bdO t0 fun v1 hv1 t0 => ?_
  refine wl_call (co_c0 fa_49 rfl fun w hw => c_impl_isColor w a_a hv1) rfl fun _ => ?_
  refine wl_pure (po_not rfl) rfl ?_
  refine wnt ?_
  refine wcO t0 rfl (fun h1 t0 => ?_) fun h1 t0 => ?_
  · skip
    refine wcr ?_
    refine wl_pure (po_build rfl bd_49) rfl ?_
    refine wl_skipop (so_box (cs' := [.int .i64 0, .int .i64 0, .int .i64 0]) tk_49 pick0 rfl rfl rfl rfl rfl rfl rfl) ?_
    refine wnt ?_
    refine wc_ret ?_
    refine wq_then_ret ?_
    obtain rfl := Option.some.inj t0
    exact wq_retc rfl tk_49 rfl pick0 rfl fun w hw => ⟨rfl, hw.weak some_nil⟩
  refine wc_skip ?_
  refine wq_then ?_
  refine wcr ?_
  refine mv rfl rfl ?_
  refine mv rfl rfl ?_
  refine wl_pure (po_build rfl (bd_49_1_2 a_a a_a)) rfl ?_
  refine wl_skipop (so_box (cs' := [.int .i64 0, .int .i64 a_a, .int .i64 a_a]) tk_49 pick0 rfl rfl rfl rfl rfl rfl rfl) ?_
  refine wnt ?_
  refine wc_ret ?_
  obtain rfl := Option.some.inj t0
  exact wq_retc rfl tk_49 rfl pick0 rfl fun w hw => ⟨rfl, hw.weak some_nil⟩

theorem c_impl_SplitCell (w : World) (a_split : Int) (a_a : Int) (a_b : Int) {r : GCell} (t0 : impl_SplitCell a_split a_a a_b = some r) : Calls Tryd.prog 66 #[.int .i64 a_split, .int .i64 a_a, .int .i64 a_b] w fun e w' => e = .returned (.agg #[.int .i64 r.Split, .int .i64 r.A, .int .i64 r.B]) ∧ SH w [] [] w' := by
  refine calls_of_wc (args := [_, _, _]) Tryd.func66 rfl Tryd.ntmps66 rfl ?_
  unfold impl_SplitCell at t0
  refine wcr ?_
  refine wl_eff (eo_alloc (cs := [.int .i64 0, .int .i64 0, .int .i64 0]) za_49) rfl fun b1 => ?_
  refine wnt ?_
  refine wc_seq ?_
  refine wcr ?_
  refine mv rfl rfl ?_
  refine mv rfl rfl ?_
  refine wl_pure (po_eql rfl rfl) rfl ?_
  refine wnt ?_
  refine wcO t0 rfl (fun h1 t0 => ?_) fun h1 t0 => ?_
  · skip
    refine wcr ?_
    refine mv rfl rfl ?_
    refine bdO t0 fun v1 hv1 t0 => ?_
    refine wl_call (co_c0 fa_70 rfl fun w hw => c_impl_WholeCell w a_a hv1) rfl fun _ => ?_
    refine wl_skipop (so_box (cs' := [.int .i64 v1.Split, .int .i64 v1.A, .int .i64 v1.B]) tk_49 pick0 rfl rfl rfl rfl rfl rfl rfl) ?_
    refine wnt ?_
    refine wc_ret ?_
    refine wq_then_ret ?_
    obtain rfl := Option.some.inj t0
    exact wq_retc rfl tk_49 rfl pick0 rfl fun w hw => ⟨rfl, hw.weak some_nil⟩
  refine wc_skip ?_
  refine wq_then ?_
  refine wcr ?_
  refine mv rfl rfl ?_
  refine mv rfl rfl ?_
  refine mv rfl rfl ?_
  refine wl_pure (po_build rfl (bd_49_0_1_2 a_split a_a a_b)) rfl ?_
  refine wl_eff (eo_alloc (cs := [.int .i64 0, .int .i64 0, .int .i64 0]) za_49) rfl fun b2 => ?_
  refine wl_skipop (so_box (cs' := [.int .i64 a_split, .int .i64 a_a, .int .i64 a_b]) tk_49 pick0 rfl rfl rfl rfl rfl rfl rfl) ?_
  refine wnt ?_
  refine wc_seq ?_
  refine wcr ?_
  refine wl_pure (v := .agg #[.int .i64 a_split, .int .i64 a_a, .int .i64 a_b]) (po_load_boxs tk_49 pick0 rfl rfl rfl) rfl ?_
  refine bdO t0 fun v2 hv2 t0 => ?_
  refine wl_call (co_c0 fa_41 rfl fun w hw => c_impl_CellOk w (GCell.mk a_split a_a a_b) hv2) rfl fun _ => ?_
  refine wl_pure (po_not rfl) rfl ?_
  refine wnt ?_
  refine wcO t0 rfl (fun h2 t0 => ?_) fun h2 t0 => ?_
  · skip
    refine wcr ?_
    refine wl_pure (po_build rfl bd_49) rfl ?_
    refine wl_skipop (so_box (cs' := [.int .i64 0, .int .i64 0, .int .i64 0]) tk_49 (pickS pick0) rfl rfl rfl rfl rfl rfl rfl) ?_
    refine wnt ?_
    refine wc_ret ?_
    refine wq_then_ret ?_
    obtain rfl := Option.some.inj t0
    exact wq_retc rfl tk_49 rfl pick0 rfl fun w hw => ⟨rfl, hw.weak some_nil⟩
  refine wc_skip ?_
  refine wq_then ?_
  refine wcr ?_
  refine wl_pure (v := .agg #[.int .i64 a_split, .int .i64 a_a, .int .i64 a_b]) (po_load_boxs tk_49 pick0 rfl rfl rfl) rfl ?_
  refine wl_skipop (so_box (cs' := [.int .i64 a_split, .int .i64 a_a, .int .i64 a_b]) tk_49 (pickS pick0) rfl rfl rfl rfl rfl rfl rfl) ?_
  refine wnt ?_
  refine wc_ret ?_
  obtain rfl := Option.some.inj t0
  exact wq_retc rfl tk_49 rfl pick0 rfl fun w hw => ⟨rfl, hw.weak some_nil⟩

end Go.Proofs.YtmkmlnfkokfmaadDoor
