/-
  Each Go function computes its Lean function (part 2).
-/
import Derived.Test.YtnfdinafbfggeabWalks1
namespace Go.Proofs.Ytnfdinafbfggeab
open Go Go.RowKit Go.Proofs
set_option maxRecDepth 100000

theorem c_spec_GuildOk (w : World) (a_g : GGuild) (v0a : Hd) (r0 : rdF w (dm w []) (sl v0a) a_g.Members) (v1a : Hd) (r1 : rdF w (dm w []) (sl v1a) a_g.Stock) (v2a : Hd) (u2a : List Value) (r2 : RdL w (dm w []) (sl v2a) u2a a_g.Entries) (v3a : Hd) (r3 : rdF w (dm w []) (sl v3a) a_g.Books) {r : Bool} (t0 : spec_GuildOk a_g = some r) : Calls Try.prog 61 #[.agg #[(sl v0a), (sl v1a), (sl v2a), (sl v3a), .int .i64 a_g.Round, .int .i64 a_g.Year]] w fun e w' => e = .returned (.bool r) ∧ SH w [] [] w' := by
  refine calls_of_wc (args := [_]) Try.func61 rfl Try.ntmps61 rfl ?_
  unfold spec_GuildOk at t0
  refine wcr ?_
  refine wl_eff (eo_box rfl rfl) rfl fun b1 => ?_
  refine asg rfl rfl ?_
  refine wnt ?_
  refine wc_seq ?_
  refine wc_seq ?_
  refine bdO t0 fun y1 t1 t0 => ?_
  refine wj (J := Bool) (X := Unit) (fun z => y1 = z) (fun z _ => [(1, ptr b1 0), (32, .bool z)]) (fun _ _ => [box b1 [(sl v0a), (sl v1a), (sl v2a), (sl v3a), .int .i64 a_g.Round, .int .i64 a_g.Year]]) ?_ ?_
  · skip
    refine wc_region ?_
    refine wl_pure (po_fld fo_38_0 rfl) rfl ?_
    refine wl_pure (v := (sl v0a)) (po_load_box tk_33 pick0 rfl rfl) rfl ?_
    refine bdO t1 fun v1 hv1 t1 => ?_
    refine wl_call (co_c0 fa_103 rfl fun w hw => c_spec_MembersOk w a_g.Members v0a (Rg.on (rds_arg r0) hw) hv1) rfl fun _ => ?_
    refine wl_pure (po_not rfl) rfl ?_
    refine mv rfl rfl ?_
    refine wlO_ (t := 9) t1 rfl (fun h1 t1 => ?_) fun h1 t1 => ?_
    · skip
      refine wl_guard_off (j := 4) rfl rfl rfl rfl rfl ?_
      refine wl_guard_off (j := 4) rfl rfl rfl rfl rfl ?_
      refine wl_guard_off (j := 4) rfl rfl rfl rfl rfl ?_
      refine wl_guard_off (j := 4) rfl rfl rfl rfl rfl ?_
      refine wl_pure (po_pick_t rfl rfl) rfl ?_
      refine mv rfl rfl ?_
      refine wl_guard_off (j := 10) rfl rfl rfl rfl rfl ?_
      refine wl_guard_off (j := 10) rfl rfl rfl rfl rfl ?_
      refine wl_guard_off (j := 10) rfl rfl rfl rfl rfl ?_
      refine wl_guard_off (j := 10) rfl rfl rfl rfl rfl ?_
      refine wl_pure (po_pick_t rfl rfl) rfl ?_
      refine mv rfl rfl ?_
      refine wl_guard_off (j := 16) rfl rfl rfl rfl rfl ?_
      refine wl_guard_off (j := 16) rfl rfl rfl rfl rfl ?_
      refine wl_guard_off (j := 16) rfl rfl rfl rfl rfl ?_
      refine wl_guard_off (j := 16) rfl rfl rfl rfl rfl ?_
      refine wl_pure (po_pick_t rfl rfl) rfl ?_
      refine mv rfl rfl ?_
      refine wl_guard_off (j := 22) rfl rfl rfl rfl rfl ?_
      refine wl_guard_off (j := 22) rfl rfl rfl rfl rfl ?_
      refine wl_guard_off (j := 22) rfl rfl rfl rfl rfl ?_
      refine wl_guard_off (j := 22) rfl rfl rfl rfl rfl ?_
      refine wl_pure (po_pick_t rfl rfl) rfl ?_
      refine wl_nil ?_
      exact wj_meet _ () (mtE t1) (sub_cons rfl (sub_cons rfl sub_nil)) (some_cons pick0 some_nil)
    refine wl_guard_on (j := 4) rfl rfl rfl (wl_pure (po_fld fo_38_1 rfl) rfl ?_)
    refine wl_guard_on (j := 4) rfl rfl rfl (wl_pure (v := (sl v1a)) (po_load_box tk_34 pick0 rfl rfl) rfl ?_)
    refine bdO t1 fun v2 hv2 t1 => ?_
    refine wl_guard_on (j := 4) rfl rfl rfl (wl_call (co_c0 fa_104 rfl fun w hw => c_spec_StockOk w a_g.Stock v1a (Rg.on (rds_arg r1) hw) hv2) rfl (fun _ => ?_))
    refine wl_guard_on (j := 4) rfl rfl rfl (wl_pure (po_not rfl) rfl ?_)
    refine wl_pure (po_pick_f rfl rfl) rfl ?_
    refine mv rfl rfl ?_
    refine wlO_ (t := 15) t1 rfl (fun h2 t1 => ?_) fun h2 t1 => ?_
    · skip
      refine wl_guard_off (j := 10) rfl rfl rfl rfl rfl ?_
      refine wl_guard_off (j := 10) rfl rfl rfl rfl rfl ?_
      refine wl_guard_off (j := 10) rfl rfl rfl rfl rfl ?_
      refine wl_guard_off (j := 10) rfl rfl rfl rfl rfl ?_
      refine wl_pure (po_pick_t rfl rfl) rfl ?_
      refine mv rfl rfl ?_
      refine wl_guard_off (j := 16) rfl rfl rfl rfl rfl ?_
      refine wl_guard_off (j := 16) rfl rfl rfl rfl rfl ?_
      refine wl_guard_off (j := 16) rfl rfl rfl rfl rfl ?_
      refine wl_guard_off (j := 16) rfl rfl rfl rfl rfl ?_
      refine wl_pure (po_pick_t rfl rfl) rfl ?_
      refine mv rfl rfl ?_
      refine wl_guard_off (j := 22) rfl rfl rfl rfl rfl ?_
      refine wl_guard_off (j := 22) rfl rfl rfl rfl rfl ?_
      refine wl_guard_off (j := 22) rfl rfl rfl rfl rfl ?_
      refine wl_guard_off (j := 22) rfl rfl rfl rfl rfl ?_
      refine wl_pure (po_pick_t rfl rfl) rfl ?_
      refine wl_nil ?_
      exact wj_meet _ () (mtE t1) (sub_cons rfl (sub_cons rfl sub_nil)) (some_cons pick0 some_nil)
    refine wl_guard_on (j := 10) rfl rfl rfl (wl_pure (po_fld fo_38_3 rfl) rfl ?_)
    refine wl_guard_on (j := 10) rfl rfl rfl (wl_pure (v := (sl v3a)) (po_load_box tk_36 pick0 rfl rfl) rfl ?_)
    refine bdO t1 fun v3 hv3 t1 => ?_
    refine wl_guard_on (j := 10) rfl rfl rfl (wl_call (co_c0 fa_105 rfl fun w hw => c_spec_LedgerOk w a_g.Books v3a (Rg.on (rds_arg r3) hw) hv3) rfl (fun _ => ?_))
    refine wl_guard_on (j := 10) rfl rfl rfl (wl_pure (po_not rfl) rfl ?_)
    refine wl_pure (po_pick_f rfl rfl) rfl ?_
    refine mv rfl rfl ?_
    refine wlO_ (t := 21) t1 rfl (fun h3 t1 => ?_) fun h3 t1 => ?_
    · skip
      refine wl_guard_off (j := 16) rfl rfl rfl rfl rfl ?_
      refine wl_guard_off (j := 16) rfl rfl rfl rfl rfl ?_
      refine wl_guard_off (j := 16) rfl rfl rfl rfl rfl ?_
      refine wl_guard_off (j := 16) rfl rfl rfl rfl rfl ?_
      refine wl_pure (po_pick_t rfl rfl) rfl ?_
      refine mv rfl rfl ?_
      refine wl_guard_off (j := 22) rfl rfl rfl rfl rfl ?_
      refine wl_guard_off (j := 22) rfl rfl rfl rfl rfl ?_
      refine wl_guard_off (j := 22) rfl rfl rfl rfl rfl ?_
      refine wl_guard_off (j := 22) rfl rfl rfl rfl rfl ?_
      refine wl_pure (po_pick_t rfl rfl) rfl ?_
      refine wl_nil ?_
      exact wj_meet _ () (mtE t1) (sub_cons rfl (sub_cons rfl sub_nil)) (some_cons pick0 some_nil)
    refine wl_guard_on (j := 16) rfl rfl rfl (wl_pure (po_fld fo_38_2 rfl) rfl ?_)
    refine wl_guard_on (j := 16) rfl rfl rfl (wl_pure (v := (sl v2a)) (po_load_box tk_35 pick0 rfl rfl) rfl ?_)
    refine wl_guard_on (j := 16) rfl rfl rfl (wl_pure (po_lenr (rds_arg r2) el_35 rfl) rfl ?_)
    refine wl_guard_on (j := 16) rfl rfl rfl (wl_pure (po_gtr rfl rfl) rfl ?_)
    refine wl_pure (po_pick_f rfl rfl) rfl ?_
    refine mv rfl rfl ?_
    refine wlO_ (t := 27) t1 rfl (fun h4 t1 => ?_) fun h4 t1 => ?_
    · skip
      refine wl_guard_off (j := 22) rfl rfl rfl rfl rfl ?_
      refine wl_guard_off (j := 22) rfl rfl rfl rfl rfl ?_
      refine wl_guard_off (j := 22) rfl rfl rfl rfl rfl ?_
      refine wl_guard_off (j := 22) rfl rfl rfl rfl rfl ?_
      refine wl_pure (po_pick_t rfl rfl) rfl ?_
      refine wl_nil ?_
      exact wj_meet _ () (mtE t1) (sub_cons rfl (sub_cons rfl sub_nil)) (some_cons pick0 some_nil)
    refine wl_guard_on (j := 22) rfl rfl rfl (wl_pure (po_fld fo_38_5 rfl) rfl ?_)
    refine wl_guard_on (j := 22) rfl rfl rfl (wl_pure (v := .int .i64 a_g.Year) (po_load_box tk_3 pick0 rfl rfl) rfl ?_)
    refine bdO t1 fun v4 hv4 t1 => ?_
    refine wl_guard_on (j := 22) rfl rfl rfl (wl_call (co_c0 fa_70 rfl fun w hw => c_spec_l01In w a_g.Year 1900 2999 hv4) rfl (fun _ => ?_))
    refine wl_guard_on (j := 22) rfl rfl rfl (wl_pure (po_not rfl) rfl ?_)
    refine wl_pure (po_pick_f rfl rfl) rfl ?_
    refine wl_nil ?_
    exact wj_meet _ () (mtE t1) (sub_cons rfl (sub_cons rfl sub_nil)) (some_cons pick0 some_nil)
  intro j1 _ hp
  obtain rfl : j1 = y1 := hp.symm
  refine wq_then ?_
  refine wcO t0 rfl (fun h5 t0 => ?_) fun h5 t0 => ?_
  · skip
    refine wcr ?_
    refine asg rfl rfl ?_
    refine wnt ?_
    refine wc_ret ?_
    refine wq_then_ret ?_
    obtain rfl := Option.some.inj t0
    exact wq_ret1 rfl rfl fun w hw => ⟨rfl, hw.weak some_nil⟩
  refine wc_skip ?_
  refine wq_then ?_
  refine wc_seq ?_
  refine wcr ?_
  refine asg rfl rfl ?_
  refine wnt ?_
  refine gdO t0 fun g1 t0 => ?_
  refine sqO t0 fun y1 l1 t0 => ?_
  refine wj (J := Unit) (X := Unit) (fun z => y1 = .inl z) (fun _ _ => [(1, ptr b1 0)]) (fun _ _ => [box b1 [(sl v0a), (sl v1a), (sl v2a), (sl v3a), .int .i64 a_g.Round, .int .i64 a_g.Year]]) ?_ ?_
  · skip
    refine wc_block ?_
    refine wc_forO (X := Unit) l1 (fun k1 s1 x1l => [(1, ptr b1 0), (3, .int .i64 ((k1 : Nat) : Int))]) (fun k1 s1 x1l => [box b1 [(sl v0a), (sl v1a), (sl v2a), (sl v3a), .int .i64 a_g.Round, .int .i64 a_g.Year]]) () (sub_cons rfl (sub_cons rfl sub_nil)) (some_cons pick0 some_nil) fun k1 s1 x1l hN1 l1 => ?_
    by_cases hk1 : k1 < a_g.Entries.length
    · skip
      refine forO_step l1 hk1 fun _ t1 l1 => ?_
      unfold spec_GuildOk_L1 at t1
      have c1 : (decide (((k1 : Nat) : Int) < ((a_g.Entries.length : Nat) : Int))) = true := decide_eq_true (by omega)
      refine wc_seq ?_
      refine wcr ?_
      refine mv rfl rfl ?_
      refine wl_pure (po_fld fo_38_2 rfl) rfl ?_
      refine wl_pure (v := (sl v2a)) (po_load_box tk_35 pick0 rfl rfl) rfl ?_
      refine wl_pure (po_lenr (rds_arg r2) el_35 rfl) rfl ?_
      refine wl_pure (po_lss rfl rfl) rfl ?_
      refine wnt ?_
      refine wc_cond_t rfl c1 ?_
      refine wc_skip ?_
      refine wq_then ?_
      refine wc_seq ?_
      refine wc_block ?_
      refine wcr ?_
      refine wl_pure (po_fld fo_38_2 rfl) rfl ?_
      refine wl_pure (v := (sl v2a)) (po_load_box tk_35 pick0 rfl rfl) rfl ?_
      refine mv rfl rfl ?_
      refine wl_pure (po_ixn (k := k1) (rds_arg r2) el_35 rfl rfl hk1) rfl ?_
      refine wl_elem (rds_arg r2) hk1 ?_
      rintro ⟨_, _, he1⟩
      obtain ⟨w1, hc1, _⟩ := rd_GEntry.1 he1
      refine wl_pure (v := .agg #[.int .i64 ((gx a_g.Entries k1).Owner), .int .i64 ((gx a_g.Entries k1).Day), .int .i64 (((gx a_g.Entries k1).Block).Size), (sl w1)]) (po_ldns (rds_arg r2) tk_88 rfl hc1 rfl rfl rfl) rfl ?_
      refine wl_eff (eo_alloc (cs := [.int .i64 0, .int .i64 0, .int .i64 0, (sl (⟨none, 0, 0⟩ : Hd))]) za_88) rfl fun b2 => ?_
      refine wl_skipop (so_box (cs' := [.int .i64 ((gx a_g.Entries k1).Owner), .int .i64 ((gx a_g.Entries k1).Day), .int .i64 (((gx a_g.Entries k1).Block).Size), (sl w1)]) tk_88 pick0 rfl rfl rfl rfl rfl rfl rfl) ?_
      refine wnt ?_
      refine wc_seq ?_
      refine bdO t1 fun y2 t2 t1 => ?_
      refine wj (J := Bool) (X := Unit) (fun z => y2 = z) (fun z _ => [(1, ptr b1 0), (3, .int .i64 ((k1 : Nat) : Int)), (71, .bool z)]) (fun _ _ => [box b1 [(sl v0a), (sl v1a), (sl v2a), (sl v3a), .int .i64 a_g.Round, .int .i64 a_g.Year]]) ?_ ?_
      · skip
        refine wc_draw [box b2 [.int .i64 ((gx a_g.Entries k1).Owner), .int .i64 ((gx a_g.Entries k1).Day), .int .i64 (((gx a_g.Entries k1).Block).Size), (sl w1)], box b1 [(sl v0a), (sl v1a), (sl v2a), (sl v3a), .int .i64 a_g.Round, .int .i64 a_g.Year]] 27 mixed ?_
        refine wa_pure (v := .agg #[.int .i64 ((gx a_g.Entries k1).Owner), .int .i64 ((gx a_g.Entries k1).Day), .int .i64 (((gx a_g.Entries k1).Block).Size), (sl w1)]) 0 rfl (po_load_boxs tk_88 pick0 rfl rfl rfl) (some_cons pick0 (some_cons pick0 some_nil)) rfl (by kernel_rfl) (fun _ _ _ h => h) ?_
        refine wa_1 (i := 1) (by kernel_rfl) ?_
        refine bdO t2 fun v5 hv5 t2 => ?_
        refine ws_call rfl (co_c0 fa_106 rfl fun w hw => c_spec_EntryOk w (GEntry.mk ((gx a_g.Entries k1).Owner) ((gx a_g.Entries k1).Day) ((gx a_g.Entries k1).Block)) w1 (Rg.on (er_GEntry_0 hc1 (rds_arg r2) hk1) hw) hv5) (fun _ => (sts_some (some_cons pick0 (some_cons pick0 some_nil)))) rfl fun _ => ?_
        refine wa_pure 2 rfl (po_not rfl) (some_cons pick0 (some_cons pick0 some_nil)) rfl (by kernel_rfl) (fun _ _ _ h => h) ?_
        refine wa_pure 3 rfl (po_move rfl) (some_cons pick0 (some_cons pick0 some_nil)) rfl (by kernel_rfl) (fun _ _ _ h => h) ?_
        refine waO_ (t := 48) t2 rfl (fun h6 t2 => ?_) fun h6 t2 => ?_
        · skip
          refine wa_off 4 (j := 3) rfl rfl rfl rfl rfl (some_cons pick0 (some_cons pick0 some_nil)) rfl (by kernel_rfl) (fun _ _ _ h => h) ?_
          refine wa_off 5 (j := 3) rfl rfl rfl rfl rfl (some_cons pick0 (some_cons pick0 some_nil)) rfl (by kernel_rfl) (fun _ _ _ h => h) ?_
          refine wa_off 6 (j := 3) rfl rfl rfl rfl rfl (some_cons pick0 (some_cons pick0 some_nil)) rfl (by kernel_rfl) (fun _ _ _ h => h) ?_
          refine wa_off 7 (j := 3) rfl rfl rfl rfl rfl (some_cons pick0 (some_cons pick0 some_nil)) rfl (by kernel_rfl) (fun _ _ _ h => h) ?_
          refine wa_off 8 (j := 3) rfl rfl rfl rfl rfl (some_cons pick0 (some_cons pick0 some_nil)) rfl (by kernel_rfl) (fun _ _ _ h => h) ?_
          refine wa_off 9 (j := 3) rfl rfl rfl rfl rfl (some_cons pick0 (some_cons pick0 some_nil)) rfl (by kernel_rfl) (fun _ _ _ h => h) ?_
          refine wa_pure 10 rfl (po_pick_t rfl rfl) (some_cons pick0 (some_cons pick0 some_nil)) rfl (by kernel_rfl) (fun _ _ _ h => h) ?_
          refine wa_pure 11 rfl (po_move rfl) (some_cons pick0 (some_cons pick0 some_nil)) rfl (by kernel_rfl) (fun _ _ _ h => h) ?_
          refine wa_off 12 (j := 11) rfl rfl rfl rfl rfl (some_cons pick0 (some_cons pick0 some_nil)) rfl (by kernel_rfl) (fun _ _ _ h => h) ?_
          refine wa_off 13 (j := 11) rfl rfl rfl rfl rfl (some_cons pick0 (some_cons pick0 some_nil)) rfl (by kernel_rfl) (fun _ _ _ h => h) ?_
          refine wa_off 14 (j := 11) rfl rfl rfl rfl rfl (some_cons pick0 (some_cons pick0 some_nil)) rfl (by kernel_rfl) (fun _ _ _ h => h) ?_
          refine wa_undef 15 (j := 14) rfl rfl rfl rfl (some_cons pick0 (some_cons pick0 some_nil)) rfl (by kernel_rfl) (fun _ _ _ h => h) ?_
          refine wa_undef 16 (j := 14) rfl rfl rfl rfl (some_cons pick0 (some_cons pick0 some_nil)) rfl (by kernel_rfl) (fun _ _ _ h => h) ?_
          refine wa_undef 17 (j := 14) rfl rfl rfl rfl (some_cons pick0 (some_cons pick0 some_nil)) rfl (by kernel_rfl) (fun _ _ _ h => h) ?_
          refine wa_undef 18 (j := 14) rfl rfl rfl rfl (some_cons pick0 (some_cons pick0 some_nil)) rfl (by kernel_rfl) (fun _ _ _ h => h) ?_
          refine wa_undef 19 (j := 14) rfl rfl rfl rfl (some_cons pick0 (some_cons pick0 some_nil)) rfl (by kernel_rfl) (fun _ _ _ h => h) ?_
          refine wa_undef 20 (j := 14) rfl rfl rfl rfl (some_cons pick0 (some_cons pick0 some_nil)) rfl (by kernel_rfl) (fun _ _ _ h => h) ?_
          refine wa_undef 21 (j := 14) rfl rfl rfl rfl (some_cons pick0 (some_cons pick0 some_nil)) rfl (by kernel_rfl) (fun _ _ _ h => h) ?_
          refine wa_undef 22 (j := 14) rfl rfl rfl rfl (some_cons pick0 (some_cons pick0 some_nil)) rfl (by kernel_rfl) (fun _ _ _ h => h) ?_
          refine wa_undef 23 (j := 14) rfl rfl rfl rfl (some_cons pick0 (some_cons pick0 some_nil)) rfl (by kernel_rfl) (fun _ _ _ h => h) ?_
          refine wa_undef 24 (j := 14) rfl rfl rfl rfl (some_cons pick0 (some_cons pick0 some_nil)) rfl (by kernel_rfl) (fun _ _ _ h => h) ?_
          refine wa_off 25 (j := 11) rfl rfl rfl rfl rfl (some_cons pick0 (some_cons pick0 some_nil)) rfl (by kernel_rfl) (fun _ _ _ h => h) ?_
          refine wa_pure 26 rfl (po_pick_t rfl rfl) (some_cons pick0 (some_cons pick0 some_nil)) rfl (by kernel_rfl) (fun _ _ _ h => h) ?_
          refine wa_done (by kernel_rfl) ?_
          exact wj_meet _ () (mtE t2) (sub_cons rfl (sub_cons rfl (sub_cons rfl sub_nil))) (some_cons (pickS pick0) some_nil)
        refine wa_pure_on 4 (j := 3) rfl rfl rfl rfl (po_fld fo_38_0 rfl) (some_cons pick0 (some_cons pick0 some_nil)) rfl (by kernel_rfl) (fun _ _ _ h => h) ?_
        refine wa_pure_on (v := (sl v0a)) 5 (j := 3) rfl rfl rfl rfl (po_load_box tk_33 (pickS pick0) rfl rfl) (some_cons pick0 (some_cons pick0 some_nil)) rfl (by kernel_rfl) (fun _ _ _ h => h) ?_
        refine wa_pure_on 6 (j := 3) rfl rfl rfl rfl (po_fld fo_88_0 rfl) (some_cons pick0 (some_cons pick0 some_nil)) rfl (by kernel_rfl) (fun _ _ _ h => h) ?_
        refine wa_pure_on (v := .int .i64 ((gx a_g.Entries k1).Owner)) 7 (j := 3) rfl rfl rfl rfl (po_load_box tk_3 pick0 rfl rfl) (some_cons pick0 (some_cons pick0 some_nil)) rfl (by kernel_rfl) (fun _ _ _ h => h) ?_
        refine wa_1 (i := 8) (by kernel_rfl) ?_
        refine bdO t2 fun v6 hv6 t2 => ?_
        refine ws_call_on (j := 3) rfl rfl rfl rfl (co_c0 fa_107 rfl fun w hw => c_spec_l38Member w a_g.Members v0a (Rg.on (rds_arg r0) hw) ((gx a_g.Entries k1).Owner) hv6) (fun _ => (sts_some (some_cons pick0 (some_cons pick0 some_nil)))) rfl fun _ => ?_
        refine wa_pure_on 9 (j := 3) rfl rfl rfl rfl (po_not rfl) (some_cons pick0 (some_cons pick0 some_nil)) rfl (by kernel_rfl) (fun _ _ _ h => h) ?_
        refine wa_pure 10 rfl (po_pick_f rfl rfl) (some_cons pick0 (some_cons pick0 some_nil)) rfl (by kernel_rfl) (fun _ _ _ h => h) ?_
        refine wa_pure 11 rfl (po_move rfl) (some_cons pick0 (some_cons pick0 some_nil)) rfl (by kernel_rfl) (fun _ _ _ h => h) ?_
        refine waO_ (t := 56) t2 rfl (fun h7 t2 => ?_) fun h7 t2 => ?_
        · skip
          refine wa_off 12 (j := 11) rfl rfl rfl rfl rfl (some_cons pick0 (some_cons pick0 some_nil)) rfl (by kernel_rfl) (fun _ _ _ h => h) ?_
          refine wa_off 13 (j := 11) rfl rfl rfl rfl rfl (some_cons pick0 (some_cons pick0 some_nil)) rfl (by kernel_rfl) (fun _ _ _ h => h) ?_
          refine wa_off 14 (j := 11) rfl rfl rfl rfl rfl (some_cons pick0 (some_cons pick0 some_nil)) rfl (by kernel_rfl) (fun _ _ _ h => h) ?_
          refine wa_undef 15 (j := 14) rfl rfl rfl rfl (some_cons pick0 (some_cons pick0 some_nil)) rfl (by kernel_rfl) (fun _ _ _ h => h) ?_
          refine wa_undef 16 (j := 14) rfl rfl rfl rfl (some_cons pick0 (some_cons pick0 some_nil)) rfl (by kernel_rfl) (fun _ _ _ h => h) ?_
          refine wa_undef 17 (j := 14) rfl rfl rfl rfl (some_cons pick0 (some_cons pick0 some_nil)) rfl (by kernel_rfl) (fun _ _ _ h => h) ?_
          refine wa_undef 18 (j := 14) rfl rfl rfl rfl (some_cons pick0 (some_cons pick0 some_nil)) rfl (by kernel_rfl) (fun _ _ _ h => h) ?_
          refine wa_undef 19 (j := 14) rfl rfl rfl rfl (some_cons pick0 (some_cons pick0 some_nil)) rfl (by kernel_rfl) (fun _ _ _ h => h) ?_
          refine wa_undef 20 (j := 14) rfl rfl rfl rfl (some_cons pick0 (some_cons pick0 some_nil)) rfl (by kernel_rfl) (fun _ _ _ h => h) ?_
          refine wa_undef 21 (j := 14) rfl rfl rfl rfl (some_cons pick0 (some_cons pick0 some_nil)) rfl (by kernel_rfl) (fun _ _ _ h => h) ?_
          refine wa_undef 22 (j := 14) rfl rfl rfl rfl (some_cons pick0 (some_cons pick0 some_nil)) rfl (by kernel_rfl) (fun _ _ _ h => h) ?_
          refine wa_undef 23 (j := 14) rfl rfl rfl rfl (some_cons pick0 (some_cons pick0 some_nil)) rfl (by kernel_rfl) (fun _ _ _ h => h) ?_
          refine wa_undef 24 (j := 14) rfl rfl rfl rfl (some_cons pick0 (some_cons pick0 some_nil)) rfl (by kernel_rfl) (fun _ _ _ h => h) ?_
          refine wa_off 25 (j := 11) rfl rfl rfl rfl rfl (some_cons pick0 (some_cons pick0 some_nil)) rfl (by kernel_rfl) (fun _ _ _ h => h) ?_
          refine wa_pure 26 rfl (po_pick_t rfl rfl) (some_cons pick0 (some_cons pick0 some_nil)) rfl (by kernel_rfl) (fun _ _ _ h => h) ?_
          refine wa_done (by kernel_rfl) ?_
          exact wj_meet _ () (mtE t2) (sub_cons rfl (sub_cons rfl (sub_cons rfl sub_nil))) (some_cons (pickS pick0) some_nil)
        refine wa_pure_on 12 (j := 11) rfl rfl rfl rfl (po_move rfl) (some_cons pick0 (some_cons pick0 some_nil)) rfl (by kernel_rfl) (fun _ _ _ h => h) ?_
        refine wa_pure_on 13 (j := 11) rfl rfl rfl rfl (po_gtr rfl rfl) (some_cons pick0 (some_cons pick0 some_nil)) rfl (by kernel_rfl) (fun _ _ _ h => h) ?_
        refine wa_pure_on 14 (j := 11) rfl rfl rfl rfl (po_move rfl) (some_cons pick0 (some_cons pick0 some_nil)) rfl (by kernel_rfl) (fun _ _ _ h => h) ?_
        refine waO_ (t := 59) t2 rfl (fun h8 t2 => ?_) fun h8 t2 => ?_
        · skip
          refine wa_pure_on 15 (j := 14) rfl rfl rfl rfl (po_fld fo_88_1 rfl) (some_cons pick0 (some_cons pick0 some_nil)) rfl (by kernel_rfl) (fun _ _ _ h => h) ?_
          refine wa_pure_on (v := .int .i64 ((gx a_g.Entries k1).Day)) 16 (j := 14) rfl rfl rfl rfl (po_load_box tk_3 pick0 rfl rfl) (some_cons pick0 (some_cons pick0 some_nil)) rfl (by kernel_rfl) (fun _ _ _ h => h) ?_
          refine wa_pure_on 17 (j := 14) rfl rfl rfl rfl (po_fld fo_38_2 rfl) (some_cons pick0 (some_cons pick0 some_nil)) rfl (by kernel_rfl) (fun _ _ _ h => h) ?_
          refine wa_pure_on (v := (sl v2a)) 18 (j := 14) rfl rfl rfl rfl (po_load_box tk_35 (pickS pick0) rfl rfl) (some_cons pick0 (some_cons pick0 some_nil)) rfl (by kernel_rfl) (fun _ _ _ h => h) ?_
          refine wa_pure_on 19 (j := 14) rfl rfl rfl rfl (po_move rfl) (some_cons pick0 (some_cons pick0 some_nil)) rfl (by kernel_rfl) (fun _ _ _ h => h) ?_
          refine wa_pure_on 20 (j := 14) rfl rfl rfl rfl (po_sub rfl rfl) (some_cons pick0 (some_cons pick0 some_nil)) rfl (by kernel_rfl) (fun _ _ _ h => h) ?_
          refine gdO t2 fun g2 t2 => ?_
          refine wa_pure_on 21 (j := 14) rfl rfl rfl rfl (po_ixr (rds_arg r2) el_35 rfl rfl g2.1 g2.2) (some_cons pick0 (some_cons pick0 some_nil)) rfl (by kernel_rfl) (fun _ _ _ h => h) ?_
          refine wa_pure_on 22 (j := 14) rfl rfl rfl rfl (po_sfldr (rds_arg r2) (ix_lt g2) fo_88_1 rfl) (some_cons pick0 (some_cons pick0 some_nil)) rfl (by kernel_rfl) (fun _ _ _ h => h) ?_
          refine wa_elem (rds_arg r2) (ix_lt g2) ?_
          rintro ⟨_, _, he2⟩
          obtain ⟨w2, hc2, _⟩ := rd_GEntry.1 he2
          refine wa_pure_on (v := .int .i64 ((gx a_g.Entries (((wr (((k1 : Nat) : Int) - 1))).toNat)).Day)) 23 (j := 14) rfl rfl rfl rfl (po_ldn (rds_arg r2) tk_3 rfl hc2 rfl) (some_cons pick0 (some_cons pick0 some_nil)) rfl (by kernel_rfl) (fun _ _ _ h => h) ?_
          refine wa_pure_on 24 (j := 14) rfl rfl rfl rfl (po_lss rfl rfl) (some_cons pick0 (some_cons pick0 some_nil)) rfl (by kernel_rfl) (fun _ _ _ h => h) ?_
          refine wa_pure_on 25 (j := 11) rfl rfl rfl rfl (po_pick_t rfl rfl) (some_cons pick0 (some_cons pick0 some_nil)) rfl (by kernel_rfl) (fun _ _ _ h => h) ?_
          refine wa_pure 26 rfl (po_pick_f rfl rfl) (some_cons pick0 (some_cons pick0 some_nil)) rfl (by kernel_rfl) (fun _ _ _ h => h) ?_
          refine wa_done (by kernel_rfl) ?_
          exact wj_meet _ () (mtE t2) (sub_cons rfl (sub_cons rfl (sub_cons rfl sub_nil))) (some_cons (pickS pick0) some_nil)
        refine wa_off 15 (j := 14) rfl rfl rfl rfl rfl (some_cons pick0 (some_cons pick0 some_nil)) rfl (by kernel_rfl) (fun _ _ _ h => h) ?_
        refine wa_off 16 (j := 14) rfl rfl rfl rfl rfl (some_cons pick0 (some_cons pick0 some_nil)) rfl (by kernel_rfl) (fun _ _ _ h => h) ?_
        refine wa_off 17 (j := 14) rfl rfl rfl rfl rfl (some_cons pick0 (some_cons pick0 some_nil)) rfl (by kernel_rfl) (fun _ _ _ h => h) ?_
        refine wa_off 18 (j := 14) rfl rfl rfl rfl rfl (some_cons pick0 (some_cons pick0 some_nil)) rfl (by kernel_rfl) (fun _ _ _ h => h) ?_
        refine wa_off 19 (j := 14) rfl rfl rfl rfl rfl (some_cons pick0 (some_cons pick0 some_nil)) rfl (by kernel_rfl) (fun _ _ _ h => h) ?_
        refine wa_off 20 (j := 14) rfl rfl rfl rfl rfl (some_cons pick0 (some_cons pick0 some_nil)) rfl (by kernel_rfl) (fun _ _ _ h => h) ?_
        refine wa_off 21 (j := 14) rfl rfl rfl rfl rfl (some_cons pick0 (some_cons pick0 some_nil)) rfl (by kernel_rfl) (fun _ _ _ h => h) ?_
        refine wa_off 22 (j := 14) rfl rfl rfl rfl rfl (some_cons pick0 (some_cons pick0 some_nil)) rfl (by kernel_rfl) (fun _ _ _ h => h) ?_
        refine wa_off 23 (j := 14) rfl rfl rfl rfl rfl (some_cons pick0 (some_cons pick0 some_nil)) rfl (by kernel_rfl) (fun _ _ _ h => h) ?_
        refine wa_off 24 (j := 14) rfl rfl rfl rfl rfl (some_cons pick0 (some_cons pick0 some_nil)) rfl (by kernel_rfl) (fun _ _ _ h => h) ?_
        refine wa_pure_on 25 (j := 11) rfl rfl rfl rfl (po_pick_f rfl rfl) (some_cons pick0 (some_cons pick0 some_nil)) rfl (by kernel_rfl) (fun _ _ _ h => h) ?_
        refine wa_pure 26 rfl (po_pick_f rfl rfl) (some_cons pick0 (some_cons pick0 some_nil)) rfl (by kernel_rfl) (fun _ _ _ h => h) ?_
        refine wa_done (by kernel_rfl) ?_
        exact wj_meet _ () (mtE t2) (sub_cons rfl (sub_cons rfl (sub_cons rfl sub_nil))) (some_cons (pickS pick0) some_nil)
      intro j2 _ hp
      obtain rfl : j2 = y2 := hp.symm
      refine wq_then ?_
      refine wcO t1 rfl (fun h9 t1 => ?_) fun h9 t1 => ?_
      · skip
        refine wcr ?_
        refine asg rfl rfl ?_
        refine wnt ?_
        refine wc_ret ?_
        refine wq_block_ret ?_
        refine wq_then_ret ?_
        refine wq_then_ret ?_
        refine wq_block_ret ?_
        refine wq_then_ret ?_
        refine wq_then_ret ?_
        replace t0 := lpR t0 l1 t1
        obtain rfl := Option.some.inj t0
        exact wq_ret1 rfl rfl fun w hw => ⟨rfl, hw.weak some_nil⟩
      refine wc_skip ?_
      refine wq_block ?_
      refine wq_then ?_
      refine wc_region ?_
      refine mv rfl rfl ?_
      refine wl_pure (po_inc rfl rfl (by omega)) rfl ?_
      refine asg rfl rfl ?_
      refine wl_nil ?_
      exact wq_rnd hk1 (stpN l1 t1) () (sub_cons rfl (sub_cons rfl sub_nil)) (some_cons pick0 some_nil)
    have c1 : (decide (((k1 : Nat) : Int) < ((a_g.Entries.length : Nat) : Int))) = false := decide_eq_false (by omega)
    have en1 := forO_end l1 hk1
    refine wc_seq ?_
    refine wcr ?_
    refine mv rfl rfl ?_
    refine wl_pure (po_fld fo_38_2 rfl) rfl ?_
    refine wl_pure (v := (sl v2a)) (po_load_box tk_35 pick0 rfl rfl) rfl ?_
    refine wl_pure (po_lenr (rds_arg r2) el_35 rfl) rfl ?_
    refine wl_pure (po_lss rfl rfl) rfl ?_
    refine wnt ?_
    refine wc_cond_f rfl c1 ?_
    refine wc_exit ?_
    refine wq_then_exit ?_
    refine wq_then_exit ?_
    refine wq_block_exit ?_
    exact wj_meet _ () en1 (sub_cons rfl sub_nil) (some_cons pick0 some_nil)
  intro e1 _ hp
  replace t0 := sqE (j := e1) t0 hp
  refine wq_then ?_
  refine wc_seq ?_
  refine wc_draw [box b1 [(sl v0a), (sl v1a), (sl v2a), (sl v3a), .int .i64 a_g.Round, .int .i64 a_g.Year]] 6 mixed ?_
  refine wa_pure 0 rfl (po_fld fo_38_4 rfl) (some_cons pick0 some_nil) rfl (by kernel_rfl) (fun _ _ _ h => h) ?_
  refine wa_pure (v := .int .i64 a_g.Round) 1 rfl (po_load_box tk_3 pick0 rfl rfl) (some_cons pick0 some_nil) rfl (by kernel_rfl) (fun _ _ _ h => h) ?_
  refine wa_pure (v := .agg #[(sl v0a), (sl v1a), (sl v2a), (sl v3a), .int .i64 a_g.Round, .int .i64 a_g.Year]) 2 rfl (po_load_boxs tk_38 pick0 rfl rfl rfl) (some_cons pick0 some_nil) rfl (by kernel_rfl) (fun _ _ _ h => h) ?_
  refine wa_1 (i := 3) (by kernel_rfl) ?_
  refine bdO t0 fun v7 hv7 t0 => ?_
  refine ws_call rfl (co_c0 fa_68 rfl fun w hw => c_spec_SwapRounds w a_g v0a (Rg.on (rds_arg r0) hw) v1a (Rg.on (rds_arg r1) hw) v2a u2a (Rg.on (rds_arg r2) hw) v3a (Rg.on (rds_arg r3) hw) hv7) (fun _ => (sts_some (some_cons pick0 some_nil))) rfl fun _ => ?_
  refine wa_1 (i := 4) (by kernel_rfl) ?_
  refine bdO t0 fun v8 hv8 t0 => ?_
  refine ws_call rfl (co_c0 fa_70 rfl fun w hw => c_spec_l01In w a_g.Round 0 v7 hv8) (fun _ => (sts_some (some_cons pick0 some_nil))) rfl fun _ => ?_
  refine wa_pure 5 rfl (po_assign rfl) (some_cons pick0 some_nil) rfl (by kernel_rfl) (fun _ _ _ h => h) ?_
  refine wa_done (by kernel_rfl) ?_
  refine wq_then ?_
  refine wc_ret ?_
  obtain rfl := Option.some.inj t0
  exact wq_ret1 rfl rfl fun w hw => ⟨rfl, hw.weak some_nil⟩

theorem c_spec_JoinGuild (w : World) (a_list : List GMember) (v0a : Hd) (r0 : rdF w (dm w []) (sl v0a) a_list) (a_number : Int) (a_year : Int) {r : (List GMember) × Bool} (t0 : spec_JoinGuild a_list a_number a_year = some r) : Calls Try.prog 77 #[(sl v0a), .int .i64 a_number, .int .i64 a_year] w fun e w' => ∃ x : Hd, e = .returned (.tuple #[(sl x), .bool r.2]) ∧ SH w [] [ownF (sl x) r.1] w' := by
  refine calls_of_wc (args := [_, _, _]) Try.func77 rfl Try.ntmps77 rfl ?_
  unfold spec_JoinGuild at t0
  refine wcr ?_
  refine asg rfl rfl ?_
  refine asg rfl rfl ?_
  refine wnt ?_
  refine wcr ?_
  refine wl_eff (eo_buildSlice rfl sb_33_0) rfl fun b1 => ?_
  refine mv rfl rfl ?_
  refine gdO t0 fun g1 t0 => ?_
  refine wl_eff (eo_append (xs := ([] : List GMember)) (ys := a_list) ak_33 (pick_box_own pick0 (n := 0) (xs := ([] : List GMember)) rfl rfl (by unfold maxLen; omega)) rfl rfl (slin_rd fun _ g => Rg.on (rds_arg r0) g) g1) rfl fun x1 => ?_
  refine asg rfl rfl ?_
  refine wnt ?_
  refine wc_seq ?_
  refine wc_seq ?_
  refine bdO t0 fun y1 t1 t0 => ?_
  refine wj (J := Bool) (X := Unit) (fun z => y1 = z) (fun z _ => [(0, (sl v0a)), (1, .int .i64 a_number), (2, .int .i64 a_year), (8, (sl x1)), (21, .bool z)]) (fun _ _ => [ownF (sl x1) (([] : List GMember) ++ a_list)]) ?_ ?_
  · skip
    refine wc_region ?_
    refine mv rfl rfl ?_
    refine bdO t1 fun v1 hv1 t1 => ?_
    refine wl_call (co_c0 fa_103 rfl fun w hw => c_spec_MembersOk w a_list v0a (Rg.on (rds_arg r0) hw) hv1) rfl fun _ => ?_
    refine wl_pure (po_not rfl) rfl ?_
    refine mv rfl rfl ?_
    refine wlO_ (t := 17) t1 rfl (fun h1 t1 => ?_) fun h1 t1 => ?_
    · skip
      refine wl_guard_off (j := 3) rfl rfl rfl rfl rfl ?_
      refine wl_guard_off (j := 3) rfl rfl rfl rfl rfl ?_
      refine wl_guard_off (j := 3) rfl rfl rfl rfl rfl ?_
      refine wl_pure (po_pick_t rfl rfl) rfl ?_
      refine wl_nil ?_
      exact wj_meet _ () (mtE t1) (sub_cons rfl (sub_cons rfl (sub_cons rfl (sub_cons rfl (sub_cons rfl sub_nil))))) (some_cons pick0 some_nil)
    refine wl_guard_on (j := 3) rfl rfl rfl (mv rfl rfl ?_)
    refine bdO t1 fun v2 hv2 t1 => ?_
    refine wl_guard_on (j := 3) rfl rfl rfl (wl_call (co_c0 fa_70 rfl fun w hw => c_spec_l01In w a_year 1900 2999 hv2) rfl (fun _ => ?_))
    refine wl_guard_on (j := 3) rfl rfl rfl (wl_pure (po_not rfl) rfl ?_)
    refine wl_pure (po_pick_f rfl rfl) rfl ?_
    refine wl_nil ?_
    exact wj_meet _ () (mtE t1) (sub_cons rfl (sub_cons rfl (sub_cons rfl (sub_cons rfl (sub_cons rfl sub_nil))))) (some_cons pick0 some_nil)
  intro j1 _ hp
  obtain rfl : j1 = y1 := hp.symm
  refine wq_then ?_
  refine wcO t0 rfl (fun h2 t0 => ?_) fun h2 t0 => ?_
  · skip
    refine wcr ?_
    refine mv rfl rfl ?_
    refine asg rfl rfl ?_
    refine asg rfl rfl ?_
    refine wnt ?_
    refine wc_ret ?_
    refine wq_then_ret ?_
    obtain rfl := Option.some.inj t0
    exact wq_ret2 rfl rfl rfl fun w hw => ⟨x1, rfl, hw.weak (some_cons pick0 some_nil)⟩
  refine wc_skip ?_
  refine wq_then ?_
  refine wcr ?_
  refine asg rfl rfl ?_
  refine wnt ?_
  refine wc_seq ?_
  refine wlO_inv t0 fun y1 l1 t0 => ?_
  refine wj (J := Int) (X := Unit) (fun z => y1 = z) (fun z _ => [(0, (sl v0a)), (1, .int .i64 a_number), (2, .int .i64 a_year), (8, (sl x1)), (9, .int .i64 z)]) (fun _ _ => [ownF (sl x1) (([] : List GMember) ++ a_list)]) ?_ ?_
  · skip
    refine wc_block ?_
    refine wc_whO (X := Unit) l1 (fun s1 x1l => [(0, (sl v0a)), (1, .int .i64 a_number), (2, .int .i64 a_year), (8, (sl x1)), (9, .int .i64 s1)]) (fun s1 x1l => [ownF (sl x1) (([] : List GMember) ++ a_list)]) () (sub_cons rfl (sub_cons rfl (sub_cons rfl (sub_cons rfl (sub_cons rfl sub_nil))))) (some_cons pick0 some_nil) fun m1 s1 x1l l1 => ?_
    refine whO_step l1 fun _ t1 l1 => ?_
    unfold spec_JoinGuild_L1 at t1
    refine wc_seq ?_
    refine wc_seq ?_
    refine bdO t1 fun y2 t2 t1 => ?_
    refine wj (J := Bool) (X := Unit) (fun z => y2 = z) (fun z _ => [(0, (sl v0a)), (1, .int .i64 a_number), (2, .int .i64 a_year), (8, (sl x1)), (9, .int .i64 s1), (35, .bool z)]) (fun _ _ => [ownF (sl x1) (([] : List GMember) ++ a_list)]) ?_ ?_
    · skip
      refine wc_region ?_
      refine mv rfl rfl ?_
      refine mv rfl rfl ?_
      refine wl_pure (po_lenr (rds_arg r0) el_33 rfl) rfl ?_
      refine wl_pure (po_lss rfl rfl) rfl ?_
      refine mv rfl rfl ?_
      refine wlO_ (t := 27) t2 rfl (fun h3 t2 => ?_) fun h3 t2 => ?_
      · skip
        refine wl_guard_on (j := 4) rfl rfl rfl (mv rfl rfl ?_)
        refine wl_guard_on (j := 4) rfl rfl rfl (mv rfl rfl ?_)
        refine gdO t2 fun g2 t2 => ?_
        refine wl_guard_on (j := 4) rfl rfl rfl (wl_pure (po_ixr (rds_arg r0) el_33 rfl rfl g2.1 g2.2) rfl ?_)
        refine wl_guard_on (j := 4) rfl rfl rfl (wl_pure (po_sfldr (rds_arg r0) (ix_lt g2) fo_113_0 rfl) rfl ?_)
        refine wl_guard_on (j := 4) rfl rfl rfl (wl_pure (v := .int .i64 ((gx a_list ((s1).toNat)).Number)) (po_ldf (rds_arg r0) tk_3 rfl (ix_lt g2) rfl) rfl ?_)
        refine wl_guard_on (j := 4) rfl rfl rfl (mv rfl rfl ?_)
        refine wl_guard_on (j := 4) rfl rfl rfl (wl_pure (po_lss rfl rfl) rfl ?_)
        refine wl_pure (po_pick_t rfl rfl) rfl ?_
        refine wl_nil ?_
        exact wj_meet _ () (mtE t2) (sub_cons rfl (sub_cons rfl (sub_cons rfl (sub_cons rfl (sub_cons rfl (sub_cons rfl sub_nil)))))) (some_cons pick0 some_nil)
      refine wl_guard_off (j := 4) rfl rfl rfl rfl rfl ?_
      refine wl_guard_off (j := 4) rfl rfl rfl rfl rfl ?_
      refine wl_guard_off (j := 4) rfl rfl rfl rfl rfl ?_
      refine wl_guard_off (j := 4) rfl rfl rfl rfl rfl ?_
      refine wl_guard_off (j := 4) rfl rfl rfl rfl rfl ?_
      refine wl_guard_off (j := 4) rfl rfl rfl rfl rfl ?_
      refine wl_guard_off (j := 4) rfl rfl rfl rfl rfl ?_
      refine wl_pure (po_pick_f rfl rfl) rfl ?_
      refine wl_nil ?_
      exact wj_meet _ () (mtE t2) (sub_cons rfl (sub_cons rfl (sub_cons rfl (sub_cons rfl (sub_cons rfl (sub_cons rfl sub_nil)))))) (some_cons pick0 some_nil)
    intro j2 _ hp
    obtain rfl : j2 = y2 := hp.symm
    refine wq_then ?_
    refine wcO t1 rfl (fun h4 t1 => ?_) fun h4 t1 => ?_
    · skip
      refine wc_skip ?_
      refine wq_then ?_
      refine wc_block ?_
      refine wc_region ?_
      refine mv rfl rfl ?_
      refine wl_pure (po_add rfl rfl) rfl ?_
      refine asg rfl rfl ?_
      refine wl_nil ?_
      refine wq_block ?_
      exact wq_rndw (stwN l1 t1) () (sub_cons rfl (sub_cons rfl (sub_cons rfl (sub_cons rfl (sub_cons rfl sub_nil))))) (some_cons pick0 some_nil)
    refine wc_exit ?_
    refine wq_then_exit ?_
    refine wq_then_exit ?_
    refine wq_block_exit ?_
    exact wj_meet _ () (Sum.inl.inj (stwB l1 t1)) (sub_cons rfl (sub_cons rfl (sub_cons rfl (sub_cons rfl (sub_cons rfl sub_nil))))) (some_cons pick0 some_nil)
  intro e1 _ hp
  obtain rfl : e1 = y1 := hp.symm
  refine wq_then ?_
  refine wcr ?_
  refine wl_eff (eo_buildSlice rfl sb_33_0) rfl fun b2 => ?_
  refine mv rfl rfl ?_
  refine mv rfl rfl ?_
  refine gdO t0 fun g3 t0 => ?_
  refine wl_pure (po_cutr (l := 0) (h := (e1).toNat) (rds_arg r0) el_33 rfl (.inl ⟨rfl, rfl⟩) (.inr ⟨_, rfl, ixn g3.1⟩) g3.2.1 g3.2.2) rfl ?_
  refine gdO t0 fun g4 t0 => ?_
  refine wl_eff (eo_append (xs := ([] : List GMember)) (ys := ((a_list.drop 0).take ((e1).toNat - 0))) ak_33 (pick_box_own pick0 (n := 0) (xs := ([] : List GMember)) rfl rfl (by unfold maxLen; omega)) rfl rfl (slin_rd fun _ g => Rg.on (rds_cut (rds_arg r0) g3.2.1 g3.2.2) g) g4) rfl fun x5 => ?_
  refine asg rfl rfl ?_
  refine wnt ?_
  refine wcr ?_
  refine mv rfl rfl ?_
  refine mv rfl rfl ?_
  refine mv rfl rfl ?_
  refine mv rfl rfl ?_
  refine wl_pure (po_sub rfl rfl) rfl ?_
  refine wl_pure (po_build rfl (bd_113_0_1_2 a_number a_year (wr (a_year - 1)))) rfl ?_
  refine wl_eff (eo_buildSlice rfl (sb_33_1 a_number a_year (wr (a_year - 1)))) rfl fun b3 => ?_
  refine gdO t0 fun g5 t0 => ?_
  refine wl_eff (eo_append (xs := (([] : List GMember) ++ ((a_list.drop 0).take ((e1).toNat - 0)))) (ys := ([(GMember.mk a_number a_year (wr (a_year - 1)))] : List GMember)) ak_33 (pickS pick0) rfl rfl (slin_rd fun _ g => Rg.on (rds_own (pick_box_own pick0 (n := 1) (xs := ([(GMember.mk a_number a_year (wr (a_year - 1)))] : List GMember)) rfl rfl (by unfold maxLen; omega))) g) g5) rfl fun x6 => ?_
  refine asg rfl rfl ?_
  refine wnt ?_
  refine wcr ?_
  refine mv rfl rfl ?_
  refine mv rfl rfl ?_
  refine mv rfl rfl ?_
  refine gdO t0 fun g6 t0 => ?_
  refine wl_pure (po_cutr (l := (e1).toNat) (h := a_list.length) (rds_arg r0) el_33 rfl (.inr ⟨_, rfl, ixn g6.1⟩) (.inl ⟨rfl, rfl⟩) g6.2.1 g6.2.2) rfl ?_
  refine gdO t0 fun g7 t0 => ?_
  refine wl_eff (eo_append (xs := ((([] : List GMember) ++ ((a_list.drop 0).take ((e1).toNat - 0))) ++ [(GMember.mk a_number a_year (wr (a_year - 1)))])) (ys := ((a_list.drop ((e1).toNat)).take (a_list.length - ((e1).toNat)))) ak_33 pick0 rfl rfl (slin_rd fun _ g => Rg.on (rds_cut (rds_arg r0) g6.2.1 g6.2.2) g) g7) rfl fun x7 => ?_
  refine asg rfl rfl ?_
  refine wnt ?_
  refine wc_seq ?_
  refine wcr ?_
  refine mv rfl rfl ?_
  refine bdO t0 fun v3 hv3 t0 => ?_
  refine wl_call (co_c0 fa_103 rfl fun w hw => c_spec_MembersOk w (((([] : List GMember) ++ ((a_list.drop 0).take ((e1).toNat - 0))) ++ [(GMember.mk a_number a_year (wr (a_year - 1)))]) ++ ((a_list.drop ((e1).toNat)).take (a_list.length - ((e1).toNat)))) x7 (Rg.on (rds_own pick0) hw) hv3) rfl fun _ => ?_
  refine wl_pure (po_not rfl) rfl ?_
  refine wnt ?_
  refine wcO t0 rfl (fun h5 t0 => ?_) fun h5 t0 => ?_
  · skip
    refine wcr ?_
    refine mv rfl rfl ?_
    refine asg rfl rfl ?_
    refine asg rfl rfl ?_
    refine wnt ?_
    refine wc_ret ?_
    refine wq_then_ret ?_
    obtain rfl := Option.some.inj t0
    exact wq_ret2 rfl rfl rfl fun w hw => ⟨x1, rfl, hw.weak (some_cons (pickS (pickS pick0)) some_nil)⟩
  refine wc_skip ?_
  refine wq_then ?_
  refine wcr ?_
  refine mv rfl rfl ?_
  refine asg rfl rfl ?_
  refine asg rfl rfl ?_
  refine wnt ?_
  refine wc_ret ?_
  obtain rfl := Option.some.inj t0
  exact wq_ret2 rfl rfl rfl fun w hw => ⟨x7, rfl, hw.weak (some_cons pick0 some_nil)⟩

theorem c_spec_PayDues (w : World) (a_list : List GMember) (v0a : Hd) (r0 : rdF w (dm w []) (sl v0a) a_list) (a_number : Int) (a_years : Int) {r : (List GMember) × Bool} (t0 : spec_PayDues a_list a_number a_years = some r) : Calls Try.prog 78 #[(sl v0a), .int .i64 a_number, .int .i64 a_years] w fun e w' => ∃ x : Hd, e = .returned (.tuple #[(sl x), .bool r.2]) ∧ SH w [] [ownF (sl x) r.1] w' := by
  refine calls_of_wc (args := [_, _, _]) Try.func78 rfl Try.ntmps78 rfl ?_
  unfold spec_PayDues at t0
  refine wcr ?_
  refine asg rfl rfl ?_
  refine asg rfl rfl ?_
  refine wnt ?_
  refine wcr ?_
  refine wl_eff (eo_buildSlice rfl sb_33_0) rfl fun b1 => ?_
  refine mv rfl rfl ?_
  refine gdO t0 fun g1 t0 => ?_
  refine wl_eff (eo_append (xs := ([] : List GMember)) (ys := a_list) ak_33 (pick_box_own pick0 (n := 0) (xs := ([] : List GMember)) rfl rfl (by unfold maxLen; omega)) rfl rfl (slin_rd fun _ g => Rg.on (rds_arg r0) g) g1) rfl fun x1 => ?_
  refine asg rfl rfl ?_
  refine wnt ?_
  refine wcr ?_
  refine asg rfl rfl ?_
  refine wnt ?_
  refine wc_seq ?_
  refine wcr ?_
  refine asg rfl rfl ?_
  refine wnt ?_
  refine gdO t0 fun g2 t0 => ?_
  refine lpO_inv t0 fun y1 l1 t0 => ?_
  refine wj (J := (List GMember) × Bool) (X := Unit) (fun z => y1 = z) (fun z _ => [(0, (sl v0a)), (8, (sl x1)), (9, .bool z.2)]) (fun z _ => [ownF (sl x1) z.1]) ?_ ?_
  · skip
    refine wc_block ?_
    refine wc_forO (X := Unit) l1 (fun k1 s1 x1l => [(0, (sl v0a)), (1, .int .i64 a_number), (2, .int .i64 a_years), (8, (sl x1)), (9, .bool s1.2), (10, .int .i64 ((k1 : Nat) : Int))]) (fun k1 s1 x1l => [ownF (sl x1) s1.1]) () (sub_cons rfl (sub_cons rfl (sub_cons rfl (sub_cons rfl (sub_cons rfl (sub_cons rfl sub_nil)))))) (some_cons pick0 some_nil) fun k1 s1 x1l hN1 l1 => ?_
    by_cases hk1 : k1 < a_list.length
    · skip
      refine forO_step l1 hk1 fun _ t1 l1 => ?_
      unfold spec_PayDues_L1 at t1
      have c1 : (decide (((k1 : Nat) : Int) < ((a_list.length : Nat) : Int))) = true := decide_eq_true (by omega)
      refine wc_seq ?_
      refine wcr ?_
      refine mv rfl rfl ?_
      refine mv rfl rfl ?_
      refine wl_pure (po_lenr (rds_arg r0) el_33 rfl) rfl ?_
      refine wl_pure (po_lss rfl rfl) rfl ?_
      refine mv rfl rfl ?_
      refine wl_know (t := 18) rfl c1 ?_
      refine wl_guard_on (j := 4) rfl rfl rfl (mv rfl rfl ?_)
      refine bdO t1 fun v1 hv1 t1 => ?_
      refine wl_guard_on (j := 4) rfl rfl rfl (wl_call (co_c0 fa_70 rfl fun w hw => c_spec_l01In w a_years 1 10 hv1) rfl (fun _ => ?_))
      refine wl_pure (po_pick_t rfl rfl) rfl ?_
      refine wnt ?_
      refine wcO t1 rfl (fun h1 t1 => ?_) fun h1 t1 => ?_
      · skip
        refine wc_skip ?_
        refine wq_then ?_
        refine wc_seq ?_
        refine wc_block ?_
        refine wcr ?_
        refine mv rfl rfl ?_
        refine mv rfl rfl ?_
        refine wl_pure (po_ixn (k := k1) (rds_arg r0) el_33 rfl rfl hk1) rfl ?_
        refine wl_pure (po_sfldr (rds_arg r0) hk1 fo_113_0 rfl) rfl ?_
        refine wl_pure (v := .int .i64 ((gx a_list k1).Number)) (po_ldf (rds_arg r0) tk_3 rfl hk1 rfl) rfl ?_
        refine mv rfl rfl ?_
        refine wl_pure (po_eql rfl rfl) rfl ?_
        refine wnt ?_
        refine bdO t1 fun y2 t2 t1 => ?_
        refine wj (J := (List GMember) × Bool) (X := Unit) (fun z => y2 = z) (fun z _ => [(0, (sl v0a)), (1, .int .i64 a_number), (2, .int .i64 a_years), (8, (sl x1)), (9, .bool z.2), (10, .int .i64 ((k1 : Nat) : Int)), (19, .int .i64 a_years), (20, .bool v1)]) (fun z _ => [ownF (sl x1) z.1]) ?_ ?_
        · skip
          refine wcO t2 rfl (fun h2 t2 => ?_) fun h2 t2 => ?_
          · skip
            refine wcr ?_
            refine mv rfl rfl ?_
            refine mv rfl rfl ?_
            refine mv rfl rfl ?_
            refine mv rfl rfl ?_
            refine wl_pure (po_ixn (k := k1) (rds_arg r0) el_33 rfl rfl hk1) rfl ?_
            refine wl_pure (po_sfldr (rds_arg r0) hk1 fo_113_2 rfl) rfl ?_
            refine wl_pure (v := .int .i64 ((gx a_list k1).Paid)) (po_ldf (rds_arg r0) tk_3 rfl hk1 rfl) rfl ?_
            refine mv rfl rfl ?_
            refine wl_pure (po_add rfl rfl) rfl ?_
            refine gdO t2 fun g3 t2 => ?_
            refine wl_pure (po_ixn (k := k1) (rds_own pick0) el_33 rfl rfl g3) rfl ?_
            refine wl_pure (po_sfldr (rds_own pick0) g3 fo_113_2 rfl) rfl ?_
            refine wl_skipop (so_own (x' := (GMember.mk ((gx s1.1 k1).Number) ((gx s1.1 k1).Since) (wr ((gx a_list k1).Paid + a_years)))) tk_3 pick0 rfl rfl rfl rfl rfl rfl g3 rfl) ?_
            refine wnt ?_
            refine wc_region ?_
            refine asg rfl rfl ?_
            refine wl_nil ?_
            exact wj_meet _ () (mtE t2) (sub_cons rfl (sub_cons rfl (sub_cons rfl (sub_cons rfl (sub_cons rfl (sub_cons rfl (sub_cons rfl (sub_cons rfl sub_nil)))))))) (some_cons pick0 some_nil)
          refine wc_skip ?_
          exact wj_meet _ () (mtE t2) (sub_cons rfl (sub_cons rfl (sub_cons rfl (sub_cons rfl (sub_cons rfl (sub_cons rfl (sub_cons rfl (sub_cons rfl sub_nil)))))))) (some_cons pick0 some_nil)
        intro j1 _ hp
        obtain rfl : j1 = y2 := hp.symm
        refine wq_block ?_
        refine wq_then ?_
        refine wc_region ?_
        refine mv rfl rfl ?_
        refine wl_pure (po_inc rfl rfl (by omega)) rfl ?_
        refine asg rfl rfl ?_
        refine wl_nil ?_
        exact wq_rnd hk1 (stpN l1 t1) () (sub_cons rfl (sub_cons rfl (sub_cons rfl (sub_cons rfl (sub_cons rfl (sub_cons rfl sub_nil)))))) (some_cons pick0 some_nil)
      refine wc_exit ?_
      refine wq_then_exit ?_
      refine wq_then_exit ?_
      refine wq_block_exit ?_
      exact wj_meet _ () (Sum.inl.inj (stpB l1 t1)) (sub_cons rfl (sub_cons rfl (sub_cons rfl sub_nil))) (some_cons pick0 some_nil)
    have c1 : (decide (((k1 : Nat) : Int) < ((a_list.length : Nat) : Int))) = false := decide_eq_false (by omega)
    have en1 := forO_end l1 hk1
    refine wc_seq ?_
    refine wcr ?_
    refine mv rfl rfl ?_
    refine mv rfl rfl ?_
    refine wl_pure (po_lenr (rds_arg r0) el_33 rfl) rfl ?_
    refine wl_pure (po_lss rfl rfl) rfl ?_
    refine mv rfl rfl ?_
    refine wl_know (t := 18) rfl c1 ?_
    refine wl_guard_off (j := 4) rfl rfl rfl rfl rfl ?_
    refine wl_guard_off (j := 4) rfl rfl rfl rfl rfl ?_
    refine wl_pure (po_pick_f rfl rfl) rfl ?_
    refine wnt ?_
    refine wc_cond_f rfl rfl ?_
    refine wc_exit ?_
    refine wq_then_exit ?_
    refine wq_then_exit ?_
    refine wq_block_exit ?_
    exact wj_meet _ () (Sum.inl.inj en1) (sub_cons rfl (sub_cons rfl (sub_cons rfl sub_nil))) (some_cons pick0 some_nil)
  intro e1 _ hp
  obtain rfl : e1 = y1 := hp.symm
  refine wq_then ?_
  refine wc_seq ?_
  refine wc_seq ?_
  refine bdO t0 fun y1 t1 t0 => ?_
  refine wj (J := Bool) (X := Unit) (fun z => y1 = z) (fun z _ => [(0, (sl v0a)), (8, (sl x1)), (53, .bool z)]) (fun _ _ => [ownF (sl x1) e1.1]) ?_ ?_
  · skip
    refine wc_region ?_
    refine mv rfl rfl ?_
    refine bdO t1 fun v2 hv2 t1 => ?_
    refine wl_call (co_c0 fa_103 rfl fun w hw => c_spec_MembersOk w a_list v0a (Rg.on (rds_arg r0) hw) hv2) rfl fun _ => ?_
    refine wl_pure (po_not rfl) rfl ?_
    refine mv rfl rfl ?_
    refine wlO_ (t := 45) t1 rfl (fun h3 t1 => ?_) fun h3 t1 => ?_
    · skip
      refine wl_guard_off (j := 3) rfl rfl rfl rfl rfl ?_
      refine wl_guard_off (j := 3) rfl rfl rfl rfl rfl ?_
      refine wl_pure (po_pick_t rfl rfl) rfl ?_
      refine mv rfl rfl ?_
      refine wl_guard_off (j := 7) rfl rfl rfl rfl rfl ?_
      refine wl_guard_off (j := 7) rfl rfl rfl rfl rfl ?_
      refine wl_guard_off (j := 7) rfl rfl rfl rfl rfl ?_
      refine wl_pure (po_pick_t rfl rfl) rfl ?_
      refine wl_nil ?_
      exact wj_meet _ () (mtE t1) (sub_cons rfl (sub_cons rfl (sub_cons rfl sub_nil))) (some_cons pick0 some_nil)
    refine wl_guard_on (j := 3) rfl rfl rfl (mv rfl rfl ?_)
    refine wl_guard_on (j := 3) rfl rfl rfl (wl_pure (po_not rfl) rfl ?_)
    refine wl_pure (po_pick_f rfl rfl) rfl ?_
    refine mv rfl rfl ?_
    refine wlO_ (t := 49) t1 rfl (fun h4 t1 => ?_) fun h4 t1 => ?_
    · skip
      refine wl_guard_off (j := 7) rfl rfl rfl rfl rfl ?_
      refine wl_guard_off (j := 7) rfl rfl rfl rfl rfl ?_
      refine wl_guard_off (j := 7) rfl rfl rfl rfl rfl ?_
      refine wl_pure (po_pick_t rfl rfl) rfl ?_
      refine wl_nil ?_
      exact wj_meet _ () (mtE t1) (sub_cons rfl (sub_cons rfl (sub_cons rfl sub_nil))) (some_cons pick0 some_nil)
    refine wl_guard_on (j := 7) rfl rfl rfl (mv rfl rfl ?_)
    refine bdO t1 fun v3 hv3 t1 => ?_
    refine wl_guard_on (j := 7) rfl rfl rfl (wl_call (co_c0 fa_103 rfl fun w hw => c_spec_MembersOk w e1.1 x1 (Rg.on (rds_own pick0) hw) hv3) rfl (fun _ => ?_))
    refine wl_guard_on (j := 7) rfl rfl rfl (wl_pure (po_not rfl) rfl ?_)
    refine wl_pure (po_pick_f rfl rfl) rfl ?_
    refine wl_nil ?_
    exact wj_meet _ () (mtE t1) (sub_cons rfl (sub_cons rfl (sub_cons rfl sub_nil))) (some_cons pick0 some_nil)
  intro j2 _ hp
  obtain rfl : j2 = y1 := hp.symm
  refine wq_then ?_
  refine wcO t0 rfl (fun h5 t0 => ?_) fun h5 t0 => ?_
  · skip
    refine wcr ?_
    refine wl_eff (eo_buildSlice rfl sb_33_0) rfl fun b2 => ?_
    refine mv rfl rfl ?_
    refine wl_eff (eo_append (xs := ([] : List GMember)) (ys := a_list) ak_33 (pick_box_own pick0 (n := 0) (xs := ([] : List GMember)) rfl rfl (by unfold maxLen; omega)) rfl rfl (slin_rd fun _ g => Rg.on (rds_arg r0) g) g1) rfl fun x5 => ?_
    refine asg rfl rfl ?_
    refine asg rfl rfl ?_
    refine wnt ?_
    refine wc_ret ?_
    refine wq_then_ret ?_
    obtain rfl := Option.some.inj t0
    exact wq_ret2 rfl rfl rfl fun w hw => ⟨x5, rfl, hw.weak (some_cons pick0 some_nil)⟩
  refine wc_skip ?_
  refine wq_then ?_
  refine wcr ?_
  refine mv rfl rfl ?_
  refine asg rfl rfl ?_
  refine asg rfl rfl ?_
  refine wnt ?_
  refine wc_ret ?_
  obtain rfl := Option.some.inj t0
  exact wq_ret2 rfl rfl rfl fun w hw => ⟨x1, rfl, hw.weak (some_cons pick0 some_nil)⟩

theorem c_spec_BookSum (w : World) (a_list : List GBooking) (v0a : Hd) (r0 : rdF w (dm w []) (sl v0a) a_list) (a_b : GBooking) {r : (List GBooking) × Bool} (t0 : spec_BookSum a_list a_b = some r) : Calls Try.prog 79 #[(sl v0a), .agg #[.int .i64 a_b.Day, .int .i64 a_b.From, .int .i64 a_b.To, .int .i64 a_b.Sum]] w fun e w' => ∃ x : Hd, e = .returned (.tuple #[(sl x), .bool r.2]) ∧ SH w [] [ownF (sl x) r.1] w' := by
  refine calls_of_wc (args := [_, _]) Try.func79 rfl Try.ntmps79 rfl ?_
  unfold spec_BookSum at t0
  refine wcr ?_
  refine wl_eff (eo_box rfl rfl) rfl fun b1 => ?_
  refine asg rfl rfl ?_
  refine asg rfl rfl ?_
  refine wnt ?_
  refine wc_seq ?_
  refine gdO t0 fun g1 t0 => ?_
  refine gdO t0 fun g2 t0 => ?_
  refine wc_join (X := Hd) (fun _ => True) (fun z => [(0, (sl v0a)), (6, (sl z))]) (fun z => [ownF (sl z) ((([] : List GBooking) ++ a_list) ++ [a_b])]) ?_ ?_
  · skip
    refine wc_draw [box b1 [.int .i64 a_b.Day, .int .i64 a_b.From, .int .i64 a_b.To, .int .i64 a_b.Sum]] 7 mixed ?_
    refine wa_pure 1 rfl (po_move rfl) (some_cons pick0 some_nil) rfl (by kernel_rfl) (fun _ _ _ h => h) ?_
    refine wa_pure (v := .agg #[.int .i64 a_b.Day, .int .i64 a_b.From, .int .i64 a_b.To, .int .i64 a_b.Sum]) 3 rfl (po_load_boxs tk_92 pick0 rfl rfl rfl) (some_cons pick0 some_nil) rfl (by kernel_rfl) (fun _ _ _ h => h) ?_
    refine wa_2 (i := 0) (j := 4) (by kernel_rfl) ?_ ?_
    · skip
      refine ws_eff rfl (eo_buildSlice rfl sb_36_0) (fun _ => (sts_some (some_cons (pickS pick0) some_nil))) rfl fun b2 => ?_
      refine wa_2 (i := 2) (j := 4) (by kernel_rfl) ?_ ?_
      · skip
        refine ws_eff rfl (eo_append (xs := ([] : List GBooking)) (ys := a_list) ak_36 (pick_box_own pick0 (n := 0) (xs := ([] : List GBooking)) rfl rfl (by unfold maxLen; omega)) rfl rfl (slin_rd fun _ g => Rg.on (rds_arg r0) g) g1) (fun _ => (sts_some (some_cons (pickS pick0) some_nil))) rfl fun x1 => ?_
        refine wa_1 (i := 4) (by kernel_rfl) ?_
        refine ws_eff rfl (eo_buildSlice rfl (sb_36_1 a_b.Day a_b.From a_b.To a_b.Sum)) (fun _ => (sts_some (some_cons (pickS (pickS pick0)) some_nil))) rfl fun b3 => ?_
        refine wa_1 (i := 5) (by kernel_rfl) ?_
        refine ws_eff rfl (eo_append (xs := (([] : List GBooking) ++ a_list)) (ys := ([a_b] : List GBooking)) ak_36 (pickS pick0) rfl rfl (slin_rd fun _ g => Rg.on (rds_own (pick_box_own pick0 (n := 1) (xs := ([a_b] : List GBooking)) rfl rfl (by unfold maxLen; omega))) g) g2) (fun _ => (sts_some (some_cons (pickS (pickS pick0)) some_nil))) rfl fun x2 => ?_
        refine wa_pure 6 rfl (po_assign rfl) (some_cons (pickS (pickS pick0)) some_nil) rfl (by kernel_rfl) (fun _ _ _ h => h) ?_
        refine wa_done (by kernel_rfl) ?_
        exact wq_meet x2 trivial (sub_cons rfl (sub_cons rfl sub_nil)) (some_cons pick0 some_nil)
      refine ws_eff rfl (eo_buildSlice rfl (sb_36_1 a_b.Day a_b.From a_b.To a_b.Sum)) (fun _ => (sts_some (some_cons (pickS (pickS pick0)) some_nil))) rfl fun b4 => ?_
      refine wa_1 (i := 2) (by kernel_rfl) ?_
      refine ws_eff rfl (eo_append (xs := ([] : List GBooking)) (ys := a_list) ak_36 (pick_box_own (pickS pick0) (n := 0) (xs := ([] : List GBooking)) rfl rfl (by unfold maxLen; omega)) rfl rfl (slin_rd fun _ g => Rg.on (rds_arg r0) g) g1) (fun _ => (sts_some (some_cons (pickS (pickS pick0)) some_nil))) rfl fun x3 => ?_
      refine wa_1 (i := 5) (by kernel_rfl) ?_
      refine ws_eff rfl (eo_append (xs := (([] : List GBooking) ++ a_list)) (ys := ([a_b] : List GBooking)) ak_36 pick0 rfl rfl (slin_rd fun _ g => Rg.on (rds_own (pick_box_own (pickS pick0) (n := 1) (xs := ([a_b] : List GBooking)) rfl rfl (by unfold maxLen; omega))) g) g2) (fun _ => (sts_some (some_cons (pickS (pickS pick0)) some_nil))) rfl fun x4 => ?_
      refine wa_pure 6 rfl (po_assign rfl) (some_cons (pickS (pickS pick0)) some_nil) rfl (by kernel_rfl) (fun _ _ _ h => h) ?_
      refine wa_done (by kernel_rfl) ?_
      exact wq_meet x4 trivial (sub_cons rfl (sub_cons rfl sub_nil)) (some_cons pick0 some_nil)
    refine ws_eff rfl (eo_buildSlice rfl (sb_36_1 a_b.Day a_b.From a_b.To a_b.Sum)) (fun _ => (sts_some (some_cons (pickS pick0) some_nil))) rfl fun b5 => ?_
    refine wa_1 (i := 0) (by kernel_rfl) ?_
    refine ws_eff rfl (eo_buildSlice rfl sb_36_0) (fun _ => (sts_some (some_cons (pickS (pickS pick0)) some_nil))) rfl fun b6 => ?_
    refine wa_1 (i := 2) (by kernel_rfl) ?_
    refine ws_eff rfl (eo_append (xs := ([] : List GBooking)) (ys := a_list) ak_36 (pick_box_own pick0 (n := 0) (xs := ([] : List GBooking)) rfl rfl (by unfold maxLen; omega)) rfl rfl (slin_rd fun _ g => Rg.on (rds_arg r0) g) g1) (fun _ => (sts_some (some_cons (pickS (pickS pick0)) some_nil))) rfl fun x5 => ?_
    refine wa_1 (i := 5) (by kernel_rfl) ?_
    refine ws_eff rfl (eo_append (xs := (([] : List GBooking) ++ a_list)) (ys := ([a_b] : List GBooking)) ak_36 pick0 rfl rfl (slin_rd fun _ g => Rg.on (rds_own (pick_box_own (pickS pick0) (n := 1) (xs := ([a_b] : List GBooking)) rfl rfl (by unfold maxLen; omega))) g) g2) (fun _ => (sts_some (some_cons (pickS (pickS pick0)) some_nil))) rfl fun x6 => ?_
    refine wa_pure 6 rfl (po_assign rfl) (some_cons (pickS (pickS pick0)) some_nil) rfl (by kernel_rfl) (fun _ _ _ h => h) ?_
    refine wa_done (by kernel_rfl) ?_
    exact wq_meet x6 trivial (sub_cons rfl (sub_cons rfl sub_nil)) (some_cons pick0 some_nil)
  intro x7 _
  refine wq_then ?_
  refine wc_seq ?_
  refine wc_seq ?_
  refine bdO t0 fun y1 t1 t0 => ?_
  refine wj (J := Bool) (X := Unit) (fun z => y1 = z) (fun z _ => [(0, (sl v0a)), (6, (sl x7)), (20, .bool z)]) (fun _ _ => [ownF (sl x7) ((([] : List GBooking) ++ a_list) ++ [a_b])]) ?_ ?_
  · skip
    refine wc_region ?_
    refine mv rfl rfl ?_
    refine bdO t1 fun v1 hv1 t1 => ?_
    refine wl_call (co_c0 fa_105 rfl fun w hw => c_spec_LedgerOk w a_list v0a (Rg.on (rds_arg r0) hw) hv1) rfl fun _ => ?_
    refine wl_pure (po_not rfl) rfl ?_
    refine mv rfl rfl ?_
    refine wlO_ (t := 16) t1 rfl (fun h1 t1 => ?_) fun h1 t1 => ?_
    · skip
      refine wl_guard_off (j := 3) rfl rfl rfl rfl rfl ?_
      refine wl_guard_off (j := 3) rfl rfl rfl rfl rfl ?_
      refine wl_guard_off (j := 3) rfl rfl rfl rfl rfl ?_
      refine wl_pure (po_pick_t rfl rfl) rfl ?_
      refine wl_nil ?_
      exact wj_meet _ () (mtE t1) (sub_cons rfl (sub_cons rfl (sub_cons rfl sub_nil))) (some_cons pick0 some_nil)
    refine wl_guard_on (j := 3) rfl rfl rfl (mv rfl rfl ?_)
    refine bdO t1 fun v2 hv2 t1 => ?_
    refine wl_guard_on (j := 3) rfl rfl rfl (wl_call (co_c0 fa_105 rfl fun w hw => c_spec_LedgerOk w ((([] : List GBooking) ++ a_list) ++ [a_b]) x7 (Rg.on (rds_own pick0) hw) hv2) rfl (fun _ => ?_))
    refine wl_guard_on (j := 3) rfl rfl rfl (wl_pure (po_not rfl) rfl ?_)
    refine wl_pure (po_pick_f rfl rfl) rfl ?_
    refine wl_nil ?_
    exact wj_meet _ () (mtE t1) (sub_cons rfl (sub_cons rfl (sub_cons rfl sub_nil))) (some_cons pick0 some_nil)
  intro j1 _ hp
  obtain rfl : j1 = y1 := hp.symm
  refine wq_then ?_
  refine wcO t0 rfl (fun h2 t0 => ?_) fun h2 t0 => ?_
  · skip
    refine wcr ?_
    refine wl_eff (eo_buildSlice rfl sb_36_0) rfl fun b7 => ?_
    refine mv rfl rfl ?_
    refine wl_eff (eo_append (xs := ([] : List GBooking)) (ys := a_list) ak_36 (pick_box_own pick0 (n := 0) (xs := ([] : List GBooking)) rfl rfl (by unfold maxLen; omega)) rfl rfl (slin_rd fun _ g => Rg.on (rds_arg r0) g) g1) rfl fun x9 => ?_
    refine asg rfl rfl ?_
    refine asg rfl rfl ?_
    refine wnt ?_
    refine wc_ret ?_
    refine wq_then_ret ?_
    obtain rfl := Option.some.inj t0
    exact wq_ret2 rfl rfl rfl fun w hw => ⟨x9, rfl, hw.weak (some_cons pick0 some_nil)⟩
  refine wc_skip ?_
  refine wq_then ?_
  refine wcr ?_
  refine mv rfl rfl ?_
  refine asg rfl rfl ?_
  refine asg rfl rfl ?_
  refine wnt ?_
  refine wc_ret ?_
  obtain rfl := Option.some.inj t0
  exact wq_ret2 rfl rfl rfl fun w hw => ⟨x7, rfl, hw.weak (some_cons pick0 some_nil)⟩

theorem c_spec_Admit (w : World) (a_g : GGuild) (v0a : Hd) (r0 : rdF w (dm w []) (sl v0a) a_g.Members) (v1a : Hd) (r1 : rdF w (dm w []) (sl v1a) a_g.Stock) (v2a : Hd) (u2a : List Value) (r2 : RdL w (dm w []) (sl v2a) u2a a_g.Entries) (v3a : Hd) (r3 : rdF w (dm w []) (sl v3a) a_g.Books) (a_number : Int) {r : GGuild × Bool} (t0 : spec_Admit a_g a_number = some r) : Calls Try.prog 27 #[.agg #[(sl v0a), (sl v1a), (sl v2a), (sl v3a), .int .i64 a_g.Round, .int .i64 a_g.Year], .int .i64 a_number] w fun e w' => ∃ x : Hd × Hd × Hd × (List Value) × Hd, e = .returned (.tuple #[.agg #[(sl x.1), (sl x.2.1), (sl x.2.2.1), (sl x.2.2.2.2), .int .i64 r.1.Round, .int .i64 r.1.Year], .bool r.2]) ∧ SH w [] [ownF (sl x.1) r.1.Members, ownF (sl x.2.1) r.1.Stock, own (sl x.2.2.1) x.2.2.2.1 r.1.Entries, ownF (sl x.2.2.2.2) r.1.Books] w' := by
  refine calls_of_wc (args := [_, _]) Try.func27 rfl Try.ntmps27 rfl ?_
  unfold spec_Admit at t0
  refine wcr ?_
  refine wl_eff (eo_box rfl rfl) rfl fun b1 => ?_
  refine wl_eff (eo_alloc (cs := [(sl (⟨none, 0, 0⟩ : Hd)), (sl (⟨none, 0, 0⟩ : Hd)), (sl (⟨none, 0, 0⟩ : Hd)), (sl (⟨none, 0, 0⟩ : Hd)), .int .i64 0, .int .i64 0]) za_38) rfl fun b2 => ?_
  refine asg rfl rfl ?_
  refine wnt ?_
  refine wcr ?_
  refine wl_pure (v := .agg #[(sl v0a), (sl v1a), (sl v2a), (sl v3a), .int .i64 a_g.Round, .int .i64 a_g.Year]) (po_load_boxs tk_38 (pickS pick0) rfl rfl rfl) rfl ?_
  refine bdO t0 fun v1 hv1 t0 => ?_
  refine wl_call (co_c4 fa_60 rfl fun w hw => c_spec_l38Copy w a_g v0a (Rg.on (rds_arg r0) hw) v1a (Rg.on (rds_arg r1) hw) v2a u2a (Rg.on (rds_arg r2) hw) v3a (Rg.on (rds_arg r3) hw) hv1) rfl fun x1 => ?_
  refine wl_eff (eo_alloc (cs := [(sl (⟨none, 0, 0⟩ : Hd)), (sl (⟨none, 0, 0⟩ : Hd)), (sl (⟨none, 0, 0⟩ : Hd)), (sl (⟨none, 0, 0⟩ : Hd)), .int .i64 0, .int .i64 0]) za_38) rfl fun b3 => ?_
  refine wl_skipop (so_box (cs' := [(sl x1.1), (sl x1.2.1), (sl x1.2.2.1), (sl x1.2.2.2.2), .int .i64 v1.Round, .int .i64 v1.Year]) tk_38 pick0 rfl rfl rfl rfl rfl rfl rfl) ?_
  refine wnt ?_
  refine wc_seq ?_
  refine wc_seq ?_
  refine bdO t0 fun y1 t1 t0 => ?_
  refine wj (J := Bool) (X := Unit) (fun z => y1 = z) (fun z _ => [(1, .int .i64 a_number), (2, ptr b1 0), (4, ptr b2 0), (6, ptr b3 0), (24, .bool z)]) (fun _ _ => [box b3 [(sl x1.1), (sl x1.2.1), (sl x1.2.2.1), (sl x1.2.2.2.2), .int .i64 v1.Round, .int .i64 v1.Year], box b2 [(sl (⟨none, 0, 0⟩ : Hd)), (sl (⟨none, 0, 0⟩ : Hd)), (sl (⟨none, 0, 0⟩ : Hd)), (sl (⟨none, 0, 0⟩ : Hd)), .int .i64 0, .int .i64 0], box b1 [(sl v0a), (sl v1a), (sl v2a), (sl v3a), .int .i64 a_g.Round, .int .i64 a_g.Year], ownF (sl x1.1) v1.Members, ownF (sl x1.2.1) v1.Stock, own (sl x1.2.2.1) x1.2.2.2.1 v1.Entries, ownF (sl x1.2.2.2.2) v1.Books]) ?_ ?_
  · skip
    refine wc_region ?_
    refine wl_pure (v := .agg #[(sl v0a), (sl v1a), (sl v2a), (sl v3a), .int .i64 a_g.Round, .int .i64 a_g.Year]) (po_load_boxs tk_38 (pickS (pickS (pickS (pickS (pickS (pickS pick0)))))) rfl rfl rfl) rfl ?_
    refine bdO t1 fun v2 hv2 t1 => ?_
    refine wl_call (co_c0 fa_61 rfl fun w hw => c_spec_GuildOk w a_g v0a (Rg.on (rds_arg r0) hw) v1a (Rg.on (rds_arg r1) hw) v2a u2a (Rg.on (rds_arg r2) hw) v3a (Rg.on (rds_arg r3) hw) hv2) rfl fun _ => ?_
    refine wl_pure (po_not rfl) rfl ?_
    refine mv rfl rfl ?_
    refine wlO_ (t := 20) t1 rfl (fun h1 t1 => ?_) fun h1 t1 => ?_
    · skip
      refine wl_guard_off (j := 3) rfl rfl rfl rfl rfl ?_
      refine wl_guard_off (j := 3) rfl rfl rfl rfl rfl ?_
      refine wl_guard_off (j := 3) rfl rfl rfl rfl rfl ?_
      refine wl_pure (po_pick_t rfl rfl) rfl ?_
      refine wl_nil ?_
      exact wj_meet _ () (mtE t1) (sub_cons rfl (sub_cons rfl (sub_cons rfl (sub_cons rfl (sub_cons rfl sub_nil))))) (some_cons pick0 (some_cons (pickS (pickS (pickS (pickS pick0)))) (some_cons (pickS (pickS (pickS (pickS pick0)))) (some_cons pick0 (some_cons pick0 (some_cons pick0 (some_cons pick0 some_nil)))))))
    refine wl_guard_on (j := 3) rfl rfl rfl (wl_pure (po_fld fo_38_4 rfl) rfl ?_)
    refine wl_guard_on (j := 3) rfl rfl rfl (wl_pure (v := .int .i64 a_g.Round) (po_load_box tk_3 (pickS (pickS (pickS (pickS (pickS (pickS pick0)))))) rfl rfl) rfl ?_)
    refine wl_guard_on (j := 3) rfl rfl rfl (wl_pure (po_neq rfl rfl) rfl ?_)
    refine wl_pure (po_pick_f rfl rfl) rfl ?_
    refine wl_nil ?_
    exact wj_meet _ () (mtE t1) (sub_cons rfl (sub_cons rfl (sub_cons rfl (sub_cons rfl (sub_cons rfl sub_nil))))) (some_cons pick0 (some_cons (pickS (pickS (pickS (pickS pick0)))) (some_cons (pickS (pickS (pickS (pickS pick0)))) (some_cons pick0 (some_cons pick0 (some_cons pick0 (some_cons pick0 some_nil)))))))
  intro j1 _ hp
  obtain rfl : j1 = y1 := hp.symm
  refine wq_then ?_
  refine wcO t0 rfl (fun h2 t0 => ?_) fun h2 t0 => ?_
  · skip
    refine wcr ?_
    refine wl_pure (v := .agg #[(sl x1.1), (sl x1.2.1), (sl x1.2.2.1), (sl x1.2.2.2.2), .int .i64 v1.Round, .int .i64 v1.Year]) (po_load_boxs tk_38 pick0 rfl rfl rfl) rfl ?_
    refine wl_skipop (so_box (cs' := [(sl x1.1), (sl x1.2.1), (sl x1.2.2.1), (sl x1.2.2.2.2), .int .i64 v1.Round, .int .i64 v1.Year]) tk_38 (pickS pick0) rfl rfl rfl rfl rfl rfl rfl) ?_
    refine asg rfl rfl ?_
    refine wnt ?_
    refine wc_ret ?_
    refine wq_then_ret ?_
    obtain rfl := Option.some.inj t0
    exact wq_retc1 rfl tk_38 rfl rfl pick0 rfl fun w hw => ⟨(x1.1, x1.2.1, x1.2.2.1, x1.2.2.2.1, x1.2.2.2.2), rfl, hw.weak (some_cons (pickS (pickS (pickS pick0))) (some_cons (pickS (pickS (pickS pick0))) (some_cons (pickS (pickS (pickS pick0))) (some_cons (pickS (pickS (pickS pick0))) some_nil))))⟩
  refine wc_skip ?_
  refine wq_then ?_
  refine wcr ?_
  refine asg rfl rfl ?_
  refine wnt ?_
  refine wc_seq ?_
  refine wcr ?_
  refine wl_pure (po_fld fo_38_3 rfl) rfl ?_
  refine wl_pure (v := (sl v3a)) (po_load_box tk_36 (pickS (pickS pick0)) rfl rfl) rfl ?_
  refine wl_pure (po_lenr (rds_arg r3) el_36 rfl) rfl ?_
  refine wl_pure (po_gtr rfl rfl) rfl ?_
  refine wnt ?_
  refine bdO t0 fun y1 t1 t0 => ?_
  refine wj (J := Int) (X := Unit) (fun z => y1 = z) (fun z _ => [(1, .int .i64 a_number), (2, ptr b1 0), (4, ptr b2 0), (6, ptr b3 0), (7, .int .i64 z)]) (fun _ _ => [box b3 [(sl x1.1), (sl x1.2.1), (sl x1.2.2.1), (sl x1.2.2.2.2), .int .i64 v1.Round, .int .i64 v1.Year], box b2 [(sl (⟨none, 0, 0⟩ : Hd)), (sl (⟨none, 0, 0⟩ : Hd)), (sl (⟨none, 0, 0⟩ : Hd)), (sl (⟨none, 0, 0⟩ : Hd)), .int .i64 0, .int .i64 0], box b1 [(sl v0a), (sl v1a), (sl v2a), (sl v3a), .int .i64 a_g.Round, .int .i64 a_g.Year], ownF (sl x1.1) v1.Members, ownF (sl x1.2.1) v1.Stock, own (sl x1.2.2.1) x1.2.2.2.1 v1.Entries, ownF (sl x1.2.2.2.2) v1.Books]) ?_ ?_
  · skip
    refine wcO t1 rfl (fun h3 t1 => ?_) fun h3 t1 => ?_
    · skip
      refine wc_region ?_
      refine wl_pure (po_fld fo_38_3 rfl) rfl ?_
      refine wl_pure (v := (sl v3a)) (po_load_box tk_36 (pickS (pickS pick0)) rfl rfl) rfl ?_
      refine wl_pure (po_fld fo_38_3 rfl) rfl ?_
      refine wl_pure (v := (sl v3a)) (po_load_box tk_36 (pickS (pickS pick0)) rfl rfl) rfl ?_
      refine wl_pure (po_lenr (rds_arg r3) el_36 rfl) rfl ?_
      refine wl_pure (po_sub rfl rfl) rfl ?_
      refine gdO t1 fun g1 t1 => ?_
      refine wl_pure (po_ixr (rds_arg r3) el_36 rfl rfl g1.1 g1.2) rfl ?_
      refine wl_pure (po_sfldr (rds_arg r3) (ix_lt g1) fo_92_0 rfl) rfl ?_
      refine wl_pure (v := .int .i64 ((gx a_g.Books (((wr (((a_g.Books.length : Nat) : Int) - 1))).toNat)).Day)) (po_ldf (rds_arg r3) tk_3 rfl (ix_lt g1) rfl) rfl ?_
      refine asg rfl rfl ?_
      refine wl_nil ?_
      exact wj_meet _ () (mtE t1) (sub_cons rfl (sub_cons rfl (sub_cons rfl (sub_cons rfl (sub_cons rfl sub_nil))))) (some_cons pick0 (some_cons pick0 (some_cons pick0 (some_cons pick0 (some_cons pick0 (some_cons pick0 (some_cons pick0 some_nil)))))))
    refine wc_skip ?_
    exact wj_meet _ () (mtE t1) (sub_cons rfl (sub_cons rfl (sub_cons rfl (sub_cons rfl (sub_cons rfl sub_nil))))) (some_cons pick0 (some_cons pick0 (some_cons pick0 (some_cons pick0 (some_cons pick0 (some_cons pick0 (some_cons pick0 some_nil)))))))
  intro j2 _ hp
  obtain rfl : j2 = y1 := hp.symm
  refine wq_then ?_
  refine wcr ?_
  refine wl_pure (po_fld fo_38_0 rfl) rfl ?_
  refine wl_pure (v := (sl v0a)) (po_load_box tk_33 (pickS (pickS pick0)) rfl rfl) rfl ?_
  refine mv rfl rfl ?_
  refine wl_pure (po_fld fo_38_5 rfl) rfl ?_
  refine wl_pure (v := .int .i64 a_g.Year) (po_load_box tk_3 (pickS (pickS pick0)) rfl rfl) rfl ?_
  refine bdO t0 fun v3 hv3 t0 => ?_
  refine wl_call (co_c1 fa_77 rfl fun w hw => c_spec_JoinGuild w a_g.Members v0a (Rg.on (rds_arg r0) hw) a_number a_g.Year hv3) rfl fun x4 => ?_
  refine mv rfl rfl ?_
  refine wl_pure (po_extract rfl rfl) rfl ?_
  refine wl_pure (po_extract rfl rfl) rfl ?_
  refine asg rfl rfl ?_
  refine asg rfl rfl ?_
  refine wnt ?_
  refine wcr ?_
  refine mv rfl rfl ?_
  refine mv rfl rfl ?_
  refine bdO t0 fun v4 hv4 t0 => ?_
  refine wl_call (co_c1 fa_78 rfl fun w hw => c_spec_PayDues w v3.1 x4 (Rg.on (rds_own pick0) hw) a_number 1 hv4) rfl fun x5 => ?_
  refine mv rfl rfl ?_
  refine wl_pure (po_extract rfl rfl) rfl ?_
  refine wl_pure (po_extract rfl rfl) rfl ?_
  refine asg rfl rfl ?_
  refine asg rfl rfl ?_
  refine wnt ?_
  refine wcr ?_
  refine wl_pure (po_fld fo_38_3 rfl) rfl ?_
  refine wl_pure (v := (sl v3a)) (po_load_box tk_36 (pickS (pickS (pickS (pickS pick0)))) rfl rfl) rfl ?_
  refine mv rfl rfl ?_
  refine wl_pure (po_build rfl (bd_92_0_1_2_3 j2 0 1 20)) rfl ?_
  refine bdO t0 fun v5 hv5 t0 => ?_
  refine wl_call (co_c1 fa_79 rfl fun w hw => c_spec_BookSum w a_g.Books v3a (Rg.on (rds_arg r3) hw) (GBooking.mk j2 0 1 20) hv5) rfl fun x6 => ?_
  refine mv rfl rfl ?_
  refine wl_pure (po_extract rfl rfl) rfl ?_
  refine wl_pure (po_extract rfl rfl) rfl ?_
  refine asg rfl rfl ?_
  refine asg rfl rfl ?_
  refine wnt ?_
  refine wc_seq ?_
  refine wc_seq ?_
  refine wc_join (X := Unit) (fun _ => True) (fun _ => [(2, ptr b1 0), (4, ptr b2 0), (6, ptr b3 0), (10, (sl x5)), (12, (sl x6)), (71, .bool ((!v3.2) || ((!v4.2) || (!v5.2))))]) (fun _ => [box b3 [(sl x1.1), (sl x1.2.1), (sl x1.2.2.1), (sl x1.2.2.2.2), .int .i64 v1.Round, .int .i64 v1.Year], box b2 [(sl (⟨none, 0, 0⟩ : Hd)), (sl (⟨none, 0, 0⟩ : Hd)), (sl (⟨none, 0, 0⟩ : Hd)), (sl (⟨none, 0, 0⟩ : Hd)), .int .i64 0, .int .i64 0], box b1 [(sl v0a), (sl v1a), (sl v2a), (sl v3a), .int .i64 a_g.Round, .int .i64 a_g.Year], ownF (sl x5) v4.1, ownF (sl x6) v5.1, ownF (sl x1.1) v1.Members, ownF (sl x1.2.1) v1.Stock, own (sl x1.2.2.1) x1.2.2.2.1 v1.Entries, ownF (sl x1.2.2.2.2) v1.Books]) ?_ ?_
  · skip
    refine wc_region ?_
    refine mv rfl rfl ?_
    refine wl_pure (po_not rfl) rfl ?_
    refine mv rfl rfl ?_
    refine wl_fork (t := 64) rfl (fun h4 => ?_) fun h4 => ?_
    · skip
      refine wl_guard_off (j := 2) rfl rfl rfl rfl rfl ?_
      refine wl_guard_off (j := 2) rfl rfl rfl rfl rfl ?_
      refine wl_pure (po_pick_t rfl rfl) rfl ?_
      refine mv rfl rfl ?_
      refine wl_guard_off (j := 6) rfl rfl rfl rfl rfl ?_
      refine wl_guard_off (j := 6) rfl rfl rfl rfl rfl ?_
      refine wl_pure (po_pick_t rfl rfl) rfl ?_
      refine wl_nil ?_
      exact wq_meet () trivial (sub_cons rfl (sub_cons rfl (sub_cons rfl (sub_cons rfl (sub_cons rfl (sub_b rfl (by rw [h4]; rfl) sub_nil)))))) (some_cons (pickS (pickS (pickS pick0))) (some_cons (pickS (pickS (pickS pick0))) (some_cons (pickS (pickS (pickS pick0))) (some_cons (pickS pick0) (some_cons pick0 (some_cons (pickS pick0) (some_cons (pickS pick0) (some_cons (pickS pick0) (some_cons (pickS pick0) some_nil)))))))))
    refine wl_guard_on (j := 2) rfl rfl rfl (mv rfl rfl ?_)
    refine wl_guard_on (j := 2) rfl rfl rfl (wl_pure (po_not rfl) rfl ?_)
    refine wl_pure (po_pick_f rfl rfl) rfl ?_
    refine mv rfl rfl ?_
    refine wl_fork (t := 68) rfl (fun h5 => ?_) fun h5 => ?_
    · skip
      refine wl_guard_off (j := 6) rfl rfl rfl rfl rfl ?_
      refine wl_guard_off (j := 6) rfl rfl rfl rfl rfl ?_
      refine wl_pure (po_pick_t rfl rfl) rfl ?_
      refine wl_nil ?_
      exact wq_meet () trivial (sub_cons rfl (sub_cons rfl (sub_cons rfl (sub_cons rfl (sub_cons rfl (sub_b rfl (by rw [h4, h5]; rfl) sub_nil)))))) (some_cons (pickS (pickS (pickS pick0))) (some_cons (pickS (pickS (pickS pick0))) (some_cons (pickS (pickS (pickS pick0))) (some_cons (pickS pick0) (some_cons pick0 (some_cons (pickS pick0) (some_cons (pickS pick0) (some_cons (pickS pick0) (some_cons (pickS pick0) some_nil)))))))))
    refine wl_guard_on (j := 6) rfl rfl rfl (mv rfl rfl ?_)
    refine wl_guard_on (j := 6) rfl rfl rfl (wl_pure (po_not rfl) rfl ?_)
    refine wl_pure (po_pick_f rfl rfl) rfl ?_
    refine wl_nil ?_
    exact wq_meet () trivial (sub_cons rfl (sub_cons rfl (sub_cons rfl (sub_cons rfl (sub_cons rfl (sub_b rfl (by rw [h4, h5]; rfl) sub_nil)))))) (some_cons (pickS (pickS (pickS pick0))) (some_cons (pickS (pickS (pickS pick0))) (some_cons (pickS (pickS (pickS pick0))) (some_cons (pickS pick0) (some_cons pick0 (some_cons (pickS pick0) (some_cons (pickS pick0) (some_cons (pickS pick0) (some_cons (pickS pick0) some_nil)))))))))
  intro _ _
  refine wq_then ?_
  refine wcO t0 rfl (fun h6 t0 => ?_) fun h6 t0 => ?_
  · skip
    refine wcr ?_
    refine wl_pure (v := .agg #[(sl x1.1), (sl x1.2.1), (sl x1.2.2.1), (sl x1.2.2.2.2), .int .i64 v1.Round, .int .i64 v1.Year]) (po_load_boxs tk_38 pick0 rfl rfl rfl) rfl ?_
    refine wl_skipop (so_box (cs' := [(sl x1.1), (sl x1.2.1), (sl x1.2.2.1), (sl x1.2.2.2.2), .int .i64 v1.Round, .int .i64 v1.Year]) tk_38 (pickS pick0) rfl rfl rfl rfl rfl rfl rfl) ?_
    refine asg rfl rfl ?_
    refine wnt ?_
    refine wc_ret ?_
    refine wq_then_ret ?_
    obtain rfl := Option.some.inj t0
    exact wq_retc1 rfl tk_38 rfl rfl pick0 rfl fun w hw => ⟨(x1.1, x1.2.1, x1.2.2.1, x1.2.2.2.1, x1.2.2.2.2), rfl, hw.weak (some_cons (pickS (pickS (pickS (pickS (pickS pick0))))) (some_cons (pickS (pickS (pickS (pickS (pickS pick0))))) (some_cons (pickS (pickS (pickS (pickS (pickS pick0))))) (some_cons (pickS (pickS (pickS (pickS (pickS pick0))))) some_nil))))⟩
  refine wc_skip ?_
  refine wq_then ?_
  refine wcr ?_
  refine wl_pure (v := .agg #[(sl v0a), (sl v1a), (sl v2a), (sl v3a), .int .i64 a_g.Round, .int .i64 a_g.Year]) (po_load_boxs tk_38 (pickS (pickS pick0)) rfl rfl rfl) rfl ?_
  refine bdO t0 fun v6 hv6 t0 => ?_
  refine wl_call (co_c4 fa_60 rfl fun w hw => c_spec_l38Copy w a_g v0a (Rg.on (rds_arg r0) hw) v1a (Rg.on (rds_arg r1) hw) v2a u2a (Rg.on (rds_arg r2) hw) v3a (Rg.on (rds_arg r3) hw) hv6) rfl fun x8 => ?_
  refine wl_eff (eo_alloc (cs := [(sl (⟨none, 0, 0⟩ : Hd)), (sl (⟨none, 0, 0⟩ : Hd)), (sl (⟨none, 0, 0⟩ : Hd)), (sl (⟨none, 0, 0⟩ : Hd)), .int .i64 0, .int .i64 0]) za_38) rfl fun b4 => ?_
  refine wl_skipop (so_box (cs' := [(sl x8.1), (sl x8.2.1), (sl x8.2.2.1), (sl x8.2.2.2.2), .int .i64 v6.Round, .int .i64 v6.Year]) tk_38 pick0 rfl rfl rfl rfl rfl rfl rfl) ?_
  refine wnt ?_
  refine wcr ?_
  refine mv rfl rfl ?_
  refine wl_pure (po_fld fo_38_0 rfl) rfl ?_
  refine wl_skipop (so_box (cs' := [(sl x5), (sl x8.2.1), (sl x8.2.2.1), (sl x8.2.2.2.2), .int .i64 v6.Round, .int .i64 v6.Year]) tk_33 pick0 rfl rfl rfl rfl rfl rfl rfl) ?_
  refine wnt ?_
  refine wcr ?_
  refine mv rfl rfl ?_
  refine wl_pure (po_fld fo_38_3 rfl) rfl ?_
  refine wl_skipop (so_box (cs' := [(sl x5), (sl x8.2.1), (sl x8.2.2.1), (sl x6), .int .i64 v6.Round, .int .i64 v6.Year]) tk_36 pick0 rfl rfl rfl rfl rfl rfl rfl) ?_
  refine wnt ?_
  refine wc_seq ?_
  refine wcr ?_
  refine wl_pure (v := .agg #[(sl x5), (sl x8.2.1), (sl x8.2.2.1), (sl x6), .int .i64 v6.Round, .int .i64 v6.Year]) (po_load_boxs tk_38 pick0 rfl rfl rfl) rfl ?_
  refine bdO t0 fun v7 hv7 t0 => ?_
  refine wl_call (co_c0 fa_61 rfl fun w hw => c_spec_GuildOk w (GGuild.mk v4.1 v6.Stock v6.Entries v5.1 v6.Round v6.Year) x5 (Rg.on (rds_own (pickS (pickS (pickS (pickS (pickS (pickS (pickS (pickS pick0))))))))) hw) x8.2.1 (Rg.on (rds_own (pickS (pickS pick0))) hw) x8.2.2.1 x8.2.2.2.1 (Rg.on (rds_own (pickS (pickS (pickS pick0)))) hw) x6 (Rg.on (rds_own (pickS (pickS (pickS (pickS (pickS (pickS (pickS (pickS (pickS pick0)))))))))) hw) hv7) rfl fun _ => ?_
  refine wl_pure (po_not rfl) rfl ?_
  refine wnt ?_
  refine wcO t0 rfl (fun h7 t0 => ?_) fun h7 t0 => ?_
  · skip
    refine wcr ?_
    refine wl_pure (v := .agg #[(sl x1.1), (sl x1.2.1), (sl x1.2.2.1), (sl x1.2.2.2.2), .int .i64 v1.Round, .int .i64 v1.Year]) (po_load_boxs tk_38 (pickS (pickS (pickS (pickS (pickS pick0))))) rfl rfl rfl) rfl ?_
    refine wl_skipop (so_box (cs' := [(sl x1.1), (sl x1.2.1), (sl x1.2.2.1), (sl x1.2.2.2.2), .int .i64 v1.Round, .int .i64 v1.Year]) tk_38 (pickS (pickS (pickS (pickS (pickS (pickS pick0)))))) rfl rfl rfl rfl rfl rfl rfl) ?_
    refine asg rfl rfl ?_
    refine wnt ?_
    refine wc_ret ?_
    refine wq_then_ret ?_
    obtain rfl := Option.some.inj t0
    exact wq_retc1 rfl tk_38 rfl rfl pick0 rfl fun w hw => ⟨(x1.1, x1.2.1, x1.2.2.1, x1.2.2.2.1, x1.2.2.2.2), rfl, hw.weak (some_cons (pickS (pickS (pickS (pickS (pickS (pickS (pickS (pickS (pickS (pickS pick0)))))))))) (some_cons (pickS (pickS (pickS (pickS (pickS (pickS (pickS (pickS (pickS (pickS pick0)))))))))) (some_cons (pickS (pickS (pickS (pickS (pickS (pickS (pickS (pickS (pickS (pickS pick0)))))))))) (some_cons (pickS (pickS (pickS (pickS (pickS (pickS (pickS (pickS (pickS (pickS pick0)))))))))) some_nil))))⟩
  refine wc_skip ?_
  refine wq_then ?_
  refine wcr ?_
  refine wl_pure (v := .agg #[(sl x5), (sl x8.2.1), (sl x8.2.2.1), (sl x6), .int .i64 v6.Round, .int .i64 v6.Year]) (po_load_boxs tk_38 pick0 rfl rfl rfl) rfl ?_
  refine wl_skipop (so_box (cs' := [(sl x5), (sl x8.2.1), (sl x8.2.2.1), (sl x6), .int .i64 v6.Round, .int .i64 v6.Year]) tk_38 (pickS (pickS (pickS (pickS (pickS (pickS pick0)))))) rfl rfl rfl rfl rfl rfl rfl) ?_
  refine asg rfl rfl ?_
  refine wnt ?_
  refine wc_ret ?_
  obtain rfl := Option.some.inj t0
  exact wq_retc1 rfl tk_38 rfl rfl pick0 rfl fun w hw => ⟨(x5, x8.2.1, x8.2.2.1, x8.2.2.2.1, x6), rfl, hw.weak (some_cons (pickS (pickS (pickS (pickS (pickS (pickS (pickS (pickS pick0)))))))) (some_cons (pickS (pickS (pickS pick0))) (some_cons (pickS (pickS (pickS pick0))) (some_cons (pickS (pickS (pickS (pickS (pickS (pickS pick0)))))) some_nil))))⟩

theorem c_impl_copyMembers (w : World) (a_list : List GMember) (v0a : Hd) (r0 : rdF w (dm w []) (sl v0a) a_list) {r : List GMember} (t0 : impl_copyMembers a_list = some r) : Calls Try.prog 111 #[(sl v0a)] w fun e w' => ∃ x : Hd, e = .returned ((sl x)) ∧ SH w [] [ownF (sl x) r] w' := by
  refine calls_of_wc (args := [_]) Try.func111 rfl Try.ntmps111 rfl ?_
  unfold impl_copyMembers at t0
  refine wcr ?_
  refine asg rfl rfl ?_
  refine wnt ?_
  refine wcr ?_
  refine wl_eff (eo_buildSlice rfl sb_33_0) rfl fun b1 => ?_
  refine mv rfl rfl ?_
  refine gdO t0 fun g1 t0 => ?_
  refine wl_eff (eo_append (xs := ([] : List GMember)) (ys := a_list) ak_33 (pick_box_own pick0 (n := 0) (xs := ([] : List GMember)) rfl rfl (by unfold maxLen; omega)) rfl rfl (slin_rd fun _ g => Rg.on (rds_arg r0) g) g1) rfl fun x1 => ?_
  refine asg rfl rfl ?_
  refine wnt ?_
  refine wc_ret ?_
  obtain rfl := Option.some.inj t0
  exact wq_ret1 rfl rfl fun w hw => ⟨x1, rfl, hw.weak (some_cons pick0 some_nil)⟩

theorem c_impl_copyOf (w : World) (a_list : List Int) (v0a : Hd) (r0 : rdF w (dm w []) (sl v0a) a_list) {r : List Int} (t0 : impl_copyOf a_list = some r) : Calls Try.prog 112 #[(sl v0a)] w fun e w' => ∃ x : Hd, e = .returned ((sl x)) ∧ SH w [] [ownF (sl x) r] w' := by
  refine calls_of_wc (args := [_]) Try.func112 rfl Try.ntmps112 rfl ?_
  unfold impl_copyOf at t0
  refine wcr ?_
  refine asg rfl rfl ?_
  refine wnt ?_
  refine wcr ?_
  refine wl_eff (eo_buildSlice rfl sb_34_0) rfl fun b1 => ?_
  refine mv rfl rfl ?_
  refine gdO t0 fun g1 t0 => ?_
  refine wl_eff (eo_append (xs := ([] : List Int)) (ys := a_list) ak_34 (pick_box_own pick0 (n := 0) (xs := ([] : List Int)) rfl rfl (by unfold maxLen; omega)) rfl rfl (slin_rd fun _ g => Rg.on (rds_arg r0) g) g1) rfl fun x1 => ?_
  refine asg rfl rfl ?_
  refine wnt ?_
  refine wc_ret ?_
  obtain rfl := Option.some.inj t0
  exact wq_ret1 rfl rfl fun w hw => ⟨x1, rfl, hw.weak (some_cons pick0 some_nil)⟩

theorem c_impl_Block_copied (w : World) (a_b : GBlock) (v0a : Hd) (r0 : rdF w (dm w []) (sl v0a) a_b.Cells) {r : GBlock} (t0 : impl_Block_copied a_b = some r) : Calls Try.prog 113 #[.agg #[.int .i64 a_b.Size, (sl v0a)]] w fun e w' => ∃ x : Hd, e = .returned (.agg #[.int .i64 r.Size, (sl x)]) ∧ SH w [] [ownF (sl x) r.Cells] w' := by
  refine calls_of_wc (args := [_]) Try.func113 rfl Try.ntmps113 rfl ?_
  unfold impl_Block_copied at t0
  refine wcr ?_
  refine wl_eff (eo_box rfl rfl) rfl fun b1 => ?_
  refine wl_eff (eo_alloc (cs := [.int .i64 0, (sl (⟨none, 0, 0⟩ : Hd))]) za_29) rfl fun b2 => ?_
  refine wnt ?_
  refine wc_seq ?_
  refine wc_draw [box b2 [.int .i64 0, (sl (⟨none, 0, 0⟩ : Hd))], box b1 [.int .i64 a_b.Size, (sl v0a)]] 7 mixed ?_
  refine wa_pure 0 rfl (po_fld fo_29_0 rfl) (some_cons pick0 (some_cons pick0 some_nil)) rfl (by kernel_rfl) (fun _ _ _ h => h) ?_
  refine wa_pure (v := .int .i64 a_b.Size) 1 rfl (po_load_box tk_3 (pickS pick0) rfl rfl) (some_cons pick0 (some_cons pick0 some_nil)) rfl (by kernel_rfl) (fun _ _ _ h => h) ?_
  refine wa_pure 3 rfl (po_fld fo_29_1 rfl) (some_cons pick0 (some_cons pick0 some_nil)) rfl (by kernel_rfl) (fun _ _ _ h => h) ?_
  refine wa_pure (v := (sl v0a)) 4 rfl (po_load_box tk_27 (pickS pick0) rfl rfl) (some_cons pick0 (some_cons pick0 some_nil)) rfl (by kernel_rfl) (fun _ _ _ h => h) ?_
  refine wa_1 (i := 2) (by kernel_rfl) ?_
  refine ws_eff rfl (eo_buildSlice rfl sb_27_0) (fun _ => (sts_some (some_cons (pickS pick0) (some_cons (pickS pick0) some_nil)))) rfl fun b3 => ?_
  refine wa_1 (i := 5) (by kernel_rfl) ?_
  refine gdO t0 fun g1 t0 => ?_
  refine ws_eff rfl (eo_append (xs := ([] : List GCell)) (ys := a_b.Cells) ak_27 (pick_box_own pick0 (n := 0) (xs := ([] : List GCell)) rfl rfl (by unfold maxLen; omega)) rfl rfl (slin_rd fun _ g => Rg.on (rds_arg r0) g) g1) (fun _ => (sts_some (some_cons (pickS pick0) (some_cons (pickS pick0) some_nil)))) rfl fun x1 => ?_
  refine wa_pure 6 rfl (po_build rfl (bd_29_0_1 a_b.Size x1)) (some_cons (pickS pick0) (some_cons (pickS pick0) some_nil)) rfl (by kernel_rfl) (fun _ _ _ h => h) ?_
  refine wa_1 (i := 7) (by kernel_rfl) ?_
  refine ws_skipop rfl (so_box (cs' := [.int .i64 a_b.Size, (sl x1)]) tk_29 (pickS pick0) rfl rfl rfl rfl rfl rfl rfl) (sts_past (by kernel_rfl)) ?_
  refine wa_done (by kernel_rfl) ?_
  refine wq_then ?_
  refine wc_ret ?_
  obtain rfl := Option.some.inj t0
  exact wq_retc rfl tk_29 rfl pick0 rfl fun w hw => ⟨x1, rfl, hw.weak (some_cons (pickS pick0) some_nil)⟩

theorem c_impl_Guild_copied (w : World) (a_g : GGuild) (v0a : Hd) (r0 : rdF w (dm w []) (sl v0a) a_g.Members) (v1a : Hd) (r1 : rdF w (dm w []) (sl v1a) a_g.Stock) (v2a : Hd) (u2a : List Value) (r2 : RdL w (dm w []) (sl v2a) u2a a_g.Entries) (v3a : Hd) (r3 : rdF w (dm w []) (sl v3a) a_g.Books) {r : GGuild} (t0 : impl_Guild_copied a_g = some r) : Calls Try.prog 66 #[.agg #[(sl v0a), (sl v1a), (sl v2a), (sl v3a), .int .i64 a_g.Round, .int .i64 a_g.Year]] w fun e w' => ∃ x : Hd × Hd × Hd × (List Value) × Hd, e = .returned (.agg #[(sl x.1), (sl x.2.1), (sl x.2.2.1), (sl x.2.2.2.2), .int .i64 r.Round, .int .i64 r.Year]) ∧ SH w [] [ownF (sl x.1) r.Members, ownF (sl x.2.1) r.Stock, own (sl x.2.2.1) x.2.2.2.1 r.Entries, ownF (sl x.2.2.2.2) r.Books] w' := by
  refine calls_of_wc (args := [_]) Try.func66 rfl Try.ntmps66 rfl ?_
  unfold impl_Guild_copied at t0
  refine wcr ?_
  refine wl_eff (eo_box rfl rfl) rfl fun b1 => ?_
  refine wl_eff (eo_alloc (cs := [(sl (⟨none, 0, 0⟩ : Hd)), (sl (⟨none, 0, 0⟩ : Hd)), (sl (⟨none, 0, 0⟩ : Hd)), (sl (⟨none, 0, 0⟩ : Hd)), .int .i64 0, .int .i64 0]) za_38) rfl fun b2 => ?_
  refine wnt ?_
  refine wc_seq ?_
  refine bdO t0 fun v1 hv1 t0 => ?_
  refine bdO t0 fun v2 hv2 t0 => ?_
  refine gdO t0 fun g1 t0 => ?_
  refine wc_join (X := Nat × Hd × Hd × Hd) (fun _ => True) (fun z => [(1, ptr b1 0), (2, ptr b2 0), (3, ptr z.1 0)]) (fun z => [box z.1 [(sl z.2.1), (sl z.2.2.1), (sl (⟨none, 0, 0⟩ : Hd)), (sl z.2.2.2), .int .i64 a_g.Round, .int .i64 a_g.Year], ownF (sl z.2.2.2) (([] : List GBooking) ++ a_g.Books), ownF (sl z.2.2.1) v2, ownF (sl z.2.1) v1, box b2 [(sl (⟨none, 0, 0⟩ : Hd)), (sl (⟨none, 0, 0⟩ : Hd)), (sl (⟨none, 0, 0⟩ : Hd)), (sl (⟨none, 0, 0⟩ : Hd)), .int .i64 0, .int .i64 0], box b1 [(sl v0a), (sl v1a), (sl v2a), (sl v3a), .int .i64 a_g.Round, .int .i64 a_g.Year]]) ?_ ?_
  · skip
    refine wc_draw [box b2 [(sl (⟨none, 0, 0⟩ : Hd)), (sl (⟨none, 0, 0⟩ : Hd)), (sl (⟨none, 0, 0⟩ : Hd)), (sl (⟨none, 0, 0⟩ : Hd)), .int .i64 0, .int .i64 0], box b1 [(sl v0a), (sl v1a), (sl v2a), (sl v3a), .int .i64 a_g.Round, .int .i64 a_g.Year]] 16 mixed ?_
    refine wa_dag [⟨7, #[true, true, false, true, true, false, false, true, true, false, true, true, true, true, false, false, false], Unit, fun _ => [(1, ptr b1 0), (2, ptr b2 0), (7, (sl v0a)), (10, (sl v1a)), (14, (sl v3a)), (17, .int .i64 a_g.Round), (19, .int .i64 a_g.Year)], fun _ => [box b2 [(sl (⟨none, 0, 0⟩ : Hd)), (sl (⟨none, 0, 0⟩ : Hd)), (sl (⟨none, 0, 0⟩ : Hd)), (sl (⟨none, 0, 0⟩ : Hd)), .int .i64 0, .int .i64 0], box b1 [(sl v0a), (sl v1a), (sl v2a), (sl v3a), .int .i64 a_g.Round, .int .i64 a_g.Year]]⟩,
      ⟨6, #[true, true, true, true, true, false, false, true, true, false, true, true, true, true, false, false, false], Hd, fun z => [(1, ptr b1 0), (2, ptr b2 0), (8, (sl z)), (10, (sl v1a)), (14, (sl v3a)), (17, .int .i64 a_g.Round), (19, .int .i64 a_g.Year)], fun z => [ownF (sl z) v1, box b2 [(sl (⟨none, 0, 0⟩ : Hd)), (sl (⟨none, 0, 0⟩ : Hd)), (sl (⟨none, 0, 0⟩ : Hd)), (sl (⟨none, 0, 0⟩ : Hd)), .int .i64 0, .int .i64 0], box b1 [(sl v0a), (sl v1a), (sl v2a), (sl v3a), .int .i64 a_g.Round, .int .i64 a_g.Year]]⟩,
      ⟨6, #[true, true, false, true, true, false, true, true, true, false, true, true, true, true, false, false, false], Nat, fun z => [(1, ptr b1 0), (2, ptr b2 0), (7, (sl v0a)), (10, (sl v1a)), (12, (sl (⟨some ⟨z, 0, none⟩, 0, 0⟩ : Hd))), (14, (sl v3a)), (17, .int .i64 a_g.Round), (19, .int .i64 a_g.Year)], fun z => [box z [], box b2 [(sl (⟨none, 0, 0⟩ : Hd)), (sl (⟨none, 0, 0⟩ : Hd)), (sl (⟨none, 0, 0⟩ : Hd)), (sl (⟨none, 0, 0⟩ : Hd)), .int .i64 0, .int .i64 0], box b1 [(sl v0a), (sl v1a), (sl v2a), (sl v3a), .int .i64 a_g.Round, .int .i64 a_g.Year]]⟩,
      ⟨6, #[true, true, false, true, true, false, false, true, true, false, true, true, true, true, false, true, false], Nat, fun z => [(1, ptr b1 0), (2, ptr b2 0), (3, ptr z 0), (7, (sl v0a)), (10, (sl v1a)), (14, (sl v3a)), (17, .int .i64 a_g.Round), (19, .int .i64 a_g.Year)], fun z => [box z [(sl (⟨none, 0, 0⟩ : Hd)), (sl (⟨none, 0, 0⟩ : Hd)), (sl (⟨none, 0, 0⟩ : Hd)), (sl (⟨none, 0, 0⟩ : Hd)), .int .i64 0, .int .i64 0], box b2 [(sl (⟨none, 0, 0⟩ : Hd)), (sl (⟨none, 0, 0⟩ : Hd)), (sl (⟨none, 0, 0⟩ : Hd)), (sl (⟨none, 0, 0⟩ : Hd)), .int .i64 0, .int .i64 0], box b1 [(sl v0a), (sl v1a), (sl v2a), (sl v3a), .int .i64 a_g.Round, .int .i64 a_g.Year]]⟩,
      ⟨5, #[true, true, true, true, true, true, false, true, true, false, true, true, true, true, false, false, false], Hd × Hd, fun z => [(1, ptr b1 0), (2, ptr b2 0), (8, (sl z.1)), (11, (sl z.2)), (14, (sl v3a)), (17, .int .i64 a_g.Round), (19, .int .i64 a_g.Year)], fun z => [ownF (sl z.2) v2, ownF (sl z.1) v1, box b2 [(sl (⟨none, 0, 0⟩ : Hd)), (sl (⟨none, 0, 0⟩ : Hd)), (sl (⟨none, 0, 0⟩ : Hd)), (sl (⟨none, 0, 0⟩ : Hd)), .int .i64 0, .int .i64 0], box b1 [(sl v0a), (sl v1a), (sl v2a), (sl v3a), .int .i64 a_g.Round, .int .i64 a_g.Year]]⟩,
      ⟨5, #[true, true, true, true, true, false, true, true, true, false, true, true, true, true, false, false, false], Hd × Nat, fun z => [(1, ptr b1 0), (2, ptr b2 0), (8, (sl z.1)), (10, (sl v1a)), (12, (sl (⟨some ⟨z.2, 0, none⟩, 0, 0⟩ : Hd))), (14, (sl v3a)), (17, .int .i64 a_g.Round), (19, .int .i64 a_g.Year)], fun z => [box z.2 [], ownF (sl z.1) v1, box b2 [(sl (⟨none, 0, 0⟩ : Hd)), (sl (⟨none, 0, 0⟩ : Hd)), (sl (⟨none, 0, 0⟩ : Hd)), (sl (⟨none, 0, 0⟩ : Hd)), .int .i64 0, .int .i64 0], box b1 [(sl v0a), (sl v1a), (sl v2a), (sl v3a), .int .i64 a_g.Round, .int .i64 a_g.Year]]⟩,
      ⟨5, #[true, true, true, true, true, false, false, true, true, false, true, true, true, true, false, true, false], Nat × Hd, fun z => [(1, ptr b1 0), (2, ptr b2 0), (3, ptr z.1 0), (8, (sl z.2)), (10, (sl v1a)), (14, (sl v3a)), (17, .int .i64 a_g.Round), (19, .int .i64 a_g.Year)], fun z => [box z.1 [(sl (⟨none, 0, 0⟩ : Hd)), (sl (⟨none, 0, 0⟩ : Hd)), (sl (⟨none, 0, 0⟩ : Hd)), (sl (⟨none, 0, 0⟩ : Hd)), .int .i64 0, .int .i64 0], ownF (sl z.2) v1, box b2 [(sl (⟨none, 0, 0⟩ : Hd)), (sl (⟨none, 0, 0⟩ : Hd)), (sl (⟨none, 0, 0⟩ : Hd)), (sl (⟨none, 0, 0⟩ : Hd)), .int .i64 0, .int .i64 0], box b1 [(sl v0a), (sl v1a), (sl v2a), (sl v3a), .int .i64 a_g.Round, .int .i64 a_g.Year]]⟩,
      ⟨5, #[true, true, false, true, true, false, true, true, true, false, true, true, true, true, false, true, false], Nat × Nat, fun z => [(1, ptr b1 0), (2, ptr b2 0), (3, ptr z.1 0), (7, (sl v0a)), (10, (sl v1a)), (12, (sl (⟨some ⟨z.2, 0, none⟩, 0, 0⟩ : Hd))), (14, (sl v3a)), (17, .int .i64 a_g.Round), (19, .int .i64 a_g.Year)], fun z => [box z.1 [(sl (⟨none, 0, 0⟩ : Hd)), (sl (⟨none, 0, 0⟩ : Hd)), (sl (⟨none, 0, 0⟩ : Hd)), (sl (⟨none, 0, 0⟩ : Hd)), .int .i64 0, .int .i64 0], box z.2 [], box b2 [(sl (⟨none, 0, 0⟩ : Hd)), (sl (⟨none, 0, 0⟩ : Hd)), (sl (⟨none, 0, 0⟩ : Hd)), (sl (⟨none, 0, 0⟩ : Hd)), .int .i64 0, .int .i64 0], box b1 [(sl v0a), (sl v1a), (sl v2a), (sl v3a), .int .i64 a_g.Round, .int .i64 a_g.Year]]⟩,
      ⟨4, #[true, true, true, true, true, true, true, true, true, false, true, true, true, true, false, false, false], Hd × Hd × Nat, fun z => [(1, ptr b1 0), (2, ptr b2 0), (8, (sl z.1)), (11, (sl z.2.1)), (12, (sl (⟨some ⟨z.2.2, 0, none⟩, 0, 0⟩ : Hd))), (14, (sl v3a)), (17, .int .i64 a_g.Round), (19, .int .i64 a_g.Year)], fun z => [box z.2.2 [], ownF (sl z.2.1) v2, ownF (sl z.1) v1, box b2 [(sl (⟨none, 0, 0⟩ : Hd)), (sl (⟨none, 0, 0⟩ : Hd)), (sl (⟨none, 0, 0⟩ : Hd)), (sl (⟨none, 0, 0⟩ : Hd)), .int .i64 0, .int .i64 0], box b1 [(sl v0a), (sl v1a), (sl v2a), (sl v3a), .int .i64 a_g.Round, .int .i64 a_g.Year]]⟩,
      ⟨4, #[true, true, true, true, true, true, false, true, true, false, true, true, true, true, false, true, false], Nat × Hd × Hd, fun z => [(1, ptr b1 0), (2, ptr b2 0), (3, ptr z.1 0), (8, (sl z.2.1)), (11, (sl z.2.2)), (14, (sl v3a)), (17, .int .i64 a_g.Round), (19, .int .i64 a_g.Year)], fun z => [box z.1 [(sl (⟨none, 0, 0⟩ : Hd)), (sl (⟨none, 0, 0⟩ : Hd)), (sl (⟨none, 0, 0⟩ : Hd)), (sl (⟨none, 0, 0⟩ : Hd)), .int .i64 0, .int .i64 0], ownF (sl z.2.2) v2, ownF (sl z.2.1) v1, box b2 [(sl (⟨none, 0, 0⟩ : Hd)), (sl (⟨none, 0, 0⟩ : Hd)), (sl (⟨none, 0, 0⟩ : Hd)), (sl (⟨none, 0, 0⟩ : Hd)), .int .i64 0, .int .i64 0], box b1 [(sl v0a), (sl v1a), (sl v2a), (sl v3a), .int .i64 a_g.Round, .int .i64 a_g.Year]]⟩,
      ⟨4, #[true, true, true, true, true, false, true, true, true, false, true, true, true, true, false, true, false], Nat × Hd × Nat, fun z => [(1, ptr b1 0), (2, ptr b2 0), (3, ptr z.1 0), (8, (sl z.2.1)), (10, (sl v1a)), (12, (sl (⟨some ⟨z.2.2, 0, none⟩, 0, 0⟩ : Hd))), (14, (sl v3a)), (17, .int .i64 a_g.Round), (19, .int .i64 a_g.Year)], fun z => [box z.1 [(sl (⟨none, 0, 0⟩ : Hd)), (sl (⟨none, 0, 0⟩ : Hd)), (sl (⟨none, 0, 0⟩ : Hd)), (sl (⟨none, 0, 0⟩ : Hd)), .int .i64 0, .int .i64 0], box z.2.2 [], ownF (sl z.2.1) v1, box b2 [(sl (⟨none, 0, 0⟩ : Hd)), (sl (⟨none, 0, 0⟩ : Hd)), (sl (⟨none, 0, 0⟩ : Hd)), (sl (⟨none, 0, 0⟩ : Hd)), .int .i64 0, .int .i64 0], box b1 [(sl v0a), (sl v1a), (sl v2a), (sl v3a), .int .i64 a_g.Round, .int .i64 a_g.Year]]⟩,
      ⟨2, #[true, true, true, true, true, true, true, true, true, true, true, true, true, true, true, false, false], Hd × Hd × Hd, fun z => [(1, ptr b1 0), (2, ptr b2 0), (20, .agg #[(sl z.1), (sl z.2.1), (sl (⟨none, 0, 0⟩ : Hd)), (sl z.2.2), .int .i64 a_g.Round, .int .i64 a_g.Year])], fun z => [ownF (sl z.2.2) (([] : List GBooking) ++ a_g.Books), ownF (sl z.2.1) v2, ownF (sl z.1) v1, box b2 [(sl (⟨none, 0, 0⟩ : Hd)), (sl (⟨none, 0, 0⟩ : Hd)), (sl (⟨none, 0, 0⟩ : Hd)), (sl (⟨none, 0, 0⟩ : Hd)), .int .i64 0, .int .i64 0], box b1 [(sl v0a), (sl v1a), (sl v2a), (sl v3a), .int .i64 a_g.Round, .int .i64 a_g.Year]]⟩,
      ⟨3, #[true, true, true, true, true, true, true, true, true, false, true, true, true, true, false, true, false], Nat × Hd × Hd × Nat, fun z => [(1, ptr b1 0), (2, ptr b2 0), (3, ptr z.1 0), (8, (sl z.2.1)), (11, (sl z.2.2.1)), (12, (sl (⟨some ⟨z.2.2.2, 0, none⟩, 0, 0⟩ : Hd))), (14, (sl v3a)), (17, .int .i64 a_g.Round), (19, .int .i64 a_g.Year)], fun z => [box z.1 [(sl (⟨none, 0, 0⟩ : Hd)), (sl (⟨none, 0, 0⟩ : Hd)), (sl (⟨none, 0, 0⟩ : Hd)), (sl (⟨none, 0, 0⟩ : Hd)), .int .i64 0, .int .i64 0], box z.2.2.2 [], ownF (sl z.2.2.1) v2, ownF (sl z.2.1) v1, box b2 [(sl (⟨none, 0, 0⟩ : Hd)), (sl (⟨none, 0, 0⟩ : Hd)), (sl (⟨none, 0, 0⟩ : Hd)), (sl (⟨none, 0, 0⟩ : Hd)), .int .i64 0, .int .i64 0], box b1 [(sl v0a), (sl v1a), (sl v2a), (sl v3a), .int .i64 a_g.Round, .int .i64 a_g.Year]]⟩,
      ⟨1, #[true, true, true, true, true, true, true, true, true, true, true, true, true, true, true, true, false], Nat × Hd × Hd × Hd, fun z => [(1, ptr b1 0), (2, ptr b2 0), (3, ptr z.1 0), (20, .agg #[(sl z.2.1), (sl z.2.2.1), (sl (⟨none, 0, 0⟩ : Hd)), (sl z.2.2.2), .int .i64 a_g.Round, .int .i64 a_g.Year])], fun z => [box z.1 [(sl (⟨none, 0, 0⟩ : Hd)), (sl (⟨none, 0, 0⟩ : Hd)), (sl (⟨none, 0, 0⟩ : Hd)), (sl (⟨none, 0, 0⟩ : Hd)), .int .i64 0, .int .i64 0], ownF (sl z.2.2.2) (([] : List GBooking) ++ a_g.Books), ownF (sl z.2.2.1) v2, ownF (sl z.2.1) v1, box b2 [(sl (⟨none, 0, 0⟩ : Hd)), (sl (⟨none, 0, 0⟩ : Hd)), (sl (⟨none, 0, 0⟩ : Hd)), (sl (⟨none, 0, 0⟩ : Hd)), .int .i64 0, .int .i64 0], box b1 [(sl v0a), (sl v1a), (sl v2a), (sl v3a), .int .i64 a_g.Round, .int .i64 a_g.Year]]⟩] ?_ fun H => ?_
    · skip
      refine List.forall_mem_cons.2 ⟨fun H => ?_, ?_⟩
      · skip
        intro _
        dsimp only
        refine wa_3 (i := 2) (j := 6) (k := 15) (by kernel_rfl) ?_ ?_ ?_
        · skip
          refine ws_call rfl (co_c1 fa_111 rfl fun w hw => c_impl_copyMembers w a_g.Members v0a (Rg.on (rds_arg r0) hw) hv1) (fun _ => (sts_some (some_cons (pickS pick0) (some_cons (pickS pick0) some_nil)))) rfl fun x2o => ?_
          exact wa_jump H 1 rfl (Nat.le_of_ble_eq_true rfl) x2o rfl rfl (sub_cons rfl (sub_cons rfl (sub_cons rfl (sub_cons rfl (sub_cons rfl (sub_cons rfl (sub_cons rfl sub_nil))))))) (some_cons pick0 (some_cons pick0 (some_cons pick0 some_nil)))
        · skip
          refine ws_eff rfl (eo_buildSlice rfl sb_36_0) (fun _ => (sts_some (some_cons (pickS pick0) (some_cons (pickS pick0) some_nil)))) rfl fun b6o => ?_
          exact wa_jump H 2 rfl (Nat.le_of_ble_eq_true rfl) b6o rfl rfl (sub_cons rfl (sub_cons rfl (sub_cons rfl (sub_cons rfl (sub_cons rfl (sub_cons rfl (sub_cons rfl (sub_cons rfl sub_nil)))))))) (some_cons pick0 (some_cons pick0 (some_cons pick0 some_nil)))
        refine ws_eff rfl (eo_alloc (cs := [(sl (⟨none, 0, 0⟩ : Hd)), (sl (⟨none, 0, 0⟩ : Hd)), (sl (⟨none, 0, 0⟩ : Hd)), (sl (⟨none, 0, 0⟩ : Hd)), .int .i64 0, .int .i64 0]) za_38) (fun _ => (sts_some (some_cons (pickS pick0) (some_cons (pickS pick0) some_nil)))) rfl fun b15o => ?_
        exact wa_jump H 3 rfl (Nat.le_of_ble_eq_true rfl) b15o rfl rfl (sub_cons rfl (sub_cons rfl (sub_cons rfl (sub_cons rfl (sub_cons rfl (sub_cons rfl (sub_cons rfl (sub_cons rfl sub_nil)))))))) (some_cons pick0 (some_cons pick0 (some_cons pick0 some_nil)))
      refine List.forall_mem_cons.2 ⟨fun H => ?_, ?_⟩
      · skip
        intro z
        dsimp only
        refine wa_3 (i := 5) (j := 6) (k := 15) (by kernel_rfl) ?_ ?_ ?_
        · skip
          refine ws_call rfl (co_c1 fa_112 rfl fun w hw => c_impl_copyOf w a_g.Stock v1a (Rg.on (rds_arg r1) hw) hv2) (fun _ => (sts_some (some_cons (pickS (pickS pick0)) (some_cons (pickS (pickS pick0)) some_nil)))) rfl fun x5o => ?_
          exact wa_jump H 4 rfl (Nat.le_of_ble_eq_true rfl) (z, x5o) rfl rfl (sub_cons rfl (sub_cons rfl (sub_cons rfl (sub_cons rfl (sub_cons rfl (sub_cons rfl (sub_cons rfl sub_nil))))))) (some_cons pick0 (some_cons pick0 (some_cons pick0 (some_cons pick0 some_nil))))
        · skip
          refine ws_eff rfl (eo_buildSlice rfl sb_36_0) (fun _ => (sts_some (some_cons (pickS (pickS pick0)) (some_cons (pickS (pickS pick0)) some_nil)))) rfl fun b6o => ?_
          exact wa_jump H 5 rfl (Nat.le_of_ble_eq_true rfl) (z, b6o) rfl rfl (sub_cons rfl (sub_cons rfl (sub_cons rfl (sub_cons rfl (sub_cons rfl (sub_cons rfl (sub_cons rfl (sub_cons rfl sub_nil)))))))) (some_cons pick0 (some_cons pick0 (some_cons pick0 (some_cons pick0 some_nil))))
        refine ws_eff rfl (eo_alloc (cs := [(sl (⟨none, 0, 0⟩ : Hd)), (sl (⟨none, 0, 0⟩ : Hd)), (sl (⟨none, 0, 0⟩ : Hd)), (sl (⟨none, 0, 0⟩ : Hd)), .int .i64 0, .int .i64 0]) za_38) (fun _ => (sts_some (some_cons (pickS (pickS pick0)) (some_cons (pickS (pickS pick0)) some_nil)))) rfl fun b15o => ?_
        exact wa_jump H 6 rfl (Nat.le_of_ble_eq_true rfl) (b15o, z) rfl rfl (sub_cons rfl (sub_cons rfl (sub_cons rfl (sub_cons rfl (sub_cons rfl (sub_cons rfl (sub_cons rfl (sub_cons rfl sub_nil)))))))) (some_cons pick0 (some_cons pick0 (some_cons pick0 (some_cons pick0 some_nil))))
      refine List.forall_mem_cons.2 ⟨fun H => ?_, ?_⟩
      · skip
        intro z
        dsimp only
        refine wa_2 (i := 2) (j := 15) (by kernel_rfl) ?_ ?_
        · skip
          refine ws_call rfl (co_c1 fa_111 rfl fun w hw => c_impl_copyMembers w a_g.Members v0a (Rg.on (rds_arg r0) hw) hv1) (fun _ => (sts_some (some_cons (pickS (pickS pick0)) (some_cons (pickS (pickS pick0)) some_nil)))) rfl fun x2o => ?_
          exact wa_jump H 5 rfl (Nat.le_of_ble_eq_true rfl) (x2o, z) rfl rfl (sub_cons rfl (sub_cons rfl (sub_cons rfl (sub_cons rfl (sub_cons rfl (sub_cons rfl (sub_cons rfl (sub_cons rfl sub_nil)))))))) (some_cons (pickS pick0) (some_cons pick0 (some_cons pick0 (some_cons pick0 some_nil))))
        refine ws_eff rfl (eo_alloc (cs := [(sl (⟨none, 0, 0⟩ : Hd)), (sl (⟨none, 0, 0⟩ : Hd)), (sl (⟨none, 0, 0⟩ : Hd)), (sl (⟨none, 0, 0⟩ : Hd)), .int .i64 0, .int .i64 0]) za_38) (fun _ => (sts_some (some_cons (pickS (pickS pick0)) (some_cons (pickS (pickS pick0)) some_nil)))) rfl fun b15o => ?_
        exact wa_jump H 7 rfl (Nat.le_of_ble_eq_true rfl) (b15o, z) rfl rfl (sub_cons rfl (sub_cons rfl (sub_cons rfl (sub_cons rfl (sub_cons rfl (sub_cons rfl (sub_cons rfl (sub_cons rfl (sub_cons rfl sub_nil))))))))) (some_cons pick0 (some_cons pick0 (some_cons pick0 (some_cons pick0 some_nil))))
      refine List.forall_mem_cons.2 ⟨fun H => ?_, ?_⟩
      · skip
        intro z
        dsimp only
        refine wa_2 (i := 2) (j := 6) (by kernel_rfl) ?_ ?_
        · skip
          refine ws_call rfl (co_c1 fa_111 rfl fun w hw => c_impl_copyMembers w a_g.Members v0a (Rg.on (rds_arg r0) hw) hv1) (fun _ => (sts_some (some_cons (pickS (pickS pick0)) (some_cons (pickS (pickS pick0)) some_nil)))) rfl fun x2o => ?_
          exact wa_jump H 6 rfl (Nat.le_of_ble_eq_true rfl) (z, x2o) rfl rfl (sub_cons rfl (sub_cons rfl (sub_cons rfl (sub_cons rfl (sub_cons rfl (sub_cons rfl (sub_cons rfl (sub_cons rfl sub_nil)))))))) (some_cons (pickS pick0) (some_cons pick0 (some_cons pick0 (some_cons pick0 some_nil))))
        refine ws_eff rfl (eo_buildSlice rfl sb_36_0) (fun _ => (sts_some (some_cons (pickS (pickS pick0)) (some_cons (pickS (pickS pick0)) some_nil)))) rfl fun b6o => ?_
        exact wa_jump H 7 rfl (Nat.le_of_ble_eq_true rfl) (z, b6o) rfl rfl (sub_cons rfl (sub_cons rfl (sub_cons rfl (sub_cons rfl (sub_cons rfl (sub_cons rfl (sub_cons rfl (sub_cons rfl (sub_cons rfl sub_nil))))))))) (some_cons (pickS pick0) (some_cons pick0 (some_cons pick0 (some_cons pick0 some_nil))))
      refine List.forall_mem_cons.2 ⟨fun H => ?_, ?_⟩
      · skip
        intro z
        dsimp only
        refine wa_2 (i := 6) (j := 15) (by kernel_rfl) ?_ ?_
        · skip
          refine ws_eff rfl (eo_buildSlice rfl sb_36_0) (fun _ => (sts_some (some_cons (pickS (pickS (pickS pick0))) (some_cons (pickS (pickS (pickS pick0))) some_nil)))) rfl fun b6o => ?_
          exact wa_jump H 8 rfl (Nat.le_of_ble_eq_true rfl) (z.1, z.2, b6o) rfl rfl (sub_cons rfl (sub_cons rfl (sub_cons rfl (sub_cons rfl (sub_cons rfl (sub_cons rfl (sub_cons rfl (sub_cons rfl sub_nil)))))))) (some_cons pick0 (some_cons pick0 (some_cons pick0 (some_cons pick0 (some_cons pick0 some_nil)))))
        refine ws_eff rfl (eo_alloc (cs := [(sl (⟨none, 0, 0⟩ : Hd)), (sl (⟨none, 0, 0⟩ : Hd)), (sl (⟨none, 0, 0⟩ : Hd)), (sl (⟨none, 0, 0⟩ : Hd)), .int .i64 0, .int .i64 0]) za_38) (fun _ => (sts_some (some_cons (pickS (pickS (pickS pick0))) (some_cons (pickS (pickS (pickS pick0))) some_nil)))) rfl fun b15o => ?_
        exact wa_jump H 9 rfl (Nat.le_of_ble_eq_true rfl) (b15o, z.1, z.2) rfl rfl (sub_cons rfl (sub_cons rfl (sub_cons rfl (sub_cons rfl (sub_cons rfl (sub_cons rfl (sub_cons rfl (sub_cons rfl sub_nil)))))))) (some_cons pick0 (some_cons pick0 (some_cons pick0 (some_cons pick0 (some_cons pick0 some_nil)))))
      refine List.forall_mem_cons.2 ⟨fun H => ?_, ?_⟩
      · skip
        intro z
        dsimp only
        refine wa_2 (i := 5) (j := 15) (by kernel_rfl) ?_ ?_
        · skip
          refine ws_call rfl (co_c1 fa_112 rfl fun w hw => c_impl_copyOf w a_g.Stock v1a (Rg.on (rds_arg r1) hw) hv2) (fun _ => (sts_some (some_cons (pickS (pickS (pickS pick0))) (some_cons (pickS (pickS (pickS pick0))) some_nil)))) rfl fun x5o => ?_
          exact wa_jump H 8 rfl (Nat.le_of_ble_eq_true rfl) (z.1, x5o, z.2) rfl rfl (sub_cons rfl (sub_cons rfl (sub_cons rfl (sub_cons rfl (sub_cons rfl (sub_cons rfl (sub_cons rfl (sub_cons rfl sub_nil)))))))) (some_cons (pickS pick0) (some_cons pick0 (some_cons pick0 (some_cons pick0 (some_cons pick0 some_nil)))))
        refine ws_eff rfl (eo_alloc (cs := [(sl (⟨none, 0, 0⟩ : Hd)), (sl (⟨none, 0, 0⟩ : Hd)), (sl (⟨none, 0, 0⟩ : Hd)), (sl (⟨none, 0, 0⟩ : Hd)), .int .i64 0, .int .i64 0]) za_38) (fun _ => (sts_some (some_cons (pickS (pickS (pickS pick0))) (some_cons (pickS (pickS (pickS pick0))) some_nil)))) rfl fun b15o => ?_
        exact wa_jump H 10 rfl (Nat.le_of_ble_eq_true rfl) (b15o, z.1, z.2) rfl rfl (sub_cons rfl (sub_cons rfl (sub_cons rfl (sub_cons rfl (sub_cons rfl (sub_cons rfl (sub_cons rfl (sub_cons rfl (sub_cons rfl sub_nil))))))))) (some_cons pick0 (some_cons pick0 (some_cons pick0 (some_cons pick0 (some_cons pick0 some_nil)))))
      refine List.forall_mem_cons.2 ⟨fun H => ?_, ?_⟩
      · skip
        intro z
        dsimp only
        refine wa_2 (i := 5) (j := 6) (by kernel_rfl) ?_ ?_
        · skip
          refine ws_call rfl (co_c1 fa_112 rfl fun w hw => c_impl_copyOf w a_g.Stock v1a (Rg.on (rds_arg r1) hw) hv2) (fun _ => (sts_some (some_cons (pickS (pickS (pickS pick0))) (some_cons (pickS (pickS (pickS pick0))) some_nil)))) rfl fun x5o => ?_
          exact wa_jump H 9 rfl (Nat.le_of_ble_eq_true rfl) (z.1, z.2, x5o) rfl rfl (sub_cons rfl (sub_cons rfl (sub_cons rfl (sub_cons rfl (sub_cons rfl (sub_cons rfl (sub_cons rfl (sub_cons rfl sub_nil)))))))) (some_cons (pickS pick0) (some_cons pick0 (some_cons pick0 (some_cons pick0 (some_cons pick0 some_nil)))))
        refine ws_eff rfl (eo_buildSlice rfl sb_36_0) (fun _ => (sts_some (some_cons (pickS (pickS (pickS pick0))) (some_cons (pickS (pickS (pickS pick0))) some_nil)))) rfl fun b6o => ?_
        exact wa_jump H 10 rfl (Nat.le_of_ble_eq_true rfl) (z.1, z.2, b6o) rfl rfl (sub_cons rfl (sub_cons rfl (sub_cons rfl (sub_cons rfl (sub_cons rfl (sub_cons rfl (sub_cons rfl (sub_cons rfl (sub_cons rfl sub_nil))))))))) (some_cons (pickS pick0) (some_cons pick0 (some_cons pick0 (some_cons pick0 (some_cons pick0 some_nil)))))
      refine List.forall_mem_cons.2 ⟨fun H => ?_, ?_⟩
      · skip
        intro z
        dsimp only
        refine wa_1 (i := 2) (by kernel_rfl) ?_
        refine ws_call rfl (co_c1 fa_111 rfl fun w hw => c_impl_copyMembers w a_g.Members v0a (Rg.on (rds_arg r0) hw) hv1) (fun _ => (sts_some (some_cons (pickS (pickS (pickS pick0))) (some_cons (pickS (pickS (pickS pick0))) some_nil)))) rfl fun x2o => ?_
        exact wa_jump H 10 rfl (Nat.le_of_ble_eq_true rfl) (z.1, x2o, z.2) rfl rfl (sub_cons rfl (sub_cons rfl (sub_cons rfl (sub_cons rfl (sub_cons rfl (sub_cons rfl (sub_cons rfl (sub_cons rfl (sub_cons rfl sub_nil))))))))) (some_cons (pickS pick0) (some_cons (pickS pick0) (some_cons pick0 (some_cons pick0 (some_cons pick0 some_nil)))))
      refine List.forall_mem_cons.2 ⟨fun H => ?_, ?_⟩
      · skip
        intro z
        dsimp only
        refine wa_2 (i := 9) (j := 15) (by kernel_rfl) ?_ ?_
        · skip
          refine ws_eff rfl (eo_append (xs := ([] : List GBooking)) (ys := a_g.Books) ak_36 (pick_box_own pick0 (n := 0) (xs := ([] : List GBooking)) rfl rfl (by unfold maxLen; omega)) rfl rfl (slin_rd fun _ g => Rg.on (rds_arg r3) g) g1) (fun _ => (sts_some (some_cons (pickS (pickS (pickS pick0))) (some_cons (pickS (pickS (pickS pick0))) some_nil)))) rfl fun x9o => ?_
          refine wa_pure 14 rfl (po_build rfl (bd_38_0_1_3_4_5 z.1 z.2.1 x9o a_g.Round a_g.Year)) (some_cons (pickS (pickS (pickS pick0))) (some_cons (pickS (pickS (pickS pick0))) some_nil)) rfl (by kernel_rfl) (fun _ _ _ h => h) ?_
          exact wa_jump H 11 rfl (Nat.le_of_ble_eq_true rfl) (z.1, z.2.1, x9o) rfl rfl (sub_cons rfl (sub_cons rfl (sub_cons rfl sub_nil))) (some_cons pick0 (some_cons pick0 (some_cons pick0 (some_cons pick0 (some_cons pick0 some_nil)))))
        refine ws_eff rfl (eo_alloc (cs := [(sl (⟨none, 0, 0⟩ : Hd)), (sl (⟨none, 0, 0⟩ : Hd)), (sl (⟨none, 0, 0⟩ : Hd)), (sl (⟨none, 0, 0⟩ : Hd)), .int .i64 0, .int .i64 0]) za_38) (fun _ => (sts_some (some_cons (pickS (pickS (pickS (pickS pick0)))) (some_cons (pickS (pickS (pickS (pickS pick0)))) some_nil)))) rfl fun b15o => ?_
        exact wa_jump H 12 rfl (Nat.le_of_ble_eq_true rfl) (b15o, z.1, z.2.1, z.2.2) rfl rfl (sub_cons rfl (sub_cons rfl (sub_cons rfl (sub_cons rfl (sub_cons rfl (sub_cons rfl (sub_cons rfl (sub_cons rfl (sub_cons rfl sub_nil))))))))) (some_cons pick0 (some_cons pick0 (some_cons pick0 (some_cons pick0 (some_cons pick0 (some_cons pick0 some_nil))))))
      refine List.forall_mem_cons.2 ⟨fun H => ?_, ?_⟩
      · skip
        intro z
        dsimp only
        refine wa_1 (i := 6) (by kernel_rfl) ?_
        refine ws_eff rfl (eo_buildSlice rfl sb_36_0) (fun _ => (sts_some (some_cons (pickS (pickS (pickS (pickS pick0)))) (some_cons (pickS (pickS (pickS (pickS pick0)))) some_nil)))) rfl fun b6o => ?_
        exact wa_jump H 12 rfl (Nat.le_of_ble_eq_true rfl) (z.1, z.2.1, z.2.2, b6o) rfl rfl (sub_cons rfl (sub_cons rfl (sub_cons rfl (sub_cons rfl (sub_cons rfl (sub_cons rfl (sub_cons rfl (sub_cons rfl (sub_cons rfl sub_nil))))))))) (some_cons (pickS pick0) (some_cons pick0 (some_cons pick0 (some_cons pick0 (some_cons pick0 (some_cons pick0 some_nil))))))
      refine List.forall_mem_cons.2 ⟨fun H => ?_, ?_⟩
      · skip
        intro z
        dsimp only
        refine wa_1 (i := 5) (by kernel_rfl) ?_
        refine ws_call rfl (co_c1 fa_112 rfl fun w hw => c_impl_copyOf w a_g.Stock v1a (Rg.on (rds_arg r1) hw) hv2) (fun _ => (sts_some (some_cons (pickS (pickS (pickS (pickS pick0)))) (some_cons (pickS (pickS (pickS (pickS pick0)))) some_nil)))) rfl fun x5o => ?_
        exact wa_jump H 12 rfl (Nat.le_of_ble_eq_true rfl) (z.1, z.2.1, x5o, z.2.2) rfl rfl (sub_cons rfl (sub_cons rfl (sub_cons rfl (sub_cons rfl (sub_cons rfl (sub_cons rfl (sub_cons rfl (sub_cons rfl (sub_cons rfl sub_nil))))))))) (some_cons (pickS pick0) (some_cons (pickS pick0) (some_cons pick0 (some_cons pick0 (some_cons pick0 (some_cons pick0 some_nil))))))
      refine List.forall_mem_cons.2 ⟨fun H => ?_, ?_⟩
      · skip
        intro z
        dsimp only
        refine wa_1 (i := 15) (by kernel_rfl) ?_
        refine ws_eff rfl (eo_alloc (cs := [(sl (⟨none, 0, 0⟩ : Hd)), (sl (⟨none, 0, 0⟩ : Hd)), (sl (⟨none, 0, 0⟩ : Hd)), (sl (⟨none, 0, 0⟩ : Hd)), .int .i64 0, .int .i64 0]) za_38) (fun _ => (sts_some (some_cons (pickS (pickS (pickS (pickS pick0)))) (some_cons (pickS (pickS (pickS (pickS pick0)))) some_nil)))) rfl fun b15o => ?_
        exact wa_jump H 13 rfl (Nat.le_of_ble_eq_true rfl) (b15o, z.1, z.2.1, z.2.2) rfl rfl (sub_cons rfl (sub_cons rfl (sub_cons rfl (sub_cons rfl sub_nil)))) (some_cons pick0 (some_cons pick0 (some_cons pick0 (some_cons pick0 (some_cons pick0 (some_cons pick0 some_nil))))))
      refine List.forall_mem_cons.2 ⟨fun H => ?_, ?_⟩
      · skip
        intro z
        dsimp only
        refine wa_1 (i := 9) (by kernel_rfl) ?_
        refine ws_eff rfl (eo_append (xs := ([] : List GBooking)) (ys := a_g.Books) ak_36 (pick_box_own (pickS pick0) (n := 0) (xs := ([] : List GBooking)) rfl rfl (by unfold maxLen; omega)) rfl rfl (slin_rd fun _ g => Rg.on (rds_arg r3) g) g1) (fun _ => (sts_some (some_cons (pickS (pickS (pickS (pickS pick0)))) (some_cons (pickS (pickS (pickS (pickS pick0)))) some_nil)))) rfl fun x9o => ?_
        refine wa_pure 14 rfl (po_build rfl (bd_38_0_1_3_4_5 z.2.1 z.2.2.1 x9o a_g.Round a_g.Year)) (some_cons (pickS (pickS (pickS (pickS pick0)))) (some_cons (pickS (pickS (pickS (pickS pick0)))) some_nil)) rfl (by kernel_rfl) (fun _ _ _ h => h) ?_
        exact wa_jump H 13 rfl (Nat.le_of_ble_eq_true rfl) (z.1, z.2.1, z.2.2.1, x9o) rfl rfl (sub_cons rfl (sub_cons rfl (sub_cons rfl (sub_cons rfl sub_nil)))) (some_cons (pickS pick0) (some_cons pick0 (some_cons pick0 (some_cons pick0 (some_cons pick0 (some_cons pick0 some_nil))))))
      refine List.forall_mem_cons.2 ⟨fun H => ?_, ?_⟩
      · skip
        intro z
        dsimp only
        refine wa_1 (i := 16) (by kernel_rfl) ?_
        refine ws_skipop rfl (so_box (cs' := [(sl z.2.1), (sl z.2.2.1), (sl (⟨none, 0, 0⟩ : Hd)), (sl z.2.2.2), .int .i64 a_g.Round, .int .i64 a_g.Year]) tk_38 pick0 rfl rfl rfl rfl rfl rfl rfl) (sts_past (by kernel_rfl)) ?_
        refine wa_done (by kernel_rfl) ?_
        exact wq_meet (z.1, z.2.1, z.2.2.1, z.2.2.2) trivial (sub_cons rfl (sub_cons rfl (sub_cons rfl sub_nil))) (some_cons pick0 (some_cons pick0 (some_cons pick0 (some_cons pick0 (some_cons pick0 (some_cons pick0 some_nil))))))
      exact fun _ h => nomatch h
    refine wa_pure 0 rfl (po_fld fo_38_0 rfl) (some_cons pick0 (some_cons pick0 some_nil)) rfl (by kernel_rfl) (fun _ _ _ h => h) ?_
    refine wa_pure (v := (sl v0a)) 1 rfl (po_load_box tk_33 (pickS pick0) rfl rfl) (some_cons pick0 (some_cons pick0 some_nil)) rfl (by kernel_rfl) (fun _ _ _ h => h) ?_
    refine wa_pure 3 rfl (po_fld fo_38_1 rfl) (some_cons pick0 (some_cons pick0 some_nil)) rfl (by kernel_rfl) (fun _ _ _ h => h) ?_
    refine wa_pure (v := (sl v1a)) 4 rfl (po_load_box tk_34 (pickS pick0) rfl rfl) (some_cons pick0 (some_cons pick0 some_nil)) rfl (by kernel_rfl) (fun _ _ _ h => h) ?_
    refine wa_pure 7 rfl (po_fld fo_38_3 rfl) (some_cons pick0 (some_cons pick0 some_nil)) rfl (by kernel_rfl) (fun _ _ _ h => h) ?_
    refine wa_pure (v := (sl v3a)) 8 rfl (po_load_box tk_36 (pickS pick0) rfl rfl) (some_cons pick0 (some_cons pick0 some_nil)) rfl (by kernel_rfl) (fun _ _ _ h => h) ?_
    refine wa_pure 10 rfl (po_fld fo_38_4 rfl) (some_cons pick0 (some_cons pick0 some_nil)) rfl (by kernel_rfl) (fun _ _ _ h => h) ?_
    refine wa_pure (v := .int .i64 a_g.Round) 11 rfl (po_load_box tk_3 (pickS pick0) rfl rfl) (some_cons pick0 (some_cons pick0 some_nil)) rfl (by kernel_rfl) (fun _ _ _ h => h) ?_
    refine wa_pure 12 rfl (po_fld fo_38_5 rfl) (some_cons pick0 (some_cons pick0 some_nil)) rfl (by kernel_rfl) (fun _ _ _ h => h) ?_
    refine wa_pure (v := .int .i64 a_g.Year) 13 rfl (po_load_box tk_3 (pickS pick0) rfl rfl) (some_cons pick0 (some_cons pick0 some_nil)) rfl (by kernel_rfl) (fun _ _ _ h => h) ?_
    exact wa_jump H 0 rfl (Nat.le_of_ble_eq_true rfl) () rfl rfl (sub_cons rfl (sub_cons rfl (sub_cons rfl (sub_cons rfl (sub_cons rfl (sub_cons rfl (sub_cons rfl sub_nil))))))) (some_cons pick0 (some_cons pick0 some_nil))
  intro x1 _
  refine wq_then ?_
  refine wc_seq ?_
  refine wcr ?_
  refine wl_pure (po_fld fo_38_2 rfl) rfl ?_
  refine wl_pure (v := (sl v2a)) (po_load_box tk_35 (pickS (pickS (pickS (pickS (pickS pick0))))) rfl rfl) rfl ?_
  refine wl_pure (po_lenr (rds_arg r2) el_35 rfl) rfl ?_
  refine mv rfl rfl ?_
  refine wnt ?_
  refine gdO t0 fun g2 t0 => ?_
  refine lpO_inv t0 fun y1 l1 t0 => ?_
  refine wj (J := List GEntry) (X := Hd × (List Value)) (fun z => y1 = z) (fun _ _ => [(2, ptr b2 0), (3, ptr x1.1 0)]) (fun z x => [box x1.1 [(sl x1.2.1), (sl x1.2.2.1), (sl x.1), (sl x1.2.2.2), .int .i64 a_g.Round, .int .i64 a_g.Year], ownF (sl x1.2.2.2) (([] : List GBooking) ++ a_g.Books), ownF (sl x1.2.2.1) v2, ownF (sl x1.2.1) v1, box b2 [(sl (⟨none, 0, 0⟩ : Hd)), (sl (⟨none, 0, 0⟩ : Hd)), (sl (⟨none, 0, 0⟩ : Hd)), (sl (⟨none, 0, 0⟩ : Hd)), .int .i64 0, .int .i64 0], own (sl x.1) x.2 z]) ?_ ?_
  · skip
    refine wc_block ?_
    refine wc_forO (X := Hd × (List Value)) l1 (fun k1 s1 x1l => [(2, ptr b2 0), (3, ptr x1.1 0), (22, (sl v2a)), (23, .int .i64 ((a_g.Entries.length : Nat) : Int)), (24, .int .i64 ((k1 : Nat) : Int))]) (fun k1 s1 x1l => [box x1.1 [(sl x1.2.1), (sl x1.2.2.1), (sl x1l.1), (sl x1.2.2.2), .int .i64 a_g.Round, .int .i64 a_g.Year], ownF (sl x1.2.2.2) (([] : List GBooking) ++ a_g.Books), ownF (sl x1.2.2.1) v2, ownF (sl x1.2.1) v1, box b2 [(sl (⟨none, 0, 0⟩ : Hd)), (sl (⟨none, 0, 0⟩ : Hd)), (sl (⟨none, 0, 0⟩ : Hd)), (sl (⟨none, 0, 0⟩ : Hd)), .int .i64 0, .int .i64 0], own (sl x1l.1) x1l.2 s1]) ((⟨none, 0, 0⟩ : Hd), []) (sub_cons rfl (sub_cons rfl (sub_cons rfl (sub_cons rfl (sub_cons rfl sub_nil))))) (some_cons pick0 (some_cons pick0 (some_cons pick0 (some_cons pick0 (some_cons pick0 (some_cons pick_nil some_nil)))))) fun k1 s1 x1l hN1 l1 => ?_
    by_cases hk1 : k1 < a_g.Entries.length
    · skip
      refine forO_step l1 hk1 fun _ t1 l1 => ?_
      unfold impl_Guild_copied_L1 at t1
      have c1 : (decide (((k1 : Nat) : Int) < ((a_g.Entries.length : Nat) : Int))) = true := decide_eq_true (by omega)
      refine wcr ?_
      refine wl_pure (po_lss rfl rfl) rfl ?_
      refine wnt ?_
      refine wc_seq ?_
      refine wc_cond_t rfl c1 ?_
      refine wc_skip ?_
      refine wq_then ?_
      refine wc_seq ?_
      refine wc_block ?_
      refine wcr ?_
      refine wl_pure (po_ixn (k := k1) (rds_arg r2) el_35 rfl rfl hk1) rfl ?_
      refine wl_elem (rds_arg r2) hk1 ?_
      rintro ⟨_, _, he1⟩
      obtain ⟨w1, hc1, _⟩ := rd_GEntry.1 he1
      refine wl_pure (v := .agg #[.int .i64 ((gx a_g.Entries k1).Owner), .int .i64 ((gx a_g.Entries k1).Day), .int .i64 (((gx a_g.Entries k1).Block).Size), (sl w1)]) (po_ldns (rds_arg r2) tk_88 rfl hc1 rfl rfl rfl) rfl ?_
      refine wl_eff (eo_alloc (cs := [.int .i64 0, .int .i64 0, .int .i64 0, (sl (⟨none, 0, 0⟩ : Hd))]) za_88) rfl fun b3 => ?_
      refine wl_skipop (so_box (cs' := [.int .i64 ((gx a_g.Entries k1).Owner), .int .i64 ((gx a_g.Entries k1).Day), .int .i64 (((gx a_g.Entries k1).Block).Size), (sl w1)]) tk_88 pick0 rfl rfl rfl rfl rfl rfl rfl) ?_
      refine wnt ?_
      refine wc_draw [box b3 [.int .i64 ((gx a_g.Entries k1).Owner), .int .i64 ((gx a_g.Entries k1).Day), .int .i64 (((gx a_g.Entries k1).Block).Size), (sl w1)], box x1.1 [(sl x1.2.1), (sl x1.2.2.1), (sl x1l.1), (sl x1.2.2.2), .int .i64 a_g.Round, .int .i64 a_g.Year], ownF (sl x1.2.2.2) (([] : List GBooking) ++ a_g.Books), ownF (sl x1.2.2.1) v2, ownF (sl x1.2.1) v1, box b2 [(sl (⟨none, 0, 0⟩ : Hd)), (sl (⟨none, 0, 0⟩ : Hd)), (sl (⟨none, 0, 0⟩ : Hd)), (sl (⟨none, 0, 0⟩ : Hd)), .int .i64 0, .int .i64 0]] 13 mixed ?_
      refine wa_pure 0 rfl (po_fld fo_38_2 rfl) (some_cons pick0 (some_cons pick0 (some_cons pick0 (some_cons pick0 (some_cons pick0 (some_cons pick0 some_nil)))))) rfl (by kernel_rfl) (fun _ _ _ h => h) ?_
      refine wa_pure (v := (sl x1l.1)) 1 rfl (po_load_box tk_35 (pickS pick0) rfl rfl) (some_cons pick0 (some_cons pick0 (some_cons pick0 (some_cons pick0 (some_cons pick0 (some_cons pick0 some_nil)))))) rfl (by kernel_rfl) (fun _ _ _ h => h) ?_
      refine wa_pure 2 rfl (po_fld fo_88_0 rfl) (some_cons pick0 (some_cons pick0 (some_cons pick0 (some_cons pick0 (some_cons pick0 (some_cons pick0 some_nil)))))) rfl (by kernel_rfl) (fun _ _ _ h => h) ?_
      refine wa_pure (v := .int .i64 ((gx a_g.Entries k1).Owner)) 3 rfl (po_load_box tk_3 pick0 rfl rfl) (some_cons pick0 (some_cons pick0 (some_cons pick0 (some_cons pick0 (some_cons pick0 (some_cons pick0 some_nil)))))) rfl (by kernel_rfl) (fun _ _ _ h => h) ?_
      refine wa_pure 4 rfl (po_fld fo_88_1 rfl) (some_cons pick0 (some_cons pick0 (some_cons pick0 (some_cons pick0 (some_cons pick0 (some_cons pick0 some_nil)))))) rfl (by kernel_rfl) (fun _ _ _ h => h) ?_
      refine wa_pure (v := .int .i64 ((gx a_g.Entries k1).Day)) 5 rfl (po_load_box tk_3 pick0 rfl rfl) (some_cons pick0 (some_cons pick0 (some_cons pick0 (some_cons pick0 (some_cons pick0 (some_cons pick0 some_nil)))))) rfl (by kernel_rfl) (fun _ _ _ h => h) ?_
      refine wa_pure 6 rfl (po_fld fo_88_2 rfl) (some_cons pick0 (some_cons pick0 (some_cons pick0 (some_cons pick0 (some_cons pick0 (some_cons pick0 some_nil)))))) rfl (by kernel_rfl) (fun _ _ _ h => h) ?_
      refine wa_pure (v := .agg #[.int .i64 (((gx a_g.Entries k1).Block).Size), (sl w1)]) 7 rfl (po_load_boxs tk_29 pick0 rfl rfl rfl) (some_cons pick0 (some_cons pick0 (some_cons pick0 (some_cons pick0 (some_cons pick0 (some_cons pick0 some_nil)))))) rfl (by kernel_rfl) (fun _ _ _ h => h) ?_
      refine wa_1 (i := 8) (by kernel_rfl) ?_
      refine bdO t1 fun v3 hv3 t1 => ?_
      refine ws_call rfl (co_c1 fa_113 rfl fun w hw => c_impl_Block_copied w ((gx a_g.Entries k1).Block) w1 (Rg.on (er_GEntry_0 hc1 (rds_arg r2) hk1) hw) hv3) (fun _ => (sts_some (some_cons (pickS pick0) (some_cons (pickS pick0) (some_cons (pickS pick0) (some_cons (pickS pick0) (some_cons (pickS pick0) (some_cons (pickS pick0) some_nil)))))))) rfl fun x3 => ?_
      refine wa_pure 9 rfl (po_build rfl (bd_88_0_1_2 ((gx a_g.Entries k1).Owner) ((gx a_g.Entries k1).Day) v3.Size x3)) (some_cons (pickS pick0) (some_cons (pickS pick0) (some_cons (pickS pick0) (some_cons (pickS pick0) (some_cons (pickS pick0) (some_cons (pickS pick0) some_nil)))))) rfl (by kernel_rfl) (fun _ _ _ h => h) ?_
      refine wa_1 (i := 10) (by kernel_rfl) ?_
      refine ws_eff rfl (eo_buildSlice rfl (sb_35_1 ((gx a_g.Entries k1).Owner) ((gx a_g.Entries k1).Day) v3.Size x3)) (fun _ => (sts_some (some_cons (pickS (pickS pick0)) (some_cons (pickS (pickS pick0)) (some_cons (pickS (pickS pick0)) (some_cons (pickS (pickS pick0)) (some_cons (pickS (pickS pick0)) (some_cons (pickS (pickS pick0)) some_nil)))))))) rfl fun b4 => ?_
      refine wa_1 (i := 11) (by kernel_rfl) ?_
      refine gdO t1 fun g3 t1 => ?_
      refine ws_eff rfl (eo_append_one (us := x1l.2) (xs := s1) ak_35 (pickS (pickS (pickS (pickS (pickS (pickS (pickS (pickS pick0)))))))) (pow_GEntry (x := (GEntry.mk ((gx a_g.Entries k1).Owner) ((gx a_g.Entries k1).Day) v3)) (pickS pick0)) pick0 rfl rfl rfl g3) (fun _ => (sts_some (some_cons (pickS (pickS pick0)) (some_cons (pickS (pickS pick0)) (some_cons (pickS (pickS pick0)) (some_cons (pickS (pickS pick0)) (some_cons (pickS (pickS pick0)) (some_cons (pickS (pickS pick0)) some_nil)))))))) rfl fun x4 => ?_
      refine wa_pure 12 rfl (po_fld fo_38_2 rfl) (some_cons (pickS (pickS pick0)) (some_cons (pickS (pickS pick0)) (some_cons (pickS (pickS pick0)) (some_cons (pickS (pickS pick0)) (some_cons (pickS (pickS pick0)) (some_cons (pickS (pickS pick0)) some_nil)))))) rfl (by kernel_rfl) (fun _ _ _ h => h) ?_
      refine wa_1 (i := 13) (by kernel_rfl) ?_
      refine ws_skipop rfl (so_box (cs' := [(sl x1.2.1), (sl x1.2.2.1), (sl x4), (sl x1.2.2.2), .int .i64 a_g.Round, .int .i64 a_g.Year]) tk_35 (pickS (pickS (pickS pick0))) rfl rfl rfl rfl rfl rfl rfl) (sts_past (by kernel_rfl)) ?_
      refine wa_done (by kernel_rfl) ?_
      refine wq_block ?_
      refine wq_then ?_
      refine wc_region ?_
      refine wl_pure (po_inc rfl rfl (by omega)) rfl ?_
      refine mv rfl rfl ?_
      refine wl_nil ?_
      exact wq_rnd hk1 (stpN l1 t1) (x4, (x1l.2 ++ [.int .i64 ((gx a_g.Entries k1).Owner), .int .i64 ((gx a_g.Entries k1).Day), .int .i64 v3.Size, (sl x3)])) (sub_cons rfl (sub_cons rfl (sub_cons rfl (sub_cons rfl (sub_cons rfl sub_nil))))) (some_cons pick0 (some_cons (pickS (pickS (pickS pick0))) (some_cons (pickS (pickS (pickS pick0))) (some_cons (pickS (pickS (pickS pick0))) (some_cons (pickS (pickS (pickS pick0))) (some_cons pick0 some_nil))))))
    have c1 : (decide (((k1 : Nat) : Int) < ((a_g.Entries.length : Nat) : Int))) = false := decide_eq_false (by omega)
    have en1 := forO_end l1 hk1
    refine wcr ?_
    refine wl_pure (po_lss rfl rfl) rfl ?_
    refine wnt ?_
    refine wc_seq ?_
    refine wc_cond_f rfl c1 ?_
    refine wc_exit ?_
    refine wq_then_exit ?_
    refine wq_then_exit ?_
    refine wq_block_exit ?_
    exact wj_meet _ (x1l.1, x1l.2) (Sum.inl.inj en1) (sub_cons rfl (sub_cons rfl sub_nil)) (some_cons pick0 (some_cons pick0 (some_cons pick0 (some_cons pick0 (some_cons pick0 (some_cons pick0 some_nil))))))
  intro e1 x2 hp
  obtain rfl : e1 = y1 := hp.symm
  refine wq_then ?_
  refine wcr ?_
  refine wl_pure (v := .agg #[(sl x1.2.1), (sl x1.2.2.1), (sl x2.1), (sl x1.2.2.2), .int .i64 a_g.Round, .int .i64 a_g.Year]) (po_load_boxs tk_38 pick0 rfl rfl rfl) rfl ?_
  refine wl_skipop (so_box (cs' := [(sl x1.2.1), (sl x1.2.2.1), (sl x2.1), (sl x1.2.2.2), .int .i64 a_g.Round, .int .i64 a_g.Year]) tk_38 (pickS (pickS (pickS (pickS pick0)))) rfl rfl rfl rfl rfl rfl rfl) ?_
  refine wnt ?_
  refine wc_ret ?_
  obtain rfl := Option.some.inj t0
  exact wq_retc rfl tk_38 rfl pick0 rfl fun w hw => ⟨(x1.2.1, x1.2.2.1, x2.1, x2.2, x1.2.2.2), rfl, hw.weak (some_cons (pickS (pickS (pickS (pickS pick0)))) (some_cons (pickS (pickS (pickS pick0))) (some_cons (pickS (pickS (pickS pick0))) (some_cons (pickS (pickS pick0)) some_nil))))⟩

theorem c_impl_within (w : World) (a_n : Int) (a_a : Int) (a_b : Int) {r : Bool} (t0 : impl_within a_n a_a a_b = some r) : Calls Try.prog 74 #[.int .i64 a_n, .int .i64 a_a, .int .i64 a_b] w fun e w' => e = .returned (.bool r) ∧ SH w [] [] w' := by
  refine calls_of_wc (args := [_, _, _]) Try.func74 rfl Try.ntmps74 rfl ?_
  unfold impl_within at t0
  refine wcr ?_
  refine asg rfl rfl ?_
  refine wnt ?_
  refine wc_seq ?_
  refine wc_join (X := Unit) (fun _ => True) (fun _ => [(6, .bool ((decide (a_n ≥ a_a)) && (decide (a_n ≤ a_b))))]) (fun _ => []) ?_ ?_
  · skip
    refine wc_region ?_
    refine mv rfl rfl ?_
    refine mv rfl rfl ?_
    refine wl_pure (po_geq rfl rfl) rfl ?_
    refine mv rfl rfl ?_
    refine wl_fork (t := 10) rfl (fun h1 => ?_) fun h1 => ?_
    · skip
      refine wl_guard_on (j := 3) rfl rfl rfl (mv rfl rfl ?_)
      refine wl_guard_on (j := 3) rfl rfl rfl (mv rfl rfl ?_)
      refine wl_guard_on (j := 3) rfl rfl rfl (wl_pure (po_leq rfl rfl) rfl ?_)
      refine wl_pure (po_pick_t rfl rfl) rfl ?_
      refine asg rfl rfl ?_
      refine wl_nil ?_
      exact wq_meet () trivial (sub_b rfl (by rw [h1]; rfl) sub_nil) some_nil
    refine wl_guard_off (j := 3) rfl rfl rfl rfl rfl ?_
    refine wl_guard_off (j := 3) rfl rfl rfl rfl rfl ?_
    refine wl_guard_off (j := 3) rfl rfl rfl rfl rfl ?_
    refine wl_pure (po_pick_f rfl rfl) rfl ?_
    refine asg rfl rfl ?_
    refine wl_nil ?_
    exact wq_meet () trivial (sub_b rfl (by rw [h1]; rfl) sub_nil) some_nil
  intro _ _
  refine wq_then ?_
  refine wc_ret ?_
  obtain rfl := Option.some.inj t0
  exact wq_ret1 rfl rfl fun w hw => ⟨rfl, hw.weak some_nil⟩

theorem c_impl_MembersOk (w : World) (a_list : List GMember) (v0a : Hd) (r0 : rdF w (dm w []) (sl v0a) a_list) {r : Bool} (t0 : impl_MembersOk a_list = some r) : Calls Try.prog 117 #[(sl v0a)] w fun e w' => e = .returned (.bool r) ∧ SH w [] [] w' := by
  refine calls_of_wc (args := [_]) Try.func117 rfl Try.ntmps117 rfl ?_
  unfold impl_MembersOk at t0
  refine wcr ?_
  refine asg rfl rfl ?_
  refine wnt ?_
  refine wc_seq ?_
  refine wcr ?_
  refine mv rfl rfl ?_
  refine wl_pure (po_lenr (rds_arg r0) el_33 rfl) rfl ?_
  refine mv rfl rfl ?_
  refine wnt ?_
  refine gdO t0 fun g1 t0 => ?_
  refine sqO t0 fun y1 l1 t0 => ?_
  refine wj (J := Unit) (X := Unit) (fun z => y1 = .inl z) (fun _ _ => [(0, (sl v0a))]) (fun _ _ => []) ?_ ?_
  · skip
    refine wc_block ?_
    refine wc_forO (X := Unit) l1 (fun k1 s1 x1l => [(0, (sl v0a)), (5, (sl v0a)), (6, .int .i64 ((a_list.length : Nat) : Int)), (7, .int .i64 ((k1 : Nat) : Int))]) (fun k1 s1 x1l => []) () (sub_cons rfl (sub_cons rfl (sub_cons rfl (sub_cons rfl sub_nil)))) some_nil fun k1 s1 x1l hN1 l1 => ?_
    by_cases hk1 : k1 < a_list.length
    · skip
      refine forO_step l1 hk1 fun _ t1 l1 => ?_
      unfold impl_MembersOk_L1 at t1
      have c1 : (decide (((k1 : Nat) : Int) < ((a_list.length : Nat) : Int))) = true := decide_eq_true (by omega)
      refine wcr ?_
      refine wl_pure (po_lss rfl rfl) rfl ?_
      refine wnt ?_
      refine wc_seq ?_
      refine wc_cond_t rfl c1 ?_
      refine wc_skip ?_
      refine wq_then ?_
      refine wc_seq ?_
      refine wc_block ?_
      refine wcr ?_
      refine mv rfl rfl ?_
      refine wl_pure (po_ixn (k := k1) (rds_arg r0) el_33 rfl rfl hk1) rfl ?_
      refine wl_pure (v := .agg #[.int .i64 ((gx a_list k1).Number), .int .i64 ((gx a_list k1).Since), .int .i64 ((gx a_list k1).Paid)]) (po_ldfs (rds_arg r0) tk_113 rfl hk1 rfl rfl rfl) rfl ?_
      refine wl_eff (eo_alloc (cs := [.int .i64 0, .int .i64 0, .int .i64 0]) za_113) rfl fun b1 => ?_
      refine asg rfl rfl ?_
      refine wl_skipop (so_box (cs' := [.int .i64 ((gx a_list k1).Number), .int .i64 ((gx a_list k1).Since), .int .i64 ((gx a_list k1).Paid)]) tk_113 pick0 rfl rfl rfl rfl rfl rfl rfl) ?_
      refine wnt ?_
      refine wc_seq ?_
      refine bdO t1 fun y2 t2 t1 => ?_
      refine wj (J := Bool) (X := Unit) (fun z => y2 = z) (fun z _ => [(0, (sl v0a)), (5, (sl v0a)), (6, .int .i64 ((a_list.length : Nat) : Int)), (7, .int .i64 ((k1 : Nat) : Int)), (45, .bool z)]) (fun _ _ => []) ?_ ?_
      · skip
        refine wc_draw [box b1 [.int .i64 ((gx a_list k1).Number), .int .i64 ((gx a_list k1).Since), .int .i64 ((gx a_list k1).Paid)]] 34 mixed ?_
        refine wa_pure 0 rfl (po_fld fo_113_0 rfl) (some_cons pick0 some_nil) rfl (by kernel_rfl) (fun _ _ _ h => h) ?_
        refine wa_pure (v := .int .i64 ((gx a_list k1).Number)) 1 rfl (po_load_box tk_3 pick0 rfl rfl) (some_cons pick0 some_nil) rfl (by kernel_rfl) (fun _ _ _ h => h) ?_
        refine wa_1 (i := 2) (by kernel_rfl) ?_
        refine bdO t2 fun v1 hv1 t2 => ?_
        refine ws_call rfl (co_c0 fa_74 rfl fun w hw => c_impl_within w ((gx a_list k1).Number) 1 999 hv1) (fun _ => (sts_some (some_cons pick0 some_nil))) rfl fun _ => ?_
        refine wa_pure 3 rfl (po_not rfl) (some_cons pick0 some_nil) rfl (by kernel_rfl) (fun _ _ _ h => h) ?_
        refine wa_pure 4 rfl (po_move rfl) (some_cons pick0 some_nil) rfl (by kernel_rfl) (fun _ _ _ h => h) ?_
        refine waO_ (t := 16) t2 rfl (fun h1 t2 => ?_) fun h1 t2 => ?_
        · skip
          refine wa_off 5 (j := 4) rfl rfl rfl rfl rfl (some_cons pick0 some_nil) rfl (by kernel_rfl) (fun _ _ _ h => h) ?_
          refine wa_off 6 (j := 4) rfl rfl rfl rfl rfl (some_cons pick0 some_nil) rfl (by kernel_rfl) (fun _ _ _ h => h) ?_
          refine wa_off 7 (j := 4) rfl rfl rfl rfl rfl (some_cons pick0 some_nil) rfl (by kernel_rfl) (fun _ _ _ h => h) ?_
          refine wa_undef 8 (j := 7) rfl rfl rfl rfl (some_cons pick0 some_nil) rfl (by kernel_rfl) (fun _ _ _ h => h) ?_
          refine wa_undef 9 (j := 7) rfl rfl rfl rfl (some_cons pick0 some_nil) rfl (by kernel_rfl) (fun _ _ _ h => h) ?_
          refine wa_undef 10 (j := 7) rfl rfl rfl rfl (some_cons pick0 some_nil) rfl (by kernel_rfl) (fun _ _ _ h => h) ?_
          refine wa_undef 11 (j := 7) rfl rfl rfl rfl (some_cons pick0 some_nil) rfl (by kernel_rfl) (fun _ _ _ h => h) ?_
          refine wa_undef 12 (j := 7) rfl rfl rfl rfl (some_cons pick0 some_nil) rfl (by kernel_rfl) (fun _ _ _ h => h) ?_
          refine wa_undef 13 (j := 7) rfl rfl rfl rfl (some_cons pick0 some_nil) rfl (by kernel_rfl) (fun _ _ _ h => h) ?_
          refine wa_undef 14 (j := 7) rfl rfl rfl rfl (some_cons pick0 some_nil) rfl (by kernel_rfl) (fun _ _ _ h => h) ?_
          refine wa_undef 15 (j := 7) rfl rfl rfl rfl (some_cons pick0 some_nil) rfl (by kernel_rfl) (fun _ _ _ h => h) ?_
          refine wa_undef 16 (j := 7) rfl rfl rfl rfl (some_cons pick0 some_nil) rfl (by kernel_rfl) (fun _ _ _ h => h) ?_
          refine wa_off 17 (j := 4) rfl rfl rfl rfl rfl (some_cons pick0 some_nil) rfl (by kernel_rfl) (fun _ _ _ h => h) ?_
          refine wa_pure 18 rfl (po_pick_t rfl rfl) (some_cons pick0 some_nil) rfl (by kernel_rfl) (fun _ _ _ h => h) ?_
          refine wa_pure 19 rfl (po_move rfl) (some_cons pick0 some_nil) rfl (by kernel_rfl) (fun _ _ _ h => h) ?_
          refine wa_off 20 (j := 19) rfl rfl rfl rfl rfl (some_cons pick0 some_nil) rfl (by kernel_rfl) (fun _ _ _ h => h) ?_
          refine wa_off 21 (j := 19) rfl rfl rfl rfl rfl (some_cons pick0 some_nil) rfl (by kernel_rfl) (fun _ _ _ h => h) ?_
          refine wa_off 22 (j := 19) rfl rfl rfl rfl rfl (some_cons pick0 some_nil) rfl (by kernel_rfl) (fun _ _ _ h => h) ?_
          refine wa_off 23 (j := 19) rfl rfl rfl rfl rfl (some_cons pick0 some_nil) rfl (by kernel_rfl) (fun _ _ _ h => h) ?_
          refine wa_pure 24 rfl (po_pick_t rfl rfl) (some_cons pick0 some_nil) rfl (by kernel_rfl) (fun _ _ _ h => h) ?_
          refine wa_pure 25 rfl (po_move rfl) (some_cons pick0 some_nil) rfl (by kernel_rfl) (fun _ _ _ h => h) ?_
          refine wa_off 26 (j := 25) rfl rfl rfl rfl rfl (some_cons pick0 some_nil) rfl (by kernel_rfl) (fun _ _ _ h => h) ?_
          refine wa_off 27 (j := 25) rfl rfl rfl rfl rfl (some_cons pick0 some_nil) rfl (by kernel_rfl) (fun _ _ _ h => h) ?_
          refine wa_off 28 (j := 25) rfl rfl rfl rfl rfl (some_cons pick0 some_nil) rfl (by kernel_rfl) (fun _ _ _ h => h) ?_
          refine wa_off 29 (j := 25) rfl rfl rfl rfl rfl (some_cons pick0 some_nil) rfl (by kernel_rfl) (fun _ _ _ h => h) ?_
          refine wa_off 30 (j := 25) rfl rfl rfl rfl rfl (some_cons pick0 some_nil) rfl (by kernel_rfl) (fun _ _ _ h => h) ?_
          refine wa_off 31 (j := 25) rfl rfl rfl rfl rfl (some_cons pick0 some_nil) rfl (by kernel_rfl) (fun _ _ _ h => h) ?_
          refine wa_off 32 (j := 25) rfl rfl rfl rfl rfl (some_cons pick0 some_nil) rfl (by kernel_rfl) (fun _ _ _ h => h) ?_
          refine wa_pure 33 rfl (po_pick_t rfl rfl) (some_cons pick0 some_nil) rfl (by kernel_rfl) (fun _ _ _ h => h) ?_
          refine wa_done (by kernel_rfl) ?_
          exact wj_meet _ () (mtE t2) (sub_cons rfl (sub_cons rfl (sub_cons rfl (sub_cons rfl (sub_cons rfl sub_nil))))) some_nil
        refine wa_pure_on 5 (j := 4) rfl rfl rfl rfl (po_move rfl) (some_cons pick0 some_nil) rfl (by kernel_rfl) (fun _ _ _ h => h) ?_
        refine wa_pure_on 6 (j := 4) rfl rfl rfl rfl (po_gtr rfl rfl) (some_cons pick0 some_nil) rfl (by kernel_rfl) (fun _ _ _ h => h) ?_
        refine wa_pure_on 7 (j := 4) rfl rfl rfl rfl (po_move rfl) (some_cons pick0 some_nil) rfl (by kernel_rfl) (fun _ _ _ h => h) ?_
        refine waO_ (t := 19) t2 rfl (fun h2 t2 => ?_) fun h2 t2 => ?_
        · skip
          refine wa_pure_on 8 (j := 7) rfl rfl rfl rfl (po_fld fo_113_0 rfl) (some_cons pick0 some_nil) rfl (by kernel_rfl) (fun _ _ _ h => h) ?_
          refine wa_pure_on (v := .int .i64 ((gx a_list k1).Number)) 9 (j := 7) rfl rfl rfl rfl (po_load_box tk_3 pick0 rfl rfl) (some_cons pick0 some_nil) rfl (by kernel_rfl) (fun _ _ _ h => h) ?_
          refine wa_pure_on 10 (j := 7) rfl rfl rfl rfl (po_move rfl) (some_cons pick0 some_nil) rfl (by kernel_rfl) (fun _ _ _ h => h) ?_
          refine wa_pure_on 11 (j := 7) rfl rfl rfl rfl (po_move rfl) (some_cons pick0 some_nil) rfl (by kernel_rfl) (fun _ _ _ h => h) ?_
          refine wa_pure_on 12 (j := 7) rfl rfl rfl rfl (po_sub rfl rfl) (some_cons pick0 some_nil) rfl (by kernel_rfl) (fun _ _ _ h => h) ?_
          refine gdO t2 fun g2 t2 => ?_
          refine wa_pure_on 13 (j := 7) rfl rfl rfl rfl (po_ixr (rds_arg r0) el_33 rfl rfl g2.1 g2.2) (some_cons pick0 some_nil) rfl (by kernel_rfl) (fun _ _ _ h => h) ?_
          refine wa_pure_on 14 (j := 7) rfl rfl rfl rfl (po_sfldr (rds_arg r0) (ix_lt g2) fo_113_0 rfl) (some_cons pick0 some_nil) rfl (by kernel_rfl) (fun _ _ _ h => h) ?_
          refine wa_pure_on (v := .int .i64 ((gx a_list (((wr (((k1 : Nat) : Int) - 1))).toNat)).Number)) 15 (j := 7) rfl rfl rfl rfl (po_ldf (rds_arg r0) tk_3 rfl (ix_lt g2) rfl) (some_cons pick0 some_nil) rfl (by kernel_rfl) (fun _ _ _ h => h) ?_
          refine wa_pure_on 16 (j := 7) rfl rfl rfl rfl (po_leq rfl rfl) (some_cons pick0 some_nil) rfl (by kernel_rfl) (fun _ _ _ h => h) ?_
          refine wa_pure_on 17 (j := 4) rfl rfl rfl rfl (po_pick_t rfl rfl) (some_cons pick0 some_nil) rfl (by kernel_rfl) (fun _ _ _ h => h) ?_
          refine wa_pure 18 rfl (po_pick_f rfl rfl) (some_cons pick0 some_nil) rfl (by kernel_rfl) (fun _ _ _ h => h) ?_
          refine wa_pure 19 rfl (po_move rfl) (some_cons pick0 some_nil) rfl (by kernel_rfl) (fun _ _ _ h => h) ?_
          refine waO_ (t := 31) t2 rfl (fun h3 t2 => ?_) fun h3 t2 => ?_
          · skip
            refine wa_off 20 (j := 19) rfl rfl rfl rfl rfl (some_cons pick0 some_nil) rfl (by kernel_rfl) (fun _ _ _ h => h) ?_
            refine wa_off 21 (j := 19) rfl rfl rfl rfl rfl (some_cons pick0 some_nil) rfl (by kernel_rfl) (fun _ _ _ h => h) ?_
            refine wa_off 22 (j := 19) rfl rfl rfl rfl rfl (some_cons pick0 some_nil) rfl (by kernel_rfl) (fun _ _ _ h => h) ?_
            refine wa_off 23 (j := 19) rfl rfl rfl rfl rfl (some_cons pick0 some_nil) rfl (by kernel_rfl) (fun _ _ _ h => h) ?_
            refine wa_pure 24 rfl (po_pick_t rfl rfl) (some_cons pick0 some_nil) rfl (by kernel_rfl) (fun _ _ _ h => h) ?_
            refine wa_pure 25 rfl (po_move rfl) (some_cons pick0 some_nil) rfl (by kernel_rfl) (fun _ _ _ h => h) ?_
            refine wa_off 26 (j := 25) rfl rfl rfl rfl rfl (some_cons pick0 some_nil) rfl (by kernel_rfl) (fun _ _ _ h => h) ?_
            refine wa_off 27 (j := 25) rfl rfl rfl rfl rfl (some_cons pick0 some_nil) rfl (by kernel_rfl) (fun _ _ _ h => h) ?_
            refine wa_off 28 (j := 25) rfl rfl rfl rfl rfl (some_cons pick0 some_nil) rfl (by kernel_rfl) (fun _ _ _ h => h) ?_
            refine wa_off 29 (j := 25) rfl rfl rfl rfl rfl (some_cons pick0 some_nil) rfl (by kernel_rfl) (fun _ _ _ h => h) ?_
            refine wa_off 30 (j := 25) rfl rfl rfl rfl rfl (some_cons pick0 some_nil) rfl (by kernel_rfl) (fun _ _ _ h => h) ?_
            refine wa_off 31 (j := 25) rfl rfl rfl rfl rfl (some_cons pick0 some_nil) rfl (by kernel_rfl) (fun _ _ _ h => h) ?_
            refine wa_off 32 (j := 25) rfl rfl rfl rfl rfl (some_cons pick0 some_nil) rfl (by kernel_rfl) (fun _ _ _ h => h) ?_
            refine wa_pure 33 rfl (po_pick_t rfl rfl) (some_cons pick0 some_nil) rfl (by kernel_rfl) (fun _ _ _ h => h) ?_
            refine wa_done (by kernel_rfl) ?_
            exact wj_meet _ () (mtE t2) (sub_cons rfl (sub_cons rfl (sub_cons rfl (sub_cons rfl (sub_cons rfl sub_nil))))) some_nil
          refine wa_pure_on 20 (j := 19) rfl rfl rfl rfl (po_fld fo_113_1 rfl) (some_cons pick0 some_nil) rfl (by kernel_rfl) (fun _ _ _ h => h) ?_
          refine wa_pure_on (v := .int .i64 ((gx a_list k1).Since)) 21 (j := 19) rfl rfl rfl rfl (po_load_box tk_3 pick0 rfl rfl) (some_cons pick0 some_nil) rfl (by kernel_rfl) (fun _ _ _ h => h) ?_
          refine wa_1 (i := 22) (by kernel_rfl) ?_
          refine bdO t2 fun v2 hv2 t2 => ?_
          refine ws_call_on (j := 19) rfl rfl rfl rfl (co_c0 fa_74 rfl fun w hw => c_impl_within w ((gx a_list k1).Since) 1900 2999 hv2) (fun _ => (sts_some (some_cons pick0 some_nil))) rfl fun _ => ?_
          refine wa_pure_on 23 (j := 19) rfl rfl rfl rfl (po_not rfl) (some_cons pick0 some_nil) rfl (by kernel_rfl) (fun _ _ _ h => h) ?_
          refine wa_pure 24 rfl (po_pick_f rfl rfl) (some_cons pick0 some_nil) rfl (by kernel_rfl) (fun _ _ _ h => h) ?_
          refine wa_pure 25 rfl (po_move rfl) (some_cons pick0 some_nil) rfl (by kernel_rfl) (fun _ _ _ h => h) ?_
          refine waO_ (t := 37) t2 rfl (fun h4 t2 => ?_) fun h4 t2 => ?_
          · skip
            refine wa_off 26 (j := 25) rfl rfl rfl rfl rfl (some_cons pick0 some_nil) rfl (by kernel_rfl) (fun _ _ _ h => h) ?_
            refine wa_off 27 (j := 25) rfl rfl rfl rfl rfl (some_cons pick0 some_nil) rfl (by kernel_rfl) (fun _ _ _ h => h) ?_
            refine wa_off 28 (j := 25) rfl rfl rfl rfl rfl (some_cons pick0 some_nil) rfl (by kernel_rfl) (fun _ _ _ h => h) ?_
            refine wa_off 29 (j := 25) rfl rfl rfl rfl rfl (some_cons pick0 some_nil) rfl (by kernel_rfl) (fun _ _ _ h => h) ?_
            refine wa_off 30 (j := 25) rfl rfl rfl rfl rfl (some_cons pick0 some_nil) rfl (by kernel_rfl) (fun _ _ _ h => h) ?_
            refine wa_off 31 (j := 25) rfl rfl rfl rfl rfl (some_cons pick0 some_nil) rfl (by kernel_rfl) (fun _ _ _ h => h) ?_
            refine wa_off 32 (j := 25) rfl rfl rfl rfl rfl (some_cons pick0 some_nil) rfl (by kernel_rfl) (fun _ _ _ h => h) ?_
            refine wa_pure 33 rfl (po_pick_t rfl rfl) (some_cons pick0 some_nil) rfl (by kernel_rfl) (fun _ _ _ h => h) ?_
            refine wa_done (by kernel_rfl) ?_
            exact wj_meet _ () (mtE t2) (sub_cons rfl (sub_cons rfl (sub_cons rfl (sub_cons rfl (sub_cons rfl sub_nil))))) some_nil
          refine wa_pure_on 26 (j := 25) rfl rfl rfl rfl (po_fld fo_113_2 rfl) (some_cons pick0 some_nil) rfl (by kernel_rfl) (fun _ _ _ h => h) ?_
          refine wa_pure_on (v := .int .i64 ((gx a_list k1).Paid)) 27 (j := 25) rfl rfl rfl rfl (po_load_box tk_3 pick0 rfl rfl) (some_cons pick0 some_nil) rfl (by kernel_rfl) (fun _ _ _ h => h) ?_
          refine wa_pure_on 28 (j := 25) rfl rfl rfl rfl (po_fld fo_113_1 rfl) (some_cons pick0 some_nil) rfl (by kernel_rfl) (fun _ _ _ h => h) ?_
          refine wa_pure_on (v := .int .i64 ((gx a_list k1).Since)) 29 (j := 25) rfl rfl rfl rfl (po_load_box tk_3 pick0 rfl rfl) (some_cons pick0 some_nil) rfl (by kernel_rfl) (fun _ _ _ h => h) ?_
          refine wa_pure_on 30 (j := 25) rfl rfl rfl rfl (po_sub rfl rfl) (some_cons pick0 some_nil) rfl (by kernel_rfl) (fun _ _ _ h => h) ?_
          refine wa_1 (i := 31) (by kernel_rfl) ?_
          refine bdO t2 fun v3 hv3 t2 => ?_
          refine ws_call_on (j := 25) rfl rfl rfl rfl (co_c0 fa_74 rfl fun w hw => c_impl_within w ((gx a_list k1).Paid) (wr ((gx a_list k1).Since - 1)) 2999 hv3) (fun _ => (sts_some (some_cons pick0 some_nil))) rfl fun _ => ?_
          refine wa_pure_on 32 (j := 25) rfl rfl rfl rfl (po_not rfl) (some_cons pick0 some_nil) rfl (by kernel_rfl) (fun _ _ _ h => h) ?_
          refine wa_pure 33 rfl (po_pick_f rfl rfl) (some_cons pick0 some_nil) rfl (by kernel_rfl) (fun _ _ _ h => h) ?_
          refine wa_done (by kernel_rfl) ?_
          exact wj_meet _ () (mtE t2) (sub_cons rfl (sub_cons rfl (sub_cons rfl (sub_cons rfl (sub_cons rfl sub_nil))))) some_nil
        refine wa_off 8 (j := 7) rfl rfl rfl rfl rfl (some_cons pick0 some_nil) rfl (by kernel_rfl) (fun _ _ _ h => h) ?_
        refine wa_off 9 (j := 7) rfl rfl rfl rfl rfl (some_cons pick0 some_nil) rfl (by kernel_rfl) (fun _ _ _ h => h) ?_
        refine wa_off 10 (j := 7) rfl rfl rfl rfl rfl (some_cons pick0 some_nil) rfl (by kernel_rfl) (fun _ _ _ h => h) ?_
        refine wa_off 11 (j := 7) rfl rfl rfl rfl rfl (some_cons pick0 some_nil) rfl (by kernel_rfl) (fun _ _ _ h => h) ?_
        refine wa_off 12 (j := 7) rfl rfl rfl rfl rfl (some_cons pick0 some_nil) rfl (by kernel_rfl) (fun _ _ _ h => h) ?_
        refine wa_off 13 (j := 7) rfl rfl rfl rfl rfl (some_cons pick0 some_nil) rfl (by kernel_rfl) (fun _ _ _ h => h) ?_
        refine wa_off 14 (j := 7) rfl rfl rfl rfl rfl (some_cons pick0 some_nil) rfl (by kernel_rfl) (fun _ _ _ h => h) ?_
        refine wa_off 15 (j := 7) rfl rfl rfl rfl rfl (some_cons pick0 some_nil) rfl (by kernel_rfl) (fun _ _ _ h => h) ?_
        refine wa_off 16 (j := 7) rfl rfl rfl rfl rfl (some_cons pick0 some_nil) rfl (by kernel_rfl) (fun _ _ _ h => h) ?_
        refine wa_pure_on 17 (j := 4) rfl rfl rfl rfl (po_pick_f rfl rfl) (some_cons pick0 some_nil) rfl (by kernel_rfl) (fun _ _ _ h => h) ?_
        refine wa_pure 18 rfl (po_pick_f rfl rfl) (some_cons pick0 some_nil) rfl (by kernel_rfl) (fun _ _ _ h => h) ?_
        refine wa_pure 19 rfl (po_move rfl) (some_cons pick0 some_nil) rfl (by kernel_rfl) (fun _ _ _ h => h) ?_
        refine wa_pure_on 20 (j := 19) rfl rfl rfl rfl (po_fld fo_113_1 rfl) (some_cons pick0 some_nil) rfl (by kernel_rfl) (fun _ _ _ h => h) ?_
        refine wa_pure_on (v := .int .i64 ((gx a_list k1).Since)) 21 (j := 19) rfl rfl rfl rfl (po_load_box tk_3 pick0 rfl rfl) (some_cons pick0 some_nil) rfl (by kernel_rfl) (fun _ _ _ h => h) ?_
        refine wa_1 (i := 22) (by kernel_rfl) ?_
        refine bdO t2 fun v4 hv4 t2 => ?_
        refine ws_call_on (j := 19) rfl rfl rfl rfl (co_c0 fa_74 rfl fun w hw => c_impl_within w ((gx a_list k1).Since) 1900 2999 hv4) (fun _ => (sts_some (some_cons pick0 some_nil))) rfl fun _ => ?_
        refine wa_pure_on 23 (j := 19) rfl rfl rfl rfl (po_not rfl) (some_cons pick0 some_nil) rfl (by kernel_rfl) (fun _ _ _ h => h) ?_
        refine wa_pure 24 rfl (po_pick_f rfl rfl) (some_cons pick0 some_nil) rfl (by kernel_rfl) (fun _ _ _ h => h) ?_
        refine wa_pure 25 rfl (po_move rfl) (some_cons pick0 some_nil) rfl (by kernel_rfl) (fun _ _ _ h => h) ?_
        refine waO_ (t := 37) t2 rfl (fun h5 t2 => ?_) fun h5 t2 => ?_
        · skip
          refine wa_off 26 (j := 25) rfl rfl rfl rfl rfl (some_cons pick0 some_nil) rfl (by kernel_rfl) (fun _ _ _ h => h) ?_
          refine wa_off 27 (j := 25) rfl rfl rfl rfl rfl (some_cons pick0 some_nil) rfl (by kernel_rfl) (fun _ _ _ h => h) ?_
          refine wa_off 28 (j := 25) rfl rfl rfl rfl rfl (some_cons pick0 some_nil) rfl (by kernel_rfl) (fun _ _ _ h => h) ?_
          refine wa_off 29 (j := 25) rfl rfl rfl rfl rfl (some_cons pick0 some_nil) rfl (by kernel_rfl) (fun _ _ _ h => h) ?_
          refine wa_off 30 (j := 25) rfl rfl rfl rfl rfl (some_cons pick0 some_nil) rfl (by kernel_rfl) (fun _ _ _ h => h) ?_
          refine wa_off 31 (j := 25) rfl rfl rfl rfl rfl (some_cons pick0 some_nil) rfl (by kernel_rfl) (fun _ _ _ h => h) ?_
          refine wa_off 32 (j := 25) rfl rfl rfl rfl rfl (some_cons pick0 some_nil) rfl (by kernel_rfl) (fun _ _ _ h => h) ?_
          refine wa_pure 33 rfl (po_pick_t rfl rfl) (some_cons pick0 some_nil) rfl (by kernel_rfl) (fun _ _ _ h => h) ?_
          refine wa_done (by kernel_rfl) ?_
          exact wj_meet _ () (mtE t2) (sub_cons rfl (sub_cons rfl (sub_cons rfl (sub_cons rfl (sub_cons rfl sub_nil))))) some_nil
        refine wa_pure_on 26 (j := 25) rfl rfl rfl rfl (po_fld fo_113_2 rfl) (some_cons pick0 some_nil) rfl (by kernel_rfl) (fun _ _ _ h => h) ?_
        refine wa_pure_on (v := .int .i64 ((gx a_list k1).Paid)) 27 (j := 25) rfl rfl rfl rfl (po_load_box tk_3 pick0 rfl rfl) (some_cons pick0 some_nil) rfl (by kernel_rfl) (fun _ _ _ h => h) ?_
        refine wa_pure_on 28 (j := 25) rfl rfl rfl rfl (po_fld fo_113_1 rfl) (some_cons pick0 some_nil) rfl (by kernel_rfl) (fun _ _ _ h => h) ?_
        refine wa_pure_on (v := .int .i64 ((gx a_list k1).Since)) 29 (j := 25) rfl rfl rfl rfl (po_load_box tk_3 pick0 rfl rfl) (some_cons pick0 some_nil) rfl (by kernel_rfl) (fun _ _ _ h => h) ?_
        refine wa_pure_on 30 (j := 25) rfl rfl rfl rfl (po_sub rfl rfl) (some_cons pick0 some_nil) rfl (by kernel_rfl) (fun _ _ _ h => h) ?_
        refine wa_1 (i := 31) (by kernel_rfl) ?_
        refine bdO t2 fun v5 hv5 t2 => ?_
        refine ws_call_on (j := 25) rfl rfl rfl rfl (co_c0 fa_74 rfl fun w hw => c_impl_within w ((gx a_list k1).Paid) (wr ((gx a_list k1).Since - 1)) 2999 hv5) (fun _ => (sts_some (some_cons pick0 some_nil))) rfl fun _ => ?_
        refine wa_pure_on 32 (j := 25) rfl rfl rfl rfl (po_not rfl) (some_cons pick0 some_nil) rfl (by kernel_rfl) (fun _ _ _ h => h) ?_
        refine wa_pure 33 rfl (po_pick_f rfl rfl) (some_cons pick0 some_nil) rfl (by kernel_rfl) (fun _ _ _ h => h) ?_
        refine wa_done (by kernel_rfl) ?_
        exact wj_meet _ () (mtE t2) (sub_cons rfl (sub_cons rfl (sub_cons rfl (sub_cons rfl (sub_cons rfl sub_nil))))) some_nil
      intro j1 _ hp
      obtain rfl : j1 = y2 := hp.symm
      refine wq_then ?_
      refine wcO t1 rfl (fun h6 t1 => ?_) fun h6 t1 => ?_
      · skip
        refine wcr ?_
        refine asg rfl rfl ?_
        refine wnt ?_
        refine wc_ret ?_
        refine wq_block_ret ?_
        refine wq_then_ret ?_
        refine wq_then_ret ?_
        refine wq_block_ret ?_
        refine wq_then_ret ?_
        refine wq_then_ret ?_
        replace t0 := lpR t0 l1 t1
        obtain rfl := Option.some.inj t0
        exact wq_ret1 rfl rfl fun w hw => ⟨rfl, hw.weak some_nil⟩
      refine wc_skip ?_
      refine wq_block ?_
      refine wq_then ?_
      refine wc_region ?_
      refine wl_pure (po_inc rfl rfl (by omega)) rfl ?_
      refine mv rfl rfl ?_
      refine wl_nil ?_
      exact wq_rnd hk1 (stpN l1 t1) () (sub_cons rfl (sub_cons rfl (sub_cons rfl (sub_cons rfl sub_nil)))) some_nil
    have c1 : (decide (((k1 : Nat) : Int) < ((a_list.length : Nat) : Int))) = false := decide_eq_false (by omega)
    have en1 := forO_end l1 hk1
    refine wcr ?_
    refine wl_pure (po_lss rfl rfl) rfl ?_
    refine wnt ?_
    refine wc_seq ?_
    refine wc_cond_f rfl c1 ?_
    refine wc_exit ?_
    refine wq_then_exit ?_
    refine wq_then_exit ?_
    refine wq_block_exit ?_
    exact wj_meet _ () en1 (sub_cons rfl sub_nil) some_nil
  intro e1 _ hp
  replace t0 := sqE (j := e1) t0 hp
  refine wq_then ?_
  refine wcr ?_
  refine mv rfl rfl ?_
  refine wl_pure (po_lenr (rds_arg r0) el_33 rfl) rfl ?_
  refine wl_pure (po_leq rfl rfl) rfl ?_
  refine asg rfl rfl ?_
  refine wnt ?_
  refine wc_ret ?_
  obtain rfl := Option.some.inj t0
  exact wq_ret1 rfl rfl fun w hw => ⟨rfl, hw.weak some_nil⟩

theorem c_impl_JoinGuild (w : World) (a_list : List GMember) (v0a : Hd) (r0 : rdF w (dm w []) (sl v0a) a_list) (a_number : Int) (a_year : Int) {r : (List GMember) × Bool} (t0 : impl_JoinGuild a_list a_number a_year = some r) : Calls Try.prog 80 #[(sl v0a), .int .i64 a_number, .int .i64 a_year] w fun e w' => ∃ x : Hd, e = .returned (.tuple #[(sl x), .bool r.2]) ∧ SH w [] [ownF (sl x) r.1] w' := by
  refine calls_of_wc (args := [_, _, _]) Try.func80 rfl Try.ntmps80 rfl ?_
  unfold impl_JoinGuild at t0
  refine wcr ?_
  refine asg rfl rfl ?_
  refine asg rfl rfl ?_
  refine wnt ?_
  refine wcr ?_
  refine wl_eff (eo_buildSlice rfl sb_33_0) rfl fun b1 => ?_
  refine asg rfl rfl ?_
  refine asg rfl rfl ?_
  refine wnt ?_
  refine wc_seq ?_
  refine wlO_inv t0 fun y1 l1 t0 => ?_
  refine wj (J := Int) (X := Unit) (fun z => y1 = z) (fun z _ => [(0, (sl v0a)), (1, .int .i64 a_number), (2, .int .i64 a_year), (8, (sl (⟨some ⟨b1, 0, none⟩, 0, 0⟩ : Hd))), (9, .int .i64 z)]) (fun _ _ => [box b1 []]) ?_ ?_
  · skip
    refine wc_block ?_
    refine wc_whO (X := Unit) l1 (fun s1 x1l => [(0, (sl v0a)), (1, .int .i64 a_number), (2, .int .i64 a_year), (8, (sl (⟨some ⟨b1, 0, none⟩, 0, 0⟩ : Hd))), (9, .int .i64 s1)]) (fun s1 x1l => [box b1 []]) () (sub_cons rfl (sub_cons rfl (sub_cons rfl (sub_cons rfl (sub_cons rfl sub_nil))))) (some_cons pick0 some_nil) fun m1 s1 x1l l1 => ?_
    refine whO_step l1 fun _ t1 l1 => ?_
    unfold impl_JoinGuild_L1 at t1
    refine wc_seq ?_
    refine wc_seq ?_
    refine bdO t1 fun y2 t2 t1 => ?_
    refine wj (J := Bool) (X := Unit) (fun z => y2 = z) (fun z _ => [(0, (sl v0a)), (1, .int .i64 a_number), (2, .int .i64 a_year), (8, (sl (⟨some ⟨b1, 0, none⟩, 0, 0⟩ : Hd))), (9, .int .i64 s1), (23, .bool z)]) (fun _ _ => [box b1 []]) ?_ ?_
    · skip
      refine wc_region ?_
      refine mv rfl rfl ?_
      refine mv rfl rfl ?_
      refine wl_pure (po_lenr (rds_arg r0) el_33 rfl) rfl ?_
      refine wl_pure (po_lss rfl rfl) rfl ?_
      refine mv rfl rfl ?_
      refine wlO_ (t := 15) t2 rfl (fun h1 t2 => ?_) fun h1 t2 => ?_
      · skip
        refine wl_guard_on (j := 4) rfl rfl rfl (mv rfl rfl ?_)
        refine wl_guard_on (j := 4) rfl rfl rfl (mv rfl rfl ?_)
        refine gdO t2 fun g1 t2 => ?_
        refine wl_guard_on (j := 4) rfl rfl rfl (wl_pure (po_ixr (rds_arg r0) el_33 rfl rfl g1.1 g1.2) rfl ?_)
        refine wl_guard_on (j := 4) rfl rfl rfl (wl_pure (po_sfldr (rds_arg r0) (ix_lt g1) fo_113_0 rfl) rfl ?_)
        refine wl_guard_on (j := 4) rfl rfl rfl (wl_pure (v := .int .i64 ((gx a_list ((s1).toNat)).Number)) (po_ldf (rds_arg r0) tk_3 rfl (ix_lt g1) rfl) rfl ?_)
        refine wl_guard_on (j := 4) rfl rfl rfl (mv rfl rfl ?_)
        refine wl_guard_on (j := 4) rfl rfl rfl (wl_pure (po_lss rfl rfl) rfl ?_)
        refine wl_pure (po_pick_t rfl rfl) rfl ?_
        refine wl_nil ?_
        exact wj_meet _ () (mtE t2) (sub_cons rfl (sub_cons rfl (sub_cons rfl (sub_cons rfl (sub_cons rfl (sub_cons rfl sub_nil)))))) (some_cons pick0 some_nil)
      refine wl_guard_off (j := 4) rfl rfl rfl rfl rfl ?_
      refine wl_guard_off (j := 4) rfl rfl rfl rfl rfl ?_
      refine wl_guard_off (j := 4) rfl rfl rfl rfl rfl ?_
      refine wl_guard_off (j := 4) rfl rfl rfl rfl rfl ?_
      refine wl_guard_off (j := 4) rfl rfl rfl rfl rfl ?_
      refine wl_guard_off (j := 4) rfl rfl rfl rfl rfl ?_
      refine wl_guard_off (j := 4) rfl rfl rfl rfl rfl ?_
      refine wl_pure (po_pick_f rfl rfl) rfl ?_
      refine wl_nil ?_
      exact wj_meet _ () (mtE t2) (sub_cons rfl (sub_cons rfl (sub_cons rfl (sub_cons rfl (sub_cons rfl (sub_cons rfl sub_nil)))))) (some_cons pick0 some_nil)
    intro j1 _ hp
    obtain rfl : j1 = y2 := hp.symm
    refine wq_then ?_
    refine wcO t1 rfl (fun h2 t1 => ?_) fun h2 t1 => ?_
    · skip
      refine wc_skip ?_
      refine wq_then ?_
      refine wc_block ?_
      refine wc_region ?_
      refine mv rfl rfl ?_
      refine wl_pure (po_add rfl rfl) rfl ?_
      refine asg rfl rfl ?_
      refine wl_nil ?_
      refine wq_block ?_
      exact wq_rndw (stwN l1 t1) () (sub_cons rfl (sub_cons rfl (sub_cons rfl (sub_cons rfl (sub_cons rfl sub_nil))))) (some_cons pick0 some_nil)
    refine wc_exit ?_
    refine wq_then_exit ?_
    refine wq_then_exit ?_
    refine wq_block_exit ?_
    exact wj_meet _ () (Sum.inl.inj (stwB l1 t1)) (sub_cons rfl (sub_cons rfl (sub_cons rfl (sub_cons rfl (sub_cons rfl sub_nil))))) (some_cons pick0 some_nil)
  intro e1 _ hp
  obtain rfl : e1 = y1 := hp.symm
  refine wq_then ?_
  refine wcr ?_
  refine mv rfl rfl ?_
  refine mv rfl rfl ?_
  refine mv rfl rfl ?_
  refine gdO t0 fun g2 t0 => ?_
  refine wl_pure (po_cutr (l := 0) (h := (e1).toNat) (rds_arg r0) el_33 rfl (.inl ⟨rfl, rfl⟩) (.inr ⟨_, rfl, ixn g2.1⟩) g2.2.1 g2.2.2) rfl ?_
  refine gdO t0 fun g3 t0 => ?_
  refine wl_eff (eo_append (xs := ([] : List GMember)) (ys := ((a_list.drop 0).take ((e1).toNat - 0))) ak_33 (pick_box_own pick0 (n := 0) (xs := ([] : List GMember)) rfl rfl (by unfold maxLen; omega)) rfl rfl (slin_rd fun _ g => Rg.on (rds_cut (rds_arg r0) g2.2.1 g2.2.2) g) g3) rfl fun x3 => ?_
  refine mv rfl rfl ?_
  refine mv rfl rfl ?_
  refine mv rfl rfl ?_
  refine wl_pure (po_sub rfl rfl) rfl ?_
  refine wl_pure (po_build rfl (bd_113_0_1_2 a_number a_year (wr (a_year - 1)))) rfl ?_
  refine wl_eff (eo_buildSlice rfl (sb_33_1 a_number a_year (wr (a_year - 1)))) rfl fun b2 => ?_
  refine gdO t0 fun g4 t0 => ?_
  refine wl_eff (eo_append (xs := (([] : List GMember) ++ ((a_list.drop 0).take ((e1).toNat - 0)))) (ys := ([(GMember.mk a_number a_year (wr (a_year - 1)))] : List GMember)) ak_33 (pickS pick0) rfl rfl (slin_rd fun _ g => Rg.on (rds_own (pick_box_own pick0 (n := 1) (xs := ([(GMember.mk a_number a_year (wr (a_year - 1)))] : List GMember)) rfl rfl (by unfold maxLen; omega))) g) g4) rfl fun x4 => ?_
  refine asg rfl rfl ?_
  refine wnt ?_
  refine wcr ?_
  refine mv rfl rfl ?_
  refine mv rfl rfl ?_
  refine mv rfl rfl ?_
  refine gdO t0 fun g5 t0 => ?_
  refine wl_pure (po_cutr (l := (e1).toNat) (h := a_list.length) (rds_arg r0) el_33 rfl (.inr ⟨_, rfl, ixn g5.1⟩) (.inl ⟨rfl, rfl⟩) g5.2.1 g5.2.2) rfl ?_
  refine gdO t0 fun g6 t0 => ?_
  refine wl_eff (eo_append (xs := ((([] : List GMember) ++ ((a_list.drop 0).take ((e1).toNat - 0))) ++ [(GMember.mk a_number a_year (wr (a_year - 1)))])) (ys := ((a_list.drop ((e1).toNat)).take (a_list.length - ((e1).toNat)))) ak_33 pick0 rfl rfl (slin_rd fun _ g => Rg.on (rds_cut (rds_arg r0) g5.2.1 g5.2.2) g) g6) rfl fun x5 => ?_
  refine asg rfl rfl ?_
  refine wnt ?_
  refine wc_seq ?_
  refine wc_seq ?_
  refine bdO t0 fun y1 t1 t0 => ?_
  refine wj (J := Bool) (X := Unit) (fun z => y1 = z) (fun z _ => [(0, (sl v0a)), (8, (sl x5)), (50, .bool z)]) (fun _ _ => [ownF (sl x5) (((([] : List GMember) ++ ((a_list.drop 0).take ((e1).toNat - 0))) ++ [(GMember.mk a_number a_year (wr (a_year - 1)))]) ++ ((a_list.drop ((e1).toNat)).take (a_list.length - ((e1).toNat))))]) ?_ ?_
  · skip
    refine wc_region ?_
    refine mv rfl rfl ?_
    refine bdO t1 fun v1 hv1 t1 => ?_
    refine wl_call (co_c0 fa_117 rfl fun w hw => c_impl_MembersOk w a_list v0a (Rg.on (rds_arg r0) hw) hv1) rfl fun _ => ?_
    refine wl_pure (po_not rfl) rfl ?_
    refine mv rfl rfl ?_
    refine wlO_ (t := 46) t1 rfl (fun h3 t1 => ?_) fun h3 t1 => ?_
    · skip
      refine wl_guard_off (j := 3) rfl rfl rfl rfl rfl ?_
      refine wl_guard_off (j := 3) rfl rfl rfl rfl rfl ?_
      refine wl_guard_off (j := 3) rfl rfl rfl rfl rfl ?_
      refine wl_pure (po_pick_t rfl rfl) rfl ?_
      refine wl_nil ?_
      exact wj_meet _ () (mtE t1) (sub_cons rfl (sub_cons rfl (sub_cons rfl sub_nil))) (some_cons pick0 some_nil)
    refine wl_guard_on (j := 3) rfl rfl rfl (mv rfl rfl ?_)
    refine bdO t1 fun v2 hv2 t1 => ?_
    refine wl_guard_on (j := 3) rfl rfl rfl (wl_call (co_c0 fa_117 rfl fun w hw => c_impl_MembersOk w (((([] : List GMember) ++ ((a_list.drop 0).take ((e1).toNat - 0))) ++ [(GMember.mk a_number a_year (wr (a_year - 1)))]) ++ ((a_list.drop ((e1).toNat)).take (a_list.length - ((e1).toNat)))) x5 (Rg.on (rds_own pick0) hw) hv2) rfl (fun _ => ?_))
    refine wl_guard_on (j := 3) rfl rfl rfl (wl_pure (po_not rfl) rfl ?_)
    refine wl_pure (po_pick_f rfl rfl) rfl ?_
    refine wl_nil ?_
    exact wj_meet _ () (mtE t1) (sub_cons rfl (sub_cons rfl (sub_cons rfl sub_nil))) (some_cons pick0 some_nil)
  intro j2 _ hp
  obtain rfl : j2 = y1 := hp.symm
  refine wq_then ?_
  refine wcO t0 rfl (fun h4 t0 => ?_) fun h4 t0 => ?_
  · skip
    refine wcr ?_
    refine mv rfl rfl ?_
    refine bdO t0 fun v3 hv3 t0 => ?_
    refine wl_call (co_c1 fa_111 rfl fun w hw => c_impl_copyMembers w a_list v0a (Rg.on (rds_arg r0) hw) hv3) rfl fun x7 => ?_
    refine asg rfl rfl ?_
    refine asg rfl rfl ?_
    refine wnt ?_
    refine wc_ret ?_
    refine wq_then_ret ?_
    obtain rfl := Option.some.inj t0
    exact wq_ret2 rfl rfl rfl fun w hw => ⟨x7, rfl, hw.weak (some_cons pick0 some_nil)⟩
  refine wc_skip ?_
  refine wq_then ?_
  refine wcr ?_
  refine mv rfl rfl ?_
  refine asg rfl rfl ?_
  refine asg rfl rfl ?_
  refine wnt ?_
  refine wc_ret ?_
  obtain rfl := Option.some.inj t0
  exact wq_ret2 rfl rfl rfl fun w hw => ⟨x5, rfl, hw.weak (some_cons pick0 some_nil)⟩

theorem c_impl_PayDues (w : World) (a_list : List GMember) (v0a : Hd) (r0 : rdF w (dm w []) (sl v0a) a_list) (a_number : Int) (a_years : Int) {r : (List GMember) × Bool} (t0 : impl_PayDues a_list a_number a_years = some r) : Calls Try.prog 81 #[(sl v0a), .int .i64 a_number, .int .i64 a_years] w fun e w' => ∃ x : Hd, e = .returned (.tuple #[(sl x), .bool r.2]) ∧ SH w [] [ownF (sl x) r.1] w' := by
  refine calls_of_wc (args := [_, _, _]) Try.func81 rfl Try.ntmps81 rfl ?_
  unfold impl_PayDues at t0
  refine wcr ?_
  refine asg rfl rfl ?_
  refine asg rfl rfl ?_
  refine wnt ?_
  refine wcr ?_
  refine mv rfl rfl ?_
  refine bdO t0 fun v1 hv1 t0 => ?_
  refine wl_call (co_c1 fa_111 rfl fun w hw => c_impl_copyMembers w a_list v0a (Rg.on (rds_arg r0) hw) hv1) rfl fun x1 => ?_
  refine asg rfl rfl ?_
  refine asg rfl rfl ?_
  refine wnt ?_
  refine wc_seq ?_
  refine wc_seq ?_
  refine bdO t0 fun y1 t1 t0 => ?_
  refine wj (J := Bool) (X := Unit) (fun z => y1 = z) (fun z _ => [(0, (sl v0a)), (1, .int .i64 a_number), (2, .int .i64 a_years), (8, (sl x1)), (9, .bool false), (20, .bool z)]) (fun _ _ => [ownF (sl x1) v1]) ?_ ?_
  · skip
    refine wc_region ?_
    refine mv rfl rfl ?_
    refine bdO t1 fun v2 hv2 t1 => ?_
    refine wl_call (co_c0 fa_117 rfl fun w hw => c_impl_MembersOk w a_list v0a (Rg.on (rds_arg r0) hw) hv2) rfl fun _ => ?_
    refine wl_pure (po_not rfl) rfl ?_
    refine mv rfl rfl ?_
    refine wlO_ (t := 16) t1 rfl (fun h1 t1 => ?_) fun h1 t1 => ?_
    · skip
      refine wl_guard_off (j := 3) rfl rfl rfl rfl rfl ?_
      refine wl_guard_off (j := 3) rfl rfl rfl rfl rfl ?_
      refine wl_guard_off (j := 3) rfl rfl rfl rfl rfl ?_
      refine wl_pure (po_pick_t rfl rfl) rfl ?_
      refine wl_nil ?_
      exact wj_meet _ () (mtE t1) (sub_cons rfl (sub_cons rfl (sub_cons rfl (sub_cons rfl (sub_cons rfl (sub_cons rfl sub_nil)))))) (some_cons pick0 some_nil)
    refine wl_guard_on (j := 3) rfl rfl rfl (mv rfl rfl ?_)
    refine bdO t1 fun v3 hv3 t1 => ?_
    refine wl_guard_on (j := 3) rfl rfl rfl (wl_call (co_c0 fa_74 rfl fun w hw => c_impl_within w a_years 1 10 hv3) rfl (fun _ => ?_))
    refine wl_guard_on (j := 3) rfl rfl rfl (wl_pure (po_not rfl) rfl ?_)
    refine wl_pure (po_pick_f rfl rfl) rfl ?_
    refine wl_nil ?_
    exact wj_meet _ () (mtE t1) (sub_cons rfl (sub_cons rfl (sub_cons rfl (sub_cons rfl (sub_cons rfl (sub_cons rfl sub_nil)))))) (some_cons pick0 some_nil)
  intro j1 _ hp
  obtain rfl : j1 = y1 := hp.symm
  refine wq_then ?_
  refine wcO t0 rfl (fun h2 t0 => ?_) fun h2 t0 => ?_
  · skip
    refine wcr ?_
    refine mv rfl rfl ?_
    refine asg rfl rfl ?_
    refine asg rfl rfl ?_
    refine wnt ?_
    refine wc_ret ?_
    refine wq_then_ret ?_
    obtain rfl := Option.some.inj t0
    exact wq_ret2 rfl rfl rfl fun w hw => ⟨x1, rfl, hw.weak (some_cons pick0 some_nil)⟩
  refine wc_skip ?_
  refine wq_then ?_
  refine wc_seq ?_
  refine wcr ?_
  refine mv rfl rfl ?_
  refine wl_pure (po_lenr (rds_own pick0) el_33 rfl) rfl ?_
  refine mv rfl rfl ?_
  refine wnt ?_
  refine gdO t0 fun g1 t0 => ?_
  refine lpO_inv t0 fun y1 l1 t0 => ?_
  refine wj (J := (List GMember) × Bool) (X := Unit) (fun z => y1 = z) (fun z _ => [(0, (sl v0a)), (8, (sl x1)), (9, .bool z.2)]) (fun z _ => [ownF (sl x1) z.1]) ?_ ?_
  · skip
    refine wc_block ?_
    refine wc_forO (X := Unit) l1 (fun k1 s1 x1l => [(0, (sl v0a)), (1, .int .i64 a_number), (2, .int .i64 a_years), (8, (sl x1)), (9, .bool s1.2), (23, .int .i64 ((v1.length : Nat) : Int)), (24, .int .i64 ((k1 : Nat) : Int))]) (fun k1 s1 x1l => [ownF (sl x1) s1.1]) () (sub_cons rfl (sub_cons rfl (sub_cons rfl (sub_cons rfl (sub_cons rfl (sub_cons rfl (sub_cons rfl sub_nil))))))) (some_cons pick0 some_nil) fun k1 s1 x1l hN1 l1 => ?_
    by_cases hk1 : k1 < v1.length
    · skip
      refine forO_step l1 hk1 fun _ t1 l1 => ?_
      unfold impl_PayDues_L1 at t1
      have c1 : (decide (((k1 : Nat) : Int) < ((v1.length : Nat) : Int))) = true := decide_eq_true (by omega)
      refine wcr ?_
      refine wl_pure (po_lss rfl rfl) rfl ?_
      refine wnt ?_
      refine wc_seq ?_
      refine wc_cond_t rfl c1 ?_
      refine wc_skip ?_
      refine wq_then ?_
      refine wc_seq ?_
      refine wc_block ?_
      refine wcr ?_
      refine mv rfl rfl ?_
      refine asg rfl rfl ?_
      refine wnt ?_
      refine wcr ?_
      refine mv rfl rfl ?_
      refine mv rfl rfl ?_
      refine gdO t1 fun g2 t1 => ?_
      refine wl_pure (po_ixn (k := k1) (rds_own pick0) el_33 rfl rfl g2) rfl ?_
      refine wl_pure (po_sfldr (rds_own pick0) g2 fo_113_0 rfl) rfl ?_
      refine wl_pure (v := .int .i64 ((gx s1.1 k1).Number)) (po_ldf (rds_own pick0) tk_3 rfl g2 rfl) rfl ?_
      refine mv rfl rfl ?_
      refine wl_pure (po_eql rfl rfl) rfl ?_
      refine wnt ?_
      refine wc_join (X := Unit) (fun _ => True) (fun _ => [(0, (sl v0a)), (1, .int .i64 a_number), (2, .int .i64 a_years), (8, (sl x1)), (9, .bool (((gx s1.1 k1).Number == a_number) || s1.2)), (23, .int .i64 ((v1.length : Nat) : Int)), (24, .int .i64 ((k1 : Nat) : Int))]) (fun _ => [ownF (sl x1) (bif ((gx s1.1 k1).Number == a_number) then (s1.1.set k1 (GMember.mk ((gx s1.1 k1).Number) ((gx s1.1 k1).Since) (wr ((gx s1.1 k1).Paid + a_years)))) else s1.1)]) ?_ ?_
      · skip
        refine wc_cond rfl (fun h3 => ?_) fun h3 => ?_
        · skip
          refine wcr ?_
          refine mv rfl rfl ?_
          refine mv rfl rfl ?_
          refine wl_pure (po_ixn (k := k1) (rds_own pick0) el_33 rfl rfl g2) rfl ?_
          refine wl_pure (po_sfldr (rds_own pick0) g2 fo_113_2 rfl) rfl ?_
          refine wl_pure (v := .int .i64 ((gx s1.1 k1).Paid)) (po_ldf (rds_own pick0) tk_3 rfl g2 rfl) rfl ?_
          refine mv rfl rfl ?_
          refine wl_pure (po_add rfl rfl) rfl ?_
          refine wl_pure (po_ixn (k := k1) (rds_own pick0) el_33 rfl rfl g2) rfl ?_
          refine wl_pure (po_sfldr (rds_own pick0) g2 fo_113_2 rfl) rfl ?_
          refine wl_skipop (so_own (x' := (GMember.mk ((gx s1.1 k1).Number) ((gx s1.1 k1).Since) (wr ((gx s1.1 k1).Paid + a_years)))) tk_3 pick0 rfl rfl rfl rfl rfl rfl g2 rfl) ?_
          refine wnt ?_
          refine wc_region ?_
          refine asg rfl rfl ?_
          refine wl_nil ?_
          exact wq_meet () trivial (sub_cons rfl (sub_cons rfl (sub_cons rfl (sub_cons rfl (sub_b rfl (by rw [h3]; rfl) (sub_cons rfl (sub_cons rfl sub_nil))))))) (some_cons (by simp only [h3, cond_true]; exact pick0) some_nil)
        refine wc_skip ?_
        exact wq_meet () trivial (sub_cons rfl (sub_cons rfl (sub_cons rfl (sub_cons rfl (sub_b rfl (by rw [h3]; rfl) (sub_cons rfl (sub_cons rfl sub_nil))))))) (some_cons (by simp only [h3, cond_false]; exact pick0) some_nil)
      intro _ _
      refine wq_block ?_
      refine wq_then ?_
      refine wc_region ?_
      refine wl_pure (po_inc rfl rfl (by omega)) rfl ?_
      refine mv rfl rfl ?_
      refine wl_nil ?_
      exact wq_rnd hk1 (stpN l1 t1) () (sub_cons rfl (sub_cons rfl (sub_cons rfl (sub_cons rfl (sub_cons rfl (sub_cons rfl (sub_cons rfl sub_nil))))))) (some_cons pick0 some_nil)
    have c1 : (decide (((k1 : Nat) : Int) < ((v1.length : Nat) : Int))) = false := decide_eq_false (by omega)
    have en1 := forO_end l1 hk1
    refine wcr ?_
    refine wl_pure (po_lss rfl rfl) rfl ?_
    refine wnt ?_
    refine wc_seq ?_
    refine wc_cond_f rfl c1 ?_
    refine wc_exit ?_
    refine wq_then_exit ?_
    refine wq_then_exit ?_
    refine wq_block_exit ?_
    exact wj_meet _ () (Sum.inl.inj en1) (sub_cons rfl (sub_cons rfl (sub_cons rfl sub_nil))) (some_cons pick0 some_nil)
  intro e1 _ hp
  obtain rfl : e1 = y1 := hp.symm
  refine wq_then ?_
  refine wc_seq ?_
  refine wc_seq ?_
  refine bdO t0 fun y1 t1 t0 => ?_
  refine wj (J := Bool) (X := Unit) (fun z => y1 = z) (fun z _ => [(0, (sl v0a)), (8, (sl x1)), (50, .bool z)]) (fun _ _ => [ownF (sl x1) e1.1]) ?_ ?_
  · skip
    refine wc_region ?_
    refine mv rfl rfl ?_
    refine wl_pure (po_not rfl) rfl ?_
    refine mv rfl rfl ?_
    refine wlO_ (t := 46) t1 rfl (fun h4 t1 => ?_) fun h4 t1 => ?_
    · skip
      refine wl_guard_off (j := 2) rfl rfl rfl rfl rfl ?_
      refine wl_guard_off (j := 2) rfl rfl rfl rfl rfl ?_
      refine wl_guard_off (j := 2) rfl rfl rfl rfl rfl ?_
      refine wl_pure (po_pick_t rfl rfl) rfl ?_
      refine wl_nil ?_
      exact wj_meet _ () (mtE t1) (sub_cons rfl (sub_cons rfl (sub_cons rfl sub_nil))) (some_cons pick0 some_nil)
    refine wl_guard_on (j := 2) rfl rfl rfl (mv rfl rfl ?_)
    refine bdO t1 fun v4 hv4 t1 => ?_
    refine wl_guard_on (j := 2) rfl rfl rfl (wl_call (co_c0 fa_117 rfl fun w hw => c_impl_MembersOk w e1.1 x1 (Rg.on (rds_own pick0) hw) hv4) rfl (fun _ => ?_))
    refine wl_guard_on (j := 2) rfl rfl rfl (wl_pure (po_not rfl) rfl ?_)
    refine wl_pure (po_pick_f rfl rfl) rfl ?_
    refine wl_nil ?_
    exact wj_meet _ () (mtE t1) (sub_cons rfl (sub_cons rfl (sub_cons rfl sub_nil))) (some_cons pick0 some_nil)
  intro j3 _ hp
  obtain rfl : j3 = y1 := hp.symm
  refine wq_then ?_
  refine wcO t0 rfl (fun h5 t0 => ?_) fun h5 t0 => ?_
  · skip
    refine wcr ?_
    refine mv rfl rfl ?_
    refine bdO t0 fun v5 hv5 t0 => ?_
    refine wl_call (co_c1 fa_111 rfl fun w hw => c_impl_copyMembers w a_list v0a (Rg.on (rds_arg r0) hw) hv5) rfl fun x6 => ?_
    refine asg rfl rfl ?_
    refine asg rfl rfl ?_
    refine wnt ?_
    refine wc_ret ?_
    refine wq_then_ret ?_
    obtain rfl := Option.some.inj t0
    exact wq_ret2 rfl rfl rfl fun w hw => ⟨x6, rfl, hw.weak (some_cons pick0 some_nil)⟩
  refine wc_skip ?_
  refine wq_then ?_
  refine wcr ?_
  refine mv rfl rfl ?_
  refine asg rfl rfl ?_
  refine asg rfl rfl ?_
  refine wnt ?_
  refine wc_ret ?_
  obtain rfl := Option.some.inj t0
  exact wq_ret2 rfl rfl rfl fun w hw => ⟨x1, rfl, hw.weak (some_cons pick0 some_nil)⟩

theorem c_impl_LedgerOk (w : World) (a_list : List GBooking) (v0a : Hd) (r0 : rdF w (dm w []) (sl v0a) a_list) {r : Bool} (t0 : impl_LedgerOk a_list = some r) : Calls Try.prog 119 #[(sl v0a)] w fun e w' => e = .returned (.bool r) ∧ SH w [] [] w' := by
  refine calls_of_wc (args := [_]) Try.func119 rfl Try.ntmps119 rfl ?_
  unfold impl_LedgerOk at t0
  refine wcr ?_
  refine asg rfl rfl ?_
  refine wnt ?_
  refine wc_seq ?_
  refine wcr ?_
  refine mv rfl rfl ?_
  refine wl_pure (po_lenr (rds_arg r0) el_36 rfl) rfl ?_
  refine mv rfl rfl ?_
  refine wnt ?_
  refine gdO t0 fun g1 t0 => ?_
  refine sqO t0 fun y1 l1 t0 => ?_
  refine wj (J := Unit) (X := Unit) (fun z => y1 = .inl z) (fun _ _ => [(0, (sl v0a))]) (fun _ _ => []) ?_ ?_
  · skip
    refine wc_block ?_
    refine wc_forO (X := Unit) l1 (fun k1 s1 x1l => [(0, (sl v0a)), (5, (sl v0a)), (6, .int .i64 ((a_list.length : Nat) : Int)), (7, .int .i64 ((k1 : Nat) : Int))]) (fun k1 s1 x1l => []) () (sub_cons rfl (sub_cons rfl (sub_cons rfl (sub_cons rfl sub_nil)))) some_nil fun k1 s1 x1l hN1 l1 => ?_
    by_cases hk1 : k1 < a_list.length
    · skip
      refine forO_step l1 hk1 fun _ t1 l1 => ?_
      unfold impl_LedgerOk_L1 at t1
      have c1 : (decide (((k1 : Nat) : Int) < ((a_list.length : Nat) : Int))) = true := decide_eq_true (by omega)
      refine wcr ?_
      refine wl_pure (po_lss rfl rfl) rfl ?_
      refine wnt ?_
      refine wc_seq ?_
      refine wc_cond_t rfl c1 ?_
      refine wc_skip ?_
      refine wq_then ?_
      refine wc_seq ?_
      refine wc_block ?_
      refine wcr ?_
      refine mv rfl rfl ?_
      refine wl_pure (po_ixn (k := k1) (rds_arg r0) el_36 rfl rfl hk1) rfl ?_
      refine wl_pure (v := .agg #[.int .i64 ((gx a_list k1).Day), .int .i64 ((gx a_list k1).From), .int .i64 ((gx a_list k1).To), .int .i64 ((gx a_list k1).Sum)]) (po_ldfs (rds_arg r0) tk_92 rfl hk1 rfl rfl rfl) rfl ?_
      refine wl_eff (eo_alloc (cs := [.int .i64 0, .int .i64 0, .int .i64 0, .int .i64 0]) za_92) rfl fun b1 => ?_
      refine asg rfl rfl ?_
      refine wl_skipop (so_box (cs' := [.int .i64 ((gx a_list k1).Day), .int .i64 ((gx a_list k1).From), .int .i64 ((gx a_list k1).To), .int .i64 ((gx a_list k1).Sum)]) tk_92 pick0 rfl rfl rfl rfl rfl rfl rfl) ?_
      refine wnt ?_
      refine wc_seq ?_
      refine bdO t1 fun y2 t2 t1 => ?_
      refine wj (J := Bool) (X := Unit) (fun z => y2 = z) (fun z _ => [(0, (sl v0a)), (5, (sl v0a)), (6, .int .i64 ((a_list.length : Nat) : Int)), (7, .int .i64 ((k1 : Nat) : Int)), (55, .bool z)]) (fun _ _ => []) ?_ ?_
      · skip
        refine wc_draw [box b1 [.int .i64 ((gx a_list k1).Day), .int .i64 ((gx a_list k1).From), .int .i64 ((gx a_list k1).To), .int .i64 ((gx a_list k1).Sum)]] 44 mixed ?_
        refine wa_pure 0 rfl (po_fld fo_92_0 rfl) (some_cons pick0 some_nil) rfl (by kernel_rfl) (fun _ _ _ h => h) ?_
        refine wa_pure (v := .int .i64 ((gx a_list k1).Day)) 1 rfl (po_load_box tk_3 pick0 rfl rfl) (some_cons pick0 some_nil) rfl (by kernel_rfl) (fun _ _ _ h => h) ?_
        refine wa_1 (i := 2) (by kernel_rfl) ?_
        refine bdO t2 fun v1 hv1 t2 => ?_
        refine ws_call rfl (co_c0 fa_74 rfl fun w hw => c_impl_within w ((gx a_list k1).Day) 0 9999 hv1) (fun _ => (sts_some (some_cons pick0 some_nil))) rfl fun _ => ?_
        refine wa_pure 3 rfl (po_not rfl) (some_cons pick0 some_nil) rfl (by kernel_rfl) (fun _ _ _ h => h) ?_
        refine wa_pure 4 rfl (po_move rfl) (some_cons pick0 some_nil) rfl (by kernel_rfl) (fun _ _ _ h => h) ?_
        refine waO_ (t := 16) t2 rfl (fun h1 t2 => ?_) fun h1 t2 => ?_
        · skip
          refine wa_off 5 (j := 4) rfl rfl rfl rfl rfl (some_cons pick0 some_nil) rfl (by kernel_rfl) (fun _ _ _ h => h) ?_
          refine wa_off 6 (j := 4) rfl rfl rfl rfl rfl (some_cons pick0 some_nil) rfl (by kernel_rfl) (fun _ _ _ h => h) ?_
          refine wa_off 7 (j := 4) rfl rfl rfl rfl rfl (some_cons pick0 some_nil) rfl (by kernel_rfl) (fun _ _ _ h => h) ?_
          refine wa_undef 8 (j := 7) rfl rfl rfl rfl (some_cons pick0 some_nil) rfl (by kernel_rfl) (fun _ _ _ h => h) ?_
          refine wa_undef 9 (j := 7) rfl rfl rfl rfl (some_cons pick0 some_nil) rfl (by kernel_rfl) (fun _ _ _ h => h) ?_
          refine wa_undef 10 (j := 7) rfl rfl rfl rfl (some_cons pick0 some_nil) rfl (by kernel_rfl) (fun _ _ _ h => h) ?_
          refine wa_undef 11 (j := 7) rfl rfl rfl rfl (some_cons pick0 some_nil) rfl (by kernel_rfl) (fun _ _ _ h => h) ?_
          refine wa_undef 12 (j := 7) rfl rfl rfl rfl (some_cons pick0 some_nil) rfl (by kernel_rfl) (fun _ _ _ h => h) ?_
          refine wa_undef 13 (j := 7) rfl rfl rfl rfl (some_cons pick0 some_nil) rfl (by kernel_rfl) (fun _ _ _ h => h) ?_
          refine wa_undef 14 (j := 7) rfl rfl rfl rfl (some_cons pick0 some_nil) rfl (by kernel_rfl) (fun _ _ _ h => h) ?_
          refine wa_undef 15 (j := 7) rfl rfl rfl rfl (some_cons pick0 some_nil) rfl (by kernel_rfl) (fun _ _ _ h => h) ?_
          refine wa_undef 16 (j := 7) rfl rfl rfl rfl (some_cons pick0 some_nil) rfl (by kernel_rfl) (fun _ _ _ h => h) ?_
          refine wa_off 17 (j := 4) rfl rfl rfl rfl rfl (some_cons pick0 some_nil) rfl (by kernel_rfl) (fun _ _ _ h => h) ?_
          refine wa_pure 18 rfl (po_pick_t rfl rfl) (some_cons pick0 some_nil) rfl (by kernel_rfl) (fun _ _ _ h => h) ?_
          refine wa_pure 19 rfl (po_move rfl) (some_cons pick0 some_nil) rfl (by kernel_rfl) (fun _ _ _ h => h) ?_
          refine wa_off 20 (j := 19) rfl rfl rfl rfl rfl (some_cons pick0 some_nil) rfl (by kernel_rfl) (fun _ _ _ h => h) ?_
          refine wa_off 21 (j := 19) rfl rfl rfl rfl rfl (some_cons pick0 some_nil) rfl (by kernel_rfl) (fun _ _ _ h => h) ?_
          refine wa_off 22 (j := 19) rfl rfl rfl rfl rfl (some_cons pick0 some_nil) rfl (by kernel_rfl) (fun _ _ _ h => h) ?_
          refine wa_off 23 (j := 19) rfl rfl rfl rfl rfl (some_cons pick0 some_nil) rfl (by kernel_rfl) (fun _ _ _ h => h) ?_
          refine wa_pure 24 rfl (po_pick_t rfl rfl) (some_cons pick0 some_nil) rfl (by kernel_rfl) (fun _ _ _ h => h) ?_
          refine wa_pure 25 rfl (po_move rfl) (some_cons pick0 some_nil) rfl (by kernel_rfl) (fun _ _ _ h => h) ?_
          refine wa_off 26 (j := 25) rfl rfl rfl rfl rfl (some_cons pick0 some_nil) rfl (by kernel_rfl) (fun _ _ _ h => h) ?_
          refine wa_off 27 (j := 25) rfl rfl rfl rfl rfl (some_cons pick0 some_nil) rfl (by kernel_rfl) (fun _ _ _ h => h) ?_
          refine wa_off 28 (j := 25) rfl rfl rfl rfl rfl (some_cons pick0 some_nil) rfl (by kernel_rfl) (fun _ _ _ h => h) ?_
          refine wa_off 29 (j := 25) rfl rfl rfl rfl rfl (some_cons pick0 some_nil) rfl (by kernel_rfl) (fun _ _ _ h => h) ?_
          refine wa_pure 30 rfl (po_pick_t rfl rfl) (some_cons pick0 some_nil) rfl (by kernel_rfl) (fun _ _ _ h => h) ?_
          refine wa_pure 31 rfl (po_move rfl) (some_cons pick0 some_nil) rfl (by kernel_rfl) (fun _ _ _ h => h) ?_
          refine wa_off 32 (j := 31) rfl rfl rfl rfl rfl (some_cons pick0 some_nil) rfl (by kernel_rfl) (fun _ _ _ h => h) ?_
          refine wa_off 33 (j := 31) rfl rfl rfl rfl rfl (some_cons pick0 some_nil) rfl (by kernel_rfl) (fun _ _ _ h => h) ?_
          refine wa_off 34 (j := 31) rfl rfl rfl rfl rfl (some_cons pick0 some_nil) rfl (by kernel_rfl) (fun _ _ _ h => h) ?_
          refine wa_off 35 (j := 31) rfl rfl rfl rfl rfl (some_cons pick0 some_nil) rfl (by kernel_rfl) (fun _ _ _ h => h) ?_
          refine wa_off 36 (j := 31) rfl rfl rfl rfl rfl (some_cons pick0 some_nil) rfl (by kernel_rfl) (fun _ _ _ h => h) ?_
          refine wa_pure 37 rfl (po_pick_t rfl rfl) (some_cons pick0 some_nil) rfl (by kernel_rfl) (fun _ _ _ h => h) ?_
          refine wa_pure 38 rfl (po_move rfl) (some_cons pick0 some_nil) rfl (by kernel_rfl) (fun _ _ _ h => h) ?_
          refine wa_off 39 (j := 38) rfl rfl rfl rfl rfl (some_cons pick0 some_nil) rfl (by kernel_rfl) (fun _ _ _ h => h) ?_
          refine wa_off 40 (j := 38) rfl rfl rfl rfl rfl (some_cons pick0 some_nil) rfl (by kernel_rfl) (fun _ _ _ h => h) ?_
          refine wa_off 41 (j := 38) rfl rfl rfl rfl rfl (some_cons pick0 some_nil) rfl (by kernel_rfl) (fun _ _ _ h => h) ?_
          refine wa_off 42 (j := 38) rfl rfl rfl rfl rfl (some_cons pick0 some_nil) rfl (by kernel_rfl) (fun _ _ _ h => h) ?_
          refine wa_pure 43 rfl (po_pick_t rfl rfl) (some_cons pick0 some_nil) rfl (by kernel_rfl) (fun _ _ _ h => h) ?_
          refine wa_done (by kernel_rfl) ?_
          exact wj_meet _ () (mtE t2) (sub_cons rfl (sub_cons rfl (sub_cons rfl (sub_cons rfl (sub_cons rfl sub_nil))))) some_nil
        refine wa_pure_on 5 (j := 4) rfl rfl rfl rfl (po_move rfl) (some_cons pick0 some_nil) rfl (by kernel_rfl) (fun _ _ _ h => h) ?_
        refine wa_pure_on 6 (j := 4) rfl rfl rfl rfl (po_gtr rfl rfl) (some_cons pick0 some_nil) rfl (by kernel_rfl) (fun _ _ _ h => h) ?_
        refine wa_pure_on 7 (j := 4) rfl rfl rfl rfl (po_move rfl) (some_cons pick0 some_nil) rfl (by kernel_rfl) (fun _ _ _ h => h) ?_
        refine waO_ (t := 19) t2 rfl (fun h2 t2 => ?_) fun h2 t2 => ?_
        · skip
          refine wa_pure_on 8 (j := 7) rfl rfl rfl rfl (po_fld fo_92_0 rfl) (some_cons pick0 some_nil) rfl (by kernel_rfl) (fun _ _ _ h => h) ?_
          refine wa_pure_on (v := .int .i64 ((gx a_list k1).Day)) 9 (j := 7) rfl rfl rfl rfl (po_load_box tk_3 pick0 rfl rfl) (some_cons pick0 some_nil) rfl (by kernel_rfl) (fun _ _ _ h => h) ?_
          refine wa_pure_on 10 (j := 7) rfl rfl rfl rfl (po_move rfl) (some_cons pick0 some_nil) rfl (by kernel_rfl) (fun _ _ _ h => h) ?_
          refine wa_pure_on 11 (j := 7) rfl rfl rfl rfl (po_move rfl) (some_cons pick0 some_nil) rfl (by kernel_rfl) (fun _ _ _ h => h) ?_
          refine wa_pure_on 12 (j := 7) rfl rfl rfl rfl (po_sub rfl rfl) (some_cons pick0 some_nil) rfl (by kernel_rfl) (fun _ _ _ h => h) ?_
          refine gdO t2 fun g2 t2 => ?_
          refine wa_pure_on 13 (j := 7) rfl rfl rfl rfl (po_ixr (rds_arg r0) el_36 rfl rfl g2.1 g2.2) (some_cons pick0 some_nil) rfl (by kernel_rfl) (fun _ _ _ h => h) ?_
          refine wa_pure_on 14 (j := 7) rfl rfl rfl rfl (po_sfldr (rds_arg r0) (ix_lt g2) fo_92_0 rfl) (some_cons pick0 some_nil) rfl (by kernel_rfl) (fun _ _ _ h => h) ?_
          refine wa_pure_on (v := .int .i64 ((gx a_list (((wr (((k1 : Nat) : Int) - 1))).toNat)).Day)) 15 (j := 7) rfl rfl rfl rfl (po_ldf (rds_arg r0) tk_3 rfl (ix_lt g2) rfl) (some_cons pick0 some_nil) rfl (by kernel_rfl) (fun _ _ _ h => h) ?_
          refine wa_pure_on 16 (j := 7) rfl rfl rfl rfl (po_lss rfl rfl) (some_cons pick0 some_nil) rfl (by kernel_rfl) (fun _ _ _ h => h) ?_
          refine wa_pure_on 17 (j := 4) rfl rfl rfl rfl (po_pick_t rfl rfl) (some_cons pick0 some_nil) rfl (by kernel_rfl) (fun _ _ _ h => h) ?_
          refine wa_pure 18 rfl (po_pick_f rfl rfl) (some_cons pick0 some_nil) rfl (by kernel_rfl) (fun _ _ _ h => h) ?_
          refine wa_pure 19 rfl (po_move rfl) (some_cons pick0 some_nil) rfl (by kernel_rfl) (fun _ _ _ h => h) ?_
          refine waO_ (t := 31) t2 rfl (fun h3 t2 => ?_) fun h3 t2 => ?_
          · skip
            refine wa_off 20 (j := 19) rfl rfl rfl rfl rfl (some_cons pick0 some_nil) rfl (by kernel_rfl) (fun _ _ _ h => h) ?_
            refine wa_off 21 (j := 19) rfl rfl rfl rfl rfl (some_cons pick0 some_nil) rfl (by kernel_rfl) (fun _ _ _ h => h) ?_
            refine wa_off 22 (j := 19) rfl rfl rfl rfl rfl (some_cons pick0 some_nil) rfl (by kernel_rfl) (fun _ _ _ h => h) ?_
            refine wa_off 23 (j := 19) rfl rfl rfl rfl rfl (some_cons pick0 some_nil) rfl (by kernel_rfl) (fun _ _ _ h => h) ?_
            refine wa_pure 24 rfl (po_pick_t rfl rfl) (some_cons pick0 some_nil) rfl (by kernel_rfl) (fun _ _ _ h => h) ?_
            refine wa_pure 25 rfl (po_move rfl) (some_cons pick0 some_nil) rfl (by kernel_rfl) (fun _ _ _ h => h) ?_
            refine wa_off 26 (j := 25) rfl rfl rfl rfl rfl (some_cons pick0 some_nil) rfl (by kernel_rfl) (fun _ _ _ h => h) ?_
            refine wa_off 27 (j := 25) rfl rfl rfl rfl rfl (some_cons pick0 some_nil) rfl (by kernel_rfl) (fun _ _ _ h => h) ?_
            refine wa_off 28 (j := 25) rfl rfl rfl rfl rfl (some_cons pick0 some_nil) rfl (by kernel_rfl) (fun _ _ _ h => h) ?_
            refine wa_off 29 (j := 25) rfl rfl rfl rfl rfl (some_cons pick0 some_nil) rfl (by kernel_rfl) (fun _ _ _ h => h) ?_
            refine wa_pure 30 rfl (po_pick_t rfl rfl) (some_cons pick0 some_nil) rfl (by kernel_rfl) (fun _ _ _ h => h) ?_
            refine wa_pure 31 rfl (po_move rfl) (some_cons pick0 some_nil) rfl (by kernel_rfl) (fun _ _ _ h => h) ?_
            refine wa_off 32 (j := 31) rfl rfl rfl rfl rfl (some_cons pick0 some_nil) rfl (by kernel_rfl) (fun _ _ _ h => h) ?_
            refine wa_off 33 (j := 31) rfl rfl rfl rfl rfl (some_cons pick0 some_nil) rfl (by kernel_rfl) (fun _ _ _ h => h) ?_
            refine wa_off 34 (j := 31) rfl rfl rfl rfl rfl (some_cons pick0 some_nil) rfl (by kernel_rfl) (fun _ _ _ h => h) ?_
            refine wa_off 35 (j := 31) rfl rfl rfl rfl rfl (some_cons pick0 some_nil) rfl (by kernel_rfl) (fun _ _ _ h => h) ?_
            refine wa_off 36 (j := 31) rfl rfl rfl rfl rfl (some_cons pick0 some_nil) rfl (by kernel_rfl) (fun _ _ _ h => h) ?_
            refine wa_pure 37 rfl (po_pick_t rfl rfl) (some_cons pick0 some_nil) rfl (by kernel_rfl) (fun _ _ _ h => h) ?_
            refine wa_pure 38 rfl (po_move rfl) (some_cons pick0 some_nil) rfl (by kernel_rfl) (fun _ _ _ h => h) ?_
            refine wa_off 39 (j := 38) rfl rfl rfl rfl rfl (some_cons pick0 some_nil) rfl (by kernel_rfl) (fun _ _ _ h => h) ?_
            refine wa_off 40 (j := 38) rfl rfl rfl rfl rfl (some_cons pick0 some_nil) rfl (by kernel_rfl) (fun _ _ _ h => h) ?_
            refine wa_off 41 (j := 38) rfl rfl rfl rfl rfl (some_cons pick0 some_nil) rfl (by kernel_rfl) (fun _ _ _ h => h) ?_
            refine wa_off 42 (j := 38) rfl rfl rfl rfl rfl (some_cons pick0 some_nil) rfl (by kernel_rfl) (fun _ _ _ h => h) ?_
            refine wa_pure 43 rfl (po_pick_t rfl rfl) (some_cons pick0 some_nil) rfl (by kernel_rfl) (fun _ _ _ h => h) ?_
            refine wa_done (by kernel_rfl) ?_
            exact wj_meet _ () (mtE t2) (sub_cons rfl (sub_cons rfl (sub_cons rfl (sub_cons rfl (sub_cons rfl sub_nil))))) some_nil
          refine wa_pure_on 20 (j := 19) rfl rfl rfl rfl (po_fld fo_92_1 rfl) (some_cons pick0 some_nil) rfl (by kernel_rfl) (fun _ _ _ h => h) ?_
          refine wa_pure_on (v := .int .i64 ((gx a_list k1).From)) 21 (j := 19) rfl rfl rfl rfl (po_load_box tk_3 pick0 rfl rfl) (some_cons pick0 some_nil) rfl (by kernel_rfl) (fun _ _ _ h => h) ?_
          refine wa_1 (i := 22) (by kernel_rfl) ?_
          refine bdO t2 fun v2 hv2 t2 => ?_
          refine ws_call_on (j := 19) rfl rfl rfl rfl (co_c0 fa_74 rfl fun w hw => c_impl_within w ((gx a_list k1).From) 0 4 hv2) (fun _ => (sts_some (some_cons pick0 some_nil))) rfl fun _ => ?_
          refine wa_pure_on 23 (j := 19) rfl rfl rfl rfl (po_not rfl) (some_cons pick0 some_nil) rfl (by kernel_rfl) (fun _ _ _ h => h) ?_
          refine wa_pure 24 rfl (po_pick_f rfl rfl) (some_cons pick0 some_nil) rfl (by kernel_rfl) (fun _ _ _ h => h) ?_
          refine wa_pure 25 rfl (po_move rfl) (some_cons pick0 some_nil) rfl (by kernel_rfl) (fun _ _ _ h => h) ?_
          refine waO_ (t := 37) t2 rfl (fun h4 t2 => ?_) fun h4 t2 => ?_
          · skip
            refine wa_off 26 (j := 25) rfl rfl rfl rfl rfl (some_cons pick0 some_nil) rfl (by kernel_rfl) (fun _ _ _ h => h) ?_
            refine wa_off 27 (j := 25) rfl rfl rfl rfl rfl (some_cons pick0 some_nil) rfl (by kernel_rfl) (fun _ _ _ h => h) ?_
            refine wa_off 28 (j := 25) rfl rfl rfl rfl rfl (some_cons pick0 some_nil) rfl (by kernel_rfl) (fun _ _ _ h => h) ?_
            refine wa_off 29 (j := 25) rfl rfl rfl rfl rfl (some_cons pick0 some_nil) rfl (by kernel_rfl) (fun _ _ _ h => h) ?_
            refine wa_pure 30 rfl (po_pick_t rfl rfl) (some_cons pick0 some_nil) rfl (by kernel_rfl) (fun _ _ _ h => h) ?_
            refine wa_pure 31 rfl (po_move rfl) (some_cons pick0 some_nil) rfl (by kernel_rfl) (fun _ _ _ h => h) ?_
            refine wa_off 32 (j := 31) rfl rfl rfl rfl rfl (some_cons pick0 some_nil) rfl (by kernel_rfl) (fun _ _ _ h => h) ?_
            refine wa_off 33 (j := 31) rfl rfl rfl rfl rfl (some_cons pick0 some_nil) rfl (by kernel_rfl) (fun _ _ _ h => h) ?_
            refine wa_off 34 (j := 31) rfl rfl rfl rfl rfl (some_cons pick0 some_nil) rfl (by kernel_rfl) (fun _ _ _ h => h) ?_
            refine wa_off 35 (j := 31) rfl rfl rfl rfl rfl (some_cons pick0 some_nil) rfl (by kernel_rfl) (fun _ _ _ h => h) ?_
            refine wa_off 36 (j := 31) rfl rfl rfl rfl rfl (some_cons pick0 some_nil) rfl (by kernel_rfl) (fun _ _ _ h => h) ?_
            refine wa_pure 37 rfl (po_pick_t rfl rfl) (some_cons pick0 some_nil) rfl (by kernel_rfl) (fun _ _ _ h => h) ?_
            refine wa_pure 38 rfl (po_move rfl) (some_cons pick0 some_nil) rfl (by kernel_rfl) (fun _ _ _ h => h) ?_
            refine wa_off 39 (j := 38) rfl rfl rfl rfl rfl (some_cons pick0 some_nil) rfl (by kernel_rfl) (fun _ _ _ h => h) ?_
            refine wa_off 40 (j := 38) rfl rfl rfl rfl rfl (some_cons pick0 some_nil) rfl (by kernel_rfl) (fun _ _ _ h => h) ?_
            refine wa_off 41 (j := 38) rfl rfl rfl rfl rfl (some_cons pick0 some_nil) rfl (by kernel_rfl) (fun _ _ _ h => h) ?_
            refine wa_off 42 (j := 38) rfl rfl rfl rfl rfl (some_cons pick0 some_nil) rfl (by kernel_rfl) (fun _ _ _ h => h) ?_
            refine wa_pure 43 rfl (po_pick_t rfl rfl) (some_cons pick0 some_nil) rfl (by kernel_rfl) (fun _ _ _ h => h) ?_
            refine wa_done (by kernel_rfl) ?_
            exact wj_meet _ () (mtE t2) (sub_cons rfl (sub_cons rfl (sub_cons rfl (sub_cons rfl (sub_cons rfl sub_nil))))) some_nil
          refine wa_pure_on 26 (j := 25) rfl rfl rfl rfl (po_fld fo_92_2 rfl) (some_cons pick0 some_nil) rfl (by kernel_rfl) (fun _ _ _ h => h) ?_
          refine wa_pure_on (v := .int .i64 ((gx a_list k1).To)) 27 (j := 25) rfl rfl rfl rfl (po_load_box tk_3 pick0 rfl rfl) (some_cons pick0 some_nil) rfl (by kernel_rfl) (fun _ _ _ h => h) ?_
          refine wa_1 (i := 28) (by kernel_rfl) ?_
          refine bdO t2 fun v3 hv3 t2 => ?_
          refine ws_call_on (j := 25) rfl rfl rfl rfl (co_c0 fa_74 rfl fun w hw => c_impl_within w ((gx a_list k1).To) 0 4 hv3) (fun _ => (sts_some (some_cons pick0 some_nil))) rfl fun _ => ?_
          refine wa_pure_on 29 (j := 25) rfl rfl rfl rfl (po_not rfl) (some_cons pick0 some_nil) rfl (by kernel_rfl) (fun _ _ _ h => h) ?_
          refine wa_pure 30 rfl (po_pick_f rfl rfl) (some_cons pick0 some_nil) rfl (by kernel_rfl) (fun _ _ _ h => h) ?_
          refine wa_pure 31 rfl (po_move rfl) (some_cons pick0 some_nil) rfl (by kernel_rfl) (fun _ _ _ h => h) ?_
          refine waO_ (t := 43) t2 rfl (fun h5 t2 => ?_) fun h5 t2 => ?_
          · skip
            refine wa_off 32 (j := 31) rfl rfl rfl rfl rfl (some_cons pick0 some_nil) rfl (by kernel_rfl) (fun _ _ _ h => h) ?_
            refine wa_off 33 (j := 31) rfl rfl rfl rfl rfl (some_cons pick0 some_nil) rfl (by kernel_rfl) (fun _ _ _ h => h) ?_
            refine wa_off 34 (j := 31) rfl rfl rfl rfl rfl (some_cons pick0 some_nil) rfl (by kernel_rfl) (fun _ _ _ h => h) ?_
            refine wa_off 35 (j := 31) rfl rfl rfl rfl rfl (some_cons pick0 some_nil) rfl (by kernel_rfl) (fun _ _ _ h => h) ?_
            refine wa_off 36 (j := 31) rfl rfl rfl rfl rfl (some_cons pick0 some_nil) rfl (by kernel_rfl) (fun _ _ _ h => h) ?_
            refine wa_pure 37 rfl (po_pick_t rfl rfl) (some_cons pick0 some_nil) rfl (by kernel_rfl) (fun _ _ _ h => h) ?_
            refine wa_pure 38 rfl (po_move rfl) (some_cons pick0 some_nil) rfl (by kernel_rfl) (fun _ _ _ h => h) ?_
            refine wa_off 39 (j := 38) rfl rfl rfl rfl rfl (some_cons pick0 some_nil) rfl (by kernel_rfl) (fun _ _ _ h => h) ?_
            refine wa_off 40 (j := 38) rfl rfl rfl rfl rfl (some_cons pick0 some_nil) rfl (by kernel_rfl) (fun _ _ _ h => h) ?_
            refine wa_off 41 (j := 38) rfl rfl rfl rfl rfl (some_cons pick0 some_nil) rfl (by kernel_rfl) (fun _ _ _ h => h) ?_
            refine wa_off 42 (j := 38) rfl rfl rfl rfl rfl (some_cons pick0 some_nil) rfl (by kernel_rfl) (fun _ _ _ h => h) ?_
            refine wa_pure 43 rfl (po_pick_t rfl rfl) (some_cons pick0 some_nil) rfl (by kernel_rfl) (fun _ _ _ h => h) ?_
            refine wa_done (by kernel_rfl) ?_
            exact wj_meet _ () (mtE t2) (sub_cons rfl (sub_cons rfl (sub_cons rfl (sub_cons rfl (sub_cons rfl sub_nil))))) some_nil
          refine wa_pure_on 32 (j := 31) rfl rfl rfl rfl (po_fld fo_92_1 rfl) (some_cons pick0 some_nil) rfl (by kernel_rfl) (fun _ _ _ h => h) ?_
          refine wa_pure_on (v := .int .i64 ((gx a_list k1).From)) 33 (j := 31) rfl rfl rfl rfl (po_load_box tk_3 pick0 rfl rfl) (some_cons pick0 some_nil) rfl (by kernel_rfl) (fun _ _ _ h => h) ?_
          refine wa_pure_on 34 (j := 31) rfl rfl rfl rfl (po_fld fo_92_2 rfl) (some_cons pick0 some_nil) rfl (by kernel_rfl) (fun _ _ _ h => h) ?_
          refine wa_pure_on (v := .int .i64 ((gx a_list k1).To)) 35 (j := 31) rfl rfl rfl rfl (po_load_box tk_3 pick0 rfl rfl) (some_cons pick0 some_nil) rfl (by kernel_rfl) (fun _ _ _ h => h) ?_
          refine wa_pure_on 36 (j := 31) rfl rfl rfl rfl (po_eql rfl rfl) (some_cons pick0 some_nil) rfl (by kernel_rfl) (fun _ _ _ h => h) ?_
          refine wa_pure 37 rfl (po_pick_f rfl rfl) (some_cons pick0 some_nil) rfl (by kernel_rfl) (fun _ _ _ h => h) ?_
          refine wa_pure 38 rfl (po_move rfl) (some_cons pick0 some_nil) rfl (by kernel_rfl) (fun _ _ _ h => h) ?_
          refine waO_ (t := 50) t2 rfl (fun h6 t2 => ?_) fun h6 t2 => ?_
          · skip
            refine wa_off 39 (j := 38) rfl rfl rfl rfl rfl (some_cons pick0 some_nil) rfl (by kernel_rfl) (fun _ _ _ h => h) ?_
            refine wa_off 40 (j := 38) rfl rfl rfl rfl rfl (some_cons pick0 some_nil) rfl (by kernel_rfl) (fun _ _ _ h => h) ?_
            refine wa_off 41 (j := 38) rfl rfl rfl rfl rfl (some_cons pick0 some_nil) rfl (by kernel_rfl) (fun _ _ _ h => h) ?_
            refine wa_off 42 (j := 38) rfl rfl rfl rfl rfl (some_cons pick0 some_nil) rfl (by kernel_rfl) (fun _ _ _ h => h) ?_
            refine wa_pure 43 rfl (po_pick_t rfl rfl) (some_cons pick0 some_nil) rfl (by kernel_rfl) (fun _ _ _ h => h) ?_
            refine wa_done (by kernel_rfl) ?_
            exact wj_meet _ () (mtE t2) (sub_cons rfl (sub_cons rfl (sub_cons rfl (sub_cons rfl (sub_cons rfl sub_nil))))) some_nil
          refine wa_pure_on 39 (j := 38) rfl rfl rfl rfl (po_fld fo_92_3 rfl) (some_cons pick0 some_nil) rfl (by kernel_rfl) (fun _ _ _ h => h) ?_
          refine wa_pure_on (v := .int .i64 ((gx a_list k1).Sum)) 40 (j := 38) rfl rfl rfl rfl (po_load_box tk_3 pick0 rfl rfl) (some_cons pick0 some_nil) rfl (by kernel_rfl) (fun _ _ _ h => h) ?_
          refine wa_1 (i := 41) (by kernel_rfl) ?_
          refine bdO t2 fun v4 hv4 t2 => ?_
          refine ws_call_on (j := 38) rfl rfl rfl rfl (co_c0 fa_74 rfl fun w hw => c_impl_within w ((gx a_list k1).Sum) 1 100000 hv4) (fun _ => (sts_some (some_cons pick0 some_nil))) rfl fun _ => ?_
          refine wa_pure_on 42 (j := 38) rfl rfl rfl rfl (po_not rfl) (some_cons pick0 some_nil) rfl (by kernel_rfl) (fun _ _ _ h => h) ?_
          refine wa_pure 43 rfl (po_pick_f rfl rfl) (some_cons pick0 some_nil) rfl (by kernel_rfl) (fun _ _ _ h => h) ?_
          refine wa_done (by kernel_rfl) ?_
          exact wj_meet _ () (mtE t2) (sub_cons rfl (sub_cons rfl (sub_cons rfl (sub_cons rfl (sub_cons rfl sub_nil))))) some_nil
        refine wa_off 8 (j := 7) rfl rfl rfl rfl rfl (some_cons pick0 some_nil) rfl (by kernel_rfl) (fun _ _ _ h => h) ?_
        refine wa_off 9 (j := 7) rfl rfl rfl rfl rfl (some_cons pick0 some_nil) rfl (by kernel_rfl) (fun _ _ _ h => h) ?_
        refine wa_off 10 (j := 7) rfl rfl rfl rfl rfl (some_cons pick0 some_nil) rfl (by kernel_rfl) (fun _ _ _ h => h) ?_
        refine wa_off 11 (j := 7) rfl rfl rfl rfl rfl (some_cons pick0 some_nil) rfl (by kernel_rfl) (fun _ _ _ h => h) ?_
        refine wa_off 12 (j := 7) rfl rfl rfl rfl rfl (some_cons pick0 some_nil) rfl (by kernel_rfl) (fun _ _ _ h => h) ?_
        refine wa_off 13 (j := 7) rfl rfl rfl rfl rfl (some_cons pick0 some_nil) rfl (by kernel_rfl) (fun _ _ _ h => h) ?_
        refine wa_off 14 (j := 7) rfl rfl rfl rfl rfl (some_cons pick0 some_nil) rfl (by kernel_rfl) (fun _ _ _ h => h) ?_
        refine wa_off 15 (j := 7) rfl rfl rfl rfl rfl (some_cons pick0 some_nil) rfl (by kernel_rfl) (fun _ _ _ h => h) ?_
        refine wa_off 16 (j := 7) rfl rfl rfl rfl rfl (some_cons pick0 some_nil) rfl (by kernel_rfl) (fun _ _ _ h => h) ?_
        refine wa_pure_on 17 (j := 4) rfl rfl rfl rfl (po_pick_f rfl rfl) (some_cons pick0 some_nil) rfl (by kernel_rfl) (fun _ _ _ h => h) ?_
        refine wa_pure 18 rfl (po_pick_f rfl rfl) (some_cons pick0 some_nil) rfl (by kernel_rfl) (fun _ _ _ h => h) ?_
        refine wa_pure 19 rfl (po_move rfl) (some_cons pick0 some_nil) rfl (by kernel_rfl) (fun _ _ _ h => h) ?_
        refine wa_pure_on 20 (j := 19) rfl rfl rfl rfl (po_fld fo_92_1 rfl) (some_cons pick0 some_nil) rfl (by kernel_rfl) (fun _ _ _ h => h) ?_
        refine wa_pure_on (v := .int .i64 ((gx a_list k1).From)) 21 (j := 19) rfl rfl rfl rfl (po_load_box tk_3 pick0 rfl rfl) (some_cons pick0 some_nil) rfl (by kernel_rfl) (fun _ _ _ h => h) ?_
        refine wa_1 (i := 22) (by kernel_rfl) ?_
        refine bdO t2 fun v5 hv5 t2 => ?_
        refine ws_call_on (j := 19) rfl rfl rfl rfl (co_c0 fa_74 rfl fun w hw => c_impl_within w ((gx a_list k1).From) 0 4 hv5) (fun _ => (sts_some (some_cons pick0 some_nil))) rfl fun _ => ?_
        refine wa_pure_on 23 (j := 19) rfl rfl rfl rfl (po_not rfl) (some_cons pick0 some_nil) rfl (by kernel_rfl) (fun _ _ _ h => h) ?_
        refine wa_pure 24 rfl (po_pick_f rfl rfl) (some_cons pick0 some_nil) rfl (by kernel_rfl) (fun _ _ _ h => h) ?_
        refine wa_pure 25 rfl (po_move rfl) (some_cons pick0 some_nil) rfl (by kernel_rfl) (fun _ _ _ h => h) ?_
        refine waO_ (t := 37) t2 rfl (fun h7 t2 => ?_) fun h7 t2 => ?_
        · skip
          refine wa_off 26 (j := 25) rfl rfl rfl rfl rfl (some_cons pick0 some_nil) rfl (by kernel_rfl) (fun _ _ _ h => h) ?_
          refine wa_off 27 (j := 25) rfl rfl rfl rfl rfl (some_cons pick0 some_nil) rfl (by kernel_rfl) (fun _ _ _ h => h) ?_
          refine wa_off 28 (j := 25) rfl rfl rfl rfl rfl (some_cons pick0 some_nil) rfl (by kernel_rfl) (fun _ _ _ h => h) ?_
          refine wa_off 29 (j := 25) rfl rfl rfl rfl rfl (some_cons pick0 some_nil) rfl (by kernel_rfl) (fun _ _ _ h => h) ?_
          refine wa_pure 30 rfl (po_pick_t rfl rfl) (some_cons pick0 some_nil) rfl (by kernel_rfl) (fun _ _ _ h => h) ?_
          refine wa_pure 31 rfl (po_move rfl) (some_cons pick0 some_nil) rfl (by kernel_rfl) (fun _ _ _ h => h) ?_
          refine wa_off 32 (j := 31) rfl rfl rfl rfl rfl (some_cons pick0 some_nil) rfl (by kernel_rfl) (fun _ _ _ h => h) ?_
          refine wa_off 33 (j := 31) rfl rfl rfl rfl rfl (some_cons pick0 some_nil) rfl (by kernel_rfl) (fun _ _ _ h => h) ?_
          refine wa_off 34 (j := 31) rfl rfl rfl rfl rfl (some_cons pick0 some_nil) rfl (by kernel_rfl) (fun _ _ _ h => h) ?_
          refine wa_off 35 (j := 31) rfl rfl rfl rfl rfl (some_cons pick0 some_nil) rfl (by kernel_rfl) (fun _ _ _ h => h) ?_
          refine wa_off 36 (j := 31) rfl rfl rfl rfl rfl (some_cons pick0 some_nil) rfl (by kernel_rfl) (fun _ _ _ h => h) ?_
          refine wa_pure 37 rfl (po_pick_t rfl rfl) (some_cons pick0 some_nil) rfl (by kernel_rfl) (fun _ _ _ h => h) ?_
          refine wa_pure 38 rfl (po_move rfl) (some_cons pick0 some_nil) rfl (by kernel_rfl) (fun _ _ _ h => h) ?_
          refine wa_off 39 (j := 38) rfl rfl rfl rfl rfl (some_cons pick0 some_nil) rfl (by kernel_rfl) (fun _ _ _ h => h) ?_
          refine wa_off 40 (j := 38) rfl rfl rfl rfl rfl (some_cons pick0 some_nil) rfl (by kernel_rfl) (fun _ _ _ h => h) ?_
          refine wa_off 41 (j := 38) rfl rfl rfl rfl rfl (some_cons pick0 some_nil) rfl (by kernel_rfl) (fun _ _ _ h => h) ?_
          refine wa_off 42 (j := 38) rfl rfl rfl rfl rfl (some_cons pick0 some_nil) rfl (by kernel_rfl) (fun _ _ _ h => h) ?_
          refine wa_pure 43 rfl (po_pick_t rfl rfl) (some_cons pick0 some_nil) rfl (by kernel_rfl) (fun _ _ _ h => h) ?_
          refine wa_done (by kernel_rfl) ?_
          exact wj_meet _ () (mtE t2) (sub_cons rfl (sub_cons rfl (sub_cons rfl (sub_cons rfl (sub_cons rfl sub_nil))))) some_nil
        refine wa_pure_on 26 (j := 25) rfl rfl rfl rfl (po_fld fo_92_2 rfl) (some_cons pick0 some_nil) rfl (by kernel_rfl) (fun _ _ _ h => h) ?_
        refine wa_pure_on (v := .int .i64 ((gx a_list k1).To)) 27 (j := 25) rfl rfl rfl rfl (po_load_box tk_3 pick0 rfl rfl) (some_cons pick0 some_nil) rfl (by kernel_rfl) (fun _ _ _ h => h) ?_
        refine wa_1 (i := 28) (by kernel_rfl) ?_
        refine bdO t2 fun v6 hv6 t2 => ?_
        refine ws_call_on (j := 25) rfl rfl rfl rfl (co_c0 fa_74 rfl fun w hw => c_impl_within w ((gx a_list k1).To) 0 4 hv6) (fun _ => (sts_some (some_cons pick0 some_nil))) rfl fun _ => ?_
        refine wa_pure_on 29 (j := 25) rfl rfl rfl rfl (po_not rfl) (some_cons pick0 some_nil) rfl (by kernel_rfl) (fun _ _ _ h => h) ?_
        refine wa_pure 30 rfl (po_pick_f rfl rfl) (some_cons pick0 some_nil) rfl (by kernel_rfl) (fun _ _ _ h => h) ?_
        refine wa_pure 31 rfl (po_move rfl) (some_cons pick0 some_nil) rfl (by kernel_rfl) (fun _ _ _ h => h) ?_
        refine waO_ (t := 43) t2 rfl (fun h8 t2 => ?_) fun h8 t2 => ?_
        · skip
          refine wa_off 32 (j := 31) rfl rfl rfl rfl rfl (some_cons pick0 some_nil) rfl (by kernel_rfl) (fun _ _ _ h => h) ?_
          refine wa_off 33 (j := 31) rfl rfl rfl rfl rfl (some_cons pick0 some_nil) rfl (by kernel_rfl) (fun _ _ _ h => h) ?_
          refine wa_off 34 (j := 31) rfl rfl rfl rfl rfl (some_cons pick0 some_nil) rfl (by kernel_rfl) (fun _ _ _ h => h) ?_
          refine wa_off 35 (j := 31) rfl rfl rfl rfl rfl (some_cons pick0 some_nil) rfl (by kernel_rfl) (fun _ _ _ h => h) ?_
          refine wa_off 36 (j := 31) rfl rfl rfl rfl rfl (some_cons pick0 some_nil) rfl (by kernel_rfl) (fun _ _ _ h => h) ?_
          refine wa_pure 37 rfl (po_pick_t rfl rfl) (some_cons pick0 some_nil) rfl (by kernel_rfl) (fun _ _ _ h => h) ?_
          refine wa_pure 38 rfl (po_move rfl) (some_cons pick0 some_nil) rfl (by kernel_rfl) (fun _ _ _ h => h) ?_
          refine wa_off 39 (j := 38) rfl rfl rfl rfl rfl (some_cons pick0 some_nil) rfl (by kernel_rfl) (fun _ _ _ h => h) ?_
          refine wa_off 40 (j := 38) rfl rfl rfl rfl rfl (some_cons pick0 some_nil) rfl (by kernel_rfl) (fun _ _ _ h => h) ?_
          refine wa_off 41 (j := 38) rfl rfl rfl rfl rfl (some_cons pick0 some_nil) rfl (by kernel_rfl) (fun _ _ _ h => h) ?_
          refine wa_off 42 (j := 38) rfl rfl rfl rfl rfl (some_cons pick0 some_nil) rfl (by kernel_rfl) (fun _ _ _ h => h) ?_
          refine wa_pure 43 rfl (po_pick_t rfl rfl) (some_cons pick0 some_nil) rfl (by kernel_rfl) (fun _ _ _ h => h) ?_
          refine wa_done (by kernel_rfl) ?_
          exact wj_meet _ () (mtE t2) (sub_cons rfl (sub_cons rfl (sub_cons rfl (sub_cons rfl (sub_cons rfl sub_nil))))) some_nil
        refine wa_pure_on 32 (j := 31) rfl rfl rfl rfl (po_fld fo_92_1 rfl) (some_cons pick0 some_nil) rfl (by kernel_rfl) (fun _ _ _ h => h) ?_
        refine wa_pure_on (v := .int .i64 ((gx a_list k1).From)) 33 (j := 31) rfl rfl rfl rfl (po_load_box tk_3 pick0 rfl rfl) (some_cons pick0 some_nil) rfl (by kernel_rfl) (fun _ _ _ h => h) ?_
        refine wa_pure_on 34 (j := 31) rfl rfl rfl rfl (po_fld fo_92_2 rfl) (some_cons pick0 some_nil) rfl (by kernel_rfl) (fun _ _ _ h => h) ?_
        refine wa_pure_on (v := .int .i64 ((gx a_list k1).To)) 35 (j := 31) rfl rfl rfl rfl (po_load_box tk_3 pick0 rfl rfl) (some_cons pick0 some_nil) rfl (by kernel_rfl) (fun _ _ _ h => h) ?_
        refine wa_pure_on 36 (j := 31) rfl rfl rfl rfl (po_eql rfl rfl) (some_cons pick0 some_nil) rfl (by kernel_rfl) (fun _ _ _ h => h) ?_
        refine wa_pure 37 rfl (po_pick_f rfl rfl) (some_cons pick0 some_nil) rfl (by kernel_rfl) (fun _ _ _ h => h) ?_
        refine wa_pure 38 rfl (po_move rfl) (some_cons pick0 some_nil) rfl (by kernel_rfl) (fun _ _ _ h => h) ?_
        refine waO_ (t := 50) t2 rfl (fun h9 t2 => ?_) fun h9 t2 => ?_
        · skip
          refine wa_off 39 (j := 38) rfl rfl rfl rfl rfl (some_cons pick0 some_nil) rfl (by kernel_rfl) (fun _ _ _ h => h) ?_
          refine wa_off 40 (j := 38) rfl rfl rfl rfl rfl (some_cons pick0 some_nil) rfl (by kernel_rfl) (fun _ _ _ h => h) ?_
          refine wa_off 41 (j := 38) rfl rfl rfl rfl rfl (some_cons pick0 some_nil) rfl (by kernel_rfl) (fun _ _ _ h => h) ?_
          refine wa_off 42 (j := 38) rfl rfl rfl rfl rfl (some_cons pick0 some_nil) rfl (by kernel_rfl) (fun _ _ _ h => h) ?_
          refine wa_pure 43 rfl (po_pick_t rfl rfl) (some_cons pick0 some_nil) rfl (by kernel_rfl) (fun _ _ _ h => h) ?_
          refine wa_done (by kernel_rfl) ?_
          exact wj_meet _ () (mtE t2) (sub_cons rfl (sub_cons rfl (sub_cons rfl (sub_cons rfl (sub_cons rfl sub_nil))))) some_nil
        refine wa_pure_on 39 (j := 38) rfl rfl rfl rfl (po_fld fo_92_3 rfl) (some_cons pick0 some_nil) rfl (by kernel_rfl) (fun _ _ _ h => h) ?_
        refine wa_pure_on (v := .int .i64 ((gx a_list k1).Sum)) 40 (j := 38) rfl rfl rfl rfl (po_load_box tk_3 pick0 rfl rfl) (some_cons pick0 some_nil) rfl (by kernel_rfl) (fun _ _ _ h => h) ?_
        refine wa_1 (i := 41) (by kernel_rfl) ?_
        refine bdO t2 fun v7 hv7 t2 => ?_
        refine ws_call_on (j := 38) rfl rfl rfl rfl (co_c0 fa_74 rfl fun w hw => c_impl_within w ((gx a_list k1).Sum) 1 100000 hv7) (fun _ => (sts_some (some_cons pick0 some_nil))) rfl fun _ => ?_
        refine wa_pure_on 42 (j := 38) rfl rfl rfl rfl (po_not rfl) (some_cons pick0 some_nil) rfl (by kernel_rfl) (fun _ _ _ h => h) ?_
        refine wa_pure 43 rfl (po_pick_f rfl rfl) (some_cons pick0 some_nil) rfl (by kernel_rfl) (fun _ _ _ h => h) ?_
        refine wa_done (by kernel_rfl) ?_
        exact wj_meet _ () (mtE t2) (sub_cons rfl (sub_cons rfl (sub_cons rfl (sub_cons rfl (sub_cons rfl sub_nil))))) some_nil
      intro j1 _ hp
      obtain rfl : j1 = y2 := hp.symm
      refine wq_then ?_
      refine wcO t1 rfl (fun h10 t1 => ?_) fun h10 t1 => ?_
      · skip
        refine wcr ?_
        refine asg rfl rfl ?_
        refine wnt ?_
        refine wc_ret ?_
        refine wq_block_ret ?_
        refine wq_then_ret ?_
        refine wq_then_ret ?_
        refine wq_block_ret ?_
        refine wq_then_ret ?_
        refine wq_then_ret ?_
        replace t0 := lpR t0 l1 t1
        obtain rfl := Option.some.inj t0
        exact wq_ret1 rfl rfl fun w hw => ⟨rfl, hw.weak some_nil⟩
      refine wc_skip ?_
      refine wq_block ?_
      refine wq_then ?_
      refine wc_region ?_
      refine wl_pure (po_inc rfl rfl (by omega)) rfl ?_
      refine mv rfl rfl ?_
      refine wl_nil ?_
      exact wq_rnd hk1 (stpN l1 t1) () (sub_cons rfl (sub_cons rfl (sub_cons rfl (sub_cons rfl sub_nil)))) some_nil
    have c1 : (decide (((k1 : Nat) : Int) < ((a_list.length : Nat) : Int))) = false := decide_eq_false (by omega)
    have en1 := forO_end l1 hk1
    refine wcr ?_
    refine wl_pure (po_lss rfl rfl) rfl ?_
    refine wnt ?_
    refine wc_seq ?_
    refine wc_cond_f rfl c1 ?_
    refine wc_exit ?_
    refine wq_then_exit ?_
    refine wq_then_exit ?_
    refine wq_block_exit ?_
    exact wj_meet _ () en1 (sub_cons rfl sub_nil) some_nil
  intro e1 _ hp
  replace t0 := sqE (j := e1) t0 hp
  refine wq_then ?_
  refine wcr ?_
  refine mv rfl rfl ?_
  refine wl_pure (po_lenr (rds_arg r0) el_36 rfl) rfl ?_
  refine wl_pure (po_leq rfl rfl) rfl ?_
  refine asg rfl rfl ?_
  refine wnt ?_
  refine wc_ret ?_
  obtain rfl := Option.some.inj t0
  exact wq_ret1 rfl rfl fun w hw => ⟨rfl, hw.weak some_nil⟩

theorem c_impl_BookSum (w : World) (a_list : List GBooking) (v0a : Hd) (r0 : rdF w (dm w []) (sl v0a) a_list) (a_b : GBooking) {r : (List GBooking) × Bool} (t0 : impl_BookSum a_list a_b = some r) : Calls Try.prog 82 #[(sl v0a), .agg #[.int .i64 a_b.Day, .int .i64 a_b.From, .int .i64 a_b.To, .int .i64 a_b.Sum]] w fun e w' => ∃ x : Hd, e = .returned (.tuple #[(sl x), .bool r.2]) ∧ SH w [] [ownF (sl x) r.1] w' := by
  refine calls_of_wc (args := [_, _]) Try.func82 rfl Try.ntmps82 rfl ?_
  unfold impl_BookSum at t0
  refine wcr ?_
  refine wl_eff (eo_box rfl rfl) rfl fun b1 => ?_
  refine asg rfl rfl ?_
  refine asg rfl rfl ?_
  refine wnt ?_
  refine wc_seq ?_
  refine gdO t0 fun g1 t0 => ?_
  refine gdO t0 fun g2 t0 => ?_
  refine wc_join (X := Hd) (fun _ => True) (fun z => [(0, (sl v0a)), (6, (sl z))]) (fun z => [ownF (sl z) ((([] : List GBooking) ++ a_list) ++ [a_b])]) ?_ ?_
  · skip
    refine wc_draw [box b1 [.int .i64 a_b.Day, .int .i64 a_b.From, .int .i64 a_b.To, .int .i64 a_b.Sum]] 7 mixed ?_
    refine wa_pure 1 rfl (po_move rfl) (some_cons pick0 some_nil) rfl (by kernel_rfl) (fun _ _ _ h => h) ?_
    refine wa_pure (v := .agg #[.int .i64 a_b.Day, .int .i64 a_b.From, .int .i64 a_b.To, .int .i64 a_b.Sum]) 3 rfl (po_load_boxs tk_92 pick0 rfl rfl rfl) (some_cons pick0 some_nil) rfl (by kernel_rfl) (fun _ _ _ h => h) ?_
    refine wa_2 (i := 0) (j := 4) (by kernel_rfl) ?_ ?_
    · skip
      refine ws_eff rfl (eo_buildSlice rfl sb_36_0) (fun _ => (sts_some (some_cons (pickS pick0) some_nil))) rfl fun b2 => ?_
      refine wa_2 (i := 2) (j := 4) (by kernel_rfl) ?_ ?_
      · skip
        refine ws_eff rfl (eo_append (xs := ([] : List GBooking)) (ys := a_list) ak_36 (pick_box_own pick0 (n := 0) (xs := ([] : List GBooking)) rfl rfl (by unfold maxLen; omega)) rfl rfl (slin_rd fun _ g => Rg.on (rds_arg r0) g) g1) (fun _ => (sts_some (some_cons (pickS pick0) some_nil))) rfl fun x1 => ?_
        refine wa_1 (i := 4) (by kernel_rfl) ?_
        refine ws_eff rfl (eo_buildSlice rfl (sb_36_1 a_b.Day a_b.From a_b.To a_b.Sum)) (fun _ => (sts_some (some_cons (pickS (pickS pick0)) some_nil))) rfl fun b3 => ?_
        refine wa_1 (i := 5) (by kernel_rfl) ?_
        refine ws_eff rfl (eo_append (xs := (([] : List GBooking) ++ a_list)) (ys := ([a_b] : List GBooking)) ak_36 (pickS pick0) rfl rfl (slin_rd fun _ g => Rg.on (rds_own (pick_box_own pick0 (n := 1) (xs := ([a_b] : List GBooking)) rfl rfl (by unfold maxLen; omega))) g) g2) (fun _ => (sts_some (some_cons (pickS (pickS pick0)) some_nil))) rfl fun x2 => ?_
        refine wa_pure 6 rfl (po_assign rfl) (some_cons (pickS (pickS pick0)) some_nil) rfl (by kernel_rfl) (fun _ _ _ h => h) ?_
        refine wa_done (by kernel_rfl) ?_
        exact wq_meet x2 trivial (sub_cons rfl (sub_cons rfl sub_nil)) (some_cons pick0 some_nil)
      refine ws_eff rfl (eo_buildSlice rfl (sb_36_1 a_b.Day a_b.From a_b.To a_b.Sum)) (fun _ => (sts_some (some_cons (pickS (pickS pick0)) some_nil))) rfl fun b4 => ?_
      refine wa_1 (i := 2) (by kernel_rfl) ?_
      refine ws_eff rfl (eo_append (xs := ([] : List GBooking)) (ys := a_list) ak_36 (pick_box_own (pickS pick0) (n := 0) (xs := ([] : List GBooking)) rfl rfl (by unfold maxLen; omega)) rfl rfl (slin_rd fun _ g => Rg.on (rds_arg r0) g) g1) (fun _ => (sts_some (some_cons (pickS (pickS pick0)) some_nil))) rfl fun x3 => ?_
      refine wa_1 (i := 5) (by kernel_rfl) ?_
      refine ws_eff rfl (eo_append (xs := (([] : List GBooking) ++ a_list)) (ys := ([a_b] : List GBooking)) ak_36 pick0 rfl rfl (slin_rd fun _ g => Rg.on (rds_own (pick_box_own (pickS pick0) (n := 1) (xs := ([a_b] : List GBooking)) rfl rfl (by unfold maxLen; omega))) g) g2) (fun _ => (sts_some (some_cons (pickS (pickS pick0)) some_nil))) rfl fun x4 => ?_
      refine wa_pure 6 rfl (po_assign rfl) (some_cons (pickS (pickS pick0)) some_nil) rfl (by kernel_rfl) (fun _ _ _ h => h) ?_
      refine wa_done (by kernel_rfl) ?_
      exact wq_meet x4 trivial (sub_cons rfl (sub_cons rfl sub_nil)) (some_cons pick0 some_nil)
    refine ws_eff rfl (eo_buildSlice rfl (sb_36_1 a_b.Day a_b.From a_b.To a_b.Sum)) (fun _ => (sts_some (some_cons (pickS pick0) some_nil))) rfl fun b5 => ?_
    refine wa_1 (i := 0) (by kernel_rfl) ?_
    refine ws_eff rfl (eo_buildSlice rfl sb_36_0) (fun _ => (sts_some (some_cons (pickS (pickS pick0)) some_nil))) rfl fun b6 => ?_
    refine wa_1 (i := 2) (by kernel_rfl) ?_
    refine ws_eff rfl (eo_append (xs := ([] : List GBooking)) (ys := a_list) ak_36 (pick_box_own pick0 (n := 0) (xs := ([] : List GBooking)) rfl rfl (by unfold maxLen; omega)) rfl rfl (slin_rd fun _ g => Rg.on (rds_arg r0) g) g1) (fun _ => (sts_some (some_cons (pickS (pickS pick0)) some_nil))) rfl fun x5 => ?_
    refine wa_1 (i := 5) (by kernel_rfl) ?_
    refine ws_eff rfl (eo_append (xs := (([] : List GBooking) ++ a_list)) (ys := ([a_b] : List GBooking)) ak_36 pick0 rfl rfl (slin_rd fun _ g => Rg.on (rds_own (pick_box_own (pickS pick0) (n := 1) (xs := ([a_b] : List GBooking)) rfl rfl (by unfold maxLen; omega))) g) g2) (fun _ => (sts_some (some_cons (pickS (pickS pick0)) some_nil))) rfl fun x6 => ?_
    refine wa_pure 6 rfl (po_assign rfl) (some_cons (pickS (pickS pick0)) some_nil) rfl (by kernel_rfl) (fun _ _ _ h => h) ?_
    refine wa_done (by kernel_rfl) ?_
    exact wq_meet x6 trivial (sub_cons rfl (sub_cons rfl sub_nil)) (some_cons pick0 some_nil)
  intro x7 _
  refine wq_then ?_
  refine wc_seq ?_
  refine wc_seq ?_
  refine bdO t0 fun y1 t1 t0 => ?_
  refine wj (J := Bool) (X := Unit) (fun z => y1 = z) (fun z _ => [(0, (sl v0a)), (6, (sl x7)), (20, .bool z)]) (fun _ _ => [ownF (sl x7) ((([] : List GBooking) ++ a_list) ++ [a_b])]) ?_ ?_
  · skip
    refine wc_region ?_
    refine mv rfl rfl ?_
    refine bdO t1 fun v1 hv1 t1 => ?_
    refine wl_call (co_c0 fa_119 rfl fun w hw => c_impl_LedgerOk w a_list v0a (Rg.on (rds_arg r0) hw) hv1) rfl fun _ => ?_
    refine wl_pure (po_not rfl) rfl ?_
    refine mv rfl rfl ?_
    refine wlO_ (t := 16) t1 rfl (fun h1 t1 => ?_) fun h1 t1 => ?_
    · skip
      refine wl_guard_off (j := 3) rfl rfl rfl rfl rfl ?_
      refine wl_guard_off (j := 3) rfl rfl rfl rfl rfl ?_
      refine wl_guard_off (j := 3) rfl rfl rfl rfl rfl ?_
      refine wl_pure (po_pick_t rfl rfl) rfl ?_
      refine wl_nil ?_
      exact wj_meet _ () (mtE t1) (sub_cons rfl (sub_cons rfl (sub_cons rfl sub_nil))) (some_cons pick0 some_nil)
    refine wl_guard_on (j := 3) rfl rfl rfl (mv rfl rfl ?_)
    refine bdO t1 fun v2 hv2 t1 => ?_
    refine wl_guard_on (j := 3) rfl rfl rfl (wl_call (co_c0 fa_119 rfl fun w hw => c_impl_LedgerOk w ((([] : List GBooking) ++ a_list) ++ [a_b]) x7 (Rg.on (rds_own pick0) hw) hv2) rfl (fun _ => ?_))
    refine wl_guard_on (j := 3) rfl rfl rfl (wl_pure (po_not rfl) rfl ?_)
    refine wl_pure (po_pick_f rfl rfl) rfl ?_
    refine wl_nil ?_
    exact wj_meet _ () (mtE t1) (sub_cons rfl (sub_cons rfl (sub_cons rfl sub_nil))) (some_cons pick0 some_nil)
  intro j1 _ hp
  obtain rfl : j1 = y1 := hp.symm
  refine wq_then ?_
  refine wcO t0 rfl (fun h2 t0 => ?_) fun h2 t0 => ?_
  · skip
    refine wcr ?_
    refine wl_eff (eo_buildSlice rfl sb_36_0) rfl fun b7 => ?_
    refine mv rfl rfl ?_
    refine wl_eff (eo_append (xs := ([] : List GBooking)) (ys := a_list) ak_36 (pick_box_own pick0 (n := 0) (xs := ([] : List GBooking)) rfl rfl (by unfold maxLen; omega)) rfl rfl (slin_rd fun _ g => Rg.on (rds_arg r0) g) g1) rfl fun x9 => ?_
    refine asg rfl rfl ?_
    refine asg rfl rfl ?_
    refine wnt ?_
    refine wc_ret ?_
    refine wq_then_ret ?_
    obtain rfl := Option.some.inj t0
    exact wq_ret2 rfl rfl rfl fun w hw => ⟨x9, rfl, hw.weak (some_cons pick0 some_nil)⟩
  refine wc_skip ?_
  refine wq_then ?_
  refine wcr ?_
  refine mv rfl rfl ?_
  refine asg rfl rfl ?_
  refine asg rfl rfl ?_
  refine wnt ?_
  refine wc_ret ?_
  obtain rfl := Option.some.inj t0
  exact wq_ret2 rfl rfl rfl fun w hw => ⟨x7, rfl, hw.weak (some_cons pick0 some_nil)⟩

theorem c_impl_allWithin (w : World) (a_list : List Int) (v0a : Hd) (r0 : rdF w (dm w []) (sl v0a) a_list) (a_a : Int) (a_b : Int) {r : Bool} (t0 : impl_allWithin a_list a_a a_b = some r) : Calls Try.prog 136 #[(sl v0a), .int .i64 a_a, .int .i64 a_b] w fun e w' => e = .returned (.bool r) ∧ SH w [] [] w' := by
  refine calls_of_wc (args := [_, _, _]) Try.func136 rfl Try.ntmps136 rfl ?_
  unfold impl_allWithin at t0
  refine wcr ?_
  refine asg rfl rfl ?_
  refine wnt ?_
  refine wc_seq ?_
  refine wcr ?_
  refine mv rfl rfl ?_
  refine wl_pure (po_lenr (rds_arg r0) el_34 rfl) rfl ?_
  refine mv rfl rfl ?_
  refine wnt ?_
  refine gdO t0 fun g1 t0 => ?_
  refine sqO t0 fun y1 l1 t0 => ?_
  refine wj (J := Unit) (X := Unit) (fun z => y1 = .inl z) (fun _ _ => []) (fun _ _ => []) ?_ ?_
  · skip
    refine wc_block ?_
    refine wc_forO (X := Unit) l1 (fun k1 s1 x1l => [(1, .int .i64 a_a), (2, .int .i64 a_b), (9, (sl v0a)), (10, .int .i64 ((a_list.length : Nat) : Int)), (11, .int .i64 ((k1 : Nat) : Int))]) (fun k1 s1 x1l => []) () (sub_cons rfl (sub_cons rfl (sub_cons rfl (sub_cons rfl (sub_cons rfl sub_nil))))) some_nil fun k1 s1 x1l hN1 l1 => ?_
    by_cases hk1 : k1 < a_list.length
    · skip
      refine forO_step l1 hk1 fun _ t1 l1 => ?_
      unfold impl_allWithin_L1 at t1
      have c1 : (decide (((k1 : Nat) : Int) < ((a_list.length : Nat) : Int))) = true := decide_eq_true (by omega)
      refine wcr ?_
      refine wl_pure (po_lss rfl rfl) rfl ?_
      refine wnt ?_
      refine wc_seq ?_
      refine wc_cond_t rfl c1 ?_
      refine wc_skip ?_
      refine wq_then ?_
      refine wc_seq ?_
      refine wc_block ?_
      refine wcr ?_
      refine wl_pure (po_ixn (k := k1) (rds_arg r0) el_34 rfl rfl hk1) rfl ?_
      refine wl_pure (v := .int .i64 (gx a_list k1)) (po_ldf (rds_arg r0) tk_3 rfl hk1 rfl) rfl ?_
      refine asg rfl rfl ?_
      refine wnt ?_
      refine wcr ?_
      refine mv rfl rfl ?_
      refine mv rfl rfl ?_
      refine mv rfl rfl ?_
      refine bdO t1 fun v1 hv1 t1 => ?_
      refine wl_call (co_c0 fa_74 rfl fun w hw => c_impl_within w (gx a_list k1) a_a a_b hv1) rfl fun _ => ?_
      refine wl_pure (po_not rfl) rfl ?_
      refine wnt ?_
      refine wcO t1 rfl (fun h1 t1 => ?_) fun h1 t1 => ?_
      · skip
        refine wcr ?_
        refine asg rfl rfl ?_
        refine wnt ?_
        refine wc_ret ?_
        refine wq_block_ret ?_
        refine wq_then_ret ?_
        refine wq_then_ret ?_
        refine wq_block_ret ?_
        refine wq_then_ret ?_
        refine wq_then_ret ?_
        replace t0 := lpR t0 l1 t1
        obtain rfl := Option.some.inj t0
        exact wq_ret1 rfl rfl fun w hw => ⟨rfl, hw.weak some_nil⟩
      refine wc_skip ?_
      refine wq_block ?_
      refine wq_then ?_
      refine wc_region ?_
      refine wl_pure (po_inc rfl rfl (by omega)) rfl ?_
      refine mv rfl rfl ?_
      refine wl_nil ?_
      exact wq_rnd hk1 (stpN l1 t1) () (sub_cons rfl (sub_cons rfl (sub_cons rfl (sub_cons rfl (sub_cons rfl sub_nil))))) some_nil
    have c1 : (decide (((k1 : Nat) : Int) < ((a_list.length : Nat) : Int))) = false := decide_eq_false (by omega)
    have en1 := forO_end l1 hk1
    refine wcr ?_
    refine wl_pure (po_lss rfl rfl) rfl ?_
    refine wnt ?_
    refine wc_seq ?_
    refine wc_cond_f rfl c1 ?_
    refine wc_exit ?_
    refine wq_then_exit ?_
    refine wq_then_exit ?_
    refine wq_block_exit ?_
    exact wj_meet _ () en1 sub_nil some_nil
  intro e1 _ hp
  replace t0 := sqE (j := e1) t0 hp
  refine wq_then ?_
  refine wcr ?_
  refine asg rfl rfl ?_
  refine wnt ?_
  refine wc_ret ?_
  obtain rfl := Option.some.inj t0
  exact wq_ret1 rfl rfl fun w hw => ⟨rfl, hw.weak some_nil⟩

theorem c_impl_StockOk (w : World) (a_stock : List Int) (v0a : Hd) (r0 : rdF w (dm w []) (sl v0a) a_stock) {r : Bool} (t0 : impl_StockOk a_stock = some r) : Calls Try.prog 118 #[(sl v0a)] w fun e w' => e = .returned (.bool r) ∧ SH w [] [] w' := by
  refine calls_of_wc (args := [_]) Try.func118 rfl Try.ntmps118 rfl ?_
  unfold impl_StockOk at t0
  refine wcr ?_
  refine asg rfl rfl ?_
  refine wnt ?_
  refine wc_seq ?_
  refine bdO t0 fun y1 t1 t0 => ?_
  refine wj (J := Bool) (X := Unit) (fun z => y1 = z) (fun z _ => [(2, .bool z)]) (fun _ _ => []) ?_ ?_
  · skip
    refine wc_region ?_
    refine mv rfl rfl ?_
    refine wl_pure (po_lenr (rds_arg r0) el_34 rfl) rfl ?_
    refine wl_pure (po_eql rfl rfl) rfl ?_
    refine mv rfl rfl ?_
    refine wlO_ (t := 6) t1 rfl (fun h1 t1 => ?_) fun h1 t1 => ?_
    · skip
      refine wl_guard_on (j := 3) rfl rfl rfl (mv rfl rfl ?_)
      refine bdO t1 fun v1 hv1 t1 => ?_
      refine wl_guard_on (j := 3) rfl rfl rfl (wl_call (co_c0 fa_136 rfl fun w hw => c_impl_allWithin w a_stock v0a (Rg.on (rds_arg r0) hw) 0 1000000 hv1) rfl (fun _ => ?_))
      refine wl_pure (po_pick_t rfl rfl) rfl ?_
      refine asg rfl rfl ?_
      refine wl_nil ?_
      exact wj_meet _ () (mtE t1) (sub_cons rfl sub_nil) some_nil
    refine wl_guard_off (j := 3) rfl rfl rfl rfl rfl ?_
    refine wl_guard_off (j := 3) rfl rfl rfl rfl rfl ?_
    refine wl_pure (po_pick_f rfl rfl) rfl ?_
    refine asg rfl rfl ?_
    refine wl_nil ?_
    exact wj_meet _ () (mtE t1) (sub_cons rfl sub_nil) some_nil
  intro j1 _ hp
  obtain rfl : j1 = y1 := hp.symm
  refine wq_then ?_
  refine wc_ret ?_
  obtain rfl := Option.some.inj t0
  exact wq_ret1 rfl rfl fun w hw => ⟨rfl, hw.weak some_nil⟩

theorem c_impl_isColor (w : World) (a_a : Int) {r : Bool} (t0 : impl_isColor a_a = some r) : Calls Try.prog 122 #[.int .i64 a_a] w fun e w' => e = .returned (.bool r) ∧ SH w [] [] w' := by
  refine calls_of_wc (args := [_]) Try.func122 rfl Try.ntmps122 rfl ?_
  unfold impl_isColor at t0
  refine wcr ?_
  refine asg rfl rfl ?_
  refine wnt ?_
  refine wcr ?_
  refine mv rfl rfl ?_
  refine bdO t0 fun v1 hv1 t0 => ?_
  refine wl_call (co_c0 fa_74 rfl fun w hw => c_impl_within w a_a 0 5 hv1) rfl fun _ => ?_
  refine asg rfl rfl ?_
  refine wnt ?_
  refine wc_ret ?_
  obtain rfl := Option.some.inj t0
  exact wq_ret1 rfl rfl fun w hw => ⟨rfl, hw.weak some_nil⟩

theorem c_impl_CellOk (w : World) (a_c : GCell) {r : Bool} (t0 : impl_CellOk a_c = some r) : Calls Try.prog 126 #[.agg #[.int .i64 a_c.Split, .int .i64 a_c.A, .int .i64 a_c.B]] w fun e w' => e = .returned (.bool r) ∧ SH w [] [] w' := by
  refine calls_of_wc (args := [_]) Try.func126 rfl Try.ntmps126 rfl ?_
  unfold impl_CellOk at t0
  refine wcr ?_
  refine wl_eff (eo_box rfl rfl) rfl fun b1 => ?_
  refine asg rfl rfl ?_
  refine wnt ?_
  refine wc_seq ?_
  refine bdO t0 fun y1 t1 t0 => ?_
  refine wj (J := Bool) (X := Unit) (fun z => y1 = z) (fun z _ => [(2, .bool z)]) (fun _ _ => []) ?_ ?_
  · skip
    refine wc_region ?_
    refine wl_pure (po_fld fo_99_0 rfl) rfl ?_
    refine wl_pure (v := .int .i64 a_c.Split) (po_load_box tk_3 pick0 rfl rfl) rfl ?_
    refine bdO t1 fun v1 hv1 t1 => ?_
    refine wl_call (co_c0 fa_74 rfl fun w hw => c_impl_within w a_c.Split 0 2 hv1) rfl fun _ => ?_
    refine mv rfl rfl ?_
    refine wlO_ (t := 6) t1 rfl (fun h1 t1 => ?_) fun h1 t1 => ?_
    · skip
      refine wl_guard_on (j := 3) rfl rfl rfl (wl_pure (po_fld fo_99_1 rfl) rfl ?_)
      refine wl_guard_on (j := 3) rfl rfl rfl (wl_pure (v := .int .i64 a_c.A) (po_load_box tk_3 pick0 rfl rfl) rfl ?_)
      refine bdO t1 fun v2 hv2 t1 => ?_
      refine wl_guard_on (j := 3) rfl rfl rfl (wl_call (co_c0 fa_122 rfl fun w hw => c_impl_isColor w a_c.A hv2) rfl (fun _ => ?_))
      refine wl_pure (po_pick_t rfl rfl) rfl ?_
      refine mv rfl rfl ?_
      refine wlO_ (t := 11) t1 rfl (fun h2 t1 => ?_) fun h2 t1 => ?_
      · skip
        refine wl_guard_on (j := 8) rfl rfl rfl (wl_pure (po_fld fo_99_2 rfl) rfl ?_)
        refine wl_guard_on (j := 8) rfl rfl rfl (wl_pure (v := .int .i64 a_c.B) (po_load_box tk_3 pick0 rfl rfl) rfl ?_)
        refine bdO t1 fun v3 hv3 t1 => ?_
        refine wl_guard_on (j := 8) rfl rfl rfl (wl_call (co_c0 fa_122 rfl fun w hw => c_impl_isColor w a_c.B hv3) rfl (fun _ => ?_))
        refine wl_pure (po_pick_t rfl rfl) rfl ?_
        refine mv rfl rfl ?_
        refine wlO_ (t := 16) t1 rfl (fun h3 t1 => ?_) fun h3 t1 => ?_
        · skip
          refine wl_guard_on (j := 13) rfl rfl rfl (wl_pure (po_fld fo_99_0 rfl) rfl ?_)
          refine wl_guard_on (j := 13) rfl rfl rfl (wl_pure (v := .int .i64 a_c.Split) (po_load_box tk_3 pick0 rfl rfl) rfl ?_)
          refine wl_guard_on (j := 13) rfl rfl rfl (wl_pure (po_eql rfl rfl) rfl ?_)
          refine wl_guard_on (j := 13) rfl rfl rfl (wl_pure (po_fld fo_99_1 rfl) rfl ?_)
          refine wl_guard_on (j := 13) rfl rfl rfl (wl_pure (v := .int .i64 a_c.A) (po_load_box tk_3 pick0 rfl rfl) rfl ?_)
          refine wl_guard_on (j := 13) rfl rfl rfl (wl_pure (po_fld fo_99_2 rfl) rfl ?_)
          refine wl_guard_on (j := 13) rfl rfl rfl (wl_pure (v := .int .i64 a_c.B) (po_load_box tk_3 pick0 rfl rfl) rfl ?_)
          refine wl_guard_on (j := 13) rfl rfl rfl (wl_pure (po_eql rfl rfl) rfl ?_)
          refine wl_guard_on (j := 13) rfl rfl rfl (wl_pure (po_eql_bool ub_4 rfl rfl) rfl ?_)
          refine wl_pure (po_pick_t rfl rfl) rfl ?_
          refine asg rfl rfl ?_
          refine wl_nil ?_
          exact wj_meet _ () (mtE t1) (sub_cons rfl sub_nil) some_nil
        refine wl_guard_off (j := 13) rfl rfl rfl rfl rfl ?_
        refine wl_guard_off (j := 13) rfl rfl rfl rfl rfl ?_
        refine wl_guard_off (j := 13) rfl rfl rfl rfl rfl ?_
        refine wl_guard_off (j := 13) rfl rfl rfl rfl rfl ?_
        refine wl_guard_off (j := 13) rfl rfl rfl rfl rfl ?_
        refine wl_guard_off (j := 13) rfl rfl rfl rfl rfl ?_
        refine wl_guard_off (j := 13) rfl rfl rfl rfl rfl ?_
        refine wl_guard_off (j := 13) rfl rfl rfl rfl rfl ?_
        refine wl_guard_off (j := 13) rfl rfl rfl rfl rfl ?_
        refine wl_pure (po_pick_f rfl rfl) rfl ?_
        refine asg rfl rfl ?_
        refine wl_nil ?_
        exact wj_meet _ () (mtE t1) (sub_cons rfl sub_nil) some_nil
      refine wl_guard_off (j := 8) rfl rfl rfl rfl rfl ?_
      refine wl_guard_off (j := 8) rfl rfl rfl rfl rfl ?_
      refine wl_guard_off (j := 8) rfl rfl rfl rfl rfl ?_
      refine wl_pure (po_pick_f rfl rfl) rfl ?_
      refine mv rfl rfl ?_
      refine wl_guard_off (j := 13) rfl rfl rfl rfl rfl ?_
      refine wl_guard_off (j := 13) rfl rfl rfl rfl rfl ?_
      refine wl_guard_off (j := 13) rfl rfl rfl rfl rfl ?_
      refine wl_guard_off (j := 13) rfl rfl rfl rfl rfl ?_
      refine wl_guard_off (j := 13) rfl rfl rfl rfl rfl ?_
      refine wl_guard_off (j := 13) rfl rfl rfl rfl rfl ?_
      refine wl_guard_off (j := 13) rfl rfl rfl rfl rfl ?_
      refine wl_guard_off (j := 13) rfl rfl rfl rfl rfl ?_
      refine wl_guard_off (j := 13) rfl rfl rfl rfl rfl ?_
      refine wl_pure (po_pick_f rfl rfl) rfl ?_
      refine asg rfl rfl ?_
      refine wl_nil ?_
      exact wj_meet _ () (mtE t1) (sub_cons rfl sub_nil) some_nil
    refine wl_guard_off (j := 3) rfl rfl rfl rfl rfl ?_
    refine wl_guard_off (j := 3) rfl rfl rfl rfl rfl ?_
    refine wl_guard_off (j := 3) rfl rfl rfl rfl rfl ?_
    refine wl_pure (po_pick_f rfl rfl) rfl ?_
    refine mv rfl rfl ?_
    refine wl_guard_off (j := 8) rfl rfl rfl rfl rfl ?_
    refine wl_guard_off (j := 8) rfl rfl rfl rfl rfl ?_
    refine wl_guard_off (j := 8) rfl rfl rfl rfl rfl ?_
    refine wl_pure (po_pick_f rfl rfl) rfl ?_
    refine mv rfl rfl ?_
    refine wl_guard_off (j := 13) rfl rfl rfl rfl rfl ?_
    refine wl_guard_off (j := 13) rfl rfl rfl rfl rfl ?_
    refine wl_guard_off (j := 13) rfl rfl rfl rfl rfl ?_
    refine wl_guard_off (j := 13) rfl rfl rfl rfl rfl ?_
    refine wl_guard_off (j := 13) rfl rfl rfl rfl rfl ?_
    refine wl_guard_off (j := 13) rfl rfl rfl rfl rfl ?_
    refine wl_guard_off (j := 13) rfl rfl rfl rfl rfl ?_
    refine wl_guard_off (j := 13) rfl rfl rfl rfl rfl ?_
    refine wl_guard_off (j := 13) rfl rfl rfl rfl rfl ?_
    refine wl_pure (po_pick_f rfl rfl) rfl ?_
    refine asg rfl rfl ?_
    refine wl_nil ?_
    exact wj_meet _ () (mtE t1) (sub_cons rfl sub_nil) some_nil
  intro j1 _ hp
  obtain rfl : j1 = y1 := hp.symm
  refine wq_then ?_
  refine wc_ret ?_
  obtain rfl := Option.some.inj t0
  exact wq_ret1 rfl rfl fun w hw => ⟨rfl, hw.weak some_nil⟩

theorem c_impl_BlockOk (w : World) (a_b : GBlock) (v0a : Hd) (r0 : rdF w (dm w []) (sl v0a) a_b.Cells) {r : Bool} (t0 : impl_BlockOk a_b = some r) : Calls Try.prog 89 #[.agg #[.int .i64 a_b.Size, (sl v0a)]] w fun e w' => e = .returned (.bool r) ∧ SH w [] [] w' := by
  refine calls_of_wc (args := [_]) Try.func89 rfl Try.ntmps89 rfl ?_
  unfold impl_BlockOk at t0
  refine wcr ?_
  refine wl_eff (eo_box rfl rfl) rfl fun b1 => ?_
  refine asg rfl rfl ?_
  refine wnt ?_
  refine wc_seq ?_
  refine wc_seq ?_
  refine bdO t0 fun y1 t1 t0 => ?_
  refine wj (J := Bool) (X := Unit) (fun z => y1 = z) (fun z _ => [(1, ptr b1 0), (19, .bool z)]) (fun _ _ => [box b1 [.int .i64 a_b.Size, (sl v0a)]]) ?_ ?_
  · skip
    refine wc_region ?_
    refine wl_pure (po_fld fo_29_0 rfl) rfl ?_
    refine wl_pure (v := .int .i64 a_b.Size) (po_load_box tk_3 pick0 rfl rfl) rfl ?_
    refine bdO t1 fun v1 hv1 t1 => ?_
    refine wl_call (co_c0 fa_74 rfl fun w hw => c_impl_within w a_b.Size 1 4 hv1) rfl fun _ => ?_
    refine wl_pure (po_not rfl) rfl ?_
    refine mv rfl rfl ?_
    refine wlO_ (t := 9) t1 rfl (fun h1 t1 => ?_) fun h1 t1 => ?_
    · skip
      refine wl_guard_off (j := 4) rfl rfl rfl rfl rfl ?_
      refine wl_guard_off (j := 4) rfl rfl rfl rfl rfl ?_
      refine wl_guard_off (j := 4) rfl rfl rfl rfl rfl ?_
      refine wl_guard_off (j := 4) rfl rfl rfl rfl rfl ?_
      refine wl_guard_off (j := 4) rfl rfl rfl rfl rfl ?_
      refine wl_guard_off (j := 4) rfl rfl rfl rfl rfl ?_
      refine wl_guard_off (j := 4) rfl rfl rfl rfl rfl ?_
      refine wl_guard_off (j := 4) rfl rfl rfl rfl rfl ?_
      refine wl_guard_off (j := 4) rfl rfl rfl rfl rfl ?_
      refine wl_pure (po_pick_t rfl rfl) rfl ?_
      refine wl_nil ?_
      exact wj_meet _ () (mtE t1) (sub_cons rfl (sub_cons rfl sub_nil)) (some_cons pick0 some_nil)
    refine wl_guard_on (j := 4) rfl rfl rfl (wl_pure (po_fld fo_29_1 rfl) rfl ?_)
    refine wl_guard_on (j := 4) rfl rfl rfl (wl_pure (v := (sl v0a)) (po_load_box tk_27 pick0 rfl rfl) rfl ?_)
    refine wl_guard_on (j := 4) rfl rfl rfl (wl_pure (po_lenr (rds_arg r0) el_27 rfl) rfl ?_)
    refine wl_guard_on (j := 4) rfl rfl rfl (wl_pure (po_fld fo_29_0 rfl) rfl ?_)
    refine wl_guard_on (j := 4) rfl rfl rfl (wl_pure (v := .int .i64 a_b.Size) (po_load_box tk_3 pick0 rfl rfl) rfl ?_)
    refine wl_guard_on (j := 4) rfl rfl rfl (wl_pure (po_fld fo_29_0 rfl) rfl ?_)
    refine wl_guard_on (j := 4) rfl rfl rfl (wl_pure (v := .int .i64 a_b.Size) (po_load_box tk_3 pick0 rfl rfl) rfl ?_)
    refine wl_guard_on (j := 4) rfl rfl rfl (wl_pure (po_mul rfl rfl) rfl ?_)
    refine wl_guard_on (j := 4) rfl rfl rfl (wl_pure (po_neq rfl rfl) rfl ?_)
    refine wl_pure (po_pick_f rfl rfl) rfl ?_
    refine wl_nil ?_
    exact wj_meet _ () (mtE t1) (sub_cons rfl (sub_cons rfl sub_nil)) (some_cons pick0 some_nil)
  intro j1 _ hp
  obtain rfl : j1 = y1 := hp.symm
  refine wq_then ?_
  refine wcO t0 rfl (fun h2 t0 => ?_) fun h2 t0 => ?_
  · skip
    refine wcr ?_
    refine asg rfl rfl ?_
    refine wnt ?_
    refine wc_ret ?_
    refine wq_then_ret ?_
    obtain rfl := Option.some.inj t0
    exact wq_ret1 rfl rfl fun w hw => ⟨rfl, hw.weak some_nil⟩
  refine wc_skip ?_
  refine wq_then ?_
  refine wc_seq ?_
  refine wcr ?_
  refine wl_pure (po_fld fo_29_1 rfl) rfl ?_
  refine wl_pure (v := (sl v0a)) (po_load_box tk_27 pick0 rfl rfl) rfl ?_
  refine wl_pure (po_lenr (rds_arg r0) el_27 rfl) rfl ?_
  refine mv rfl rfl ?_
  refine wnt ?_
  refine gdO t0 fun g1 t0 => ?_
  refine sqO t0 fun y1 l1 t0 => ?_
  refine wj (J := Unit) (X := Unit) (fun z => y1 = .inl z) (fun _ _ => []) (fun _ _ => []) ?_ ?_
  · skip
    refine wc_block ?_
    refine wc_forO (X := Unit) l1 (fun k1 s1 x1l => [(21, (sl v0a)), (22, .int .i64 ((a_b.Cells.length : Nat) : Int)), (23, .int .i64 ((k1 : Nat) : Int))]) (fun k1 s1 x1l => []) () (sub_cons rfl (sub_cons rfl (sub_cons rfl sub_nil))) some_nil fun k1 s1 x1l hN1 l1 => ?_
    by_cases hk1 : k1 < a_b.Cells.length
    · skip
      refine forO_step l1 hk1 fun _ t1 l1 => ?_
      unfold impl_BlockOk_L1 at t1
      have c1 : (decide (((k1 : Nat) : Int) < ((a_b.Cells.length : Nat) : Int))) = true := decide_eq_true (by omega)
      refine wcr ?_
      refine wl_pure (po_lss rfl rfl) rfl ?_
      refine wnt ?_
      refine wc_seq ?_
      refine wc_cond_t rfl c1 ?_
      refine wc_skip ?_
      refine wq_then ?_
      refine wc_seq ?_
      refine wc_block ?_
      refine wcr ?_
      refine wl_pure (po_ixn (k := k1) (rds_arg r0) el_27 rfl rfl hk1) rfl ?_
      refine wl_pure (v := .agg #[.int .i64 ((gx a_b.Cells k1).Split), .int .i64 ((gx a_b.Cells k1).A), .int .i64 ((gx a_b.Cells k1).B)]) (po_ldfs (rds_arg r0) tk_99 rfl hk1 rfl rfl rfl) rfl ?_
      refine wl_eff (eo_alloc (cs := [.int .i64 0, .int .i64 0, .int .i64 0]) za_99) rfl fun b2 => ?_
      refine wl_skipop (so_box (cs' := [.int .i64 ((gx a_b.Cells k1).Split), .int .i64 ((gx a_b.Cells k1).A), .int .i64 ((gx a_b.Cells k1).B)]) tk_99 pick0 rfl rfl rfl rfl rfl rfl rfl) ?_
      refine wnt ?_
      refine wcr ?_
      refine wl_pure (v := .agg #[.int .i64 ((gx a_b.Cells k1).Split), .int .i64 ((gx a_b.Cells k1).A), .int .i64 ((gx a_b.Cells k1).B)]) (po_load_boxs tk_99 pick0 rfl rfl rfl) rfl ?_
      refine bdO t1 fun v2 hv2 t1 => ?_
      refine wl_call (co_c0 fa_126 rfl fun w hw => c_impl_CellOk w (gx a_b.Cells k1) hv2) rfl fun _ => ?_
      refine wl_pure (po_not rfl) rfl ?_
      refine wnt ?_
      refine wcO t1 rfl (fun h3 t1 => ?_) fun h3 t1 => ?_
      · skip
        refine wcr ?_
        refine asg rfl rfl ?_
        refine wnt ?_
        refine wc_ret ?_
        refine wq_block_ret ?_
        refine wq_then_ret ?_
        refine wq_then_ret ?_
        refine wq_block_ret ?_
        refine wq_then_ret ?_
        refine wq_then_ret ?_
        replace t0 := lpR t0 l1 t1
        obtain rfl := Option.some.inj t0
        exact wq_ret1 rfl rfl fun w hw => ⟨rfl, hw.weak some_nil⟩
      refine wc_skip ?_
      refine wq_block ?_
      refine wq_then ?_
      refine wc_region ?_
      refine wl_pure (po_inc rfl rfl (by omega)) rfl ?_
      refine mv rfl rfl ?_
      refine wl_nil ?_
      exact wq_rnd hk1 (stpN l1 t1) () (sub_cons rfl (sub_cons rfl (sub_cons rfl sub_nil))) some_nil
    have c1 : (decide (((k1 : Nat) : Int) < ((a_b.Cells.length : Nat) : Int))) = false := decide_eq_false (by omega)
    have en1 := forO_end l1 hk1
    refine wcr ?_
    refine wl_pure (po_lss rfl rfl) rfl ?_
    refine wnt ?_
    refine wc_seq ?_
    refine wc_cond_f rfl c1 ?_
    refine wc_exit ?_
    refine wq_then_exit ?_
    refine wq_then_exit ?_
    refine wq_block_exit ?_
    exact wj_meet _ () en1 sub_nil some_nil
  intro e1 _ hp
  replace t0 := sqE (j := e1) t0 hp
  refine wq_then ?_
  refine wcr ?_
  refine asg rfl rfl ?_
  refine wnt ?_
  refine wc_ret ?_
  obtain rfl := Option.some.inj t0
  exact wq_ret1 rfl rfl fun w hw => ⟨rfl, hw.weak some_nil⟩

theorem c_impl_EntryOk (w : World) (a_e : GEntry) (v0a : Hd) (r0 : rdF w (dm w []) (sl v0a) a_e.Block.Cells) {r : Bool} (t0 : impl_EntryOk a_e = some r) : Calls Try.prog 120 #[.agg #[.int .i64 a_e.Owner, .int .i64 a_e.Day, .int .i64 a_e.Block.Size, (sl v0a)]] w fun e w' => e = .returned (.bool r) ∧ SH w [] [] w' := by
  refine calls_of_wc (args := [_]) Try.func120 rfl Try.ntmps120 rfl ?_
  unfold impl_EntryOk at t0
  refine wcr ?_
  refine wl_eff (eo_box rfl rfl) rfl fun b1 => ?_
  refine asg rfl rfl ?_
  refine wnt ?_
  refine wc_seq ?_
  refine bdO t0 fun y1 t1 t0 => ?_
  refine wj (J := Bool) (X := Unit) (fun z => y1 = z) (fun z _ => [(2, .bool z)]) (fun _ _ => []) ?_ ?_
  · skip
    refine wc_region ?_
    refine wl_pure (po_fld fo_88_0 rfl) rfl ?_
    refine wl_pure (v := .int .i64 a_e.Owner) (po_load_box tk_3 pick0 rfl rfl) rfl ?_
    refine bdO t1 fun v1 hv1 t1 => ?_
    refine wl_call (co_c0 fa_74 rfl fun w hw => c_impl_within w a_e.Owner 0 99 hv1) rfl fun _ => ?_
    refine mv rfl rfl ?_
    refine wlO_ (t := 6) t1 rfl (fun h1 t1 => ?_) fun h1 t1 => ?_
    · skip
      refine wl_guard_on (j := 3) rfl rfl rfl (wl_pure (po_fld fo_88_1 rfl) rfl ?_)
      refine wl_guard_on (j := 3) rfl rfl rfl (wl_pure (v := .int .i64 a_e.Day) (po_load_box tk_3 pick0 rfl rfl) rfl ?_)
      refine bdO t1 fun v2 hv2 t1 => ?_
      refine wl_guard_on (j := 3) rfl rfl rfl (wl_call (co_c0 fa_74 rfl fun w hw => c_impl_within w a_e.Day 0 9999 hv2) rfl (fun _ => ?_))
      refine wl_pure (po_pick_t rfl rfl) rfl ?_
      refine mv rfl rfl ?_
      refine wlO_ (t := 11) t1 rfl (fun h2 t1 => ?_) fun h2 t1 => ?_
      · skip
        refine wl_guard_on (j := 8) rfl rfl rfl (wl_pure (po_fld fo_88_2 rfl) rfl ?_)
        refine wl_guard_on (j := 8) rfl rfl rfl (wl_pure (v := .agg #[.int .i64 a_e.Block.Size, (sl v0a)]) (po_load_boxs tk_29 pick0 rfl rfl rfl) rfl ?_)
        refine bdO t1 fun v3 hv3 t1 => ?_
        refine wl_guard_on (j := 8) rfl rfl rfl (wl_call (co_c0 fa_89 rfl fun w hw => c_impl_BlockOk w a_e.Block v0a (Rg.on (rds_arg r0) hw) hv3) rfl (fun _ => ?_))
        refine wl_pure (po_pick_t rfl rfl) rfl ?_
        refine asg rfl rfl ?_
        refine wl_nil ?_
        exact wj_meet _ () (mtE t1) (sub_cons rfl sub_nil) some_nil
      refine wl_guard_off (j := 8) rfl rfl rfl rfl rfl ?_
      refine wl_guard_off (j := 8) rfl rfl rfl rfl rfl ?_
      refine wl_guard_off (j := 8) rfl rfl rfl rfl rfl ?_
      refine wl_pure (po_pick_f rfl rfl) rfl ?_
      refine asg rfl rfl ?_
      refine wl_nil ?_
      exact wj_meet _ () (mtE t1) (sub_cons rfl sub_nil) some_nil
    refine wl_guard_off (j := 3) rfl rfl rfl rfl rfl ?_
    refine wl_guard_off (j := 3) rfl rfl rfl rfl rfl ?_
    refine wl_guard_off (j := 3) rfl rfl rfl rfl rfl ?_
    refine wl_pure (po_pick_f rfl rfl) rfl ?_
    refine mv rfl rfl ?_
    refine wl_guard_off (j := 8) rfl rfl rfl rfl rfl ?_
    refine wl_guard_off (j := 8) rfl rfl rfl rfl rfl ?_
    refine wl_guard_off (j := 8) rfl rfl rfl rfl rfl ?_
    refine wl_pure (po_pick_f rfl rfl) rfl ?_
    refine asg rfl rfl ?_
    refine wl_nil ?_
    exact wj_meet _ () (mtE t1) (sub_cons rfl sub_nil) some_nil
  intro j1 _ hp
  obtain rfl : j1 = y1 := hp.symm
  refine wq_then ?_
  refine wc_ret ?_
  obtain rfl := Option.some.inj t0
  exact wq_ret1 rfl rfl fun w hw => ⟨rfl, hw.weak some_nil⟩

theorem c_impl_isMember (w : World) (a_list : List GMember) (v0a : Hd) (r0 : rdF w (dm w []) (sl v0a) a_list) (a_number : Int) {r : Bool} (t0 : impl_isMember a_list a_number = some r) : Calls Try.prog 121 #[(sl v0a), .int .i64 a_number] w fun e w' => e = .returned (.bool r) ∧ SH w [] [] w' := by
  refine calls_of_wc (args := [_, _]) Try.func121 rfl Try.ntmps121 rfl ?_
  unfold impl_isMember at t0
  refine wcr ?_
  refine asg rfl rfl ?_
  refine wnt ?_
  refine wc_seq ?_
  refine wcr ?_
  refine mv rfl rfl ?_
  refine wl_pure (po_lenr (rds_arg r0) el_33 rfl) rfl ?_
  refine mv rfl rfl ?_
  refine wnt ?_
  refine gdO t0 fun g1 t0 => ?_
  refine sqO t0 fun y1 l1 t0 => ?_
  refine wj (J := Unit) (X := Unit) (fun z => y1 = .inl z) (fun _ _ => []) (fun _ _ => []) ?_ ?_
  · skip
    refine wc_block ?_
    refine wc_forO (X := Unit) l1 (fun k1 s1 x1l => [(1, .int .i64 a_number), (7, (sl v0a)), (8, .int .i64 ((a_list.length : Nat) : Int)), (9, .int .i64 ((k1 : Nat) : Int))]) (fun k1 s1 x1l => []) () (sub_cons rfl (sub_cons rfl (sub_cons rfl (sub_cons rfl sub_nil)))) some_nil fun k1 s1 x1l hN1 l1 => ?_
    by_cases hk1 : k1 < a_list.length
    · skip
      refine forO_step l1 hk1 fun _ t1 l1 => ?_
      unfold impl_isMember_L1 at t1
      have c1 : (decide (((k1 : Nat) : Int) < ((a_list.length : Nat) : Int))) = true := decide_eq_true (by omega)
      refine wcr ?_
      refine wl_pure (po_lss rfl rfl) rfl ?_
      refine wnt ?_
      refine wc_seq ?_
      refine wc_cond_t rfl c1 ?_
      refine wc_skip ?_
      refine wq_then ?_
      refine wc_seq ?_
      refine wc_block ?_
      refine wcr ?_
      refine wl_pure (po_ixn (k := k1) (rds_arg r0) el_33 rfl rfl hk1) rfl ?_
      refine wl_pure (v := .agg #[.int .i64 ((gx a_list k1).Number), .int .i64 ((gx a_list k1).Since), .int .i64 ((gx a_list k1).Paid)]) (po_ldfs (rds_arg r0) tk_113 rfl hk1 rfl rfl rfl) rfl ?_
      refine wl_eff (eo_alloc (cs := [.int .i64 0, .int .i64 0, .int .i64 0]) za_113) rfl fun b1 => ?_
      refine wl_skipop (so_box (cs' := [.int .i64 ((gx a_list k1).Number), .int .i64 ((gx a_list k1).Since), .int .i64 ((gx a_list k1).Paid)]) tk_113 pick0 rfl rfl rfl rfl rfl rfl rfl) ?_
      refine wnt ?_
      refine wcr ?_
      refine wl_pure (po_fld fo_113_0 rfl) rfl ?_
      refine wl_pure (v := .int .i64 ((gx a_list k1).Number)) (po_load_box tk_3 pick0 rfl rfl) rfl ?_
      refine mv rfl rfl ?_
      refine wl_pure (po_eql rfl rfl) rfl ?_
      refine wnt ?_
      refine wcO t1 rfl (fun h1 t1 => ?_) fun h1 t1 => ?_
      · skip
        refine wcr ?_
        refine asg rfl rfl ?_
        refine wnt ?_
        refine wc_ret ?_
        refine wq_block_ret ?_
        refine wq_then_ret ?_
        refine wq_then_ret ?_
        refine wq_block_ret ?_
        refine wq_then_ret ?_
        refine wq_then_ret ?_
        replace t0 := lpR t0 l1 t1
        obtain rfl := Option.some.inj t0
        exact wq_ret1 rfl rfl fun w hw => ⟨rfl, hw.weak some_nil⟩
      refine wc_skip ?_
      refine wq_block ?_
      refine wq_then ?_
      refine wc_region ?_
      refine wl_pure (po_inc rfl rfl (by omega)) rfl ?_
      refine mv rfl rfl ?_
      refine wl_nil ?_
      exact wq_rnd hk1 (stpN l1 t1) () (sub_cons rfl (sub_cons rfl (sub_cons rfl (sub_cons rfl sub_nil)))) some_nil
    have c1 : (decide (((k1 : Nat) : Int) < ((a_list.length : Nat) : Int))) = false := decide_eq_false (by omega)
    have en1 := forO_end l1 hk1
    refine wcr ?_
    refine wl_pure (po_lss rfl rfl) rfl ?_
    refine wnt ?_
    refine wc_seq ?_
    refine wc_cond_f rfl c1 ?_
    refine wc_exit ?_
    refine wq_then_exit ?_
    refine wq_then_exit ?_
    refine wq_block_exit ?_
    exact wj_meet _ () en1 sub_nil some_nil
  intro e1 _ hp
  replace t0 := sqE (j := e1) t0 hp
  refine wq_then ?_
  refine wcr ?_
  refine asg rfl rfl ?_
  refine wnt ?_
  refine wc_ret ?_
  obtain rfl := Option.some.inj t0
  exact wq_ret1 rfl rfl fun w hw => ⟨rfl, hw.weak some_nil⟩

theorem c_impl_GoodStanding (w : World) (a_list : List GMember) (v0a : Hd) (r0 : rdF w (dm w []) (sl v0a) a_list) (a_year : Int) {r : List Int} (t0 : impl_GoodStanding a_list a_year = some r) : Calls Try.prog 115 #[(sl v0a), .int .i64 a_year] w fun e w' => ∃ x : Hd, e = .returned ((sl x)) ∧ SH w [] [ownF (sl x) r] w' := by
  refine calls_of_wc (args := [_, _]) Try.func115 rfl Try.ntmps115 rfl ?_
  unfold impl_GoodStanding at t0
  refine wcr ?_
  refine asg rfl rfl ?_
  refine wnt ?_
  refine wc_seq ?_
  refine wcr ?_
  refine mv rfl rfl ?_
  refine bdO t0 fun v1 hv1 t0 => ?_
  refine wl_call (co_c0 fa_117 rfl fun w hw => c_impl_MembersOk w a_list v0a (Rg.on (rds_arg r0) hw) hv1) rfl fun _ => ?_
  refine wl_pure (po_not rfl) rfl ?_
  refine wnt ?_
  refine wcO t0 rfl (fun h1 t0 => ?_) fun h1 t0 => ?_
  · skip
    refine wcr ?_
    refine asg rfl rfl ?_
    refine wnt ?_
    refine wc_ret ?_
    refine wq_then_ret ?_
    obtain rfl := Option.some.inj t0
    exact wq_ret1 rfl rfl fun w hw => ⟨(⟨none, 0, 0⟩ : Hd), rfl, hw.weak (some_cons pick_nil some_nil)⟩
  refine wc_skip ?_
  refine wq_then ?_
  refine wcr ?_
  refine wl_eff (eo_buildSlice rfl sb_34_0) rfl fun b1 => ?_
  refine asg rfl rfl ?_
  refine wnt ?_
  refine wc_seq ?_
  refine wcr ?_
  refine mv rfl rfl ?_
  refine wl_pure (po_lenr (rds_arg r0) el_33 rfl) rfl ?_
  refine mv rfl rfl ?_
  refine wnt ?_
  refine gdO t0 fun g1 t0 => ?_
  refine lpO_inv t0 fun y1 l1 t0 => ?_
  refine wj (J := List Int) (X := Hd) (fun z => y1 = z) (fun _ x => [(5, (sl x))]) (fun z x => [ownF (sl x) z]) ?_ ?_
  · skip
    refine wc_block ?_
    refine wc_forO (X := Hd) l1 (fun k1 s1 x1l => [(1, .int .i64 a_year), (5, (sl x1l)), (12, (sl v0a)), (13, .int .i64 ((a_list.length : Nat) : Int)), (14, .int .i64 ((k1 : Nat) : Int))]) (fun k1 s1 x1l => [ownF (sl x1l) s1]) (⟨some ⟨b1, 0, none⟩, 0, 0⟩ : Hd) (sub_cons rfl (sub_cons rfl (sub_cons rfl (sub_cons rfl (sub_cons rfl sub_nil))))) (some_cons (pick_box_own pick0 (n := 0) (xs := ([] : List Int)) rfl rfl (by unfold maxLen; omega)) some_nil) fun k1 s1 x1l hN1 l1 => ?_
    by_cases hk1 : k1 < a_list.length
    · skip
      refine forO_step l1 hk1 fun _ t1 l1 => ?_
      unfold impl_GoodStanding_L1 at t1
      have c1 : (decide (((k1 : Nat) : Int) < ((a_list.length : Nat) : Int))) = true := decide_eq_true (by omega)
      refine wcr ?_
      refine wl_pure (po_lss rfl rfl) rfl ?_
      refine wnt ?_
      refine wc_seq ?_
      refine wc_cond_t rfl c1 ?_
      refine wc_skip ?_
      refine wq_then ?_
      refine wc_seq ?_
      refine wc_block ?_
      refine wcr ?_
      refine wl_pure (po_ixn (k := k1) (rds_arg r0) el_33 rfl rfl hk1) rfl ?_
      refine wl_pure (v := .agg #[.int .i64 ((gx a_list k1).Number), .int .i64 ((gx a_list k1).Since), .int .i64 ((gx a_list k1).Paid)]) (po_ldfs (rds_arg r0) tk_113 rfl hk1 rfl rfl rfl) rfl ?_
      refine wl_eff (eo_alloc (cs := [.int .i64 0, .int .i64 0, .int .i64 0]) za_113) rfl fun b2 => ?_
      refine wl_skipop (so_box (cs' := [.int .i64 ((gx a_list k1).Number), .int .i64 ((gx a_list k1).Since), .int .i64 ((gx a_list k1).Paid)]) tk_113 pick0 rfl rfl rfl rfl rfl rfl rfl) ?_
      refine wnt ?_
      refine wcr ?_
      refine wl_pure (po_fld fo_113_2 rfl) rfl ?_
      refine wl_pure (v := .int .i64 ((gx a_list k1).Paid)) (po_load_box tk_3 pick0 rfl rfl) rfl ?_
      refine mv rfl rfl ?_
      refine wl_pure (po_geq rfl rfl) rfl ?_
      refine wnt ?_
      refine bdO t1 fun y2 t2 t1 => ?_
      refine wj (J := List Int) (X := Hd) (fun z => y2 = z) (fun _ x => [(1, .int .i64 a_year), (5, (sl x)), (12, (sl v0a)), (13, .int .i64 ((a_list.length : Nat) : Int)), (14, .int .i64 ((k1 : Nat) : Int))]) (fun z x => [ownF (sl x) z]) ?_ ?_
      · skip
        refine wcO t2 rfl (fun h2 t2 => ?_) fun h2 t2 => ?_
        · skip
          refine wc_region ?_
          refine mv rfl rfl ?_
          refine wl_pure (po_fld fo_113_0 rfl) rfl ?_
          refine wl_pure (v := .int .i64 ((gx a_list k1).Number)) (po_load_box tk_3 pick0 rfl rfl) rfl ?_
          refine wl_eff (eo_buildSlice rfl (sb_34_1 ((gx a_list k1).Number))) rfl fun b3 => ?_
          refine gdO t2 fun g2 t2 => ?_
          refine wl_eff (eo_append (xs := s1) (ys := ([(gx a_list k1).Number] : List Int)) ak_34 (pickS (pickS pick0)) rfl rfl (slin_rd fun _ g => Rg.on (rds_own (pick_box_own pick0 (n := 1) (xs := ([(gx a_list k1).Number] : List Int)) rfl rfl (by unfold maxLen; omega))) g) g2) rfl fun x3 => ?_
          refine asg rfl rfl ?_
          refine wl_nil ?_
          exact wj_meet _ x3 (mtE t2) (sub_cons rfl (sub_cons rfl (sub_cons rfl (sub_cons rfl (sub_cons rfl sub_nil))))) (some_cons pick0 some_nil)
        refine wc_skip ?_
        exact wj_meet _ x1l (mtE t2) (sub_cons rfl (sub_cons rfl (sub_cons rfl (sub_cons rfl (sub_cons rfl sub_nil))))) (some_cons (pickS pick0) some_nil)
      intro j1 x2 hp
      obtain rfl : j1 = y2 := hp.symm
      refine wq_block ?_
      refine wq_then ?_
      refine wc_region ?_
      refine wl_pure (po_inc rfl rfl (by omega)) rfl ?_
      refine mv rfl rfl ?_
      refine wl_nil ?_
      exact wq_rnd hk1 (stpN l1 t1) x2 (sub_cons rfl (sub_cons rfl (sub_cons rfl (sub_cons rfl (sub_cons rfl sub_nil))))) (some_cons pick0 some_nil)
    have c1 : (decide (((k1 : Nat) : Int) < ((a_list.length : Nat) : Int))) = false := decide_eq_false (by omega)
    have en1 := forO_end l1 hk1
    refine wcr ?_
    refine wl_pure (po_lss rfl rfl) rfl ?_
    refine wnt ?_
    refine wc_seq ?_
    refine wc_cond_f rfl c1 ?_
    refine wc_exit ?_
    refine wq_then_exit ?_
    refine wq_then_exit ?_
    refine wq_block_exit ?_
    exact wj_meet _ x1l (Sum.inl.inj en1) (sub_cons rfl sub_nil) (some_cons pick0 some_nil)
  intro e1 x1 hp
  obtain rfl : e1 = y1 := hp.symm
  refine wq_then ?_
  refine wcr ?_
  refine mv rfl rfl ?_
  refine asg rfl rfl ?_
  refine wnt ?_
  refine wc_ret ?_
  obtain rfl := Option.some.inj t0
  exact wq_ret1 rfl rfl fun w hw => ⟨x1, rfl, hw.weak (some_cons pick0 some_nil)⟩

end Go.Proofs.Ytnfdinafbfggeab
