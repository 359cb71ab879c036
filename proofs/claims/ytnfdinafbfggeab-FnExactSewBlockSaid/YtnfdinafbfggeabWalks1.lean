/-
  Each Go function computes its Lean function (part 1).
-/
import Derived.Test.YtnfdinafbfggeabFacts
namespace Go.Proofs.Ytnfdinafbfggeab
open Go Go.RowKit Go.Proofs
set_option maxRecDepth 100000

theorem c_laws_szMemberS (w : World) (a_a : List GMember) (v0a : Hd) (r0 : rdF w (dm w []) (sl v0a) a_a) (a_left : Int) {r : Int} (t0 : laws_szMemberS a_a a_left = some r) : Calls Try.prog 56 #[(sl v0a), .int .i64 a_left] w fun e w' => e = .returned (.int .i64 r) ∧ SH w [] [] w' := by
  refine calls_of_wc (args := [_, _]) Try.func56 rfl Try.ntmps56 rfl ?_
  unfold laws_szMemberS at t0
  refine wcr ?_
  refine asg rfl rfl ?_
  refine wnt ?_
  refine wcr ?_
  refine mv rfl rfl ?_
  refine mv rfl rfl ?_
  refine wl_pure (po_lenr (rds_arg r0) el_43 rfl) rfl ?_
  refine wl_pure (po_sub rfl rfl) rfl ?_
  refine asg rfl rfl ?_
  refine wnt ?_
  refine wc_seq ?_
  refine wcr ?_
  refine mv rfl rfl ?_
  refine wl_pure (po_lss rfl rfl) rfl ?_
  refine wnt ?_
  refine wcO t0 rfl (fun h1 t0 => ?_) fun h1 t0 => ?_
  · skip
    refine wcr ?_
    refine asg rfl rfl ?_
    refine wnt ?_
    refine wc_ret ?_
    refine wq_then_ret ?_
    obtain rfl := Option.some.inj t0
    exact wq_ret1 rfl rfl fun w hw => ⟨rfl, hw.weak some_nil⟩
  refine wc_skip ?_
  refine wq_then ?_
  refine wcr ?_
  refine mv rfl rfl ?_
  refine asg rfl rfl ?_
  refine wnt ?_
  refine wc_ret ?_
  obtain rfl := Option.some.inj t0
  exact wq_ret1 rfl rfl fun w hw => ⟨rfl, hw.weak some_nil⟩

theorem c_laws_szIntS (w : World) (a_a : List Int) (v0a : Hd) (r0 : rdF w (dm w []) (sl v0a) a_a) (a_left : Int) {r : Int} (t0 : laws_szIntS a_a a_left = some r) : Calls Try.prog 57 #[(sl v0a), .int .i64 a_left] w fun e w' => e = .returned (.int .i64 r) ∧ SH w [] [] w' := by
  refine calls_of_wc (args := [_, _]) Try.func57 rfl Try.ntmps57 rfl ?_
  unfold laws_szIntS at t0
  refine wcr ?_
  refine asg rfl rfl ?_
  refine wnt ?_
  refine wcr ?_
  refine mv rfl rfl ?_
  refine mv rfl rfl ?_
  refine wl_pure (po_lenr (rds_arg r0) el_34 rfl) rfl ?_
  refine wl_pure (po_sub rfl rfl) rfl ?_
  refine asg rfl rfl ?_
  refine wnt ?_
  refine wc_seq ?_
  refine wcr ?_
  refine mv rfl rfl ?_
  refine wl_pure (po_lss rfl rfl) rfl ?_
  refine wnt ?_
  refine wcO t0 rfl (fun h1 t0 => ?_) fun h1 t0 => ?_
  · skip
    refine wcr ?_
    refine asg rfl rfl ?_
    refine wnt ?_
    refine wc_ret ?_
    refine wq_then_ret ?_
    obtain rfl := Option.some.inj t0
    exact wq_ret1 rfl rfl fun w hw => ⟨rfl, hw.weak some_nil⟩
  refine wc_skip ?_
  refine wq_then ?_
  refine wcr ?_
  refine mv rfl rfl ?_
  refine asg rfl rfl ?_
  refine wnt ?_
  refine wc_ret ?_
  obtain rfl := Option.some.inj t0
  exact wq_ret1 rfl rfl fun w hw => ⟨rfl, hw.weak some_nil⟩

theorem c_laws_szCellS (w : World) (a_a : List GCell) (v0a : Hd) (r0 : rdF w (dm w []) (sl v0a) a_a) (a_left : Int) {r : Int} (t0 : laws_szCellS a_a a_left = some r) : Calls Try.prog 29 #[(sl v0a), .int .i64 a_left] w fun e w' => e = .returned (.int .i64 r) ∧ SH w [] [] w' := by
  refine calls_of_wc (args := [_, _]) Try.func29 rfl Try.ntmps29 rfl ?_
  unfold laws_szCellS at t0
  refine wcr ?_
  refine asg rfl rfl ?_
  refine wnt ?_
  refine wcr ?_
  refine mv rfl rfl ?_
  refine mv rfl rfl ?_
  refine wl_pure (po_lenr (rds_arg r0) el_22 rfl) rfl ?_
  refine wl_pure (po_sub rfl rfl) rfl ?_
  refine asg rfl rfl ?_
  refine wnt ?_
  refine wc_seq ?_
  refine wcr ?_
  refine mv rfl rfl ?_
  refine wl_pure (po_lss rfl rfl) rfl ?_
  refine wnt ?_
  refine wcO t0 rfl (fun h1 t0 => ?_) fun h1 t0 => ?_
  · skip
    refine wcr ?_
    refine asg rfl rfl ?_
    refine wnt ?_
    refine wc_ret ?_
    refine wq_then_ret ?_
    obtain rfl := Option.some.inj t0
    exact wq_ret1 rfl rfl fun w hw => ⟨rfl, hw.weak some_nil⟩
  refine wc_skip ?_
  refine wq_then ?_
  refine wcr ?_
  refine mv rfl rfl ?_
  refine asg rfl rfl ?_
  refine wnt ?_
  refine wc_ret ?_
  obtain rfl := Option.some.inj t0
  exact wq_ret1 rfl rfl fun w hw => ⟨rfl, hw.weak some_nil⟩

theorem c_laws_szBlock (w : World) (a_a : GBlock) (v0a : Hd) (r0 : rdF w (dm w []) (sl v0a) a_a.Cells) (a_left : Int) {r : Int} (t0 : laws_szBlock a_a a_left = some r) : Calls Try.prog 9 #[.agg #[.int .i64 a_a.Size, (sl v0a)], .int .i64 a_left] w fun e w' => e = .returned (.int .i64 r) ∧ SH w [] [] w' := by
  refine calls_of_wc (args := [_, _]) Try.func9 rfl Try.ntmps9 rfl ?_
  unfold laws_szBlock at t0
  refine wcr ?_
  refine wl_eff (eo_box rfl rfl) rfl fun b1 => ?_
  refine asg rfl rfl ?_
  refine wnt ?_
  refine wcr ?_
  refine wl_pure (po_fld fo_24_1 rfl) rfl ?_
  refine wl_pure (v := (sl v0a)) (po_load_box tk_22 pick0 rfl rfl) rfl ?_
  refine mv rfl rfl ?_
  refine bdO t0 fun v1 hv1 t0 => ?_
  refine wl_call (co_c0 fa_29 rfl fun w hw => c_laws_szCellS w a_a.Cells v0a (Rg.on (rds_arg r0) hw) a_left hv1) rfl fun _ => ?_
  refine asg rfl rfl ?_
  refine wnt ?_
  refine wc_seq ?_
  refine wcr ?_
  refine mv rfl rfl ?_
  refine wl_pure (po_lss rfl rfl) rfl ?_
  refine wnt ?_
  refine wcO t0 rfl (fun h1 t0 => ?_) fun h1 t0 => ?_
  · skip
    refine wcr ?_
    refine asg rfl rfl ?_
    refine wnt ?_
    refine wc_ret ?_
    refine wq_then_ret ?_
    obtain rfl := Option.some.inj t0
    exact wq_ret1 rfl rfl fun w hw => ⟨rfl, hw.weak some_nil⟩
  refine wc_skip ?_
  refine wq_then ?_
  refine wcr ?_
  refine mv rfl rfl ?_
  refine asg rfl rfl ?_
  refine wnt ?_
  refine wc_ret ?_
  obtain rfl := Option.some.inj t0
  exact wq_ret1 rfl rfl fun w hw => ⟨rfl, hw.weak some_nil⟩

theorem c_laws_szEntry (w : World) (a_a : GEntry) (v0a : Hd) (r0 : rdF w (dm w []) (sl v0a) a_a.Block.Cells) (a_left : Int) {r : Int} (t0 : laws_szEntry a_a a_left = some r) : Calls Try.prog 102 #[.agg #[.int .i64 a_a.Owner, .int .i64 a_a.Day, .int .i64 a_a.Block.Size, (sl v0a)], .int .i64 a_left] w fun e w' => e = .returned (.int .i64 r) ∧ SH w [] [] w' := by
  refine calls_of_wc (args := [_, _]) Try.func102 rfl Try.ntmps102 rfl ?_
  unfold laws_szEntry at t0
  refine wcr ?_
  refine wl_eff (eo_box rfl rfl) rfl fun b1 => ?_
  refine asg rfl rfl ?_
  refine wnt ?_
  refine wcr ?_
  refine wl_pure (po_fld fo_119_2 rfl) rfl ?_
  refine wl_pure (v := .agg #[.int .i64 a_a.Block.Size, (sl v0a)]) (po_load_boxs tk_24 pick0 rfl rfl rfl) rfl ?_
  refine mv rfl rfl ?_
  refine bdO t0 fun v1 hv1 t0 => ?_
  refine wl_call (co_c0 fa_9 rfl fun w hw => c_laws_szBlock w a_a.Block v0a (Rg.on (rds_arg r0) hw) a_left hv1) rfl fun _ => ?_
  refine asg rfl rfl ?_
  refine wnt ?_
  refine wc_seq ?_
  refine wcr ?_
  refine mv rfl rfl ?_
  refine wl_pure (po_lss rfl rfl) rfl ?_
  refine wnt ?_
  refine wcO t0 rfl (fun h1 t0 => ?_) fun h1 t0 => ?_
  · skip
    refine wcr ?_
    refine asg rfl rfl ?_
    refine wnt ?_
    refine wc_ret ?_
    refine wq_then_ret ?_
    obtain rfl := Option.some.inj t0
    exact wq_ret1 rfl rfl fun w hw => ⟨rfl, hw.weak some_nil⟩
  refine wc_skip ?_
  refine wq_then ?_
  refine wcr ?_
  refine mv rfl rfl ?_
  refine asg rfl rfl ?_
  refine wnt ?_
  refine wc_ret ?_
  obtain rfl := Option.some.inj t0
  exact wq_ret1 rfl rfl fun w hw => ⟨rfl, hw.weak some_nil⟩

theorem c_laws_szEntryS (w : World) (a_a : List GEntry) (v0a : Hd) (u0a : List Value) (r0 : RdL w (dm w []) (sl v0a) u0a a_a) (a_left : Int) {r : Int} (t0 : laws_szEntryS a_a a_left = some r) : Calls Try.prog 58 #[(sl v0a), .int .i64 a_left] w fun e w' => e = .returned (.int .i64 r) ∧ SH w [] [] w' := by
  refine calls_of_wc (args := [_, _]) Try.func58 rfl Try.ntmps58 rfl ?_
  unfold laws_szEntryS at t0
  refine wcr ?_
  refine asg rfl rfl ?_
  refine wnt ?_
  refine wcr ?_
  refine mv rfl rfl ?_
  refine mv rfl rfl ?_
  refine wl_pure (po_lenr (rds_arg r0) el_44 rfl) rfl ?_
  refine wl_pure (po_sub rfl rfl) rfl ?_
  refine asg rfl rfl ?_
  refine wnt ?_
  refine wc_seq ?_
  refine wcr ?_
  refine mv rfl rfl ?_
  refine wl_pure (po_lss rfl rfl) rfl ?_
  refine wnt ?_
  refine wcO t0 rfl (fun h1 t0 => ?_) fun h1 t0 => ?_
  · skip
    refine wcr ?_
    refine asg rfl rfl ?_
    refine wnt ?_
    refine wc_ret ?_
    refine wq_then_ret ?_
    obtain rfl := Option.some.inj t0
    exact wq_ret1 rfl rfl fun w hw => ⟨rfl, hw.weak some_nil⟩
  refine wc_skip ?_
  refine wq_then ?_
  refine wc_seq ?_
  refine wcr ?_
  refine asg rfl rfl ?_
  refine wnt ?_
  refine gdO t0 fun g1 t0 => ?_
  refine sqO t0 fun y1 l1 t0 => ?_
  refine wj (J := Int) (X := Unit) (fun z => y1 = .inl z) (fun z _ => [(1, .int .i64 z)]) (fun _ _ => []) ?_ ?_
  · skip
    refine wc_block ?_
    refine wc_forO (X := Unit) l1 (fun k1 s1 x1l => [(0, (sl v0a)), (1, .int .i64 s1), (5, .int .i64 ((k1 : Nat) : Int))]) (fun k1 s1 x1l => []) () (sub_cons rfl (sub_cons rfl (sub_cons rfl sub_nil))) some_nil fun k1 s1 x1l hN1 l1 => ?_
    by_cases hk1 : k1 < a_a.length
    · skip
      refine forO_step l1 hk1 fun _ t1 l1 => ?_
      unfold laws_szEntryS_L1 at t1
      have c1 : (decide (((k1 : Nat) : Int) < ((a_a.length : Nat) : Int))) = true := decide_eq_true (by omega)
      refine wc_seq ?_
      refine wcr ?_
      refine mv rfl rfl ?_
      refine mv rfl rfl ?_
      refine wl_pure (po_lenr (rds_arg r0) el_44 rfl) rfl ?_
      refine wl_pure (po_lss rfl rfl) rfl ?_
      refine wnt ?_
      refine wc_cond_t rfl c1 ?_
      refine wc_skip ?_
      refine wq_then ?_
      refine wc_seq ?_
      refine wc_block ?_
      refine wcr ?_
      refine mv rfl rfl ?_
      refine mv rfl rfl ?_
      refine wl_pure (po_ixn (k := k1) (rds_arg r0) el_44 rfl rfl hk1) rfl ?_
      refine wl_elem (rds_arg r0) hk1 ?_
      rintro ⟨_, _, he1⟩
      obtain ⟨w1, hc1, _⟩ := rd_GEntry.1 he1
      refine wl_pure (v := .agg #[.int .i64 ((gx a_a k1).Owner), .int .i64 ((gx a_a k1).Day), .int .i64 (((gx a_a k1).Block).Size), (sl w1)]) (po_ldns (rds_arg r0) tk_119 rfl hc1 rfl rfl rfl) rfl ?_
      refine mv rfl rfl ?_
      refine bdO t1 fun v1 hv1 t1 => ?_
      refine wl_call (co_c0 fa_102 rfl fun w hw => c_laws_szEntry w (gx a_a k1) w1 (Rg.on (er_GEntry_0 hc1 (rds_arg r0) hk1) hw) s1 hv1) rfl fun _ => ?_
      refine asg rfl rfl ?_
      refine wnt ?_
      refine wcr ?_
      refine mv rfl rfl ?_
      refine wl_pure (po_lss rfl rfl) rfl ?_
      refine wnt ?_
      refine wcO t1 rfl (fun h2 t1 => ?_) fun h2 t1 => ?_
      · skip
        refine wcr ?_
        refine asg rfl rfl ?_
        refine wnt ?_
        refine wc_ret ?_
        refine wq_block_ret ?_
        refine wq_then_ret ?_
        refine wq_then_ret ?_
        refine wq_block_ret ?_
        refine wq_then_ret ?_
        refine wq_then_ret ?_
        replace t0 := lpR t0 l1 t1
        obtain rfl := Option.some.inj t0
        exact wq_ret1 rfl rfl fun w hw => ⟨rfl, hw.weak some_nil⟩
      refine wc_skip ?_
      refine wq_block ?_
      refine wq_then ?_
      refine wc_region ?_
      refine mv rfl rfl ?_
      refine wl_pure (po_inc rfl rfl (by omega)) rfl ?_
      refine asg rfl rfl ?_
      refine wl_nil ?_
      exact wq_rnd hk1 (stpN l1 t1) () (sub_cons rfl (sub_cons rfl (sub_cons rfl sub_nil))) some_nil
    have c1 : (decide (((k1 : Nat) : Int) < ((a_a.length : Nat) : Int))) = false := decide_eq_false (by omega)
    have en1 := forO_end l1 hk1
    refine wc_seq ?_
    refine wcr ?_
    refine mv rfl rfl ?_
    refine mv rfl rfl ?_
    refine wl_pure (po_lenr (rds_arg r0) el_44 rfl) rfl ?_
    refine wl_pure (po_lss rfl rfl) rfl ?_
    refine wnt ?_
    refine wc_cond_f rfl c1 ?_
    refine wc_exit ?_
    refine wq_then_exit ?_
    refine wq_then_exit ?_
    refine wq_block_exit ?_
    exact wj_meet _ () en1 (sub_cons rfl sub_nil) some_nil
  intro e1 _ hp
  replace t0 := sqE (j := e1) t0 hp
  refine wq_then ?_
  refine wcr ?_
  refine mv rfl rfl ?_
  refine asg rfl rfl ?_
  refine wnt ?_
  refine wc_ret ?_
  obtain rfl := Option.some.inj t0
  exact wq_ret1 rfl rfl fun w hw => ⟨rfl, hw.weak some_nil⟩

theorem c_laws_szBookingS (w : World) (a_a : List GBooking) (v0a : Hd) (r0 : rdF w (dm w []) (sl v0a) a_a) (a_left : Int) {r : Int} (t0 : laws_szBookingS a_a a_left = some r) : Calls Try.prog 59 #[(sl v0a), .int .i64 a_left] w fun e w' => e = .returned (.int .i64 r) ∧ SH w [] [] w' := by
  refine calls_of_wc (args := [_, _]) Try.func59 rfl Try.ntmps59 rfl ?_
  unfold laws_szBookingS at t0
  refine wcr ?_
  refine asg rfl rfl ?_
  refine wnt ?_
  refine wcr ?_
  refine mv rfl rfl ?_
  refine mv rfl rfl ?_
  refine wl_pure (po_lenr (rds_arg r0) el_45 rfl) rfl ?_
  refine wl_pure (po_sub rfl rfl) rfl ?_
  refine asg rfl rfl ?_
  refine wnt ?_
  refine wc_seq ?_
  refine wcr ?_
  refine mv rfl rfl ?_
  refine wl_pure (po_lss rfl rfl) rfl ?_
  refine wnt ?_
  refine wcO t0 rfl (fun h1 t0 => ?_) fun h1 t0 => ?_
  · skip
    refine wcr ?_
    refine asg rfl rfl ?_
    refine wnt ?_
    refine wc_ret ?_
    refine wq_then_ret ?_
    obtain rfl := Option.some.inj t0
    exact wq_ret1 rfl rfl fun w hw => ⟨rfl, hw.weak some_nil⟩
  refine wc_skip ?_
  refine wq_then ?_
  refine wcr ?_
  refine mv rfl rfl ?_
  refine asg rfl rfl ?_
  refine wnt ?_
  refine wc_ret ?_
  obtain rfl := Option.some.inj t0
  exact wq_ret1 rfl rfl fun w hw => ⟨rfl, hw.weak some_nil⟩

theorem c_laws_szGuild (w : World) (a_a : GGuild) (v0a : Hd) (r0 : rdF w (dm w []) (sl v0a) a_a.Members) (v1a : Hd) (r1 : rdF w (dm w []) (sl v1a) a_a.Stock) (v2a : Hd) (u2a : List Value) (r2 : RdL w (dm w []) (sl v2a) u2a a_a.Entries) (v3a : Hd) (r3 : rdF w (dm w []) (sl v3a) a_a.Books) (a_left : Int) {r : Int} (t0 : laws_szGuild a_a a_left = some r) : Calls Try.prog 19 #[.agg #[(sl v0a), (sl v1a), (sl v2a), (sl v3a), .int .i64 a_a.Round, .int .i64 a_a.Year], .int .i64 a_left] w fun e w' => e = .returned (.int .i64 r) ∧ SH w [] [] w' := by
  refine calls_of_wc (args := [_, _]) Try.func19 rfl Try.ntmps19 rfl ?_
  unfold laws_szGuild at t0
  refine wcr ?_
  refine wl_eff (eo_box rfl rfl) rfl fun b1 => ?_
  refine asg rfl rfl ?_
  refine wnt ?_
  refine wcr ?_
  refine wl_pure (po_fld fo_47_0 rfl) rfl ?_
  refine wl_pure (v := (sl v0a)) (po_load_box tk_43 pick0 rfl rfl) rfl ?_
  refine mv rfl rfl ?_
  refine bdO t0 fun v1 hv1 t0 => ?_
  refine wl_call (co_c0 fa_56 rfl fun w hw => c_laws_szMemberS w a_a.Members v0a (Rg.on (rds_arg r0) hw) a_left hv1) rfl fun _ => ?_
  refine asg rfl rfl ?_
  refine wnt ?_
  refine wc_seq ?_
  refine wcr ?_
  refine mv rfl rfl ?_
  refine wl_pure (po_lss rfl rfl) rfl ?_
  refine wnt ?_
  refine wcO t0 rfl (fun h1 t0 => ?_) fun h1 t0 => ?_
  · skip
    refine wcr ?_
    refine asg rfl rfl ?_
    refine wnt ?_
    refine wc_ret ?_
    refine wq_then_ret ?_
    obtain rfl := Option.some.inj t0
    exact wq_ret1 rfl rfl fun w hw => ⟨rfl, hw.weak some_nil⟩
  refine wc_skip ?_
  refine wq_then ?_
  refine wcr ?_
  refine wl_pure (po_fld fo_47_1 rfl) rfl ?_
  refine wl_pure (v := (sl v1a)) (po_load_box tk_34 pick0 rfl rfl) rfl ?_
  refine mv rfl rfl ?_
  refine bdO t0 fun v2 hv2 t0 => ?_
  refine wl_call (co_c0 fa_57 rfl fun w hw => c_laws_szIntS w a_a.Stock v1a (Rg.on (rds_arg r1) hw) v1 hv2) rfl fun _ => ?_
  refine asg rfl rfl ?_
  refine wnt ?_
  refine wc_seq ?_
  refine wcr ?_
  refine mv rfl rfl ?_
  refine wl_pure (po_lss rfl rfl) rfl ?_
  refine wnt ?_
  refine wcO t0 rfl (fun h2 t0 => ?_) fun h2 t0 => ?_
  · skip
    refine wcr ?_
    refine asg rfl rfl ?_
    refine wnt ?_
    refine wc_ret ?_
    refine wq_then_ret ?_
    obtain rfl := Option.some.inj t0
    exact wq_ret1 rfl rfl fun w hw => ⟨rfl, hw.weak some_nil⟩
  refine wc_skip ?_
  refine wq_then ?_
  refine wcr ?_
  refine wl_pure (po_fld fo_47_2 rfl) rfl ?_
  refine wl_pure (v := (sl v2a)) (po_load_box tk_44 pick0 rfl rfl) rfl ?_
  refine mv rfl rfl ?_
  refine bdO t0 fun v3 hv3 t0 => ?_
  refine wl_call (co_c0 fa_58 rfl fun w hw => c_laws_szEntryS w a_a.Entries v2a u2a (Rg.on (rds_arg r2) hw) v2 hv3) rfl fun _ => ?_
  refine asg rfl rfl ?_
  refine wnt ?_
  refine wc_seq ?_
  refine wcr ?_
  refine mv rfl rfl ?_
  refine wl_pure (po_lss rfl rfl) rfl ?_
  refine wnt ?_
  refine wcO t0 rfl (fun h3 t0 => ?_) fun h3 t0 => ?_
  · skip
    refine wcr ?_
    refine asg rfl rfl ?_
    refine wnt ?_
    refine wc_ret ?_
    refine wq_then_ret ?_
    obtain rfl := Option.some.inj t0
    exact wq_ret1 rfl rfl fun w hw => ⟨rfl, hw.weak some_nil⟩
  refine wc_skip ?_
  refine wq_then ?_
  refine wcr ?_
  refine wl_pure (po_fld fo_47_3 rfl) rfl ?_
  refine wl_pure (v := (sl v3a)) (po_load_box tk_45 pick0 rfl rfl) rfl ?_
  refine mv rfl rfl ?_
  refine bdO t0 fun v4 hv4 t0 => ?_
  refine wl_call (co_c0 fa_59 rfl fun w hw => c_laws_szBookingS w a_a.Books v3a (Rg.on (rds_arg r3) hw) v3 hv4) rfl fun _ => ?_
  refine asg rfl rfl ?_
  refine wnt ?_
  refine wc_seq ?_
  refine wcr ?_
  refine mv rfl rfl ?_
  refine wl_pure (po_lss rfl rfl) rfl ?_
  refine wnt ?_
  refine wcO t0 rfl (fun h4 t0 => ?_) fun h4 t0 => ?_
  · skip
    refine wcr ?_
    refine asg rfl rfl ?_
    refine wnt ?_
    refine wc_ret ?_
    refine wq_then_ret ?_
    obtain rfl := Option.some.inj t0
    exact wq_ret1 rfl rfl fun w hw => ⟨rfl, hw.weak some_nil⟩
  refine wc_skip ?_
  refine wq_then ?_
  refine wcr ?_
  refine mv rfl rfl ?_
  refine asg rfl rfl ?_
  refine wnt ?_
  refine wc_ret ?_
  obtain rfl := Option.some.inj t0
  exact wq_ret1 rfl rfl fun w hw => ⟨rfl, hw.weak some_nil⟩

theorem c_laws_toMember (w : World) (a_a : GMember) {r : GMember} (t0 : laws_toMember a_a = some r) : Calls Try.prog 108 #[.agg #[.int .i64 a_a.Number, .int .i64 a_a.Since, .int .i64 a_a.Paid]] w fun e w' => e = .returned (.agg #[.int .i64 r.Number, .int .i64 r.Since, .int .i64 r.Paid]) ∧ SH w [] [] w' := by
  refine calls_of_wc (args := [_]) Try.func108 rfl Try.ntmps108 rfl ?_
  unfold laws_toMember at t0
  refine wcr ?_
  refine wl_eff (eo_box rfl rfl) rfl fun b1 => ?_
  refine wl_eff (eo_alloc (cs := [.int .i64 0, .int .i64 0, .int .i64 0]) za_113) rfl fun b2 => ?_
  refine wnt ?_
  refine wcr ?_
  refine wl_eff (eo_alloc (cs := [.int .i64 0, .int .i64 0, .int .i64 0]) za_113) rfl fun b3 => ?_
  refine wnt ?_
  refine wcr ?_
  refine wl_pure (po_fld fo_126_0 rfl) rfl ?_
  refine wl_pure (v := .int .i64 a_a.Number) (po_load_box tk_3 (pickS (pickS pick0)) rfl rfl) rfl ?_
  refine wl_pure (po_fld fo_113_0 rfl) rfl ?_
  refine wl_skipop (so_box (cs' := [.int .i64 a_a.Number, .int .i64 0, .int .i64 0]) tk_3 pick0 rfl rfl rfl rfl rfl rfl rfl) ?_
  refine wnt ?_
  refine wcr ?_
  refine wl_pure (po_fld fo_126_1 rfl) rfl ?_
  refine wl_pure (v := .int .i64 a_a.Since) (po_load_box tk_3 (pickS (pickS pick0)) rfl rfl) rfl ?_
  refine wl_pure (po_fld fo_113_1 rfl) rfl ?_
  refine wl_skipop (so_box (cs' := [.int .i64 a_a.Number, .int .i64 a_a.Since, .int .i64 0]) tk_3 pick0 rfl rfl rfl rfl rfl rfl rfl) ?_
  refine wnt ?_
  refine wcr ?_
  refine wl_pure (po_fld fo_126_2 rfl) rfl ?_
  refine wl_pure (v := .int .i64 a_a.Paid) (po_load_box tk_3 (pickS (pickS pick0)) rfl rfl) rfl ?_
  refine wl_pure (po_fld fo_113_2 rfl) rfl ?_
  refine wl_skipop (so_box (cs' := [.int .i64 a_a.Number, .int .i64 a_a.Since, .int .i64 a_a.Paid]) tk_3 pick0 rfl rfl rfl rfl rfl rfl rfl) ?_
  refine wnt ?_
  refine wcr ?_
  refine wl_pure (v := .agg #[.int .i64 a_a.Number, .int .i64 a_a.Since, .int .i64 a_a.Paid]) (po_load_boxs tk_113 pick0 rfl rfl rfl) rfl ?_
  refine wl_skipop (so_box (cs' := [.int .i64 a_a.Number, .int .i64 a_a.Since, .int .i64 a_a.Paid]) tk_113 (pickS pick0) rfl rfl rfl rfl rfl rfl rfl) ?_
  refine wnt ?_
  refine wc_ret ?_
  obtain rfl := Option.some.inj t0
  exact wq_retc rfl tk_113 rfl pick0 rfl fun w hw => ⟨rfl, hw.weak some_nil⟩

theorem c_laws_toMemberS (w : World) (a_a : List GMember) (v0a : Hd) (r0 : rdF w (dm w []) (sl v0a) a_a) {r : List GMember} (t0 : laws_toMemberS a_a = some r) : Calls Try.prog 62 #[(sl v0a)] w fun e w' => ∃ x : Hd, e = .returned ((sl x)) ∧ SH w [] [ownF (sl x) r] w' := by
  refine calls_of_wc (args := [_]) Try.func62 rfl Try.ntmps62 rfl ?_
  unfold laws_toMemberS at t0
  refine wcr ?_
  refine asg rfl rfl ?_
  refine wnt ?_
  refine wcr ?_
  refine mv rfl rfl ?_
  refine wl_pure (po_lenr (rds_arg r0) el_43 rfl) rfl ?_
  refine gdO t0 fun g1 t0 => ?_
  refine wl_eff (eo_make_ (n := a_a.length) ((GMember.mk 0 0 0) : GMember) mk_33 rfl rfl rfl g1 rfl) rfl fun x1 => ?_
  refine asg rfl rfl ?_
  refine wnt ?_
  refine wc_seq ?_
  refine wcr ?_
  refine asg rfl rfl ?_
  refine wnt ?_
  refine gdO t0 fun g2 t0 => ?_
  refine lpO_inv t0 fun y1 l1 t0 => ?_
  refine wj (J := List GMember) (X := Unit) (fun z => y1 = z) (fun _ _ => [(3, (sl x1))]) (fun z _ => [ownF (sl x1) z]) ?_ ?_
  · skip
    refine wc_block ?_
    refine wc_forO (X := Unit) l1 (fun k1 s1 x1l => [(0, (sl v0a)), (3, (sl x1)), (4, .int .i64 ((k1 : Nat) : Int))]) (fun k1 s1 x1l => [ownF (sl x1) s1]) () (sub_cons rfl (sub_cons rfl (sub_cons rfl sub_nil))) (some_cons pick0 some_nil) fun k1 s1 x1l hN1 l1 => ?_
    by_cases hk1 : k1 < a_a.length
    · skip
      refine forO_step l1 hk1 fun _ t1 l1 => ?_
      unfold laws_toMemberS_L1 at t1
      have c1 : (decide (((k1 : Nat) : Int) < ((a_a.length : Nat) : Int))) = true := decide_eq_true (by omega)
      refine wc_seq ?_
      refine wcr ?_
      refine mv rfl rfl ?_
      refine mv rfl rfl ?_
      refine wl_pure (po_lenr (rds_arg r0) el_43 rfl) rfl ?_
      refine wl_pure (po_lss rfl rfl) rfl ?_
      refine wnt ?_
      refine wc_cond_t rfl c1 ?_
      refine wc_skip ?_
      refine wq_then ?_
      refine wc_seq ?_
      refine wc_block ?_
      refine wc_region ?_
      refine mv rfl rfl ?_
      refine mv rfl rfl ?_
      refine mv rfl rfl ?_
      refine mv rfl rfl ?_
      refine wl_pure (po_ixn (k := k1) (rds_arg r0) el_43 rfl rfl hk1) rfl ?_
      refine wl_pure (v := .agg #[.int .i64 ((gx a_a k1).Number), .int .i64 ((gx a_a k1).Since), .int .i64 ((gx a_a k1).Paid)]) (po_ldfs (rds_arg r0) tk_126 rfl hk1 rfl rfl rfl) rfl ?_
      refine bdO t1 fun v1 hv1 t1 => ?_
      refine wl_call (co_c0 fa_108 rfl fun w hw => c_laws_toMember w (gx a_a k1) hv1) rfl fun _ => ?_
      refine gdO t1 fun g3 t1 => ?_
      refine wl_pure (po_ixn (k := k1) (rds_own pick0) el_33 rfl rfl g3) rfl ?_
      refine wl_skipop (so_own (x' := v1) tk_113 pick0 rfl rfl rfl rfl rfl rfl g3 rfl) ?_
      refine wl_nil ?_
      refine wq_block ?_
      refine wq_then ?_
      refine wc_region ?_
      refine mv rfl rfl ?_
      refine wl_pure (po_inc rfl rfl (by omega)) rfl ?_
      refine asg rfl rfl ?_
      refine wl_nil ?_
      exact wq_rnd hk1 (stpN l1 t1) () (sub_cons rfl (sub_cons rfl (sub_cons rfl sub_nil))) (some_cons pick0 some_nil)
    have c1 : (decide (((k1 : Nat) : Int) < ((a_a.length : Nat) : Int))) = false := decide_eq_false (by omega)
    have en1 := forO_end l1 hk1
    refine wc_seq ?_
    refine wcr ?_
    refine mv rfl rfl ?_
    refine mv rfl rfl ?_
    refine wl_pure (po_lenr (rds_arg r0) el_43 rfl) rfl ?_
    refine wl_pure (po_lss rfl rfl) rfl ?_
    refine wnt ?_
    refine wc_cond_f rfl c1 ?_
    refine wc_exit ?_
    refine wq_then_exit ?_
    refine wq_then_exit ?_
    refine wq_block_exit ?_
    exact wj_meet _ () (Sum.inl.inj en1) (sub_cons rfl sub_nil) (some_cons pick0 some_nil)
  intro e1 _ hp
  obtain rfl : e1 = y1 := hp.symm
  refine wq_then ?_
  refine wcr ?_
  refine mv rfl rfl ?_
  refine asg rfl rfl ?_
  refine wnt ?_
  refine wc_ret ?_
  obtain rfl := Option.some.inj t0
  exact wq_ret1 rfl rfl fun w hw => ⟨x1, rfl, hw.weak (some_cons pick0 some_nil)⟩

theorem c_laws_toIntS (w : World) (a_a : List Int) (v0a : Hd) (r0 : rdF w (dm w []) (sl v0a) a_a) {r : List Int} (t0 : laws_toIntS a_a = some r) : Calls Try.prog 63 #[(sl v0a)] w fun e w' => ∃ x : Hd, e = .returned ((sl x)) ∧ SH w [] [ownF (sl x) r] w' := by
  refine calls_of_wc (args := [_]) Try.func63 rfl Try.ntmps63 rfl ?_
  unfold laws_toIntS at t0
  refine wcr ?_
  refine asg rfl rfl ?_
  refine wnt ?_
  refine wcr ?_
  refine mv rfl rfl ?_
  refine wl_pure (po_lenr (rds_arg r0) el_34 rfl) rfl ?_
  refine gdO t0 fun g1 t0 => ?_
  refine wl_eff (eo_make_ (n := a_a.length) (0 : Int) mk_34 rfl rfl rfl g1 rfl) rfl fun x1 => ?_
  refine asg rfl rfl ?_
  refine wnt ?_
  refine wc_seq ?_
  refine wcr ?_
  refine asg rfl rfl ?_
  refine wnt ?_
  refine gdO t0 fun g2 t0 => ?_
  refine lpO_inv t0 fun y1 l1 t0 => ?_
  refine wj (J := List Int) (X := Unit) (fun z => y1 = z) (fun _ _ => [(3, (sl x1))]) (fun z _ => [ownF (sl x1) z]) ?_ ?_
  · skip
    refine wc_block ?_
    refine wc_forO (X := Unit) l1 (fun k1 s1 x1l => [(0, (sl v0a)), (3, (sl x1)), (4, .int .i64 ((k1 : Nat) : Int))]) (fun k1 s1 x1l => [ownF (sl x1) s1]) () (sub_cons rfl (sub_cons rfl (sub_cons rfl sub_nil))) (some_cons pick0 some_nil) fun k1 s1 x1l hN1 l1 => ?_
    by_cases hk1 : k1 < a_a.length
    · skip
      refine forO_step l1 hk1 fun _ t1 l1 => ?_
      unfold laws_toIntS_L1 at t1
      have c1 : (decide (((k1 : Nat) : Int) < ((a_a.length : Nat) : Int))) = true := decide_eq_true (by omega)
      refine wc_seq ?_
      refine wcr ?_
      refine mv rfl rfl ?_
      refine mv rfl rfl ?_
      refine wl_pure (po_lenr (rds_arg r0) el_34 rfl) rfl ?_
      refine wl_pure (po_lss rfl rfl) rfl ?_
      refine wnt ?_
      refine wc_cond_t rfl c1 ?_
      refine wc_skip ?_
      refine wq_then ?_
      refine wc_seq ?_
      refine wc_block ?_
      refine wc_region ?_
      refine mv rfl rfl ?_
      refine mv rfl rfl ?_
      refine mv rfl rfl ?_
      refine mv rfl rfl ?_
      refine wl_pure (po_ixn (k := k1) (rds_arg r0) el_34 rfl rfl hk1) rfl ?_
      refine wl_pure (v := .int .i64 (gx a_a k1)) (po_ldf (rds_arg r0) tk_3 rfl hk1 rfl) rfl ?_
      refine gdO t1 fun g3 t1 => ?_
      refine wl_pure (po_ixn (k := k1) (rds_own pick0) el_34 rfl rfl g3) rfl ?_
      refine wl_skipop (so_own (x' := (gx a_a k1)) tk_3 pick0 rfl rfl rfl rfl rfl rfl g3 rfl) ?_
      refine wl_nil ?_
      refine wq_block ?_
      refine wq_then ?_
      refine wc_region ?_
      refine mv rfl rfl ?_
      refine wl_pure (po_inc rfl rfl (by omega)) rfl ?_
      refine asg rfl rfl ?_
      refine wl_nil ?_
      exact wq_rnd hk1 (stpN l1 t1) () (sub_cons rfl (sub_cons rfl (sub_cons rfl sub_nil))) (some_cons pick0 some_nil)
    have c1 : (decide (((k1 : Nat) : Int) < ((a_a.length : Nat) : Int))) = false := decide_eq_false (by omega)
    have en1 := forO_end l1 hk1
    refine wc_seq ?_
    refine wcr ?_
    refine mv rfl rfl ?_
    refine mv rfl rfl ?_
    refine wl_pure (po_lenr (rds_arg r0) el_34 rfl) rfl ?_
    refine wl_pure (po_lss rfl rfl) rfl ?_
    refine wnt ?_
    refine wc_cond_f rfl c1 ?_
    refine wc_exit ?_
    refine wq_then_exit ?_
    refine wq_then_exit ?_
    refine wq_block_exit ?_
    exact wj_meet _ () (Sum.inl.inj en1) (sub_cons rfl sub_nil) (some_cons pick0 some_nil)
  intro e1 _ hp
  obtain rfl : e1 = y1 := hp.symm
  refine wq_then ?_
  refine wcr ?_
  refine mv rfl rfl ?_
  refine asg rfl rfl ?_
  refine wnt ?_
  refine wc_ret ?_
  obtain rfl := Option.some.inj t0
  exact wq_ret1 rfl rfl fun w hw => ⟨x1, rfl, hw.weak (some_cons pick0 some_nil)⟩

theorem c_laws_toCell (w : World) (a_a : GCell) {r : GCell} (t0 : laws_toCell a_a = some r) : Calls Try.prog 88 #[.agg #[.int .i64 a_a.Split, .int .i64 a_a.A, .int .i64 a_a.B]] w fun e w' => e = .returned (.agg #[.int .i64 r.Split, .int .i64 r.A, .int .i64 r.B]) ∧ SH w [] [] w' := by
  refine calls_of_wc (args := [_]) Try.func88 rfl Try.ntmps88 rfl ?_
  unfold laws_toCell at t0
  refine wcr ?_
  refine wl_eff (eo_box rfl rfl) rfl fun b1 => ?_
  refine wl_eff (eo_alloc (cs := [.int .i64 0, .int .i64 0, .int .i64 0]) za_99) rfl fun b2 => ?_
  refine wnt ?_
  refine wcr ?_
  refine wl_eff (eo_alloc (cs := [.int .i64 0, .int .i64 0, .int .i64 0]) za_99) rfl fun b3 => ?_
  refine wnt ?_
  refine wcr ?_
  refine wl_pure (po_fld fo_103_0 rfl) rfl ?_
  refine wl_pure (v := .int .i64 a_a.Split) (po_load_box tk_3 (pickS (pickS pick0)) rfl rfl) rfl ?_
  refine wl_pure (po_fld fo_99_0 rfl) rfl ?_
  refine wl_skipop (so_box (cs' := [.int .i64 a_a.Split, .int .i64 0, .int .i64 0]) tk_3 pick0 rfl rfl rfl rfl rfl rfl rfl) ?_
  refine wnt ?_
  refine wcr ?_
  refine wl_pure (po_fld fo_103_1 rfl) rfl ?_
  refine wl_pure (v := .int .i64 a_a.A) (po_load_box tk_3 (pickS (pickS pick0)) rfl rfl) rfl ?_
  refine wl_pure (po_fld fo_99_1 rfl) rfl ?_
  refine wl_skipop (so_box (cs' := [.int .i64 a_a.Split, .int .i64 a_a.A, .int .i64 0]) tk_3 pick0 rfl rfl rfl rfl rfl rfl rfl) ?_
  refine wnt ?_
  refine wcr ?_
  refine wl_pure (po_fld fo_103_2 rfl) rfl ?_
  refine wl_pure (v := .int .i64 a_a.B) (po_load_box tk_3 (pickS (pickS pick0)) rfl rfl) rfl ?_
  refine wl_pure (po_fld fo_99_2 rfl) rfl ?_
  refine wl_skipop (so_box (cs' := [.int .i64 a_a.Split, .int .i64 a_a.A, .int .i64 a_a.B]) tk_3 pick0 rfl rfl rfl rfl rfl rfl rfl) ?_
  refine wnt ?_
  refine wcr ?_
  refine wl_pure (v := .agg #[.int .i64 a_a.Split, .int .i64 a_a.A, .int .i64 a_a.B]) (po_load_boxs tk_99 pick0 rfl rfl rfl) rfl ?_
  refine wl_skipop (so_box (cs' := [.int .i64 a_a.Split, .int .i64 a_a.A, .int .i64 a_a.B]) tk_99 (pickS pick0) rfl rfl rfl rfl rfl rfl rfl) ?_
  refine wnt ?_
  refine wc_ret ?_
  obtain rfl := Option.some.inj t0
  exact wq_retc rfl tk_99 rfl pick0 rfl fun w hw => ⟨rfl, hw.weak some_nil⟩

theorem c_laws_toCellS (w : World) (a_a : List GCell) (v0a : Hd) (r0 : rdF w (dm w []) (sl v0a) a_a) {r : List GCell} (t0 : laws_toCellS a_a = some r) : Calls Try.prog 35 #[(sl v0a)] w fun e w' => ∃ x : Hd, e = .returned ((sl x)) ∧ SH w [] [ownF (sl x) r] w' := by
  refine calls_of_wc (args := [_]) Try.func35 rfl Try.ntmps35 rfl ?_
  unfold laws_toCellS at t0
  refine wcr ?_
  refine asg rfl rfl ?_
  refine wnt ?_
  refine wcr ?_
  refine mv rfl rfl ?_
  refine wl_pure (po_lenr (rds_arg r0) el_22 rfl) rfl ?_
  refine gdO t0 fun g1 t0 => ?_
  refine wl_eff (eo_make_ (n := a_a.length) ((GCell.mk 0 0 0) : GCell) mk_27 rfl rfl rfl g1 rfl) rfl fun x1 => ?_
  refine asg rfl rfl ?_
  refine wnt ?_
  refine wc_seq ?_
  refine wcr ?_
  refine asg rfl rfl ?_
  refine wnt ?_
  refine gdO t0 fun g2 t0 => ?_
  refine lpO_inv t0 fun y1 l1 t0 => ?_
  refine wj (J := List GCell) (X := Unit) (fun z => y1 = z) (fun _ _ => [(3, (sl x1))]) (fun z _ => [ownF (sl x1) z]) ?_ ?_
  · skip
    refine wc_block ?_
    refine wc_forO (X := Unit) l1 (fun k1 s1 x1l => [(0, (sl v0a)), (3, (sl x1)), (4, .int .i64 ((k1 : Nat) : Int))]) (fun k1 s1 x1l => [ownF (sl x1) s1]) () (sub_cons rfl (sub_cons rfl (sub_cons rfl sub_nil))) (some_cons pick0 some_nil) fun k1 s1 x1l hN1 l1 => ?_
    by_cases hk1 : k1 < a_a.length
    · skip
      refine forO_step l1 hk1 fun _ t1 l1 => ?_
      unfold laws_toCellS_L1 at t1
      have c1 : (decide (((k1 : Nat) : Int) < ((a_a.length : Nat) : Int))) = true := decide_eq_true (by omega)
      refine wc_seq ?_
      refine wcr ?_
      refine mv rfl rfl ?_
      refine mv rfl rfl ?_
      refine wl_pure (po_lenr (rds_arg r0) el_22 rfl) rfl ?_
      refine wl_pure (po_lss rfl rfl) rfl ?_
      refine wnt ?_
      refine wc_cond_t rfl c1 ?_
      refine wc_skip ?_
      refine wq_then ?_
      refine wc_seq ?_
      refine wc_block ?_
      refine wc_region ?_
      refine mv rfl rfl ?_
      refine mv rfl rfl ?_
      refine mv rfl rfl ?_
      refine mv rfl rfl ?_
      refine wl_pure (po_ixn (k := k1) (rds_arg r0) el_22 rfl rfl hk1) rfl ?_
      refine wl_pure (v := .agg #[.int .i64 ((gx a_a k1).Split), .int .i64 ((gx a_a k1).A), .int .i64 ((gx a_a k1).B)]) (po_ldfs (rds_arg r0) tk_103 rfl hk1 rfl rfl rfl) rfl ?_
      refine bdO t1 fun v1 hv1 t1 => ?_
      refine wl_call (co_c0 fa_88 rfl fun w hw => c_laws_toCell w (gx a_a k1) hv1) rfl fun _ => ?_
      refine gdO t1 fun g3 t1 => ?_
      refine wl_pure (po_ixn (k := k1) (rds_own pick0) el_27 rfl rfl g3) rfl ?_
      refine wl_skipop (so_own (x' := v1) tk_99 pick0 rfl rfl rfl rfl rfl rfl g3 rfl) ?_
      refine wl_nil ?_
      refine wq_block ?_
      refine wq_then ?_
      refine wc_region ?_
      refine mv rfl rfl ?_
      refine wl_pure (po_inc rfl rfl (by omega)) rfl ?_
      refine asg rfl rfl ?_
      refine wl_nil ?_
      exact wq_rnd hk1 (stpN l1 t1) () (sub_cons rfl (sub_cons rfl (sub_cons rfl sub_nil))) (some_cons pick0 some_nil)
    have c1 : (decide (((k1 : Nat) : Int) < ((a_a.length : Nat) : Int))) = false := decide_eq_false (by omega)
    have en1 := forO_end l1 hk1
    refine wc_seq ?_
    refine wcr ?_
    refine mv rfl rfl ?_
    refine mv rfl rfl ?_
    refine wl_pure (po_lenr (rds_arg r0) el_22 rfl) rfl ?_
    refine wl_pure (po_lss rfl rfl) rfl ?_
    refine wnt ?_
    refine wc_cond_f rfl c1 ?_
    refine wc_exit ?_
    refine wq_then_exit ?_
    refine wq_then_exit ?_
    refine wq_block_exit ?_
    exact wj_meet _ () (Sum.inl.inj en1) (sub_cons rfl sub_nil) (some_cons pick0 some_nil)
  intro e1 _ hp
  obtain rfl : e1 = y1 := hp.symm
  refine wq_then ?_
  refine wcr ?_
  refine mv rfl rfl ?_
  refine asg rfl rfl ?_
  refine wnt ?_
  refine wc_ret ?_
  obtain rfl := Option.some.inj t0
  exact wq_ret1 rfl rfl fun w hw => ⟨x1, rfl, hw.weak (some_cons pick0 some_nil)⟩

theorem c_laws_toBlock (w : World) (a_a : GBlock) (v0a : Hd) (r0 : rdF w (dm w []) (sl v0a) a_a.Cells) {r : GBlock} (t0 : laws_toBlock a_a = some r) : Calls Try.prog 11 #[.agg #[.int .i64 a_a.Size, (sl v0a)]] w fun e w' => ∃ x : Hd, e = .returned (.agg #[.int .i64 r.Size, (sl x)]) ∧ SH w [] [ownF (sl x) r.Cells] w' := by
  refine calls_of_wc (args := [_]) Try.func11 rfl Try.ntmps11 rfl ?_
  unfold laws_toBlock at t0
  refine wcr ?_
  refine wl_eff (eo_box rfl rfl) rfl fun b1 => ?_
  refine wl_eff (eo_alloc (cs := [.int .i64 0, (sl (⟨none, 0, 0⟩ : Hd))]) za_29) rfl fun b2 => ?_
  refine wnt ?_
  refine wcr ?_
  refine wl_eff (eo_alloc (cs := [.int .i64 0, (sl (⟨none, 0, 0⟩ : Hd))]) za_29) rfl fun b3 => ?_
  refine wnt ?_
  refine wcr ?_
  refine wl_pure (po_fld fo_24_0 rfl) rfl ?_
  refine wl_pure (v := .int .i64 a_a.Size) (po_load_box tk_3 (pickS (pickS pick0)) rfl rfl) rfl ?_
  refine wl_pure (po_fld fo_29_0 rfl) rfl ?_
  refine wl_skipop (so_box (cs' := [.int .i64 a_a.Size, (sl (⟨none, 0, 0⟩ : Hd))]) tk_3 pick0 rfl rfl rfl rfl rfl rfl rfl) ?_
  refine wnt ?_
  refine wcr ?_
  refine wl_pure (po_fld fo_24_1 rfl) rfl ?_
  refine wl_pure (v := (sl v0a)) (po_load_box tk_22 (pickS (pickS pick0)) rfl rfl) rfl ?_
  refine bdO t0 fun v1 hv1 t0 => ?_
  refine wl_call (co_c1 fa_35 rfl fun w hw => c_laws_toCellS w a_a.Cells v0a (Rg.on (rds_arg r0) hw) hv1) rfl fun x1 => ?_
  refine wl_pure (po_fld fo_29_1 rfl) rfl ?_
  refine wl_skipop (so_box (cs' := [.int .i64 a_a.Size, (sl x1)]) tk_27 (pickS pick0) rfl rfl rfl rfl rfl rfl rfl) ?_
  refine wnt ?_
  refine wcr ?_
  refine wl_pure (v := .agg #[.int .i64 a_a.Size, (sl x1)]) (po_load_boxs tk_29 pick0 rfl rfl rfl) rfl ?_
  refine wl_skipop (so_box (cs' := [.int .i64 a_a.Size, (sl x1)]) tk_29 (pickS (pickS pick0)) rfl rfl rfl rfl rfl rfl rfl) ?_
  refine wnt ?_
  refine wc_ret ?_
  obtain rfl := Option.some.inj t0
  exact wq_retc rfl tk_29 rfl pick0 rfl fun w hw => ⟨x1, rfl, hw.weak (some_cons (pickS (pickS pick0)) some_nil)⟩

theorem c_laws_toEntry (w : World) (a_a : GEntry) (v0a : Hd) (r0 : rdF w (dm w []) (sl v0a) a_a.Block.Cells) {r : GEntry} (t0 : laws_toEntry a_a = some r) : Calls Try.prog 109 #[.agg #[.int .i64 a_a.Owner, .int .i64 a_a.Day, .int .i64 a_a.Block.Size, (sl v0a)]] w fun e w' => ∃ x : Hd, e = .returned (.agg #[.int .i64 r.Owner, .int .i64 r.Day, .int .i64 r.Block.Size, (sl x)]) ∧ SH w [] [ownF (sl x) r.Block.Cells] w' := by
  refine calls_of_wc (args := [_]) Try.func109 rfl Try.ntmps109 rfl ?_
  unfold laws_toEntry at t0
  refine wcr ?_
  refine wl_eff (eo_box rfl rfl) rfl fun b1 => ?_
  refine wl_eff (eo_alloc (cs := [.int .i64 0, .int .i64 0, .int .i64 0, (sl (⟨none, 0, 0⟩ : Hd))]) za_88) rfl fun b2 => ?_
  refine wnt ?_
  refine wcr ?_
  refine wl_eff (eo_alloc (cs := [.int .i64 0, .int .i64 0, .int .i64 0, (sl (⟨none, 0, 0⟩ : Hd))]) za_88) rfl fun b3 => ?_
  refine wnt ?_
  refine wcr ?_
  refine wl_pure (po_fld fo_119_0 rfl) rfl ?_
  refine wl_pure (v := .int .i64 a_a.Owner) (po_load_box tk_3 (pickS (pickS pick0)) rfl rfl) rfl ?_
  refine wl_pure (po_fld fo_88_0 rfl) rfl ?_
  refine wl_skipop (so_box (cs' := [.int .i64 a_a.Owner, .int .i64 0, .int .i64 0, (sl (⟨none, 0, 0⟩ : Hd))]) tk_3 pick0 rfl rfl rfl rfl rfl rfl rfl) ?_
  refine wnt ?_
  refine wcr ?_
  refine wl_pure (po_fld fo_119_1 rfl) rfl ?_
  refine wl_pure (v := .int .i64 a_a.Day) (po_load_box tk_3 (pickS (pickS pick0)) rfl rfl) rfl ?_
  refine wl_pure (po_fld fo_88_1 rfl) rfl ?_
  refine wl_skipop (so_box (cs' := [.int .i64 a_a.Owner, .int .i64 a_a.Day, .int .i64 0, (sl (⟨none, 0, 0⟩ : Hd))]) tk_3 pick0 rfl rfl rfl rfl rfl rfl rfl) ?_
  refine wnt ?_
  refine wcr ?_
  refine wl_pure (po_fld fo_119_2 rfl) rfl ?_
  refine wl_pure (v := .agg #[.int .i64 a_a.Block.Size, (sl v0a)]) (po_load_boxs tk_24 (pickS (pickS pick0)) rfl rfl rfl) rfl ?_
  refine bdO t0 fun v1 hv1 t0 => ?_
  refine wl_call (co_c1 fa_11 rfl fun w hw => c_laws_toBlock w a_a.Block v0a (Rg.on (rds_arg r0) hw) hv1) rfl fun x1 => ?_
  refine wl_pure (po_fld fo_88_2 rfl) rfl ?_
  refine wl_skipop (so_box (cs' := [.int .i64 a_a.Owner, .int .i64 a_a.Day, .int .i64 v1.Size, (sl x1)]) tk_29 (pickS pick0) rfl rfl rfl rfl rfl rfl rfl) ?_
  refine wnt ?_
  refine wcr ?_
  refine wl_pure (v := .agg #[.int .i64 a_a.Owner, .int .i64 a_a.Day, .int .i64 v1.Size, (sl x1)]) (po_load_boxs tk_88 pick0 rfl rfl rfl) rfl ?_
  refine wl_skipop (so_box (cs' := [.int .i64 a_a.Owner, .int .i64 a_a.Day, .int .i64 v1.Size, (sl x1)]) tk_88 (pickS (pickS pick0)) rfl rfl rfl rfl rfl rfl rfl) ?_
  refine wnt ?_
  refine wc_ret ?_
  obtain rfl := Option.some.inj t0
  exact wq_retc rfl tk_88 rfl pick0 rfl fun w hw => ⟨x1, rfl, hw.weak (some_cons (pickS (pickS pick0)) some_nil)⟩

theorem c_laws_toEntryS (w : World) (a_a : List GEntry) (v0a : Hd) (u0a : List Value) (r0 : RdL w (dm w []) (sl v0a) u0a a_a) {r : List GEntry} (t0 : laws_toEntryS a_a = some r) : Calls Try.prog 64 #[(sl v0a)] w fun e w' => ∃ x : Hd × (List Value), e = .returned ((sl x.1)) ∧ SH w [] [own (sl x.1) x.2 r] w' := by
  refine calls_of_wc (args := [_]) Try.func64 rfl Try.ntmps64 rfl ?_
  unfold laws_toEntryS at t0
  refine wcr ?_
  refine asg rfl rfl ?_
  refine wnt ?_
  refine wcr ?_
  refine mv rfl rfl ?_
  refine wl_pure (po_lenr (rds_arg r0) el_44 rfl) rfl ?_
  refine gdO t0 fun g1 t0 => ?_
  refine wl_eff (eo_maken (n := a_a.length) ((GEntry.mk 0 0 (GBlock.mk 0 ([] : List GCell))) : GEntry) mk_35 zow_GEntry rfl rfl g1 rfl) rfl fun x1 => ?_
  refine asg rfl rfl ?_
  refine wnt ?_
  refine wc_seq ?_
  refine wcr ?_
  refine asg rfl rfl ?_
  refine wnt ?_
  refine gdO t0 fun g2 t0 => ?_
  refine lpO_inv t0 fun y1 l1 t0 => ?_
  refine wj (J := List GEntry) (X := List Value) (fun z => y1 = z) (fun _ _ => [(3, (sl x1))]) (fun z x => [own (sl x1) x z]) ?_ ?_
  · skip
    refine wc_block ?_
    refine wc_forO (X := List Value) l1 (fun k1 s1 x1l => [(0, (sl v0a)), (3, (sl x1)), (4, .int .i64 ((k1 : Nat) : Int))]) (fun k1 s1 x1l => [own (sl x1) x1l s1]) (cellsN a_a.length [.int .i64 0, .int .i64 0, .int .i64 0, (Value.slice none 0 0)]) (sub_cons rfl (sub_cons rfl (sub_cons rfl sub_nil))) (some_cons pick0 some_nil) fun k1 s1 x1l hN1 l1 => ?_
    by_cases hk1 : k1 < a_a.length
    · skip
      refine forO_step l1 hk1 fun _ t1 l1 => ?_
      unfold laws_toEntryS_L1 at t1
      have c1 : (decide (((k1 : Nat) : Int) < ((a_a.length : Nat) : Int))) = true := decide_eq_true (by omega)
      refine wc_seq ?_
      refine wcr ?_
      refine mv rfl rfl ?_
      refine mv rfl rfl ?_
      refine wl_pure (po_lenr (rds_arg r0) el_44 rfl) rfl ?_
      refine wl_pure (po_lss rfl rfl) rfl ?_
      refine wnt ?_
      refine wc_cond_t rfl c1 ?_
      refine wc_skip ?_
      refine wq_then ?_
      refine wc_seq ?_
      refine wc_block ?_
      refine wc_region ?_
      refine mv rfl rfl ?_
      refine mv rfl rfl ?_
      refine mv rfl rfl ?_
      refine mv rfl rfl ?_
      refine wl_pure (po_ixn (k := k1) (rds_arg r0) el_44 rfl rfl hk1) rfl ?_
      refine wl_elem (rds_arg r0) hk1 ?_
      rintro ⟨_, _, he1⟩
      obtain ⟨w1, hc1, _⟩ := rd_GEntry.1 he1
      refine wl_pure (v := .agg #[.int .i64 ((gx a_a k1).Owner), .int .i64 ((gx a_a k1).Day), .int .i64 (((gx a_a k1).Block).Size), (sl w1)]) (po_ldns (rds_arg r0) tk_119 rfl hc1 rfl rfl rfl) rfl ?_
      refine bdO t1 fun v1 hv1 t1 => ?_
      refine wl_call (co_c1 fa_109 rfl fun w hw => c_laws_toEntry w (gx a_a k1) w1 (Rg.on (er_GEntry_0 hc1 (rds_arg r0) hk1) hw) hv1) rfl fun x3 => ?_
      refine gdO t1 fun g3 t1 => ?_
      refine wl_pure (po_ixn (k := k1) (rds_own (pickS pick0)) el_35 rfl rfl g3) rfl ?_
      refine wl_skipop (so_ownn tk_88 (pickS pick0) (pow_GEntry (x := v1) pick0) rfl rfl rfl rfl rfl g3) ?_
      refine wl_nil ?_
      refine wq_block ?_
      refine wq_then ?_
      refine wc_region ?_
      refine mv rfl rfl ?_
      refine wl_pure (po_inc rfl rfl (by omega)) rfl ?_
      refine asg rfl rfl ?_
      refine wl_nil ?_
      exact wq_rnd hk1 (stpN l1 t1) (put_ x1l (k1 * 4) [.int .i64 v1.Owner, .int .i64 v1.Day, .int .i64 v1.Block.Size, (sl x3)]) (sub_cons rfl (sub_cons rfl (sub_cons rfl sub_nil))) (some_cons pick0 some_nil)
    have c1 : (decide (((k1 : Nat) : Int) < ((a_a.length : Nat) : Int))) = false := decide_eq_false (by omega)
    have en1 := forO_end l1 hk1
    refine wc_seq ?_
    refine wcr ?_
    refine mv rfl rfl ?_
    refine mv rfl rfl ?_
    refine wl_pure (po_lenr (rds_arg r0) el_44 rfl) rfl ?_
    refine wl_pure (po_lss rfl rfl) rfl ?_
    refine wnt ?_
    refine wc_cond_f rfl c1 ?_
    refine wc_exit ?_
    refine wq_then_exit ?_
    refine wq_then_exit ?_
    refine wq_block_exit ?_
    exact wj_meet _ x1l (Sum.inl.inj en1) (sub_cons rfl sub_nil) (some_cons pick0 some_nil)
  intro e1 x2 hp
  obtain rfl : e1 = y1 := hp.symm
  refine wq_then ?_
  refine wcr ?_
  refine mv rfl rfl ?_
  refine asg rfl rfl ?_
  refine wnt ?_
  refine wc_ret ?_
  obtain rfl := Option.some.inj t0
  exact wq_ret1 rfl rfl fun w hw => ⟨(x1, x2), rfl, hw.weak (some_cons pick0 some_nil)⟩

theorem c_laws_toBooking (w : World) (a_a : GBooking) {r : GBooking} (t0 : laws_toBooking a_a = some r) : Calls Try.prog 110 #[.agg #[.int .i64 a_a.Day, .int .i64 a_a.From, .int .i64 a_a.To, .int .i64 a_a.Sum]] w fun e w' => e = .returned (.agg #[.int .i64 r.Day, .int .i64 r.From, .int .i64 r.To, .int .i64 r.Sum]) ∧ SH w [] [] w' := by
  refine calls_of_wc (args := [_]) Try.func110 rfl Try.ntmps110 rfl ?_
  unfold laws_toBooking at t0
  refine wcr ?_
  refine wl_eff (eo_box rfl rfl) rfl fun b1 => ?_
  refine wl_eff (eo_alloc (cs := [.int .i64 0, .int .i64 0, .int .i64 0, .int .i64 0]) za_92) rfl fun b2 => ?_
  refine wnt ?_
  refine wcr ?_
  refine wl_eff (eo_alloc (cs := [.int .i64 0, .int .i64 0, .int .i64 0, .int .i64 0]) za_92) rfl fun b3 => ?_
  refine wnt ?_
  refine wcr ?_
  refine wl_pure (po_fld fo_129_0 rfl) rfl ?_
  refine wl_pure (v := .int .i64 a_a.Day) (po_load_box tk_3 (pickS (pickS pick0)) rfl rfl) rfl ?_
  refine wl_pure (po_fld fo_92_0 rfl) rfl ?_
  refine wl_skipop (so_box (cs' := [.int .i64 a_a.Day, .int .i64 0, .int .i64 0, .int .i64 0]) tk_3 pick0 rfl rfl rfl rfl rfl rfl rfl) ?_
  refine wnt ?_
  refine wcr ?_
  refine wl_pure (po_fld fo_129_1 rfl) rfl ?_
  refine wl_pure (v := .int .i64 a_a.From) (po_load_box tk_3 (pickS (pickS pick0)) rfl rfl) rfl ?_
  refine wl_pure (po_fld fo_92_1 rfl) rfl ?_
  refine wl_skipop (so_box (cs' := [.int .i64 a_a.Day, .int .i64 a_a.From, .int .i64 0, .int .i64 0]) tk_3 pick0 rfl rfl rfl rfl rfl rfl rfl) ?_
  refine wnt ?_
  refine wcr ?_
  refine wl_pure (po_fld fo_129_2 rfl) rfl ?_
  refine wl_pure (v := .int .i64 a_a.To) (po_load_box tk_3 (pickS (pickS pick0)) rfl rfl) rfl ?_
  refine wl_pure (po_fld fo_92_2 rfl) rfl ?_
  refine wl_skipop (so_box (cs' := [.int .i64 a_a.Day, .int .i64 a_a.From, .int .i64 a_a.To, .int .i64 0]) tk_3 pick0 rfl rfl rfl rfl rfl rfl rfl) ?_
  refine wnt ?_
  refine wcr ?_
  refine wl_pure (po_fld fo_129_3 rfl) rfl ?_
  refine wl_pure (v := .int .i64 a_a.Sum) (po_load_box tk_3 (pickS (pickS pick0)) rfl rfl) rfl ?_
  refine wl_pure (po_fld fo_92_3 rfl) rfl ?_
  refine wl_skipop (so_box (cs' := [.int .i64 a_a.Day, .int .i64 a_a.From, .int .i64 a_a.To, .int .i64 a_a.Sum]) tk_3 pick0 rfl rfl rfl rfl rfl rfl rfl) ?_
  refine wnt ?_
  refine wcr ?_
  refine wl_pure (v := .agg #[.int .i64 a_a.Day, .int .i64 a_a.From, .int .i64 a_a.To, .int .i64 a_a.Sum]) (po_load_boxs tk_92 pick0 rfl rfl rfl) rfl ?_
  refine wl_skipop (so_box (cs' := [.int .i64 a_a.Day, .int .i64 a_a.From, .int .i64 a_a.To, .int .i64 a_a.Sum]) tk_92 (pickS pick0) rfl rfl rfl rfl rfl rfl rfl) ?_
  refine wnt ?_
  refine wc_ret ?_
  obtain rfl := Option.some.inj t0
  exact wq_retc rfl tk_92 rfl pick0 rfl fun w hw => ⟨rfl, hw.weak some_nil⟩

theorem c_laws_toBookingS (w : World) (a_a : List GBooking) (v0a : Hd) (r0 : rdF w (dm w []) (sl v0a) a_a) {r : List GBooking} (t0 : laws_toBookingS a_a = some r) : Calls Try.prog 65 #[(sl v0a)] w fun e w' => ∃ x : Hd, e = .returned ((sl x)) ∧ SH w [] [ownF (sl x) r] w' := by
  refine calls_of_wc (args := [_]) Try.func65 rfl Try.ntmps65 rfl ?_
  unfold laws_toBookingS at t0
  refine wcr ?_
  refine asg rfl rfl ?_
  refine wnt ?_
  refine wcr ?_
  refine mv rfl rfl ?_
  refine wl_pure (po_lenr (rds_arg r0) el_45 rfl) rfl ?_
  refine gdO t0 fun g1 t0 => ?_
  refine wl_eff (eo_make_ (n := a_a.length) ((GBooking.mk 0 0 0 0) : GBooking) mk_36 rfl rfl rfl g1 rfl) rfl fun x1 => ?_
  refine asg rfl rfl ?_
  refine wnt ?_
  refine wc_seq ?_
  refine wcr ?_
  refine asg rfl rfl ?_
  refine wnt ?_
  refine gdO t0 fun g2 t0 => ?_
  refine lpO_inv t0 fun y1 l1 t0 => ?_
  refine wj (J := List GBooking) (X := Unit) (fun z => y1 = z) (fun _ _ => [(3, (sl x1))]) (fun z _ => [ownF (sl x1) z]) ?_ ?_
  · skip
    refine wc_block ?_
    refine wc_forO (X := Unit) l1 (fun k1 s1 x1l => [(0, (sl v0a)), (3, (sl x1)), (4, .int .i64 ((k1 : Nat) : Int))]) (fun k1 s1 x1l => [ownF (sl x1) s1]) () (sub_cons rfl (sub_cons rfl (sub_cons rfl sub_nil))) (some_cons pick0 some_nil) fun k1 s1 x1l hN1 l1 => ?_
    by_cases hk1 : k1 < a_a.length
    · skip
      refine forO_step l1 hk1 fun _ t1 l1 => ?_
      unfold laws_toBookingS_L1 at t1
      have c1 : (decide (((k1 : Nat) : Int) < ((a_a.length : Nat) : Int))) = true := decide_eq_true (by omega)
      refine wc_seq ?_
      refine wcr ?_
      refine mv rfl rfl ?_
      refine mv rfl rfl ?_
      refine wl_pure (po_lenr (rds_arg r0) el_45 rfl) rfl ?_
      refine wl_pure (po_lss rfl rfl) rfl ?_
      refine wnt ?_
      refine wc_cond_t rfl c1 ?_
      refine wc_skip ?_
      refine wq_then ?_
      refine wc_seq ?_
      refine wc_block ?_
      refine wc_region ?_
      refine mv rfl rfl ?_
      refine mv rfl rfl ?_
      refine mv rfl rfl ?_
      refine mv rfl rfl ?_
      refine wl_pure (po_ixn (k := k1) (rds_arg r0) el_45 rfl rfl hk1) rfl ?_
      refine wl_pure (v := .agg #[.int .i64 ((gx a_a k1).Day), .int .i64 ((gx a_a k1).From), .int .i64 ((gx a_a k1).To), .int .i64 ((gx a_a k1).Sum)]) (po_ldfs (rds_arg r0) tk_129 rfl hk1 rfl rfl rfl) rfl ?_
      refine bdO t1 fun v1 hv1 t1 => ?_
      refine wl_call (co_c0 fa_110 rfl fun w hw => c_laws_toBooking w (gx a_a k1) hv1) rfl fun _ => ?_
      refine gdO t1 fun g3 t1 => ?_
      refine wl_pure (po_ixn (k := k1) (rds_own pick0) el_36 rfl rfl g3) rfl ?_
      refine wl_skipop (so_own (x' := v1) tk_92 pick0 rfl rfl rfl rfl rfl rfl g3 rfl) ?_
      refine wl_nil ?_
      refine wq_block ?_
      refine wq_then ?_
      refine wc_region ?_
      refine mv rfl rfl ?_
      refine wl_pure (po_inc rfl rfl (by omega)) rfl ?_
      refine asg rfl rfl ?_
      refine wl_nil ?_
      exact wq_rnd hk1 (stpN l1 t1) () (sub_cons rfl (sub_cons rfl (sub_cons rfl sub_nil))) (some_cons pick0 some_nil)
    have c1 : (decide (((k1 : Nat) : Int) < ((a_a.length : Nat) : Int))) = false := decide_eq_false (by omega)
    have en1 := forO_end l1 hk1
    refine wc_seq ?_
    refine wcr ?_
    refine mv rfl rfl ?_
    refine mv rfl rfl ?_
    refine wl_pure (po_lenr (rds_arg r0) el_45 rfl) rfl ?_
    refine wl_pure (po_lss rfl rfl) rfl ?_
    refine wnt ?_
    refine wc_cond_f rfl c1 ?_
    refine wc_exit ?_
    refine wq_then_exit ?_
    refine wq_then_exit ?_
    refine wq_block_exit ?_
    exact wj_meet _ () (Sum.inl.inj en1) (sub_cons rfl sub_nil) (some_cons pick0 some_nil)
  intro e1 _ hp
  obtain rfl : e1 = y1 := hp.symm
  refine wq_then ?_
  refine wcr ?_
  refine mv rfl rfl ?_
  refine asg rfl rfl ?_
  refine wnt ?_
  refine wc_ret ?_
  obtain rfl := Option.some.inj t0
  exact wq_ret1 rfl rfl fun w hw => ⟨x1, rfl, hw.weak (some_cons pick0 some_nil)⟩

theorem c_laws_toGuild (w : World) (a_a : GGuild) (v0a : Hd) (r0 : rdF w (dm w []) (sl v0a) a_a.Members) (v1a : Hd) (r1 : rdF w (dm w []) (sl v1a) a_a.Stock) (v2a : Hd) (u2a : List Value) (r2 : RdL w (dm w []) (sl v2a) u2a a_a.Entries) (v3a : Hd) (r3 : rdF w (dm w []) (sl v3a) a_a.Books) {r : GGuild} (t0 : laws_toGuild a_a = some r) : Calls Try.prog 21 #[.agg #[(sl v0a), (sl v1a), (sl v2a), (sl v3a), .int .i64 a_a.Round, .int .i64 a_a.Year]] w fun e w' => ∃ x : Hd × Hd × Hd × (List Value) × Hd, e = .returned (.agg #[(sl x.1), (sl x.2.1), (sl x.2.2.1), (sl x.2.2.2.2), .int .i64 r.Round, .int .i64 r.Year]) ∧ SH w [] [ownF (sl x.1) r.Members, ownF (sl x.2.1) r.Stock, own (sl x.2.2.1) x.2.2.2.1 r.Entries, ownF (sl x.2.2.2.2) r.Books] w' := by
  refine calls_of_wc (args := [_]) Try.func21 rfl Try.ntmps21 rfl ?_
  unfold laws_toGuild at t0
  refine wcr ?_
  refine wl_eff (eo_box rfl rfl) rfl fun b1 => ?_
  refine wl_eff (eo_alloc (cs := [(sl (⟨none, 0, 0⟩ : Hd)), (sl (⟨none, 0, 0⟩ : Hd)), (sl (⟨none, 0, 0⟩ : Hd)), (sl (⟨none, 0, 0⟩ : Hd)), .int .i64 0, .int .i64 0]) za_38) rfl fun b2 => ?_
  refine wnt ?_
  refine wcr ?_
  refine wl_eff (eo_alloc (cs := [(sl (⟨none, 0, 0⟩ : Hd)), (sl (⟨none, 0, 0⟩ : Hd)), (sl (⟨none, 0, 0⟩ : Hd)), (sl (⟨none, 0, 0⟩ : Hd)), .int .i64 0, .int .i64 0]) za_38) rfl fun b3 => ?_
  refine wnt ?_
  refine wcr ?_
  refine wl_pure (po_fld fo_47_0 rfl) rfl ?_
  refine wl_pure (v := (sl v0a)) (po_load_box tk_43 (pickS (pickS pick0)) rfl rfl) rfl ?_
  refine bdO t0 fun v1 hv1 t0 => ?_
  refine wl_call (co_c1 fa_62 rfl fun w hw => c_laws_toMemberS w a_a.Members v0a (Rg.on (rds_arg r0) hw) hv1) rfl fun x1 => ?_
  refine wl_pure (po_fld fo_38_0 rfl) rfl ?_
  refine wl_skipop (so_box (cs' := [(sl x1), (sl (⟨none, 0, 0⟩ : Hd)), (sl (⟨none, 0, 0⟩ : Hd)), (sl (⟨none, 0, 0⟩ : Hd)), .int .i64 0, .int .i64 0]) tk_33 (pickS pick0) rfl rfl rfl rfl rfl rfl rfl) ?_
  refine wnt ?_
  refine wcr ?_
  refine wl_pure (po_fld fo_47_1 rfl) rfl ?_
  refine wl_pure (v := (sl v1a)) (po_load_box tk_34 (pickS (pickS (pickS pick0))) rfl rfl) rfl ?_
  refine bdO t0 fun v2 hv2 t0 => ?_
  refine wl_call (co_c1 fa_63 rfl fun w hw => c_laws_toIntS w a_a.Stock v1a (Rg.on (rds_arg r1) hw) hv2) rfl fun x2 => ?_
  refine wl_pure (po_fld fo_38_1 rfl) rfl ?_
  refine wl_skipop (so_box (cs' := [(sl x1), (sl x2), (sl (⟨none, 0, 0⟩ : Hd)), (sl (⟨none, 0, 0⟩ : Hd)), .int .i64 0, .int .i64 0]) tk_34 (pickS pick0) rfl rfl rfl rfl rfl rfl rfl) ?_
  refine wnt ?_
  refine wcr ?_
  refine wl_pure (po_fld fo_47_2 rfl) rfl ?_
  refine wl_pure (v := (sl v2a)) (po_load_box tk_44 (pickS (pickS (pickS (pickS pick0)))) rfl rfl) rfl ?_
  refine bdO t0 fun v3 hv3 t0 => ?_
  refine wl_call (co_c1 fa_64 rfl fun w hw => c_laws_toEntryS w a_a.Entries v2a u2a (Rg.on (rds_arg r2) hw) hv3) rfl fun x3 => ?_
  refine wl_pure (po_fld fo_38_2 rfl) rfl ?_
  refine wl_skipop (so_box (cs' := [(sl x1), (sl x2), (sl x3.1), (sl (⟨none, 0, 0⟩ : Hd)), .int .i64 0, .int .i64 0]) tk_35 (pickS pick0) rfl rfl rfl rfl rfl rfl rfl) ?_
  refine wnt ?_
  refine wcr ?_
  refine wl_pure (po_fld fo_47_3 rfl) rfl ?_
  refine wl_pure (v := (sl v3a)) (po_load_box tk_45 (pickS (pickS (pickS (pickS (pickS pick0))))) rfl rfl) rfl ?_
  refine bdO t0 fun v4 hv4 t0 => ?_
  refine wl_call (co_c1 fa_65 rfl fun w hw => c_laws_toBookingS w a_a.Books v3a (Rg.on (rds_arg r3) hw) hv4) rfl fun x4 => ?_
  refine wl_pure (po_fld fo_38_3 rfl) rfl ?_
  refine wl_skipop (so_box (cs' := [(sl x1), (sl x2), (sl x3.1), (sl x4), .int .i64 0, .int .i64 0]) tk_36 (pickS pick0) rfl rfl rfl rfl rfl rfl rfl) ?_
  refine wnt ?_
  refine wcr ?_
  refine wl_pure (po_fld fo_47_4 rfl) rfl ?_
  refine wl_pure (v := .int .i64 a_a.Round) (po_load_box tk_3 (pickS (pickS (pickS (pickS (pickS (pickS pick0)))))) rfl rfl) rfl ?_
  refine wl_pure (po_fld fo_38_4 rfl) rfl ?_
  refine wl_skipop (so_box (cs' := [(sl x1), (sl x2), (sl x3.1), (sl x4), .int .i64 a_a.Round, .int .i64 0]) tk_3 pick0 rfl rfl rfl rfl rfl rfl rfl) ?_
  refine wnt ?_
  refine wcr ?_
  refine wl_pure (po_fld fo_47_5 rfl) rfl ?_
  refine wl_pure (v := .int .i64 a_a.Year) (po_load_box tk_3 (pickS (pickS (pickS (pickS (pickS (pickS pick0)))))) rfl rfl) rfl ?_
  refine wl_pure (po_fld fo_38_5 rfl) rfl ?_
  refine wl_skipop (so_box (cs' := [(sl x1), (sl x2), (sl x3.1), (sl x4), .int .i64 a_a.Round, .int .i64 a_a.Year]) tk_3 pick0 rfl rfl rfl rfl rfl rfl rfl) ?_
  refine wnt ?_
  refine wcr ?_
  refine wl_pure (v := .agg #[(sl x1), (sl x2), (sl x3.1), (sl x4), .int .i64 a_a.Round, .int .i64 a_a.Year]) (po_load_boxs tk_38 pick0 rfl rfl rfl) rfl ?_
  refine wl_skipop (so_box (cs' := [(sl x1), (sl x2), (sl x3.1), (sl x4), .int .i64 a_a.Round, .int .i64 a_a.Year]) tk_38 (pickS (pickS (pickS (pickS (pickS pick0))))) rfl rfl rfl rfl rfl rfl rfl) ?_
  refine wnt ?_
  refine wc_ret ?_
  obtain rfl := Option.some.inj t0
  exact wq_retc rfl tk_38 rfl pick0 rfl fun w hw => ⟨(x1, x2, x3.1, x3.2, x4), rfl, hw.weak (some_cons (pickS (pickS (pickS (pickS (pickS pick0))))) (some_cons (pickS (pickS (pickS (pickS pick0)))) (some_cons (pickS (pickS (pickS pick0))) (some_cons (pickS (pickS pick0)) some_nil))))⟩

theorem c_spec_l03Copy (w : World) (a_b : GBlock) (v0a : Hd) (r0 : rdF w (dm w []) (sl v0a) a_b.Cells) {r : GBlock} (t0 : spec_l03Copy a_b = some r) : Calls Try.prog 85 #[.agg #[.int .i64 a_b.Size, (sl v0a)]] w fun e w' => ∃ x : Hd, e = .returned (.agg #[.int .i64 r.Size, (sl x)]) ∧ SH w [] [ownF (sl x) r.Cells] w' := by
  refine calls_of_wc (args := [_]) Try.func85 rfl Try.ntmps85 rfl ?_
  unfold spec_l03Copy at t0
  refine wcr ?_
  refine wl_eff (eo_box rfl rfl) rfl fun b1 => ?_
  refine wl_eff (eo_alloc (cs := [.int .i64 0, (sl (⟨none, 0, 0⟩ : Hd))]) za_29) rfl fun b2 => ?_
  refine wnt ?_
  refine wc_seq ?_
  refine wc_draw [box b2 [.int .i64 0, (sl (⟨none, 0, 0⟩ : Hd))], box b1 [.int .i64 a_b.Size, (sl v0a)]] 7 mixed ?_
  refine wa_pure 0 rfl (po_fld fo_29_0 rfl) (some_cons pick0 (some_cons pick0 some_nil)) rfl (by kernel_rfl) (fun _ _ _ h => h) ?_
  refine wa_pure (v := .int .i64 a_b.Size) 1 rfl (po_load_box tk_3 (pickS pick0) rfl rfl) (some_cons pick0 (some_cons pick0 some_nil)) rfl (by kernel_rfl) (fun _ _ _ h => h) ?_
  refine wa_pure 3 rfl (po_fld fo_29_1 rfl) (some_cons pick0 (some_cons pick0 some_nil)) rfl (by kernel_rfl) (fun _ _ _ h => h) ?_
  refine wa_pure (v := (sl v0a)) 4 rfl (po_load_box tk_27 (pickS pick0) rfl rfl) (some_cons pick0 (some_cons pick0 some_nil)) rfl (by kernel_rfl) (fun _ _ _ h => h) ?_
  refine wa_1 (i := 2) (by kernel_rfl) ?_
  refine ws_eff rfl (eo_buildSlice rfl sb_27_0) (fun _ => (sts_some (some_cons (pickS pick0) (some_cons (pickS pick0) some_nil)))) rfl fun b3 => ?_
  refine wa_1 (i := 5) (by kernel_rfl) ?_
  refine gdO t0 fun g1 t0 => ?_
  refine ws_eff rfl (eo_append (xs := ([] : List GCell)) (ys := a_b.Cells) ak_27 (pick_box_own pick0 (n := 0) (xs := ([] : List GCell)) rfl rfl (by unfold maxLen; omega)) rfl rfl (slin_rd fun _ g => Rg.on (rds_arg r0) g) g1) (fun _ => (sts_some (some_cons (pickS pick0) (some_cons (pickS pick0) some_nil)))) rfl fun x1 => ?_
  refine wa_pure 6 rfl (po_build rfl (bd_29_0_1 a_b.Size x1)) (some_cons (pickS pick0) (some_cons (pickS pick0) some_nil)) rfl (by kernel_rfl) (fun _ _ _ h => h) ?_
  refine wa_1 (i := 7) (by kernel_rfl) ?_
  refine ws_skipop rfl (so_box (cs' := [.int .i64 a_b.Size, (sl x1)]) tk_29 (pickS pick0) rfl rfl rfl rfl rfl rfl rfl) (sts_past (by kernel_rfl)) ?_
  refine wa_done (by kernel_rfl) ?_
  refine wq_then ?_
  refine wc_ret ?_
  obtain rfl := Option.some.inj t0
  exact wq_retc rfl tk_29 rfl pick0 rfl fun w hw => ⟨x1, rfl, hw.weak (some_cons (pickS pick0) some_nil)⟩

theorem c_spec_l38Copy (w : World) (a_g : GGuild) (v0a : Hd) (r0 : rdF w (dm w []) (sl v0a) a_g.Members) (v1a : Hd) (r1 : rdF w (dm w []) (sl v1a) a_g.Stock) (v2a : Hd) (u2a : List Value) (r2 : RdL w (dm w []) (sl v2a) u2a a_g.Entries) (v3a : Hd) (r3 : rdF w (dm w []) (sl v3a) a_g.Books) {r : GGuild} (t0 : spec_l38Copy a_g = some r) : Calls Try.prog 60 #[.agg #[(sl v0a), (sl v1a), (sl v2a), (sl v3a), .int .i64 a_g.Round, .int .i64 a_g.Year]] w fun e w' => ∃ x : Hd × Hd × Hd × (List Value) × Hd, e = .returned (.agg #[(sl x.1), (sl x.2.1), (sl x.2.2.1), (sl x.2.2.2.2), .int .i64 r.Round, .int .i64 r.Year]) ∧ SH w [] [ownF (sl x.1) r.Members, ownF (sl x.2.1) r.Stock, own (sl x.2.2.1) x.2.2.2.1 r.Entries, ownF (sl x.2.2.2.2) r.Books] w' := by
  refine calls_of_wc (args := [_]) Try.func60 rfl Try.ntmps60 rfl ?_
  unfold spec_l38Copy at t0
  refine wcr ?_
  refine wl_eff (eo_box rfl rfl) rfl fun b1 => ?_
  refine wl_eff (eo_alloc (cs := [(sl (⟨none, 0, 0⟩ : Hd)), (sl (⟨none, 0, 0⟩ : Hd)), (sl (⟨none, 0, 0⟩ : Hd)), (sl (⟨none, 0, 0⟩ : Hd)), .int .i64 0, .int .i64 0]) za_38) rfl fun b2 => ?_
  refine wnt ?_
  refine wc_seq ?_
  refine gdO t0 fun g1 t0 => ?_
  refine gdO t0 fun g2 t0 => ?_
  refine gdO t0 fun g3 t0 => ?_
  refine wc_join (X := Nat × Hd × Hd × Hd) (fun _ => True) (fun z => [(1, ptr b1 0), (2, ptr b2 0), (3, ptr z.1 0)]) (fun z => [box z.1 [(sl z.2.1), (sl z.2.2.1), (sl (⟨none, 0, 0⟩ : Hd)), (sl z.2.2.2), .int .i64 a_g.Round, .int .i64 a_g.Year], ownF (sl z.2.2.2) (([] : List GBooking) ++ a_g.Books), ownF (sl z.2.2.1) (([] : List Int) ++ a_g.Stock), ownF (sl z.2.1) (([] : List GMember) ++ a_g.Members), box b2 [(sl (⟨none, 0, 0⟩ : Hd)), (sl (⟨none, 0, 0⟩ : Hd)), (sl (⟨none, 0, 0⟩ : Hd)), (sl (⟨none, 0, 0⟩ : Hd)), .int .i64 0, .int .i64 0], box b1 [(sl v0a), (sl v1a), (sl v2a), (sl v3a), .int .i64 a_g.Round, .int .i64 a_g.Year]]) ?_ ?_
  · skip
    refine wc_draw [box b2 [(sl (⟨none, 0, 0⟩ : Hd)), (sl (⟨none, 0, 0⟩ : Hd)), (sl (⟨none, 0, 0⟩ : Hd)), (sl (⟨none, 0, 0⟩ : Hd)), .int .i64 0, .int .i64 0], box b1 [(sl v0a), (sl v1a), (sl v2a), (sl v3a), .int .i64 a_g.Round, .int .i64 a_g.Year]] 18 mixed ?_
    refine wa_dag [⟨9, #[false, true, true, false, false, true, true, false, false, true, true, false, true, true, true, true, false, false, false], Unit, fun _ => [(1, ptr b1 0), (2, ptr b2 0), (8, (sl v0a)), (12, (sl v1a)), (16, (sl v3a)), (19, .int .i64 a_g.Round), (21, .int .i64 a_g.Year)], fun _ => [box b2 [(sl (⟨none, 0, 0⟩ : Hd)), (sl (⟨none, 0, 0⟩ : Hd)), (sl (⟨none, 0, 0⟩ : Hd)), (sl (⟨none, 0, 0⟩ : Hd)), .int .i64 0, .int .i64 0], box b1 [(sl v0a), (sl v1a), (sl v2a), (sl v3a), .int .i64 a_g.Round, .int .i64 a_g.Year]]⟩,
      ⟨8, #[true, true, true, false, false, true, true, false, false, true, true, false, true, true, true, true, false, false, false], Nat, fun z => [(1, ptr b1 0), (2, ptr b2 0), (6, (sl (⟨some ⟨z, 0, none⟩, 0, 0⟩ : Hd))), (8, (sl v0a)), (12, (sl v1a)), (16, (sl v3a)), (19, .int .i64 a_g.Round), (21, .int .i64 a_g.Year)], fun z => [box z [], box b2 [(sl (⟨none, 0, 0⟩ : Hd)), (sl (⟨none, 0, 0⟩ : Hd)), (sl (⟨none, 0, 0⟩ : Hd)), (sl (⟨none, 0, 0⟩ : Hd)), .int .i64 0, .int .i64 0], box b1 [(sl v0a), (sl v1a), (sl v2a), (sl v3a), .int .i64 a_g.Round, .int .i64 a_g.Year]]⟩,
      ⟨8, #[false, true, true, false, true, true, true, false, false, true, true, false, true, true, true, true, false, false, false], Nat, fun z => [(1, ptr b1 0), (2, ptr b2 0), (8, (sl v0a)), (10, (sl (⟨some ⟨z, 0, none⟩, 0, 0⟩ : Hd))), (12, (sl v1a)), (16, (sl v3a)), (19, .int .i64 a_g.Round), (21, .int .i64 a_g.Year)], fun z => [box z [], box b2 [(sl (⟨none, 0, 0⟩ : Hd)), (sl (⟨none, 0, 0⟩ : Hd)), (sl (⟨none, 0, 0⟩ : Hd)), (sl (⟨none, 0, 0⟩ : Hd)), .int .i64 0, .int .i64 0], box b1 [(sl v0a), (sl v1a), (sl v2a), (sl v3a), .int .i64 a_g.Round, .int .i64 a_g.Year]]⟩,
      ⟨8, #[false, true, true, false, false, true, true, false, true, true, true, false, true, true, true, true, false, false, false], Nat, fun z => [(1, ptr b1 0), (2, ptr b2 0), (8, (sl v0a)), (12, (sl v1a)), (14, (sl (⟨some ⟨z, 0, none⟩, 0, 0⟩ : Hd))), (16, (sl v3a)), (19, .int .i64 a_g.Round), (21, .int .i64 a_g.Year)], fun z => [box z [], box b2 [(sl (⟨none, 0, 0⟩ : Hd)), (sl (⟨none, 0, 0⟩ : Hd)), (sl (⟨none, 0, 0⟩ : Hd)), (sl (⟨none, 0, 0⟩ : Hd)), .int .i64 0, .int .i64 0], box b1 [(sl v0a), (sl v1a), (sl v2a), (sl v3a), .int .i64 a_g.Round, .int .i64 a_g.Year]]⟩,
      ⟨8, #[false, true, true, false, false, true, true, false, false, true, true, false, true, true, true, true, false, true, false], Nat, fun z => [(1, ptr b1 0), (2, ptr b2 0), (3, ptr z 0), (8, (sl v0a)), (12, (sl v1a)), (16, (sl v3a)), (19, .int .i64 a_g.Round), (21, .int .i64 a_g.Year)], fun z => [box z [(sl (⟨none, 0, 0⟩ : Hd)), (sl (⟨none, 0, 0⟩ : Hd)), (sl (⟨none, 0, 0⟩ : Hd)), (sl (⟨none, 0, 0⟩ : Hd)), .int .i64 0, .int .i64 0], box b2 [(sl (⟨none, 0, 0⟩ : Hd)), (sl (⟨none, 0, 0⟩ : Hd)), (sl (⟨none, 0, 0⟩ : Hd)), (sl (⟨none, 0, 0⟩ : Hd)), .int .i64 0, .int .i64 0], box b1 [(sl v0a), (sl v1a), (sl v2a), (sl v3a), .int .i64 a_g.Round, .int .i64 a_g.Year]]⟩,
      ⟨7, #[true, true, true, true, false, true, true, false, false, true, true, false, true, true, true, true, false, false, false], Hd, fun z => [(1, ptr b1 0), (2, ptr b2 0), (9, (sl z)), (12, (sl v1a)), (16, (sl v3a)), (19, .int .i64 a_g.Round), (21, .int .i64 a_g.Year)], fun z => [ownF (sl z) (([] : List GMember) ++ a_g.Members), box b2 [(sl (⟨none, 0, 0⟩ : Hd)), (sl (⟨none, 0, 0⟩ : Hd)), (sl (⟨none, 0, 0⟩ : Hd)), (sl (⟨none, 0, 0⟩ : Hd)), .int .i64 0, .int .i64 0], box b1 [(sl v0a), (sl v1a), (sl v2a), (sl v3a), .int .i64 a_g.Round, .int .i64 a_g.Year]]⟩,
      ⟨7, #[true, true, true, false, true, true, true, false, false, true, true, false, true, true, true, true, false, false, false], Nat × Nat, fun z => [(1, ptr b1 0), (2, ptr b2 0), (6, (sl (⟨some ⟨z.1, 0, none⟩, 0, 0⟩ : Hd))), (8, (sl v0a)), (10, (sl (⟨some ⟨z.2, 0, none⟩, 0, 0⟩ : Hd))), (12, (sl v1a)), (16, (sl v3a)), (19, .int .i64 a_g.Round), (21, .int .i64 a_g.Year)], fun z => [box z.2 [], box z.1 [], box b2 [(sl (⟨none, 0, 0⟩ : Hd)), (sl (⟨none, 0, 0⟩ : Hd)), (sl (⟨none, 0, 0⟩ : Hd)), (sl (⟨none, 0, 0⟩ : Hd)), .int .i64 0, .int .i64 0], box b1 [(sl v0a), (sl v1a), (sl v2a), (sl v3a), .int .i64 a_g.Round, .int .i64 a_g.Year]]⟩,
      ⟨7, #[true, true, true, false, false, true, true, false, true, true, true, false, true, true, true, true, false, false, false], Nat × Nat, fun z => [(1, ptr b1 0), (2, ptr b2 0), (6, (sl (⟨some ⟨z.1, 0, none⟩, 0, 0⟩ : Hd))), (8, (sl v0a)), (12, (sl v1a)), (14, (sl (⟨some ⟨z.2, 0, none⟩, 0, 0⟩ : Hd))), (16, (sl v3a)), (19, .int .i64 a_g.Round), (21, .int .i64 a_g.Year)], fun z => [box z.2 [], box z.1 [], box b2 [(sl (⟨none, 0, 0⟩ : Hd)), (sl (⟨none, 0, 0⟩ : Hd)), (sl (⟨none, 0, 0⟩ : Hd)), (sl (⟨none, 0, 0⟩ : Hd)), .int .i64 0, .int .i64 0], box b1 [(sl v0a), (sl v1a), (sl v2a), (sl v3a), .int .i64 a_g.Round, .int .i64 a_g.Year]]⟩,
      ⟨7, #[true, true, true, false, false, true, true, false, false, true, true, false, true, true, true, true, false, true, false], Nat × Nat, fun z => [(1, ptr b1 0), (2, ptr b2 0), (3, ptr z.1 0), (6, (sl (⟨some ⟨z.2, 0, none⟩, 0, 0⟩ : Hd))), (8, (sl v0a)), (12, (sl v1a)), (16, (sl v3a)), (19, .int .i64 a_g.Round), (21, .int .i64 a_g.Year)], fun z => [box z.1 [(sl (⟨none, 0, 0⟩ : Hd)), (sl (⟨none, 0, 0⟩ : Hd)), (sl (⟨none, 0, 0⟩ : Hd)), (sl (⟨none, 0, 0⟩ : Hd)), .int .i64 0, .int .i64 0], box z.2 [], box b2 [(sl (⟨none, 0, 0⟩ : Hd)), (sl (⟨none, 0, 0⟩ : Hd)), (sl (⟨none, 0, 0⟩ : Hd)), (sl (⟨none, 0, 0⟩ : Hd)), .int .i64 0, .int .i64 0], box b1 [(sl v0a), (sl v1a), (sl v2a), (sl v3a), .int .i64 a_g.Round, .int .i64 a_g.Year]]⟩,
      ⟨7, #[false, true, true, false, true, true, true, false, true, true, true, false, true, true, true, true, false, false, false], Nat × Nat, fun z => [(1, ptr b1 0), (2, ptr b2 0), (8, (sl v0a)), (10, (sl (⟨some ⟨z.1, 0, none⟩, 0, 0⟩ : Hd))), (12, (sl v1a)), (14, (sl (⟨some ⟨z.2, 0, none⟩, 0, 0⟩ : Hd))), (16, (sl v3a)), (19, .int .i64 a_g.Round), (21, .int .i64 a_g.Year)], fun z => [box z.2 [], box z.1 [], box b2 [(sl (⟨none, 0, 0⟩ : Hd)), (sl (⟨none, 0, 0⟩ : Hd)), (sl (⟨none, 0, 0⟩ : Hd)), (sl (⟨none, 0, 0⟩ : Hd)), .int .i64 0, .int .i64 0], box b1 [(sl v0a), (sl v1a), (sl v2a), (sl v3a), .int .i64 a_g.Round, .int .i64 a_g.Year]]⟩,
      ⟨7, #[false, true, true, false, true, true, true, false, false, true, true, false, true, true, true, true, false, true, false], Nat × Nat, fun z => [(1, ptr b1 0), (2, ptr b2 0), (3, ptr z.1 0), (8, (sl v0a)), (10, (sl (⟨some ⟨z.2, 0, none⟩, 0, 0⟩ : Hd))), (12, (sl v1a)), (16, (sl v3a)), (19, .int .i64 a_g.Round), (21, .int .i64 a_g.Year)], fun z => [box z.1 [(sl (⟨none, 0, 0⟩ : Hd)), (sl (⟨none, 0, 0⟩ : Hd)), (sl (⟨none, 0, 0⟩ : Hd)), (sl (⟨none, 0, 0⟩ : Hd)), .int .i64 0, .int .i64 0], box z.2 [], box b2 [(sl (⟨none, 0, 0⟩ : Hd)), (sl (⟨none, 0, 0⟩ : Hd)), (sl (⟨none, 0, 0⟩ : Hd)), (sl (⟨none, 0, 0⟩ : Hd)), .int .i64 0, .int .i64 0], box b1 [(sl v0a), (sl v1a), (sl v2a), (sl v3a), .int .i64 a_g.Round, .int .i64 a_g.Year]]⟩,
      ⟨7, #[false, true, true, false, false, true, true, false, true, true, true, false, true, true, true, true, false, true, false], Nat × Nat, fun z => [(1, ptr b1 0), (2, ptr b2 0), (3, ptr z.1 0), (8, (sl v0a)), (12, (sl v1a)), (14, (sl (⟨some ⟨z.2, 0, none⟩, 0, 0⟩ : Hd))), (16, (sl v3a)), (19, .int .i64 a_g.Round), (21, .int .i64 a_g.Year)], fun z => [box z.1 [(sl (⟨none, 0, 0⟩ : Hd)), (sl (⟨none, 0, 0⟩ : Hd)), (sl (⟨none, 0, 0⟩ : Hd)), (sl (⟨none, 0, 0⟩ : Hd)), .int .i64 0, .int .i64 0], box z.2 [], box b2 [(sl (⟨none, 0, 0⟩ : Hd)), (sl (⟨none, 0, 0⟩ : Hd)), (sl (⟨none, 0, 0⟩ : Hd)), (sl (⟨none, 0, 0⟩ : Hd)), .int .i64 0, .int .i64 0], box b1 [(sl v0a), (sl v1a), (sl v2a), (sl v3a), .int .i64 a_g.Round, .int .i64 a_g.Year]]⟩,
      ⟨6, #[true, true, true, true, true, true, true, false, false, true, true, false, true, true, true, true, false, false, false], Hd × Nat, fun z => [(1, ptr b1 0), (2, ptr b2 0), (9, (sl z.1)), (10, (sl (⟨some ⟨z.2, 0, none⟩, 0, 0⟩ : Hd))), (12, (sl v1a)), (16, (sl v3a)), (19, .int .i64 a_g.Round), (21, .int .i64 a_g.Year)], fun z => [box z.2 [], ownF (sl z.1) (([] : List GMember) ++ a_g.Members), box b2 [(sl (⟨none, 0, 0⟩ : Hd)), (sl (⟨none, 0, 0⟩ : Hd)), (sl (⟨none, 0, 0⟩ : Hd)), (sl (⟨none, 0, 0⟩ : Hd)), .int .i64 0, .int .i64 0], box b1 [(sl v0a), (sl v1a), (sl v2a), (sl v3a), .int .i64 a_g.Round, .int .i64 a_g.Year]]⟩,
      ⟨6, #[true, true, true, true, false, true, true, false, true, true, true, false, true, true, true, true, false, false, false], Hd × Nat, fun z => [(1, ptr b1 0), (2, ptr b2 0), (9, (sl z.1)), (12, (sl v1a)), (14, (sl (⟨some ⟨z.2, 0, none⟩, 0, 0⟩ : Hd))), (16, (sl v3a)), (19, .int .i64 a_g.Round), (21, .int .i64 a_g.Year)], fun z => [box z.2 [], ownF (sl z.1) (([] : List GMember) ++ a_g.Members), box b2 [(sl (⟨none, 0, 0⟩ : Hd)), (sl (⟨none, 0, 0⟩ : Hd)), (sl (⟨none, 0, 0⟩ : Hd)), (sl (⟨none, 0, 0⟩ : Hd)), .int .i64 0, .int .i64 0], box b1 [(sl v0a), (sl v1a), (sl v2a), (sl v3a), .int .i64 a_g.Round, .int .i64 a_g.Year]]⟩,
      ⟨6, #[true, true, true, true, false, true, true, false, false, true, true, false, true, true, true, true, false, true, false], Nat × Hd, fun z => [(1, ptr b1 0), (2, ptr b2 0), (3, ptr z.1 0), (9, (sl z.2)), (12, (sl v1a)), (16, (sl v3a)), (19, .int .i64 a_g.Round), (21, .int .i64 a_g.Year)], fun z => [box z.1 [(sl (⟨none, 0, 0⟩ : Hd)), (sl (⟨none, 0, 0⟩ : Hd)), (sl (⟨none, 0, 0⟩ : Hd)), (sl (⟨none, 0, 0⟩ : Hd)), .int .i64 0, .int .i64 0], ownF (sl z.2) (([] : List GMember) ++ a_g.Members), box b2 [(sl (⟨none, 0, 0⟩ : Hd)), (sl (⟨none, 0, 0⟩ : Hd)), (sl (⟨none, 0, 0⟩ : Hd)), (sl (⟨none, 0, 0⟩ : Hd)), .int .i64 0, .int .i64 0], box b1 [(sl v0a), (sl v1a), (sl v2a), (sl v3a), .int .i64 a_g.Round, .int .i64 a_g.Year]]⟩,
      ⟨6, #[true, true, true, false, true, true, true, false, true, true, true, false, true, true, true, true, false, false, false], Nat × Nat × Nat, fun z => [(1, ptr b1 0), (2, ptr b2 0), (6, (sl (⟨some ⟨z.1, 0, none⟩, 0, 0⟩ : Hd))), (8, (sl v0a)), (10, (sl (⟨some ⟨z.2.1, 0, none⟩, 0, 0⟩ : Hd))), (12, (sl v1a)), (14, (sl (⟨some ⟨z.2.2, 0, none⟩, 0, 0⟩ : Hd))), (16, (sl v3a)), (19, .int .i64 a_g.Round), (21, .int .i64 a_g.Year)], fun z => [box z.2.2 [], box z.2.1 [], box z.1 [], box b2 [(sl (⟨none, 0, 0⟩ : Hd)), (sl (⟨none, 0, 0⟩ : Hd)), (sl (⟨none, 0, 0⟩ : Hd)), (sl (⟨none, 0, 0⟩ : Hd)), .int .i64 0, .int .i64 0], box b1 [(sl v0a), (sl v1a), (sl v2a), (sl v3a), .int .i64 a_g.Round, .int .i64 a_g.Year]]⟩,
      ⟨6, #[true, true, true, false, true, true, true, false, false, true, true, false, true, true, true, true, false, true, false], Nat × Nat × Nat, fun z => [(1, ptr b1 0), (2, ptr b2 0), (3, ptr z.1 0), (6, (sl (⟨some ⟨z.2.1, 0, none⟩, 0, 0⟩ : Hd))), (8, (sl v0a)), (10, (sl (⟨some ⟨z.2.2, 0, none⟩, 0, 0⟩ : Hd))), (12, (sl v1a)), (16, (sl v3a)), (19, .int .i64 a_g.Round), (21, .int .i64 a_g.Year)], fun z => [box z.1 [(sl (⟨none, 0, 0⟩ : Hd)), (sl (⟨none, 0, 0⟩ : Hd)), (sl (⟨none, 0, 0⟩ : Hd)), (sl (⟨none, 0, 0⟩ : Hd)), .int .i64 0, .int .i64 0], box z.2.2 [], box z.2.1 [], box b2 [(sl (⟨none, 0, 0⟩ : Hd)), (sl (⟨none, 0, 0⟩ : Hd)), (sl (⟨none, 0, 0⟩ : Hd)), (sl (⟨none, 0, 0⟩ : Hd)), .int .i64 0, .int .i64 0], box b1 [(sl v0a), (sl v1a), (sl v2a), (sl v3a), .int .i64 a_g.Round, .int .i64 a_g.Year]]⟩,
      ⟨6, #[true, true, true, false, false, true, true, false, true, true, true, false, true, true, true, true, false, true, false], Nat × Nat × Nat, fun z => [(1, ptr b1 0), (2, ptr b2 0), (3, ptr z.1 0), (6, (sl (⟨some ⟨z.2.1, 0, none⟩, 0, 0⟩ : Hd))), (8, (sl v0a)), (12, (sl v1a)), (14, (sl (⟨some ⟨z.2.2, 0, none⟩, 0, 0⟩ : Hd))), (16, (sl v3a)), (19, .int .i64 a_g.Round), (21, .int .i64 a_g.Year)], fun z => [box z.1 [(sl (⟨none, 0, 0⟩ : Hd)), (sl (⟨none, 0, 0⟩ : Hd)), (sl (⟨none, 0, 0⟩ : Hd)), (sl (⟨none, 0, 0⟩ : Hd)), .int .i64 0, .int .i64 0], box z.2.2 [], box z.2.1 [], box b2 [(sl (⟨none, 0, 0⟩ : Hd)), (sl (⟨none, 0, 0⟩ : Hd)), (sl (⟨none, 0, 0⟩ : Hd)), (sl (⟨none, 0, 0⟩ : Hd)), .int .i64 0, .int .i64 0], box b1 [(sl v0a), (sl v1a), (sl v2a), (sl v3a), .int .i64 a_g.Round, .int .i64 a_g.Year]]⟩,
      ⟨6, #[false, true, true, false, true, true, true, false, true, true, true, false, true, true, true, true, false, true, false], Nat × Nat × Nat, fun z => [(1, ptr b1 0), (2, ptr b2 0), (3, ptr z.1 0), (8, (sl v0a)), (10, (sl (⟨some ⟨z.2.1, 0, none⟩, 0, 0⟩ : Hd))), (12, (sl v1a)), (14, (sl (⟨some ⟨z.2.2, 0, none⟩, 0, 0⟩ : Hd))), (16, (sl v3a)), (19, .int .i64 a_g.Round), (21, .int .i64 a_g.Year)], fun z => [box z.1 [(sl (⟨none, 0, 0⟩ : Hd)), (sl (⟨none, 0, 0⟩ : Hd)), (sl (⟨none, 0, 0⟩ : Hd)), (sl (⟨none, 0, 0⟩ : Hd)), .int .i64 0, .int .i64 0], box z.2.2 [], box z.2.1 [], box b2 [(sl (⟨none, 0, 0⟩ : Hd)), (sl (⟨none, 0, 0⟩ : Hd)), (sl (⟨none, 0, 0⟩ : Hd)), (sl (⟨none, 0, 0⟩ : Hd)), .int .i64 0, .int .i64 0], box b1 [(sl v0a), (sl v1a), (sl v2a), (sl v3a), .int .i64 a_g.Round, .int .i64 a_g.Year]]⟩,
      ⟨5, #[true, true, true, true, true, true, true, true, false, true, true, false, true, true, true, true, false, false, false], Hd × Hd, fun z => [(1, ptr b1 0), (2, ptr b2 0), (9, (sl z.1)), (13, (sl z.2)), (16, (sl v3a)), (19, .int .i64 a_g.Round), (21, .int .i64 a_g.Year)], fun z => [ownF (sl z.2) (([] : List Int) ++ a_g.Stock), ownF (sl z.1) (([] : List GMember) ++ a_g.Members), box b2 [(sl (⟨none, 0, 0⟩ : Hd)), (sl (⟨none, 0, 0⟩ : Hd)), (sl (⟨none, 0, 0⟩ : Hd)), (sl (⟨none, 0, 0⟩ : Hd)), .int .i64 0, .int .i64 0], box b1 [(sl v0a), (sl v1a), (sl v2a), (sl v3a), .int .i64 a_g.Round, .int .i64 a_g.Year]]⟩,
      ⟨5, #[true, true, true, true, true, true, true, false, true, true, true, false, true, true, true, true, false, false, false], Hd × Nat × Nat, fun z => [(1, ptr b1 0), (2, ptr b2 0), (9, (sl z.1)), (10, (sl (⟨some ⟨z.2.1, 0, none⟩, 0, 0⟩ : Hd))), (12, (sl v1a)), (14, (sl (⟨some ⟨z.2.2, 0, none⟩, 0, 0⟩ : Hd))), (16, (sl v3a)), (19, .int .i64 a_g.Round), (21, .int .i64 a_g.Year)], fun z => [box z.2.2 [], box z.2.1 [], ownF (sl z.1) (([] : List GMember) ++ a_g.Members), box b2 [(sl (⟨none, 0, 0⟩ : Hd)), (sl (⟨none, 0, 0⟩ : Hd)), (sl (⟨none, 0, 0⟩ : Hd)), (sl (⟨none, 0, 0⟩ : Hd)), .int .i64 0, .int .i64 0], box b1 [(sl v0a), (sl v1a), (sl v2a), (sl v3a), .int .i64 a_g.Round, .int .i64 a_g.Year]]⟩,
      ⟨5, #[true, true, true, true, true, true, true, false, false, true, true, false, true, true, true, true, false, true, false], Nat × Hd × Nat, fun z => [(1, ptr b1 0), (2, ptr b2 0), (3, ptr z.1 0), (9, (sl z.2.1)), (10, (sl (⟨some ⟨z.2.2, 0, none⟩, 0, 0⟩ : Hd))), (12, (sl v1a)), (16, (sl v3a)), (19, .int .i64 a_g.Round), (21, .int .i64 a_g.Year)], fun z => [box z.1 [(sl (⟨none, 0, 0⟩ : Hd)), (sl (⟨none, 0, 0⟩ : Hd)), (sl (⟨none, 0, 0⟩ : Hd)), (sl (⟨none, 0, 0⟩ : Hd)), .int .i64 0, .int .i64 0], box z.2.2 [], ownF (sl z.2.1) (([] : List GMember) ++ a_g.Members), box b2 [(sl (⟨none, 0, 0⟩ : Hd)), (sl (⟨none, 0, 0⟩ : Hd)), (sl (⟨none, 0, 0⟩ : Hd)), (sl (⟨none, 0, 0⟩ : Hd)), .int .i64 0, .int .i64 0], box b1 [(sl v0a), (sl v1a), (sl v2a), (sl v3a), .int .i64 a_g.Round, .int .i64 a_g.Year]]⟩,
      ⟨5, #[true, true, true, true, false, true, true, false, true, true, true, false, true, true, true, true, false, true, false], Nat × Hd × Nat, fun z => [(1, ptr b1 0), (2, ptr b2 0), (3, ptr z.1 0), (9, (sl z.2.1)), (12, (sl v1a)), (14, (sl (⟨some ⟨z.2.2, 0, none⟩, 0, 0⟩ : Hd))), (16, (sl v3a)), (19, .int .i64 a_g.Round), (21, .int .i64 a_g.Year)], fun z => [box z.1 [(sl (⟨none, 0, 0⟩ : Hd)), (sl (⟨none, 0, 0⟩ : Hd)), (sl (⟨none, 0, 0⟩ : Hd)), (sl (⟨none, 0, 0⟩ : Hd)), .int .i64 0, .int .i64 0], box z.2.2 [], ownF (sl z.2.1) (([] : List GMember) ++ a_g.Members), box b2 [(sl (⟨none, 0, 0⟩ : Hd)), (sl (⟨none, 0, 0⟩ : Hd)), (sl (⟨none, 0, 0⟩ : Hd)), (sl (⟨none, 0, 0⟩ : Hd)), .int .i64 0, .int .i64 0], box b1 [(sl v0a), (sl v1a), (sl v2a), (sl v3a), .int .i64 a_g.Round, .int .i64 a_g.Year]]⟩,
      ⟨5, #[true, true, true, false, true, true, true, false, true, true, true, false, true, true, true, true, false, true, false], Nat × Nat × Nat × Nat, fun z => [(1, ptr b1 0), (2, ptr b2 0), (3, ptr z.1 0), (6, (sl (⟨some ⟨z.2.1, 0, none⟩, 0, 0⟩ : Hd))), (8, (sl v0a)), (10, (sl (⟨some ⟨z.2.2.1, 0, none⟩, 0, 0⟩ : Hd))), (12, (sl v1a)), (14, (sl (⟨some ⟨z.2.2.2, 0, none⟩, 0, 0⟩ : Hd))), (16, (sl v3a)), (19, .int .i64 a_g.Round), (21, .int .i64 a_g.Year)], fun z => [box z.1 [(sl (⟨none, 0, 0⟩ : Hd)), (sl (⟨none, 0, 0⟩ : Hd)), (sl (⟨none, 0, 0⟩ : Hd)), (sl (⟨none, 0, 0⟩ : Hd)), .int .i64 0, .int .i64 0], box z.2.2.2 [], box z.2.2.1 [], box z.2.1 [], box b2 [(sl (⟨none, 0, 0⟩ : Hd)), (sl (⟨none, 0, 0⟩ : Hd)), (sl (⟨none, 0, 0⟩ : Hd)), (sl (⟨none, 0, 0⟩ : Hd)), .int .i64 0, .int .i64 0], box b1 [(sl v0a), (sl v1a), (sl v2a), (sl v3a), .int .i64 a_g.Round, .int .i64 a_g.Year]]⟩,
      ⟨4, #[true, true, true, true, true, true, true, true, true, true, true, false, true, true, true, true, false, false, false], Hd × Hd × Nat, fun z => [(1, ptr b1 0), (2, ptr b2 0), (9, (sl z.1)), (13, (sl z.2.1)), (14, (sl (⟨some ⟨z.2.2, 0, none⟩, 0, 0⟩ : Hd))), (16, (sl v3a)), (19, .int .i64 a_g.Round), (21, .int .i64 a_g.Year)], fun z => [box z.2.2 [], ownF (sl z.2.1) (([] : List Int) ++ a_g.Stock), ownF (sl z.1) (([] : List GMember) ++ a_g.Members), box b2 [(sl (⟨none, 0, 0⟩ : Hd)), (sl (⟨none, 0, 0⟩ : Hd)), (sl (⟨none, 0, 0⟩ : Hd)), (sl (⟨none, 0, 0⟩ : Hd)), .int .i64 0, .int .i64 0], box b1 [(sl v0a), (sl v1a), (sl v2a), (sl v3a), .int .i64 a_g.Round, .int .i64 a_g.Year]]⟩,
      ⟨4, #[true, true, true, true, true, true, true, true, false, true, true, false, true, true, true, true, false, true, false], Nat × Hd × Hd, fun z => [(1, ptr b1 0), (2, ptr b2 0), (3, ptr z.1 0), (9, (sl z.2.1)), (13, (sl z.2.2)), (16, (sl v3a)), (19, .int .i64 a_g.Round), (21, .int .i64 a_g.Year)], fun z => [box z.1 [(sl (⟨none, 0, 0⟩ : Hd)), (sl (⟨none, 0, 0⟩ : Hd)), (sl (⟨none, 0, 0⟩ : Hd)), (sl (⟨none, 0, 0⟩ : Hd)), .int .i64 0, .int .i64 0], ownF (sl z.2.2) (([] : List Int) ++ a_g.Stock), ownF (sl z.2.1) (([] : List GMember) ++ a_g.Members), box b2 [(sl (⟨none, 0, 0⟩ : Hd)), (sl (⟨none, 0, 0⟩ : Hd)), (sl (⟨none, 0, 0⟩ : Hd)), (sl (⟨none, 0, 0⟩ : Hd)), .int .i64 0, .int .i64 0], box b1 [(sl v0a), (sl v1a), (sl v2a), (sl v3a), .int .i64 a_g.Round, .int .i64 a_g.Year]]⟩,
      ⟨4, #[true, true, true, true, true, true, true, false, true, true, true, false, true, true, true, true, false, true, false], Nat × Hd × Nat × Nat, fun z => [(1, ptr b1 0), (2, ptr b2 0), (3, ptr z.1 0), (9, (sl z.2.1)), (10, (sl (⟨some ⟨z.2.2.1, 0, none⟩, 0, 0⟩ : Hd))), (12, (sl v1a)), (14, (sl (⟨some ⟨z.2.2.2, 0, none⟩, 0, 0⟩ : Hd))), (16, (sl v3a)), (19, .int .i64 a_g.Round), (21, .int .i64 a_g.Year)], fun z => [box z.1 [(sl (⟨none, 0, 0⟩ : Hd)), (sl (⟨none, 0, 0⟩ : Hd)), (sl (⟨none, 0, 0⟩ : Hd)), (sl (⟨none, 0, 0⟩ : Hd)), .int .i64 0, .int .i64 0], box z.2.2.2 [], box z.2.2.1 [], ownF (sl z.2.1) (([] : List GMember) ++ a_g.Members), box b2 [(sl (⟨none, 0, 0⟩ : Hd)), (sl (⟨none, 0, 0⟩ : Hd)), (sl (⟨none, 0, 0⟩ : Hd)), (sl (⟨none, 0, 0⟩ : Hd)), .int .i64 0, .int .i64 0], box b1 [(sl v0a), (sl v1a), (sl v2a), (sl v3a), .int .i64 a_g.Round, .int .i64 a_g.Year]]⟩,
      ⟨2, #[true, true, true, true, true, true, true, true, true, true, true, true, true, true, true, true, true, false, false], Hd × Hd × Hd, fun z => [(1, ptr b1 0), (2, ptr b2 0), (22, .agg #[(sl z.1), (sl z.2.1), (sl (⟨none, 0, 0⟩ : Hd)), (sl z.2.2), .int .i64 a_g.Round, .int .i64 a_g.Year])], fun z => [ownF (sl z.2.2) (([] : List GBooking) ++ a_g.Books), ownF (sl z.2.1) (([] : List Int) ++ a_g.Stock), ownF (sl z.1) (([] : List GMember) ++ a_g.Members), box b2 [(sl (⟨none, 0, 0⟩ : Hd)), (sl (⟨none, 0, 0⟩ : Hd)), (sl (⟨none, 0, 0⟩ : Hd)), (sl (⟨none, 0, 0⟩ : Hd)), .int .i64 0, .int .i64 0], box b1 [(sl v0a), (sl v1a), (sl v2a), (sl v3a), .int .i64 a_g.Round, .int .i64 a_g.Year]]⟩,
      ⟨3, #[true, true, true, true, true, true, true, true, true, true, true, false, true, true, true, true, false, true, false], Nat × Hd × Hd × Nat, fun z => [(1, ptr b1 0), (2, ptr b2 0), (3, ptr z.1 0), (9, (sl z.2.1)), (13, (sl z.2.2.1)), (14, (sl (⟨some ⟨z.2.2.2, 0, none⟩, 0, 0⟩ : Hd))), (16, (sl v3a)), (19, .int .i64 a_g.Round), (21, .int .i64 a_g.Year)], fun z => [box z.1 [(sl (⟨none, 0, 0⟩ : Hd)), (sl (⟨none, 0, 0⟩ : Hd)), (sl (⟨none, 0, 0⟩ : Hd)), (sl (⟨none, 0, 0⟩ : Hd)), .int .i64 0, .int .i64 0], box z.2.2.2 [], ownF (sl z.2.2.1) (([] : List Int) ++ a_g.Stock), ownF (sl z.2.1) (([] : List GMember) ++ a_g.Members), box b2 [(sl (⟨none, 0, 0⟩ : Hd)), (sl (⟨none, 0, 0⟩ : Hd)), (sl (⟨none, 0, 0⟩ : Hd)), (sl (⟨none, 0, 0⟩ : Hd)), .int .i64 0, .int .i64 0], box b1 [(sl v0a), (sl v1a), (sl v2a), (sl v3a), .int .i64 a_g.Round, .int .i64 a_g.Year]]⟩,
      ⟨1, #[true, true, true, true, true, true, true, true, true, true, true, true, true, true, true, true, true, true, false], Nat × Hd × Hd × Hd, fun z => [(1, ptr b1 0), (2, ptr b2 0), (3, ptr z.1 0), (22, .agg #[(sl z.2.1), (sl z.2.2.1), (sl (⟨none, 0, 0⟩ : Hd)), (sl z.2.2.2), .int .i64 a_g.Round, .int .i64 a_g.Year])], fun z => [box z.1 [(sl (⟨none, 0, 0⟩ : Hd)), (sl (⟨none, 0, 0⟩ : Hd)), (sl (⟨none, 0, 0⟩ : Hd)), (sl (⟨none, 0, 0⟩ : Hd)), .int .i64 0, .int .i64 0], ownF (sl z.2.2.2) (([] : List GBooking) ++ a_g.Books), ownF (sl z.2.2.1) (([] : List Int) ++ a_g.Stock), ownF (sl z.2.1) (([] : List GMember) ++ a_g.Members), box b2 [(sl (⟨none, 0, 0⟩ : Hd)), (sl (⟨none, 0, 0⟩ : Hd)), (sl (⟨none, 0, 0⟩ : Hd)), (sl (⟨none, 0, 0⟩ : Hd)), .int .i64 0, .int .i64 0], box b1 [(sl v0a), (sl v1a), (sl v2a), (sl v3a), .int .i64 a_g.Round, .int .i64 a_g.Year]]⟩] ?_ fun H => ?_
    · skip
      refine List.forall_mem_cons.2 ⟨fun H => ?_, ?_⟩
      · skip
        intro _
        dsimp only
        refine wa_4 (i := 0) (j := 4) (k := 8) (m := 17) (by kernel_rfl) ?_ ?_ ?_ ?_
        · skip
          refine ws_eff rfl (eo_buildSlice rfl sb_33_0) (fun _ => (sts_some (some_cons (pickS pick0) (some_cons (pickS pick0) some_nil)))) rfl fun b0o => ?_
          exact wa_jump H 1 rfl (Nat.le_of_ble_eq_true rfl) b0o rfl rfl (sub_cons rfl (sub_cons rfl (sub_cons rfl (sub_cons rfl (sub_cons rfl (sub_cons rfl (sub_cons rfl (sub_cons rfl sub_nil)))))))) (some_cons pick0 (some_cons pick0 (some_cons pick0 some_nil)))
        · skip
          refine ws_eff rfl (eo_buildSlice rfl sb_34_0) (fun _ => (sts_some (some_cons (pickS pick0) (some_cons (pickS pick0) some_nil)))) rfl fun b4o => ?_
          exact wa_jump H 2 rfl (Nat.le_of_ble_eq_true rfl) b4o rfl rfl (sub_cons rfl (sub_cons rfl (sub_cons rfl (sub_cons rfl (sub_cons rfl (sub_cons rfl (sub_cons rfl (sub_cons rfl sub_nil)))))))) (some_cons pick0 (some_cons pick0 (some_cons pick0 some_nil)))
        · skip
          refine ws_eff rfl (eo_buildSlice rfl sb_36_0) (fun _ => (sts_some (some_cons (pickS pick0) (some_cons (pickS pick0) some_nil)))) rfl fun b8o => ?_
          exact wa_jump H 3 rfl (Nat.le_of_ble_eq_true rfl) b8o rfl rfl (sub_cons rfl (sub_cons rfl (sub_cons rfl (sub_cons rfl (sub_cons rfl (sub_cons rfl (sub_cons rfl (sub_cons rfl sub_nil)))))))) (some_cons pick0 (some_cons pick0 (some_cons pick0 some_nil)))
        refine ws_eff rfl (eo_alloc (cs := [(sl (⟨none, 0, 0⟩ : Hd)), (sl (⟨none, 0, 0⟩ : Hd)), (sl (⟨none, 0, 0⟩ : Hd)), (sl (⟨none, 0, 0⟩ : Hd)), .int .i64 0, .int .i64 0]) za_38) (fun _ => (sts_some (some_cons (pickS pick0) (some_cons (pickS pick0) some_nil)))) rfl fun b17o => ?_
        exact wa_jump H 4 rfl (Nat.le_of_ble_eq_true rfl) b17o rfl rfl (sub_cons rfl (sub_cons rfl (sub_cons rfl (sub_cons rfl (sub_cons rfl (sub_cons rfl (sub_cons rfl (sub_cons rfl sub_nil)))))))) (some_cons pick0 (some_cons pick0 (some_cons pick0 some_nil)))
      refine List.forall_mem_cons.2 ⟨fun H => ?_, ?_⟩
      · skip
        intro z
        dsimp only
        refine wa_4 (i := 3) (j := 4) (k := 8) (m := 17) (by kernel_rfl) ?_ ?_ ?_ ?_
        · skip
          refine ws_eff rfl (eo_append (xs := ([] : List GMember)) (ys := a_g.Members) ak_33 (pick_box_own pick0 (n := 0) (xs := ([] : List GMember)) rfl rfl (by unfold maxLen; omega)) rfl rfl (slin_rd fun _ g => Rg.on (rds_arg r0) g) g1) (fun _ => (sts_some (some_cons (pickS pick0) (some_cons (pickS pick0) some_nil)))) rfl fun x3o => ?_
          exact wa_jump H 5 rfl (Nat.le_of_ble_eq_true rfl) x3o rfl rfl (sub_cons rfl (sub_cons rfl (sub_cons rfl (sub_cons rfl (sub_cons rfl (sub_cons rfl (sub_cons rfl sub_nil))))))) (some_cons pick0 (some_cons pick0 (some_cons pick0 some_nil)))
        · skip
          refine ws_eff rfl (eo_buildSlice rfl sb_34_0) (fun _ => (sts_some (some_cons (pickS (pickS pick0)) (some_cons (pickS (pickS pick0)) some_nil)))) rfl fun b4o => ?_
          exact wa_jump H 6 rfl (Nat.le_of_ble_eq_true rfl) (z, b4o) rfl rfl (sub_cons rfl (sub_cons rfl (sub_cons rfl (sub_cons rfl (sub_cons rfl (sub_cons rfl (sub_cons rfl (sub_cons rfl (sub_cons rfl sub_nil))))))))) (some_cons pick0 (some_cons pick0 (some_cons pick0 (some_cons pick0 some_nil))))
        · skip
          refine ws_eff rfl (eo_buildSlice rfl sb_36_0) (fun _ => (sts_some (some_cons (pickS (pickS pick0)) (some_cons (pickS (pickS pick0)) some_nil)))) rfl fun b8o => ?_
          exact wa_jump H 7 rfl (Nat.le_of_ble_eq_true rfl) (z, b8o) rfl rfl (sub_cons rfl (sub_cons rfl (sub_cons rfl (sub_cons rfl (sub_cons rfl (sub_cons rfl (sub_cons rfl (sub_cons rfl (sub_cons rfl sub_nil))))))))) (some_cons pick0 (some_cons pick0 (some_cons pick0 (some_cons pick0 some_nil))))
        refine ws_eff rfl (eo_alloc (cs := [(sl (⟨none, 0, 0⟩ : Hd)), (sl (⟨none, 0, 0⟩ : Hd)), (sl (⟨none, 0, 0⟩ : Hd)), (sl (⟨none, 0, 0⟩ : Hd)), .int .i64 0, .int .i64 0]) za_38) (fun _ => (sts_some (some_cons (pickS (pickS pick0)) (some_cons (pickS (pickS pick0)) some_nil)))) rfl fun b17o => ?_
        exact wa_jump H 8 rfl (Nat.le_of_ble_eq_true rfl) (b17o, z) rfl rfl (sub_cons rfl (sub_cons rfl (sub_cons rfl (sub_cons rfl (sub_cons rfl (sub_cons rfl (sub_cons rfl (sub_cons rfl (sub_cons rfl sub_nil))))))))) (some_cons pick0 (some_cons pick0 (some_cons pick0 (some_cons pick0 some_nil))))
      refine List.forall_mem_cons.2 ⟨fun H => ?_, ?_⟩
      · skip
        intro z
        dsimp only
        refine wa_3 (i := 0) (j := 8) (k := 17) (by kernel_rfl) ?_ ?_ ?_
        · skip
          refine ws_eff rfl (eo_buildSlice rfl sb_33_0) (fun _ => (sts_some (some_cons (pickS (pickS pick0)) (some_cons (pickS (pickS pick0)) some_nil)))) rfl fun b0o => ?_
          exact wa_jump H 6 rfl (Nat.le_of_ble_eq_true rfl) (b0o, z) rfl rfl (sub_cons rfl (sub_cons rfl (sub_cons rfl (sub_cons rfl (sub_cons rfl (sub_cons rfl (sub_cons rfl (sub_cons rfl (sub_cons rfl sub_nil))))))))) (some_cons (pickS pick0) (some_cons pick0 (some_cons pick0 (some_cons pick0 some_nil))))
        · skip
          refine ws_eff rfl (eo_buildSlice rfl sb_36_0) (fun _ => (sts_some (some_cons (pickS (pickS pick0)) (some_cons (pickS (pickS pick0)) some_nil)))) rfl fun b8o => ?_
          exact wa_jump H 9 rfl (Nat.le_of_ble_eq_true rfl) (z, b8o) rfl rfl (sub_cons rfl (sub_cons rfl (sub_cons rfl (sub_cons rfl (sub_cons rfl (sub_cons rfl (sub_cons rfl (sub_cons rfl (sub_cons rfl sub_nil))))))))) (some_cons pick0 (some_cons pick0 (some_cons pick0 (some_cons pick0 some_nil))))
        refine ws_eff rfl (eo_alloc (cs := [(sl (⟨none, 0, 0⟩ : Hd)), (sl (⟨none, 0, 0⟩ : Hd)), (sl (⟨none, 0, 0⟩ : Hd)), (sl (⟨none, 0, 0⟩ : Hd)), .int .i64 0, .int .i64 0]) za_38) (fun _ => (sts_some (some_cons (pickS (pickS pick0)) (some_cons (pickS (pickS pick0)) some_nil)))) rfl fun b17o => ?_
        exact wa_jump H 10 rfl (Nat.le_of_ble_eq_true rfl) (b17o, z) rfl rfl (sub_cons rfl (sub_cons rfl (sub_cons rfl (sub_cons rfl (sub_cons rfl (sub_cons rfl (sub_cons rfl (sub_cons rfl (sub_cons rfl sub_nil))))))))) (some_cons pick0 (some_cons pick0 (some_cons pick0 (some_cons pick0 some_nil))))
      refine List.forall_mem_cons.2 ⟨fun H => ?_, ?_⟩
      · skip
        intro z
        dsimp only
        refine wa_3 (i := 0) (j := 4) (k := 17) (by kernel_rfl) ?_ ?_ ?_
        · skip
          refine ws_eff rfl (eo_buildSlice rfl sb_33_0) (fun _ => (sts_some (some_cons (pickS (pickS pick0)) (some_cons (pickS (pickS pick0)) some_nil)))) rfl fun b0o => ?_
          exact wa_jump H 7 rfl (Nat.le_of_ble_eq_true rfl) (b0o, z) rfl rfl (sub_cons rfl (sub_cons rfl (sub_cons rfl (sub_cons rfl (sub_cons rfl (sub_cons rfl (sub_cons rfl (sub_cons rfl (sub_cons rfl sub_nil))))))))) (some_cons (pickS pick0) (some_cons pick0 (some_cons pick0 (some_cons pick0 some_nil))))
        · skip
          refine ws_eff rfl (eo_buildSlice rfl sb_34_0) (fun _ => (sts_some (some_cons (pickS (pickS pick0)) (some_cons (pickS (pickS pick0)) some_nil)))) rfl fun b4o => ?_
          exact wa_jump H 9 rfl (Nat.le_of_ble_eq_true rfl) (b4o, z) rfl rfl (sub_cons rfl (sub_cons rfl (sub_cons rfl (sub_cons rfl (sub_cons rfl (sub_cons rfl (sub_cons rfl (sub_cons rfl (sub_cons rfl sub_nil))))))))) (some_cons (pickS pick0) (some_cons pick0 (some_cons pick0 (some_cons pick0 some_nil))))
        refine ws_eff rfl (eo_alloc (cs := [(sl (⟨none, 0, 0⟩ : Hd)), (sl (⟨none, 0, 0⟩ : Hd)), (sl (⟨none, 0, 0⟩ : Hd)), (sl (⟨none, 0, 0⟩ : Hd)), .int .i64 0, .int .i64 0]) za_38) (fun _ => (sts_some (some_cons (pickS (pickS pick0)) (some_cons (pickS (pickS pick0)) some_nil)))) rfl fun b17o => ?_
        exact wa_jump H 11 rfl (Nat.le_of_ble_eq_true rfl) (b17o, z) rfl rfl (sub_cons rfl (sub_cons rfl (sub_cons rfl (sub_cons rfl (sub_cons rfl (sub_cons rfl (sub_cons rfl (sub_cons rfl (sub_cons rfl sub_nil))))))))) (some_cons pick0 (some_cons pick0 (some_cons pick0 (some_cons pick0 some_nil))))
      refine List.forall_mem_cons.2 ⟨fun H => ?_, ?_⟩
      · skip
        intro z
        dsimp only
        refine wa_3 (i := 0) (j := 4) (k := 8) (by kernel_rfl) ?_ ?_ ?_
        · skip
          refine ws_eff rfl (eo_buildSlice rfl sb_33_0) (fun _ => (sts_some (some_cons (pickS (pickS pick0)) (some_cons (pickS (pickS pick0)) some_nil)))) rfl fun b0o => ?_
          exact wa_jump H 8 rfl (Nat.le_of_ble_eq_true rfl) (z, b0o) rfl rfl (sub_cons rfl (sub_cons rfl (sub_cons rfl (sub_cons rfl (sub_cons rfl (sub_cons rfl (sub_cons rfl (sub_cons rfl (sub_cons rfl sub_nil))))))))) (some_cons (pickS pick0) (some_cons pick0 (some_cons pick0 (some_cons pick0 some_nil))))
        · skip
          refine ws_eff rfl (eo_buildSlice rfl sb_34_0) (fun _ => (sts_some (some_cons (pickS (pickS pick0)) (some_cons (pickS (pickS pick0)) some_nil)))) rfl fun b4o => ?_
          exact wa_jump H 10 rfl (Nat.le_of_ble_eq_true rfl) (z, b4o) rfl rfl (sub_cons rfl (sub_cons rfl (sub_cons rfl (sub_cons rfl (sub_cons rfl (sub_cons rfl (sub_cons rfl (sub_cons rfl (sub_cons rfl sub_nil))))))))) (some_cons (pickS pick0) (some_cons pick0 (some_cons pick0 (some_cons pick0 some_nil))))
        refine ws_eff rfl (eo_buildSlice rfl sb_36_0) (fun _ => (sts_some (some_cons (pickS (pickS pick0)) (some_cons (pickS (pickS pick0)) some_nil)))) rfl fun b8o => ?_
        exact wa_jump H 11 rfl (Nat.le_of_ble_eq_true rfl) (z, b8o) rfl rfl (sub_cons rfl (sub_cons rfl (sub_cons rfl (sub_cons rfl (sub_cons rfl (sub_cons rfl (sub_cons rfl (sub_cons rfl (sub_cons rfl sub_nil))))))))) (some_cons (pickS pick0) (some_cons pick0 (some_cons pick0 (some_cons pick0 some_nil))))
      refine List.forall_mem_cons.2 ⟨fun H => ?_, ?_⟩
      · skip
        intro z
        dsimp only
        refine wa_3 (i := 4) (j := 8) (k := 17) (by kernel_rfl) ?_ ?_ ?_
        · skip
          refine ws_eff rfl (eo_buildSlice rfl sb_34_0) (fun _ => (sts_some (some_cons (pickS (pickS pick0)) (some_cons (pickS (pickS pick0)) some_nil)))) rfl fun b4o => ?_
          exact wa_jump H 12 rfl (Nat.le_of_ble_eq_true rfl) (z, b4o) rfl rfl (sub_cons rfl (sub_cons rfl (sub_cons rfl (sub_cons rfl (sub_cons rfl (sub_cons rfl (sub_cons rfl (sub_cons rfl sub_nil)))))))) (some_cons pick0 (some_cons pick0 (some_cons pick0 (some_cons pick0 some_nil))))
        · skip
          refine ws_eff rfl (eo_buildSlice rfl sb_36_0) (fun _ => (sts_some (some_cons (pickS (pickS pick0)) (some_cons (pickS (pickS pick0)) some_nil)))) rfl fun b8o => ?_
          exact wa_jump H 13 rfl (Nat.le_of_ble_eq_true rfl) (z, b8o) rfl rfl (sub_cons rfl (sub_cons rfl (sub_cons rfl (sub_cons rfl (sub_cons rfl (sub_cons rfl (sub_cons rfl (sub_cons rfl sub_nil)))))))) (some_cons pick0 (some_cons pick0 (some_cons pick0 (some_cons pick0 some_nil))))
        refine ws_eff rfl (eo_alloc (cs := [(sl (⟨none, 0, 0⟩ : Hd)), (sl (⟨none, 0, 0⟩ : Hd)), (sl (⟨none, 0, 0⟩ : Hd)), (sl (⟨none, 0, 0⟩ : Hd)), .int .i64 0, .int .i64 0]) za_38) (fun _ => (sts_some (some_cons (pickS (pickS pick0)) (some_cons (pickS (pickS pick0)) some_nil)))) rfl fun b17o => ?_
        exact wa_jump H 14 rfl (Nat.le_of_ble_eq_true rfl) (b17o, z) rfl rfl (sub_cons rfl (sub_cons rfl (sub_cons rfl (sub_cons rfl (sub_cons rfl (sub_cons rfl (sub_cons rfl (sub_cons rfl sub_nil)))))))) (some_cons pick0 (some_cons pick0 (some_cons pick0 (some_cons pick0 some_nil))))
      refine List.forall_mem_cons.2 ⟨fun H => ?_, ?_⟩
      · skip
        intro z
        dsimp only
        refine wa_3 (i := 3) (j := 8) (k := 17) (by kernel_rfl) ?_ ?_ ?_
        · skip
          refine ws_eff rfl (eo_append (xs := ([] : List GMember)) (ys := a_g.Members) ak_33 (pick_box_own (pickS pick0) (n := 0) (xs := ([] : List GMember)) rfl rfl (by unfold maxLen; omega)) rfl rfl (slin_rd fun _ g => Rg.on (rds_arg r0) g) g1) (fun _ => (sts_some (some_cons (pickS (pickS pick0)) (some_cons (pickS (pickS pick0)) some_nil)))) rfl fun x3o => ?_
          exact wa_jump H 12 rfl (Nat.le_of_ble_eq_true rfl) (x3o, z.2) rfl rfl (sub_cons rfl (sub_cons rfl (sub_cons rfl (sub_cons rfl (sub_cons rfl (sub_cons rfl (sub_cons rfl (sub_cons rfl sub_nil)))))))) (some_cons (pickS pick0) (some_cons pick0 (some_cons pick0 (some_cons pick0 some_nil))))
        · skip
          refine ws_eff rfl (eo_buildSlice rfl sb_36_0) (fun _ => (sts_some (some_cons (pickS (pickS (pickS pick0))) (some_cons (pickS (pickS (pickS pick0))) some_nil)))) rfl fun b8o => ?_
          exact wa_jump H 15 rfl (Nat.le_of_ble_eq_true rfl) (z.1, z.2, b8o) rfl rfl (sub_cons rfl (sub_cons rfl (sub_cons rfl (sub_cons rfl (sub_cons rfl (sub_cons rfl (sub_cons rfl (sub_cons rfl (sub_cons rfl (sub_cons rfl sub_nil)))))))))) (some_cons pick0 (some_cons pick0 (some_cons pick0 (some_cons pick0 (some_cons pick0 some_nil)))))
        refine ws_eff rfl (eo_alloc (cs := [(sl (⟨none, 0, 0⟩ : Hd)), (sl (⟨none, 0, 0⟩ : Hd)), (sl (⟨none, 0, 0⟩ : Hd)), (sl (⟨none, 0, 0⟩ : Hd)), .int .i64 0, .int .i64 0]) za_38) (fun _ => (sts_some (some_cons (pickS (pickS (pickS pick0))) (some_cons (pickS (pickS (pickS pick0))) some_nil)))) rfl fun b17o => ?_
        exact wa_jump H 16 rfl (Nat.le_of_ble_eq_true rfl) (b17o, z.1, z.2) rfl rfl (sub_cons rfl (sub_cons rfl (sub_cons rfl (sub_cons rfl (sub_cons rfl (sub_cons rfl (sub_cons rfl (sub_cons rfl (sub_cons rfl (sub_cons rfl sub_nil)))))))))) (some_cons pick0 (some_cons pick0 (some_cons pick0 (some_cons pick0 (some_cons pick0 some_nil)))))
      refine List.forall_mem_cons.2 ⟨fun H => ?_, ?_⟩
      · skip
        intro z
        dsimp only
        refine wa_3 (i := 3) (j := 4) (k := 17) (by kernel_rfl) ?_ ?_ ?_
        · skip
          refine ws_eff rfl (eo_append (xs := ([] : List GMember)) (ys := a_g.Members) ak_33 (pick_box_own (pickS pick0) (n := 0) (xs := ([] : List GMember)) rfl rfl (by unfold maxLen; omega)) rfl rfl (slin_rd fun _ g => Rg.on (rds_arg r0) g) g1) (fun _ => (sts_some (some_cons (pickS (pickS pick0)) (some_cons (pickS (pickS pick0)) some_nil)))) rfl fun x3o => ?_
          exact wa_jump H 13 rfl (Nat.le_of_ble_eq_true rfl) (x3o, z.2) rfl rfl (sub_cons rfl (sub_cons rfl (sub_cons rfl (sub_cons rfl (sub_cons rfl (sub_cons rfl (sub_cons rfl (sub_cons rfl sub_nil)))))))) (some_cons (pickS pick0) (some_cons pick0 (some_cons pick0 (some_cons pick0 some_nil))))
        · skip
          refine ws_eff rfl (eo_buildSlice rfl sb_34_0) (fun _ => (sts_some (some_cons (pickS (pickS (pickS pick0))) (some_cons (pickS (pickS (pickS pick0))) some_nil)))) rfl fun b4o => ?_
          exact wa_jump H 15 rfl (Nat.le_of_ble_eq_true rfl) (z.1, b4o, z.2) rfl rfl (sub_cons rfl (sub_cons rfl (sub_cons rfl (sub_cons rfl (sub_cons rfl (sub_cons rfl (sub_cons rfl (sub_cons rfl (sub_cons rfl (sub_cons rfl sub_nil)))))))))) (some_cons (pickS pick0) (some_cons pick0 (some_cons pick0 (some_cons pick0 (some_cons pick0 some_nil)))))
        refine ws_eff rfl (eo_alloc (cs := [(sl (⟨none, 0, 0⟩ : Hd)), (sl (⟨none, 0, 0⟩ : Hd)), (sl (⟨none, 0, 0⟩ : Hd)), (sl (⟨none, 0, 0⟩ : Hd)), .int .i64 0, .int .i64 0]) za_38) (fun _ => (sts_some (some_cons (pickS (pickS (pickS pick0))) (some_cons (pickS (pickS (pickS pick0))) some_nil)))) rfl fun b17o => ?_
        exact wa_jump H 17 rfl (Nat.le_of_ble_eq_true rfl) (b17o, z.1, z.2) rfl rfl (sub_cons rfl (sub_cons rfl (sub_cons rfl (sub_cons rfl (sub_cons rfl (sub_cons rfl (sub_cons rfl (sub_cons rfl (sub_cons rfl (sub_cons rfl sub_nil)))))))))) (some_cons pick0 (some_cons pick0 (some_cons pick0 (some_cons pick0 (some_cons pick0 some_nil)))))
      refine List.forall_mem_cons.2 ⟨fun H => ?_, ?_⟩
      · skip
        intro z
        dsimp only
        refine wa_3 (i := 3) (j := 4) (k := 8) (by kernel_rfl) ?_ ?_ ?_
        · skip
          refine ws_eff rfl (eo_append (xs := ([] : List GMember)) (ys := a_g.Members) ak_33 (pick_box_own (pickS pick0) (n := 0) (xs := ([] : List GMember)) rfl rfl (by unfold maxLen; omega)) rfl rfl (slin_rd fun _ g => Rg.on (rds_arg r0) g) g1) (fun _ => (sts_some (some_cons (pickS (pickS pick0)) (some_cons (pickS (pickS pick0)) some_nil)))) rfl fun x3o => ?_
          exact wa_jump H 14 rfl (Nat.le_of_ble_eq_true rfl) (z.1, x3o) rfl rfl (sub_cons rfl (sub_cons rfl (sub_cons rfl (sub_cons rfl (sub_cons rfl (sub_cons rfl (sub_cons rfl (sub_cons rfl sub_nil)))))))) (some_cons (pickS pick0) (some_cons pick0 (some_cons pick0 (some_cons pick0 some_nil))))
        · skip
          refine ws_eff rfl (eo_buildSlice rfl sb_34_0) (fun _ => (sts_some (some_cons (pickS (pickS (pickS pick0))) (some_cons (pickS (pickS (pickS pick0))) some_nil)))) rfl fun b4o => ?_
          exact wa_jump H 16 rfl (Nat.le_of_ble_eq_true rfl) (z.1, z.2, b4o) rfl rfl (sub_cons rfl (sub_cons rfl (sub_cons rfl (sub_cons rfl (sub_cons rfl (sub_cons rfl (sub_cons rfl (sub_cons rfl (sub_cons rfl (sub_cons rfl sub_nil)))))))))) (some_cons (pickS pick0) (some_cons pick0 (some_cons pick0 (some_cons pick0 (some_cons pick0 some_nil)))))
        refine ws_eff rfl (eo_buildSlice rfl sb_36_0) (fun _ => (sts_some (some_cons (pickS (pickS (pickS pick0))) (some_cons (pickS (pickS (pickS pick0))) some_nil)))) rfl fun b8o => ?_
        exact wa_jump H 17 rfl (Nat.le_of_ble_eq_true rfl) (z.1, z.2, b8o) rfl rfl (sub_cons rfl (sub_cons rfl (sub_cons rfl (sub_cons rfl (sub_cons rfl (sub_cons rfl (sub_cons rfl (sub_cons rfl (sub_cons rfl (sub_cons rfl sub_nil)))))))))) (some_cons (pickS pick0) (some_cons pick0 (some_cons pick0 (some_cons pick0 (some_cons pick0 some_nil)))))
      refine List.forall_mem_cons.2 ⟨fun H => ?_, ?_⟩
      · skip
        intro z
        dsimp only
        refine wa_2 (i := 0) (j := 17) (by kernel_rfl) ?_ ?_
        · skip
          refine ws_eff rfl (eo_buildSlice rfl sb_33_0) (fun _ => (sts_some (some_cons (pickS (pickS (pickS pick0))) (some_cons (pickS (pickS (pickS pick0))) some_nil)))) rfl fun b0o => ?_
          exact wa_jump H 15 rfl (Nat.le_of_ble_eq_true rfl) (b0o, z.1, z.2) rfl rfl (sub_cons rfl (sub_cons rfl (sub_cons rfl (sub_cons rfl (sub_cons rfl (sub_cons rfl (sub_cons rfl (sub_cons rfl (sub_cons rfl (sub_cons rfl sub_nil)))))))))) (some_cons (pickS pick0) (some_cons (pickS pick0) (some_cons pick0 (some_cons pick0 (some_cons pick0 some_nil)))))
        refine ws_eff rfl (eo_alloc (cs := [(sl (⟨none, 0, 0⟩ : Hd)), (sl (⟨none, 0, 0⟩ : Hd)), (sl (⟨none, 0, 0⟩ : Hd)), (sl (⟨none, 0, 0⟩ : Hd)), .int .i64 0, .int .i64 0]) za_38) (fun _ => (sts_some (some_cons (pickS (pickS (pickS pick0))) (some_cons (pickS (pickS (pickS pick0))) some_nil)))) rfl fun b17o => ?_
        exact wa_jump H 18 rfl (Nat.le_of_ble_eq_true rfl) (b17o, z.1, z.2) rfl rfl (sub_cons rfl (sub_cons rfl (sub_cons rfl (sub_cons rfl (sub_cons rfl (sub_cons rfl (sub_cons rfl (sub_cons rfl (sub_cons rfl (sub_cons rfl sub_nil)))))))))) (some_cons pick0 (some_cons pick0 (some_cons pick0 (some_cons pick0 (some_cons pick0 some_nil)))))
      refine List.forall_mem_cons.2 ⟨fun H => ?_, ?_⟩
      · skip
        intro z
        dsimp only
        refine wa_2 (i := 0) (j := 8) (by kernel_rfl) ?_ ?_
        · skip
          refine ws_eff rfl (eo_buildSlice rfl sb_33_0) (fun _ => (sts_some (some_cons (pickS (pickS (pickS pick0))) (some_cons (pickS (pickS (pickS pick0))) some_nil)))) rfl fun b0o => ?_
          exact wa_jump H 16 rfl (Nat.le_of_ble_eq_true rfl) (z.1, b0o, z.2) rfl rfl (sub_cons rfl (sub_cons rfl (sub_cons rfl (sub_cons rfl (sub_cons rfl (sub_cons rfl (sub_cons rfl (sub_cons rfl (sub_cons rfl (sub_cons rfl sub_nil)))))))))) (some_cons (pickS pick0) (some_cons (pickS pick0) (some_cons pick0 (some_cons pick0 (some_cons pick0 some_nil)))))
        refine ws_eff rfl (eo_buildSlice rfl sb_36_0) (fun _ => (sts_some (some_cons (pickS (pickS (pickS pick0))) (some_cons (pickS (pickS (pickS pick0))) some_nil)))) rfl fun b8o => ?_
        exact wa_jump H 18 rfl (Nat.le_of_ble_eq_true rfl) (z.1, z.2, b8o) rfl rfl (sub_cons rfl (sub_cons rfl (sub_cons rfl (sub_cons rfl (sub_cons rfl (sub_cons rfl (sub_cons rfl (sub_cons rfl (sub_cons rfl (sub_cons rfl sub_nil)))))))))) (some_cons (pickS pick0) (some_cons pick0 (some_cons pick0 (some_cons pick0 (some_cons pick0 some_nil)))))
      refine List.forall_mem_cons.2 ⟨fun H => ?_, ?_⟩
      · skip
        intro z
        dsimp only
        refine wa_2 (i := 0) (j := 4) (by kernel_rfl) ?_ ?_
        · skip
          refine ws_eff rfl (eo_buildSlice rfl sb_33_0) (fun _ => (sts_some (some_cons (pickS (pickS (pickS pick0))) (some_cons (pickS (pickS (pickS pick0))) some_nil)))) rfl fun b0o => ?_
          exact wa_jump H 17 rfl (Nat.le_of_ble_eq_true rfl) (z.1, b0o, z.2) rfl rfl (sub_cons rfl (sub_cons rfl (sub_cons rfl (sub_cons rfl (sub_cons rfl (sub_cons rfl (sub_cons rfl (sub_cons rfl (sub_cons rfl (sub_cons rfl sub_nil)))))))))) (some_cons (pickS pick0) (some_cons (pickS pick0) (some_cons pick0 (some_cons pick0 (some_cons pick0 some_nil)))))
        refine ws_eff rfl (eo_buildSlice rfl sb_34_0) (fun _ => (sts_some (some_cons (pickS (pickS (pickS pick0))) (some_cons (pickS (pickS (pickS pick0))) some_nil)))) rfl fun b4o => ?_
        exact wa_jump H 18 rfl (Nat.le_of_ble_eq_true rfl) (z.1, b4o, z.2) rfl rfl (sub_cons rfl (sub_cons rfl (sub_cons rfl (sub_cons rfl (sub_cons rfl (sub_cons rfl (sub_cons rfl (sub_cons rfl (sub_cons rfl (sub_cons rfl sub_nil)))))))))) (some_cons (pickS pick0) (some_cons (pickS pick0) (some_cons pick0 (some_cons pick0 (some_cons pick0 some_nil)))))
      refine List.forall_mem_cons.2 ⟨fun H => ?_, ?_⟩
      · skip
        intro z
        dsimp only
        refine wa_3 (i := 7) (j := 8) (k := 17) (by kernel_rfl) ?_ ?_ ?_
        · skip
          refine ws_eff rfl (eo_append (xs := ([] : List Int)) (ys := a_g.Stock) ak_34 (pick_box_own pick0 (n := 0) (xs := ([] : List Int)) rfl rfl (by unfold maxLen; omega)) rfl rfl (slin_rd fun _ g => Rg.on (rds_arg r1) g) g2) (fun _ => (sts_some (some_cons (pickS (pickS pick0)) (some_cons (pickS (pickS pick0)) some_nil)))) rfl fun x7o => ?_
          exact wa_jump H 19 rfl (Nat.le_of_ble_eq_true rfl) (z.1, x7o) rfl rfl (sub_cons rfl (sub_cons rfl (sub_cons rfl (sub_cons rfl (sub_cons rfl (sub_cons rfl (sub_cons rfl sub_nil))))))) (some_cons pick0 (some_cons pick0 (some_cons pick0 (some_cons pick0 some_nil))))
        · skip
          refine ws_eff rfl (eo_buildSlice rfl sb_36_0) (fun _ => (sts_some (some_cons (pickS (pickS (pickS pick0))) (some_cons (pickS (pickS (pickS pick0))) some_nil)))) rfl fun b8o => ?_
          exact wa_jump H 20 rfl (Nat.le_of_ble_eq_true rfl) (z.1, z.2, b8o) rfl rfl (sub_cons rfl (sub_cons rfl (sub_cons rfl (sub_cons rfl (sub_cons rfl (sub_cons rfl (sub_cons rfl (sub_cons rfl (sub_cons rfl sub_nil))))))))) (some_cons pick0 (some_cons pick0 (some_cons pick0 (some_cons pick0 (some_cons pick0 some_nil)))))
        refine ws_eff rfl (eo_alloc (cs := [(sl (⟨none, 0, 0⟩ : Hd)), (sl (⟨none, 0, 0⟩ : Hd)), (sl (⟨none, 0, 0⟩ : Hd)), (sl (⟨none, 0, 0⟩ : Hd)), .int .i64 0, .int .i64 0]) za_38) (fun _ => (sts_some (some_cons (pickS (pickS (pickS pick0))) (some_cons (pickS (pickS (pickS pick0))) some_nil)))) rfl fun b17o => ?_
        exact wa_jump H 21 rfl (Nat.le_of_ble_eq_true rfl) (b17o, z.1, z.2) rfl rfl (sub_cons rfl (sub_cons rfl (sub_cons rfl (sub_cons rfl (sub_cons rfl (sub_cons rfl (sub_cons rfl (sub_cons rfl (sub_cons rfl sub_nil))))))))) (some_cons pick0 (some_cons pick0 (some_cons pick0 (some_cons pick0 (some_cons pick0 some_nil)))))
      refine List.forall_mem_cons.2 ⟨fun H => ?_, ?_⟩
      · skip
        intro z
        dsimp only
        refine wa_2 (i := 4) (j := 17) (by kernel_rfl) ?_ ?_
        · skip
          refine ws_eff rfl (eo_buildSlice rfl sb_34_0) (fun _ => (sts_some (some_cons (pickS (pickS (pickS pick0))) (some_cons (pickS (pickS (pickS pick0))) some_nil)))) rfl fun b4o => ?_
          exact wa_jump H 20 rfl (Nat.le_of_ble_eq_true rfl) (z.1, b4o, z.2) rfl rfl (sub_cons rfl (sub_cons rfl (sub_cons rfl (sub_cons rfl (sub_cons rfl (sub_cons rfl (sub_cons rfl (sub_cons rfl (sub_cons rfl sub_nil))))))))) (some_cons (pickS pick0) (some_cons pick0 (some_cons pick0 (some_cons pick0 (some_cons pick0 some_nil)))))
        refine ws_eff rfl (eo_alloc (cs := [(sl (⟨none, 0, 0⟩ : Hd)), (sl (⟨none, 0, 0⟩ : Hd)), (sl (⟨none, 0, 0⟩ : Hd)), (sl (⟨none, 0, 0⟩ : Hd)), .int .i64 0, .int .i64 0]) za_38) (fun _ => (sts_some (some_cons (pickS (pickS (pickS pick0))) (some_cons (pickS (pickS (pickS pick0))) some_nil)))) rfl fun b17o => ?_
        exact wa_jump H 22 rfl (Nat.le_of_ble_eq_true rfl) (b17o, z.1, z.2) rfl rfl (sub_cons rfl (sub_cons rfl (sub_cons rfl (sub_cons rfl (sub_cons rfl (sub_cons rfl (sub_cons rfl (sub_cons rfl (sub_cons rfl sub_nil))))))))) (some_cons pick0 (some_cons pick0 (some_cons pick0 (some_cons pick0 (some_cons pick0 some_nil)))))
      refine List.forall_mem_cons.2 ⟨fun H => ?_, ?_⟩
      · skip
        intro z
        dsimp only
        refine wa_2 (i := 4) (j := 8) (by kernel_rfl) ?_ ?_
        · skip
          refine ws_eff rfl (eo_buildSlice rfl sb_34_0) (fun _ => (sts_some (some_cons (pickS (pickS (pickS pick0))) (some_cons (pickS (pickS (pickS pick0))) some_nil)))) rfl fun b4o => ?_
          exact wa_jump H 21 rfl (Nat.le_of_ble_eq_true rfl) (z.1, z.2, b4o) rfl rfl (sub_cons rfl (sub_cons rfl (sub_cons rfl (sub_cons rfl (sub_cons rfl (sub_cons rfl (sub_cons rfl (sub_cons rfl (sub_cons rfl sub_nil))))))))) (some_cons (pickS pick0) (some_cons pick0 (some_cons pick0 (some_cons pick0 (some_cons pick0 some_nil)))))
        refine ws_eff rfl (eo_buildSlice rfl sb_36_0) (fun _ => (sts_some (some_cons (pickS (pickS (pickS pick0))) (some_cons (pickS (pickS (pickS pick0))) some_nil)))) rfl fun b8o => ?_
        exact wa_jump H 22 rfl (Nat.le_of_ble_eq_true rfl) (z.1, z.2, b8o) rfl rfl (sub_cons rfl (sub_cons rfl (sub_cons rfl (sub_cons rfl (sub_cons rfl (sub_cons rfl (sub_cons rfl (sub_cons rfl (sub_cons rfl sub_nil))))))))) (some_cons (pickS pick0) (some_cons pick0 (some_cons pick0 (some_cons pick0 (some_cons pick0 some_nil)))))
      refine List.forall_mem_cons.2 ⟨fun H => ?_, ?_⟩
      · skip
        intro z
        dsimp only
        refine wa_2 (i := 3) (j := 17) (by kernel_rfl) ?_ ?_
        · skip
          refine ws_eff rfl (eo_append (xs := ([] : List GMember)) (ys := a_g.Members) ak_33 (pick_box_own (pickS (pickS pick0)) (n := 0) (xs := ([] : List GMember)) rfl rfl (by unfold maxLen; omega)) rfl rfl (slin_rd fun _ g => Rg.on (rds_arg r0) g) g1) (fun _ => (sts_some (some_cons (pickS (pickS (pickS pick0))) (some_cons (pickS (pickS (pickS pick0))) some_nil)))) rfl fun x3o => ?_
          exact wa_jump H 20 rfl (Nat.le_of_ble_eq_true rfl) (x3o, z.2.1, z.2.2) rfl rfl (sub_cons rfl (sub_cons rfl (sub_cons rfl (sub_cons rfl (sub_cons rfl (sub_cons rfl (sub_cons rfl (sub_cons rfl (sub_cons rfl sub_nil))))))))) (some_cons (pickS pick0) (some_cons (pickS pick0) (some_cons pick0 (some_cons pick0 (some_cons pick0 some_nil)))))
        refine ws_eff rfl (eo_alloc (cs := [(sl (⟨none, 0, 0⟩ : Hd)), (sl (⟨none, 0, 0⟩ : Hd)), (sl (⟨none, 0, 0⟩ : Hd)), (sl (⟨none, 0, 0⟩ : Hd)), .int .i64 0, .int .i64 0]) za_38) (fun _ => (sts_some (some_cons (pickS (pickS (pickS (pickS pick0)))) (some_cons (pickS (pickS (pickS (pickS pick0)))) some_nil)))) rfl fun b17o => ?_
        exact wa_jump H 23 rfl (Nat.le_of_ble_eq_true rfl) (b17o, z.1, z.2.1, z.2.2) rfl rfl (sub_cons rfl (sub_cons rfl (sub_cons rfl (sub_cons rfl (sub_cons rfl (sub_cons rfl (sub_cons rfl (sub_cons rfl (sub_cons rfl (sub_cons rfl (sub_cons rfl sub_nil))))))))))) (some_cons pick0 (some_cons pick0 (some_cons pick0 (some_cons pick0 (some_cons pick0 (some_cons pick0 some_nil))))))
      refine List.forall_mem_cons.2 ⟨fun H => ?_, ?_⟩
      · skip
        intro z
        dsimp only
        refine wa_2 (i := 3) (j := 8) (by kernel_rfl) ?_ ?_
        · skip
          refine ws_eff rfl (eo_append (xs := ([] : List GMember)) (ys := a_g.Members) ak_33 (pick_box_own (pickS (pickS pick0)) (n := 0) (xs := ([] : List GMember)) rfl rfl (by unfold maxLen; omega)) rfl rfl (slin_rd fun _ g => Rg.on (rds_arg r0) g) g1) (fun _ => (sts_some (some_cons (pickS (pickS (pickS pick0))) (some_cons (pickS (pickS (pickS pick0))) some_nil)))) rfl fun x3o => ?_
          exact wa_jump H 21 rfl (Nat.le_of_ble_eq_true rfl) (z.1, x3o, z.2.2) rfl rfl (sub_cons rfl (sub_cons rfl (sub_cons rfl (sub_cons rfl (sub_cons rfl (sub_cons rfl (sub_cons rfl (sub_cons rfl (sub_cons rfl sub_nil))))))))) (some_cons (pickS pick0) (some_cons (pickS pick0) (some_cons pick0 (some_cons pick0 (some_cons pick0 some_nil)))))
        refine ws_eff rfl (eo_buildSlice rfl sb_36_0) (fun _ => (sts_some (some_cons (pickS (pickS (pickS (pickS pick0)))) (some_cons (pickS (pickS (pickS (pickS pick0)))) some_nil)))) rfl fun b8o => ?_
        exact wa_jump H 23 rfl (Nat.le_of_ble_eq_true rfl) (z.1, z.2.1, z.2.2, b8o) rfl rfl (sub_cons rfl (sub_cons rfl (sub_cons rfl (sub_cons rfl (sub_cons rfl (sub_cons rfl (sub_cons rfl (sub_cons rfl (sub_cons rfl (sub_cons rfl (sub_cons rfl sub_nil))))))))))) (some_cons (pickS pick0) (some_cons pick0 (some_cons pick0 (some_cons pick0 (some_cons pick0 (some_cons pick0 some_nil))))))
      refine List.forall_mem_cons.2 ⟨fun H => ?_, ?_⟩
      · skip
        intro z
        dsimp only
        refine wa_2 (i := 3) (j := 4) (by kernel_rfl) ?_ ?_
        · skip
          refine ws_eff rfl (eo_append (xs := ([] : List GMember)) (ys := a_g.Members) ak_33 (pick_box_own (pickS (pickS pick0)) (n := 0) (xs := ([] : List GMember)) rfl rfl (by unfold maxLen; omega)) rfl rfl (slin_rd fun _ g => Rg.on (rds_arg r0) g) g1) (fun _ => (sts_some (some_cons (pickS (pickS (pickS pick0))) (some_cons (pickS (pickS (pickS pick0))) some_nil)))) rfl fun x3o => ?_
          exact wa_jump H 22 rfl (Nat.le_of_ble_eq_true rfl) (z.1, x3o, z.2.2) rfl rfl (sub_cons rfl (sub_cons rfl (sub_cons rfl (sub_cons rfl (sub_cons rfl (sub_cons rfl (sub_cons rfl (sub_cons rfl (sub_cons rfl sub_nil))))))))) (some_cons (pickS pick0) (some_cons (pickS pick0) (some_cons pick0 (some_cons pick0 (some_cons pick0 some_nil)))))
        refine ws_eff rfl (eo_buildSlice rfl sb_34_0) (fun _ => (sts_some (some_cons (pickS (pickS (pickS (pickS pick0)))) (some_cons (pickS (pickS (pickS (pickS pick0)))) some_nil)))) rfl fun b4o => ?_
        exact wa_jump H 23 rfl (Nat.le_of_ble_eq_true rfl) (z.1, z.2.1, b4o, z.2.2) rfl rfl (sub_cons rfl (sub_cons rfl (sub_cons rfl (sub_cons rfl (sub_cons rfl (sub_cons rfl (sub_cons rfl (sub_cons rfl (sub_cons rfl (sub_cons rfl (sub_cons rfl sub_nil))))))))))) (some_cons (pickS pick0) (some_cons (pickS pick0) (some_cons pick0 (some_cons pick0 (some_cons pick0 (some_cons pick0 some_nil))))))
      refine List.forall_mem_cons.2 ⟨fun H => ?_, ?_⟩
      · skip
        intro z
        dsimp only
        refine wa_1 (i := 0) (by kernel_rfl) ?_
        refine ws_eff rfl (eo_buildSlice rfl sb_33_0) (fun _ => (sts_some (some_cons (pickS (pickS (pickS (pickS pick0)))) (some_cons (pickS (pickS (pickS (pickS pick0)))) some_nil)))) rfl fun b0o => ?_
        exact wa_jump H 23 rfl (Nat.le_of_ble_eq_true rfl) (z.1, b0o, z.2.1, z.2.2) rfl rfl (sub_cons rfl (sub_cons rfl (sub_cons rfl (sub_cons rfl (sub_cons rfl (sub_cons rfl (sub_cons rfl (sub_cons rfl (sub_cons rfl (sub_cons rfl (sub_cons rfl sub_nil))))))))))) (some_cons (pickS pick0) (some_cons (pickS pick0) (some_cons (pickS pick0) (some_cons pick0 (some_cons pick0 (some_cons pick0 some_nil))))))
      refine List.forall_mem_cons.2 ⟨fun H => ?_, ?_⟩
      · skip
        intro z
        dsimp only
        refine wa_2 (i := 8) (j := 17) (by kernel_rfl) ?_ ?_
        · skip
          refine ws_eff rfl (eo_buildSlice rfl sb_36_0) (fun _ => (sts_some (some_cons (pickS (pickS (pickS pick0))) (some_cons (pickS (pickS (pickS pick0))) some_nil)))) rfl fun b8o => ?_
          exact wa_jump H 24 rfl (Nat.le_of_ble_eq_true rfl) (z.1, z.2, b8o) rfl rfl (sub_cons rfl (sub_cons rfl (sub_cons rfl (sub_cons rfl (sub_cons rfl (sub_cons rfl (sub_cons rfl (sub_cons rfl sub_nil)))))))) (some_cons pick0 (some_cons pick0 (some_cons pick0 (some_cons pick0 (some_cons pick0 some_nil)))))
        refine ws_eff rfl (eo_alloc (cs := [(sl (⟨none, 0, 0⟩ : Hd)), (sl (⟨none, 0, 0⟩ : Hd)), (sl (⟨none, 0, 0⟩ : Hd)), (sl (⟨none, 0, 0⟩ : Hd)), .int .i64 0, .int .i64 0]) za_38) (fun _ => (sts_some (some_cons (pickS (pickS (pickS pick0))) (some_cons (pickS (pickS (pickS pick0))) some_nil)))) rfl fun b17o => ?_
        exact wa_jump H 25 rfl (Nat.le_of_ble_eq_true rfl) (b17o, z.1, z.2) rfl rfl (sub_cons rfl (sub_cons rfl (sub_cons rfl (sub_cons rfl (sub_cons rfl (sub_cons rfl (sub_cons rfl (sub_cons rfl sub_nil)))))))) (some_cons pick0 (some_cons pick0 (some_cons pick0 (some_cons pick0 (some_cons pick0 some_nil)))))
      refine List.forall_mem_cons.2 ⟨fun H => ?_, ?_⟩
      · skip
        intro z
        dsimp only
        refine wa_2 (i := 7) (j := 17) (by kernel_rfl) ?_ ?_
        · skip
          refine ws_eff rfl (eo_append (xs := ([] : List Int)) (ys := a_g.Stock) ak_34 (pick_box_own (pickS pick0) (n := 0) (xs := ([] : List Int)) rfl rfl (by unfold maxLen; omega)) rfl rfl (slin_rd fun _ g => Rg.on (rds_arg r1) g) g2) (fun _ => (sts_some (some_cons (pickS (pickS (pickS pick0))) (some_cons (pickS (pickS (pickS pick0))) some_nil)))) rfl fun x7o => ?_
          exact wa_jump H 24 rfl (Nat.le_of_ble_eq_true rfl) (z.1, x7o, z.2.2) rfl rfl (sub_cons rfl (sub_cons rfl (sub_cons rfl (sub_cons rfl (sub_cons rfl (sub_cons rfl (sub_cons rfl (sub_cons rfl sub_nil)))))))) (some_cons (pickS pick0) (some_cons pick0 (some_cons pick0 (some_cons pick0 (some_cons pick0 some_nil)))))
        refine ws_eff rfl (eo_alloc (cs := [(sl (⟨none, 0, 0⟩ : Hd)), (sl (⟨none, 0, 0⟩ : Hd)), (sl (⟨none, 0, 0⟩ : Hd)), (sl (⟨none, 0, 0⟩ : Hd)), .int .i64 0, .int .i64 0]) za_38) (fun _ => (sts_some (some_cons (pickS (pickS (pickS (pickS pick0)))) (some_cons (pickS (pickS (pickS (pickS pick0)))) some_nil)))) rfl fun b17o => ?_
        exact wa_jump H 26 rfl (Nat.le_of_ble_eq_true rfl) (b17o, z.1, z.2.1, z.2.2) rfl rfl (sub_cons rfl (sub_cons rfl (sub_cons rfl (sub_cons rfl (sub_cons rfl (sub_cons rfl (sub_cons rfl (sub_cons rfl (sub_cons rfl (sub_cons rfl sub_nil)))))))))) (some_cons pick0 (some_cons pick0 (some_cons pick0 (some_cons pick0 (some_cons pick0 (some_cons pick0 some_nil))))))
      refine List.forall_mem_cons.2 ⟨fun H => ?_, ?_⟩
      · skip
        intro z
        dsimp only
        refine wa_2 (i := 7) (j := 8) (by kernel_rfl) ?_ ?_
        · skip
          refine ws_eff rfl (eo_append (xs := ([] : List Int)) (ys := a_g.Stock) ak_34 (pick_box_own (pickS pick0) (n := 0) (xs := ([] : List Int)) rfl rfl (by unfold maxLen; omega)) rfl rfl (slin_rd fun _ g => Rg.on (rds_arg r1) g) g2) (fun _ => (sts_some (some_cons (pickS (pickS (pickS pick0))) (some_cons (pickS (pickS (pickS pick0))) some_nil)))) rfl fun x7o => ?_
          exact wa_jump H 25 rfl (Nat.le_of_ble_eq_true rfl) (z.1, z.2.1, x7o) rfl rfl (sub_cons rfl (sub_cons rfl (sub_cons rfl (sub_cons rfl (sub_cons rfl (sub_cons rfl (sub_cons rfl (sub_cons rfl sub_nil)))))))) (some_cons (pickS pick0) (some_cons pick0 (some_cons pick0 (some_cons pick0 (some_cons pick0 some_nil)))))
        refine ws_eff rfl (eo_buildSlice rfl sb_36_0) (fun _ => (sts_some (some_cons (pickS (pickS (pickS (pickS pick0)))) (some_cons (pickS (pickS (pickS (pickS pick0)))) some_nil)))) rfl fun b8o => ?_
        exact wa_jump H 26 rfl (Nat.le_of_ble_eq_true rfl) (z.1, z.2.1, z.2.2, b8o) rfl rfl (sub_cons rfl (sub_cons rfl (sub_cons rfl (sub_cons rfl (sub_cons rfl (sub_cons rfl (sub_cons rfl (sub_cons rfl (sub_cons rfl (sub_cons rfl sub_nil)))))))))) (some_cons (pickS pick0) (some_cons pick0 (some_cons pick0 (some_cons pick0 (some_cons pick0 (some_cons pick0 some_nil))))))
      refine List.forall_mem_cons.2 ⟨fun H => ?_, ?_⟩
      · skip
        intro z
        dsimp only
        refine wa_1 (i := 4) (by kernel_rfl) ?_
        refine ws_eff rfl (eo_buildSlice rfl sb_34_0) (fun _ => (sts_some (some_cons (pickS (pickS (pickS (pickS pick0)))) (some_cons (pickS (pickS (pickS (pickS pick0)))) some_nil)))) rfl fun b4o => ?_
        exact wa_jump H 26 rfl (Nat.le_of_ble_eq_true rfl) (z.1, z.2.1, b4o, z.2.2) rfl rfl (sub_cons rfl (sub_cons rfl (sub_cons rfl (sub_cons rfl (sub_cons rfl (sub_cons rfl (sub_cons rfl (sub_cons rfl (sub_cons rfl (sub_cons rfl sub_nil)))))))))) (some_cons (pickS pick0) (some_cons (pickS pick0) (some_cons pick0 (some_cons pick0 (some_cons pick0 (some_cons pick0 some_nil))))))
      refine List.forall_mem_cons.2 ⟨fun H => ?_, ?_⟩
      · skip
        intro z
        dsimp only
        refine wa_1 (i := 3) (by kernel_rfl) ?_
        refine ws_eff rfl (eo_append (xs := ([] : List GMember)) (ys := a_g.Members) ak_33 (pick_box_own (pickS (pickS (pickS pick0))) (n := 0) (xs := ([] : List GMember)) rfl rfl (by unfold maxLen; omega)) rfl rfl (slin_rd fun _ g => Rg.on (rds_arg r0) g) g1) (fun _ => (sts_some (some_cons (pickS (pickS (pickS (pickS pick0)))) (some_cons (pickS (pickS (pickS (pickS pick0)))) some_nil)))) rfl fun x3o => ?_
        exact wa_jump H 26 rfl (Nat.le_of_ble_eq_true rfl) (z.1, x3o, z.2.2.1, z.2.2.2) rfl rfl (sub_cons rfl (sub_cons rfl (sub_cons rfl (sub_cons rfl (sub_cons rfl (sub_cons rfl (sub_cons rfl (sub_cons rfl (sub_cons rfl (sub_cons rfl sub_nil)))))))))) (some_cons (pickS pick0) (some_cons (pickS pick0) (some_cons (pickS pick0) (some_cons pick0 (some_cons pick0 (some_cons pick0 some_nil))))))
      refine List.forall_mem_cons.2 ⟨fun H => ?_, ?_⟩
      · skip
        intro z
        dsimp only
        refine wa_2 (i := 11) (j := 17) (by kernel_rfl) ?_ ?_
        · skip
          refine ws_eff rfl (eo_append (xs := ([] : List GBooking)) (ys := a_g.Books) ak_36 (pick_box_own pick0 (n := 0) (xs := ([] : List GBooking)) rfl rfl (by unfold maxLen; omega)) rfl rfl (slin_rd fun _ g => Rg.on (rds_arg r3) g) g3) (fun _ => (sts_some (some_cons (pickS (pickS (pickS pick0))) (some_cons (pickS (pickS (pickS pick0))) some_nil)))) rfl fun x11o => ?_
          refine wa_pure 16 rfl (po_build rfl (bd_38_0_1_3_4_5 z.1 z.2.1 x11o a_g.Round a_g.Year)) (some_cons (pickS (pickS (pickS pick0))) (some_cons (pickS (pickS (pickS pick0))) some_nil)) rfl (by kernel_rfl) (fun _ _ _ h => h) ?_
          exact wa_jump H 27 rfl (Nat.le_of_ble_eq_true rfl) (z.1, z.2.1, x11o) rfl rfl (sub_cons rfl (sub_cons rfl (sub_cons rfl sub_nil))) (some_cons pick0 (some_cons pick0 (some_cons pick0 (some_cons pick0 (some_cons pick0 some_nil)))))
        refine ws_eff rfl (eo_alloc (cs := [(sl (⟨none, 0, 0⟩ : Hd)), (sl (⟨none, 0, 0⟩ : Hd)), (sl (⟨none, 0, 0⟩ : Hd)), (sl (⟨none, 0, 0⟩ : Hd)), .int .i64 0, .int .i64 0]) za_38) (fun _ => (sts_some (some_cons (pickS (pickS (pickS (pickS pick0)))) (some_cons (pickS (pickS (pickS (pickS pick0)))) some_nil)))) rfl fun b17o => ?_
        exact wa_jump H 28 rfl (Nat.le_of_ble_eq_true rfl) (b17o, z.1, z.2.1, z.2.2) rfl rfl (sub_cons rfl (sub_cons rfl (sub_cons rfl (sub_cons rfl (sub_cons rfl (sub_cons rfl (sub_cons rfl (sub_cons rfl (sub_cons rfl sub_nil))))))))) (some_cons pick0 (some_cons pick0 (some_cons pick0 (some_cons pick0 (some_cons pick0 (some_cons pick0 some_nil))))))
      refine List.forall_mem_cons.2 ⟨fun H => ?_, ?_⟩
      · skip
        intro z
        dsimp only
        refine wa_1 (i := 8) (by kernel_rfl) ?_
        refine ws_eff rfl (eo_buildSlice rfl sb_36_0) (fun _ => (sts_some (some_cons (pickS (pickS (pickS (pickS pick0)))) (some_cons (pickS (pickS (pickS (pickS pick0)))) some_nil)))) rfl fun b8o => ?_
        exact wa_jump H 28 rfl (Nat.le_of_ble_eq_true rfl) (z.1, z.2.1, z.2.2, b8o) rfl rfl (sub_cons rfl (sub_cons rfl (sub_cons rfl (sub_cons rfl (sub_cons rfl (sub_cons rfl (sub_cons rfl (sub_cons rfl (sub_cons rfl sub_nil))))))))) (some_cons (pickS pick0) (some_cons pick0 (some_cons pick0 (some_cons pick0 (some_cons pick0 (some_cons pick0 some_nil))))))
      refine List.forall_mem_cons.2 ⟨fun H => ?_, ?_⟩
      · skip
        intro z
        dsimp only
        refine wa_1 (i := 7) (by kernel_rfl) ?_
        refine ws_eff rfl (eo_append (xs := ([] : List Int)) (ys := a_g.Stock) ak_34 (pick_box_own (pickS (pickS pick0)) (n := 0) (xs := ([] : List Int)) rfl rfl (by unfold maxLen; omega)) rfl rfl (slin_rd fun _ g => Rg.on (rds_arg r1) g) g2) (fun _ => (sts_some (some_cons (pickS (pickS (pickS (pickS pick0)))) (some_cons (pickS (pickS (pickS (pickS pick0)))) some_nil)))) rfl fun x7o => ?_
        exact wa_jump H 28 rfl (Nat.le_of_ble_eq_true rfl) (z.1, z.2.1, x7o, z.2.2.2) rfl rfl (sub_cons rfl (sub_cons rfl (sub_cons rfl (sub_cons rfl (sub_cons rfl (sub_cons rfl (sub_cons rfl (sub_cons rfl (sub_cons rfl sub_nil))))))))) (some_cons (pickS pick0) (some_cons (pickS pick0) (some_cons pick0 (some_cons pick0 (some_cons pick0 (some_cons pick0 some_nil))))))
      refine List.forall_mem_cons.2 ⟨fun H => ?_, ?_⟩
      · skip
        intro z
        dsimp only
        refine wa_1 (i := 17) (by kernel_rfl) ?_
        refine ws_eff rfl (eo_alloc (cs := [(sl (⟨none, 0, 0⟩ : Hd)), (sl (⟨none, 0, 0⟩ : Hd)), (sl (⟨none, 0, 0⟩ : Hd)), (sl (⟨none, 0, 0⟩ : Hd)), .int .i64 0, .int .i64 0]) za_38) (fun _ => (sts_some (some_cons (pickS (pickS (pickS (pickS pick0)))) (some_cons (pickS (pickS (pickS (pickS pick0)))) some_nil)))) rfl fun b17o => ?_
        exact wa_jump H 29 rfl (Nat.le_of_ble_eq_true rfl) (b17o, z.1, z.2.1, z.2.2) rfl rfl (sub_cons rfl (sub_cons rfl (sub_cons rfl (sub_cons rfl sub_nil)))) (some_cons pick0 (some_cons pick0 (some_cons pick0 (some_cons pick0 (some_cons pick0 (some_cons pick0 some_nil))))))
      refine List.forall_mem_cons.2 ⟨fun H => ?_, ?_⟩
      · skip
        intro z
        dsimp only
        refine wa_1 (i := 11) (by kernel_rfl) ?_
        refine ws_eff rfl (eo_append (xs := ([] : List GBooking)) (ys := a_g.Books) ak_36 (pick_box_own (pickS pick0) (n := 0) (xs := ([] : List GBooking)) rfl rfl (by unfold maxLen; omega)) rfl rfl (slin_rd fun _ g => Rg.on (rds_arg r3) g) g3) (fun _ => (sts_some (some_cons (pickS (pickS (pickS (pickS pick0)))) (some_cons (pickS (pickS (pickS (pickS pick0)))) some_nil)))) rfl fun x11o => ?_
        refine wa_pure 16 rfl (po_build rfl (bd_38_0_1_3_4_5 z.2.1 z.2.2.1 x11o a_g.Round a_g.Year)) (some_cons (pickS (pickS (pickS (pickS pick0)))) (some_cons (pickS (pickS (pickS (pickS pick0)))) some_nil)) rfl (by kernel_rfl) (fun _ _ _ h => h) ?_
        exact wa_jump H 29 rfl (Nat.le_of_ble_eq_true rfl) (z.1, z.2.1, z.2.2.1, x11o) rfl rfl (sub_cons rfl (sub_cons rfl (sub_cons rfl (sub_cons rfl sub_nil)))) (some_cons (pickS pick0) (some_cons pick0 (some_cons pick0 (some_cons pick0 (some_cons pick0 (some_cons pick0 some_nil))))))
      refine List.forall_mem_cons.2 ⟨fun H => ?_, ?_⟩
      · skip
        intro z
        dsimp only
        refine wa_1 (i := 18) (by kernel_rfl) ?_
        refine ws_skipop rfl (so_box (cs' := [(sl z.2.1), (sl z.2.2.1), (sl (⟨none, 0, 0⟩ : Hd)), (sl z.2.2.2), .int .i64 a_g.Round, .int .i64 a_g.Year]) tk_38 pick0 rfl rfl rfl rfl rfl rfl rfl) (sts_past (by kernel_rfl)) ?_
        refine wa_done (by kernel_rfl) ?_
        exact wq_meet (z.1, z.2.1, z.2.2.1, z.2.2.2) trivial (sub_cons rfl (sub_cons rfl (sub_cons rfl sub_nil))) (some_cons pick0 (some_cons pick0 (some_cons pick0 (some_cons pick0 (some_cons pick0 (some_cons pick0 some_nil))))))
      exact fun _ h => nomatch h
    refine wa_pure 1 rfl (po_fld fo_38_0 rfl) (some_cons pick0 (some_cons pick0 some_nil)) rfl (by kernel_rfl) (fun _ _ _ h => h) ?_
    refine wa_pure (v := (sl v0a)) 2 rfl (po_load_box tk_33 (pickS pick0) rfl rfl) (some_cons pick0 (some_cons pick0 some_nil)) rfl (by kernel_rfl) (fun _ _ _ h => h) ?_
    refine wa_pure 5 rfl (po_fld fo_38_1 rfl) (some_cons pick0 (some_cons pick0 some_nil)) rfl (by kernel_rfl) (fun _ _ _ h => h) ?_
    refine wa_pure (v := (sl v1a)) 6 rfl (po_load_box tk_34 (pickS pick0) rfl rfl) (some_cons pick0 (some_cons pick0 some_nil)) rfl (by kernel_rfl) (fun _ _ _ h => h) ?_
    refine wa_pure 9 rfl (po_fld fo_38_3 rfl) (some_cons pick0 (some_cons pick0 some_nil)) rfl (by kernel_rfl) (fun _ _ _ h => h) ?_
    refine wa_pure (v := (sl v3a)) 10 rfl (po_load_box tk_36 (pickS pick0) rfl rfl) (some_cons pick0 (some_cons pick0 some_nil)) rfl (by kernel_rfl) (fun _ _ _ h => h) ?_
    refine wa_pure 12 rfl (po_fld fo_38_4 rfl) (some_cons pick0 (some_cons pick0 some_nil)) rfl (by kernel_rfl) (fun _ _ _ h => h) ?_
    refine wa_pure (v := .int .i64 a_g.Round) 13 rfl (po_load_box tk_3 (pickS pick0) rfl rfl) (some_cons pick0 (some_cons pick0 some_nil)) rfl (by kernel_rfl) (fun _ _ _ h => h) ?_
    refine wa_pure 14 rfl (po_fld fo_38_5 rfl) (some_cons pick0 (some_cons pick0 some_nil)) rfl (by kernel_rfl) (fun _ _ _ h => h) ?_
    refine wa_pure (v := .int .i64 a_g.Year) 15 rfl (po_load_box tk_3 (pickS pick0) rfl rfl) (some_cons pick0 (some_cons pick0 some_nil)) rfl (by kernel_rfl) (fun _ _ _ h => h) ?_
    exact wa_jump H 0 rfl (Nat.le_of_ble_eq_true rfl) () rfl rfl (sub_cons rfl (sub_cons rfl (sub_cons rfl (sub_cons rfl (sub_cons rfl (sub_cons rfl (sub_cons rfl sub_nil))))))) (some_cons pick0 (some_cons pick0 some_nil))
  intro x1 _
  refine wq_then ?_
  refine wc_seq ?_
  refine wcr ?_
  refine asg rfl rfl ?_
  refine wnt ?_
  refine gdO t0 fun g4 t0 => ?_
  refine lpO_inv t0 fun y1 l1 t0 => ?_
  refine wj (J := List GEntry) (X := Hd × (List Value)) (fun z => y1 = z) (fun _ _ => [(2, ptr b2 0), (3, ptr x1.1 0)]) (fun z x => [box x1.1 [(sl x1.2.1), (sl x1.2.2.1), (sl x.1), (sl x1.2.2.2), .int .i64 a_g.Round, .int .i64 a_g.Year], ownF (sl x1.2.2.2) (([] : List GBooking) ++ a_g.Books), ownF (sl x1.2.2.1) (([] : List Int) ++ a_g.Stock), ownF (sl x1.2.1) (([] : List GMember) ++ a_g.Members), box b2 [(sl (⟨none, 0, 0⟩ : Hd)), (sl (⟨none, 0, 0⟩ : Hd)), (sl (⟨none, 0, 0⟩ : Hd)), (sl (⟨none, 0, 0⟩ : Hd)), .int .i64 0, .int .i64 0], own (sl x.1) x.2 z]) ?_ ?_
  · skip
    refine wc_block ?_
    refine wc_forO (X := Hd × (List Value)) l1 (fun k1 s1 x1l => [(1, ptr b1 0), (2, ptr b2 0), (3, ptr x1.1 0), (4, .int .i64 ((k1 : Nat) : Int))]) (fun k1 s1 x1l => [box x1.1 [(sl x1.2.1), (sl x1.2.2.1), (sl x1l.1), (sl x1.2.2.2), .int .i64 a_g.Round, .int .i64 a_g.Year], ownF (sl x1.2.2.2) (([] : List GBooking) ++ a_g.Books), ownF (sl x1.2.2.1) (([] : List Int) ++ a_g.Stock), ownF (sl x1.2.1) (([] : List GMember) ++ a_g.Members), box b2 [(sl (⟨none, 0, 0⟩ : Hd)), (sl (⟨none, 0, 0⟩ : Hd)), (sl (⟨none, 0, 0⟩ : Hd)), (sl (⟨none, 0, 0⟩ : Hd)), .int .i64 0, .int .i64 0], box b1 [(sl v0a), (sl v1a), (sl v2a), (sl v3a), .int .i64 a_g.Round, .int .i64 a_g.Year], own (sl x1l.1) x1l.2 s1]) ((⟨none, 0, 0⟩ : Hd), []) (sub_cons rfl (sub_cons rfl (sub_cons rfl (sub_cons rfl sub_nil)))) (some_cons pick0 (some_cons pick0 (some_cons pick0 (some_cons pick0 (some_cons pick0 (some_cons pick0 (some_cons pick_nil some_nil))))))) fun k1 s1 x1l hN1 l1 => ?_
    by_cases hk1 : k1 < a_g.Entries.length
    · skip
      refine forO_step l1 hk1 fun _ t1 l1 => ?_
      unfold spec_l38Copy_L1 at t1
      have c1 : (decide (((k1 : Nat) : Int) < ((a_g.Entries.length : Nat) : Int))) = true := decide_eq_true (by omega)
      refine wc_seq ?_
      refine wcr ?_
      refine mv rfl rfl ?_
      refine wl_pure (po_fld fo_38_2 rfl) rfl ?_
      refine wl_pure (v := (sl v2a)) (po_load_box tk_35 (pickS (pickS (pickS (pickS (pickS pick0))))) rfl rfl) rfl ?_
      refine wl_pure (po_lenr (rds_arg r2) el_35 rfl) rfl ?_
      refine wl_pure (po_lss rfl rfl) rfl ?_
      refine wnt ?_
      refine wc_cond_t rfl c1 ?_
      refine wc_skip ?_
      refine wq_then ?_
      refine wc_seq ?_
      refine wc_block ?_
      refine wcr ?_
      refine wl_pure (po_fld fo_38_2 rfl) rfl ?_
      refine wl_pure (v := (sl v2a)) (po_load_box tk_35 (pickS (pickS (pickS (pickS (pickS pick0))))) rfl rfl) rfl ?_
      refine mv rfl rfl ?_
      refine wl_pure (po_ixn (k := k1) (rds_arg r2) el_35 rfl rfl hk1) rfl ?_
      refine wl_elem (rds_arg r2) hk1 ?_
      rintro ⟨_, _, he1⟩
      obtain ⟨w1, hc1, _⟩ := rd_GEntry.1 he1
      refine wl_pure (v := .agg #[.int .i64 ((gx a_g.Entries k1).Owner), .int .i64 ((gx a_g.Entries k1).Day), .int .i64 (((gx a_g.Entries k1).Block).Size), (sl w1)]) (po_ldns (rds_arg r2) tk_88 rfl hc1 rfl rfl rfl) rfl ?_
      refine wl_eff (eo_alloc (cs := [.int .i64 0, .int .i64 0, .int .i64 0, (sl (⟨none, 0, 0⟩ : Hd))]) za_88) rfl fun b3 => ?_
      refine wl_skipop (so_box (cs' := [.int .i64 ((gx a_g.Entries k1).Owner), .int .i64 ((gx a_g.Entries k1).Day), .int .i64 (((gx a_g.Entries k1).Block).Size), (sl w1)]) tk_88 pick0 rfl rfl rfl rfl rfl rfl rfl) ?_
      refine wnt ?_
      refine wcr ?_
      refine wl_pure (po_fld fo_88_2 rfl) rfl ?_
      refine wl_pure (v := .agg #[.int .i64 (((gx a_g.Entries k1).Block).Size), (sl w1)]) (po_load_boxs tk_29 pick0 rfl rfl rfl) rfl ?_
      refine bdO t1 fun v1 hv1 t1 => ?_
      refine wl_call (co_c1 fa_85 rfl fun w hw => c_spec_l03Copy w ((gx a_g.Entries k1).Block) w1 (Rg.on (er_GEntry_0 hc1 (rds_arg r2) hk1) hw) hv1) rfl fun x3 => ?_
      refine wl_pure (po_fld fo_88_2 rfl) rfl ?_
      refine wl_skipop (so_box (cs' := [.int .i64 ((gx a_g.Entries k1).Owner), .int .i64 ((gx a_g.Entries k1).Day), .int .i64 v1.Size, (sl x3)]) tk_29 (pickS pick0) rfl rfl rfl rfl rfl rfl rfl) ?_
      refine wnt ?_
      refine wc_region ?_
      refine wl_pure (po_fld fo_38_2 rfl) rfl ?_
      refine wl_pure (v := (sl x1l.1)) (po_load_box tk_35 (pickS (pickS pick0)) rfl rfl) rfl ?_
      refine wl_pure (v := .agg #[.int .i64 ((gx a_g.Entries k1).Owner), .int .i64 ((gx a_g.Entries k1).Day), .int .i64 v1.Size, (sl x3)]) (po_load_boxs tk_88 pick0 rfl rfl rfl) rfl ?_
      refine wl_eff (eo_buildSlice rfl (sb_35_1 ((gx a_g.Entries k1).Owner) ((gx a_g.Entries k1).Day) v1.Size x3)) rfl fun b4 => ?_
      refine gdO t1 fun g5 t1 => ?_
      refine wl_eff (eo_append_one (us := x1l.2) (xs := s1) ak_35 (pickS (pickS (pickS (pickS (pickS (pickS (pickS (pickS (pickS pick0))))))))) (pow_GEntry (x := (GEntry.mk ((gx a_g.Entries k1).Owner) ((gx a_g.Entries k1).Day) v1)) (pickS (pickS pick0))) pick0 rfl rfl rfl g5) rfl fun x4 => ?_
      refine wl_pure (po_fld fo_38_2 rfl) rfl ?_
      refine wl_skipop (so_box (cs' := [(sl x1.2.1), (sl x1.2.2.1), (sl x4), (sl x1.2.2.2), .int .i64 a_g.Round, .int .i64 a_g.Year]) tk_35 (pickS (pickS (pickS pick0))) rfl rfl rfl rfl rfl rfl rfl) ?_
      refine wl_nil ?_
      refine wq_block ?_
      refine wq_then ?_
      refine wc_region ?_
      refine mv rfl rfl ?_
      refine wl_pure (po_inc rfl rfl (by omega)) rfl ?_
      refine asg rfl rfl ?_
      refine wl_nil ?_
      exact wq_rnd hk1 (stpN l1 t1) (x4, (x1l.2 ++ [.int .i64 ((gx a_g.Entries k1).Owner), .int .i64 ((gx a_g.Entries k1).Day), .int .i64 v1.Size, (sl x3)])) (sub_cons rfl (sub_cons rfl (sub_cons rfl (sub_cons rfl sub_nil)))) (some_cons pick0 (some_cons (pickS (pickS (pickS pick0))) (some_cons (pickS (pickS (pickS pick0))) (some_cons (pickS (pickS (pickS pick0))) (some_cons (pickS (pickS (pickS pick0))) (some_cons (pickS (pickS (pickS pick0))) (some_cons pick0 some_nil)))))))
    have c1 : (decide (((k1 : Nat) : Int) < ((a_g.Entries.length : Nat) : Int))) = false := decide_eq_false (by omega)
    have en1 := forO_end l1 hk1
    refine wc_seq ?_
    refine wcr ?_
    refine mv rfl rfl ?_
    refine wl_pure (po_fld fo_38_2 rfl) rfl ?_
    refine wl_pure (v := (sl v2a)) (po_load_box tk_35 (pickS (pickS (pickS (pickS (pickS pick0))))) rfl rfl) rfl ?_
    refine wl_pure (po_lenr (rds_arg r2) el_35 rfl) rfl ?_
    refine wl_pure (po_lss rfl rfl) rfl ?_
    refine wnt ?_
    refine wc_cond_f rfl c1 ?_
    refine wc_exit ?_
    refine wq_then_exit ?_
    refine wq_then_exit ?_
    refine wq_block_exit ?_
    exact wj_meet _ (x1l.1, x1l.2) (Sum.inl.inj en1) (sub_cons rfl (sub_cons rfl sub_nil)) (some_cons pick0 (some_cons pick0 (some_cons pick0 (some_cons pick0 (some_cons pick0 (some_cons (pickS pick0) some_nil))))))
  intro e1 x2 hp
  obtain rfl : e1 = y1 := hp.symm
  refine wq_then ?_
  refine wcr ?_
  refine wl_pure (v := .agg #[(sl x1.2.1), (sl x1.2.2.1), (sl x2.1), (sl x1.2.2.2), .int .i64 a_g.Round, .int .i64 a_g.Year]) (po_load_boxs tk_38 pick0 rfl rfl rfl) rfl ?_
  refine wl_skipop (so_box (cs' := [(sl x1.2.1), (sl x1.2.2.1), (sl x2.1), (sl x1.2.2.2), .int .i64 a_g.Round, .int .i64 a_g.Year]) tk_38 (pickS (pickS (pickS (pickS pick0)))) rfl rfl rfl rfl rfl rfl rfl) ?_
  refine wnt ?_
  refine wc_ret ?_
  obtain rfl := Option.some.inj t0
  exact wq_retc rfl tk_38 rfl pick0 rfl fun w hw => ⟨(x1.2.1, x1.2.2.1, x2.1, x2.2, x1.2.2.2), rfl, hw.weak (some_cons (pickS (pickS (pickS (pickS pick0)))) (some_cons (pickS (pickS (pickS pick0))) (some_cons (pickS (pickS (pickS pick0))) (some_cons (pickS (pickS pick0)) some_nil))))⟩

theorem c_spec_l01In (w : World) (a_x : Int) (a_least : Int) (a_most : Int) {r : Bool} (t0 : spec_l01In a_x a_least a_most = some r) : Calls Try.prog 70 #[.int .i64 a_x, .int .i64 a_least, .int .i64 a_most] w fun e w' => e = .returned (.bool r) ∧ SH w [] [] w' := by
  refine calls_of_wc (args := [_, _, _]) Try.func70 rfl Try.ntmps70 rfl ?_
  unfold spec_l01In at t0
  refine wcr ?_
  refine asg rfl rfl ?_
  refine wnt ?_
  refine wc_seq ?_
  refine wc_join (X := Unit) (fun _ => True) (fun _ => [(6, .bool ((decide (a_x ≥ a_least)) && (decide (a_x ≤ a_most))))]) (fun _ => []) ?_ ?_
  · skip
    refine wc_region ?_
    refine mv rfl rfl ?_
    refine mv rfl rfl ?_
    refine wl_pure (po_geq rfl rfl) rfl ?_
    refine mv rfl rfl ?_
    refine wl_fork (t := 10) rfl (fun h1 => ?_) fun h1 => ?_
    · skip
      refine wl_guard_on (j := 3) rfl rfl rfl (mv rfl rfl ?_)
      refine wl_guard_on (j := 3) rfl rfl rfl (mv rfl rfl ?_)
      refine wl_guard_on (j := 3) rfl rfl rfl (wl_pure (po_leq rfl rfl) rfl ?_)
      refine wl_pure (po_pick_t rfl rfl) rfl ?_
      refine asg rfl rfl ?_
      refine wl_nil ?_
      exact wq_meet () trivial (sub_b rfl (by rw [h1]; rfl) sub_nil) some_nil
    refine wl_guard_off (j := 3) rfl rfl rfl rfl rfl ?_
    refine wl_guard_off (j := 3) rfl rfl rfl rfl rfl ?_
    refine wl_guard_off (j := 3) rfl rfl rfl rfl rfl ?_
    refine wl_pure (po_pick_f rfl rfl) rfl ?_
    refine asg rfl rfl ?_
    refine wl_nil ?_
    exact wq_meet () trivial (sub_b rfl (by rw [h1]; rfl) sub_nil) some_nil
  intro _ _
  refine wq_then ?_
  refine wc_ret ?_
  obtain rfl := Option.some.inj t0
  exact wq_ret1 rfl rfl fun w hw => ⟨rfl, hw.weak some_nil⟩

theorem c_spec_MembersOk (w : World) (a_list : List GMember) (v0a : Hd) (r0 : rdF w (dm w []) (sl v0a) a_list) {r : Bool} (t0 : spec_MembersOk a_list = some r) : Calls Try.prog 103 #[(sl v0a)] w fun e w' => e = .returned (.bool r) ∧ SH w [] [] w' := by
  refine calls_of_wc (args := [_]) Try.func103 rfl Try.ntmps103 rfl ?_
  unfold spec_MembersOk at t0
  refine wcr ?_
  refine asg rfl rfl ?_
  refine wnt ?_
  refine wc_seq ?_
  refine wcr ?_
  refine asg rfl rfl ?_
  refine wnt ?_
  refine gdO t0 fun g1 t0 => ?_
  refine sqO t0 fun y1 l1 t0 => ?_
  refine wj (J := Unit) (X := Unit) (fun z => y1 = .inl z) (fun _ _ => [(0, (sl v0a))]) (fun _ _ => []) ?_ ?_
  · skip
    refine wc_block ?_
    refine wc_forO (X := Unit) l1 (fun k1 s1 x1l => [(0, (sl v0a)), (3, .int .i64 ((k1 : Nat) : Int))]) (fun k1 s1 x1l => []) () (sub_cons rfl (sub_cons rfl sub_nil)) some_nil fun k1 s1 x1l hN1 l1 => ?_
    by_cases hk1 : k1 < a_list.length
    · skip
      refine forO_step l1 hk1 fun _ t1 l1 => ?_
      unfold spec_MembersOk_L1 at t1
      have c1 : (decide (((k1 : Nat) : Int) < ((a_list.length : Nat) : Int))) = true := decide_eq_true (by omega)
      refine wc_seq ?_
      refine wcr ?_
      refine mv rfl rfl ?_
      refine mv rfl rfl ?_
      refine wl_pure (po_lenr (rds_arg r0) el_33 rfl) rfl ?_
      refine wl_pure (po_lss rfl rfl) rfl ?_
      refine wnt ?_
      refine wc_cond_t rfl c1 ?_
      refine wc_skip ?_
      refine wq_then ?_
      refine wc_seq ?_
      refine wc_block ?_
      refine wcr ?_
      refine mv rfl rfl ?_
      refine mv rfl rfl ?_
      refine wl_pure (po_ixn (k := k1) (rds_arg r0) el_33 rfl rfl hk1) rfl ?_
      refine wl_pure (v := .agg #[.int .i64 ((gx a_list k1).Number), .int .i64 ((gx a_list k1).Since), .int .i64 ((gx a_list k1).Paid)]) (po_ldfs (rds_arg r0) tk_113 rfl hk1 rfl rfl rfl) rfl ?_
      refine wl_eff (eo_alloc (cs := [.int .i64 0, .int .i64 0, .int .i64 0]) za_113) rfl fun b1 => ?_
      refine wl_skipop (so_box (cs' := [.int .i64 ((gx a_list k1).Number), .int .i64 ((gx a_list k1).Since), .int .i64 ((gx a_list k1).Paid)]) tk_113 pick0 rfl rfl rfl rfl rfl rfl rfl) ?_
      refine wnt ?_
      refine wc_seq ?_
      refine bdO t1 fun y2 t2 t1 => ?_
      refine wj (J := Bool) (X := Unit) (fun z => y2 = z) (fun z _ => [(0, (sl v0a)), (3, .int .i64 ((k1 : Nat) : Int)), (48, .bool z)]) (fun _ _ => []) ?_ ?_
      · skip
        refine wc_draw [box b1 [.int .i64 ((gx a_list k1).Number), .int .i64 ((gx a_list k1).Since), .int .i64 ((gx a_list k1).Paid)]] 34 mixed ?_
        refine wa_pure 0 rfl (po_fld fo_113_0 rfl) (some_cons pick0 some_nil) rfl (by kernel_rfl) (fun _ _ _ h => h) ?_
        refine wa_pure (v := .int .i64 ((gx a_list k1).Number)) 1 rfl (po_load_box tk_3 pick0 rfl rfl) (some_cons pick0 some_nil) rfl (by kernel_rfl) (fun _ _ _ h => h) ?_
        refine wa_1 (i := 2) (by kernel_rfl) ?_
        refine bdO t2 fun v1 hv1 t2 => ?_
        refine ws_call rfl (co_c0 fa_70 rfl fun w hw => c_spec_l01In w ((gx a_list k1).Number) 1 999 hv1) (fun _ => (sts_some (some_cons pick0 some_nil))) rfl fun _ => ?_
        refine wa_pure 3 rfl (po_not rfl) (some_cons pick0 some_nil) rfl (by kernel_rfl) (fun _ _ _ h => h) ?_
        refine wa_pure 4 rfl (po_move rfl) (some_cons pick0 some_nil) rfl (by kernel_rfl) (fun _ _ _ h => h) ?_
        refine waO_ (t := 19) t2 rfl (fun h1 t2 => ?_) fun h1 t2 => ?_
        · skip
          refine wa_off 5 (j := 4) rfl rfl rfl rfl rfl (some_cons pick0 some_nil) rfl (by kernel_rfl) (fun _ _ _ h => h) ?_
          refine wa_off 6 (j := 4) rfl rfl rfl rfl rfl (some_cons pick0 some_nil) rfl (by kernel_rfl) (fun _ _ _ h => h) ?_
          refine wa_off 7 (j := 4) rfl rfl rfl rfl rfl (some_cons pick0 some_nil) rfl (by kernel_rfl) (fun _ _ _ h => h) ?_
          refine wa_off 8 (j := 4) rfl rfl rfl rfl rfl (some_cons pick0 some_nil) rfl (by kernel_rfl) (fun _ _ _ h => h) ?_
          refine wa_pure 9 rfl (po_pick_t rfl rfl) (some_cons pick0 some_nil) rfl (by kernel_rfl) (fun _ _ _ h => h) ?_
          refine wa_pure 10 rfl (po_move rfl) (some_cons pick0 some_nil) rfl (by kernel_rfl) (fun _ _ _ h => h) ?_
          refine wa_off 11 (j := 10) rfl rfl rfl rfl rfl (some_cons pick0 some_nil) rfl (by kernel_rfl) (fun _ _ _ h => h) ?_
          refine wa_off 12 (j := 10) rfl rfl rfl rfl rfl (some_cons pick0 some_nil) rfl (by kernel_rfl) (fun _ _ _ h => h) ?_
          refine wa_off 13 (j := 10) rfl rfl rfl rfl rfl (some_cons pick0 some_nil) rfl (by kernel_rfl) (fun _ _ _ h => h) ?_
          refine wa_off 14 (j := 10) rfl rfl rfl rfl rfl (some_cons pick0 some_nil) rfl (by kernel_rfl) (fun _ _ _ h => h) ?_
          refine wa_off 15 (j := 10) rfl rfl rfl rfl rfl (some_cons pick0 some_nil) rfl (by kernel_rfl) (fun _ _ _ h => h) ?_
          refine wa_off 16 (j := 10) rfl rfl rfl rfl rfl (some_cons pick0 some_nil) rfl (by kernel_rfl) (fun _ _ _ h => h) ?_
          refine wa_off 17 (j := 10) rfl rfl rfl rfl rfl (some_cons pick0 some_nil) rfl (by kernel_rfl) (fun _ _ _ h => h) ?_
          refine wa_pure 18 rfl (po_pick_t rfl rfl) (some_cons pick0 some_nil) rfl (by kernel_rfl) (fun _ _ _ h => h) ?_
          refine wa_pure 19 rfl (po_move rfl) (some_cons pick0 some_nil) rfl (by kernel_rfl) (fun _ _ _ h => h) ?_
          refine wa_off 20 (j := 19) rfl rfl rfl rfl rfl (some_cons pick0 some_nil) rfl (by kernel_rfl) (fun _ _ _ h => h) ?_
          refine wa_off 21 (j := 19) rfl rfl rfl rfl rfl (some_cons pick0 some_nil) rfl (by kernel_rfl) (fun _ _ _ h => h) ?_
          refine wa_off 22 (j := 19) rfl rfl rfl rfl rfl (some_cons pick0 some_nil) rfl (by kernel_rfl) (fun _ _ _ h => h) ?_
          refine wa_undef 23 (j := 22) rfl rfl rfl rfl (some_cons pick0 some_nil) rfl (by kernel_rfl) (fun _ _ _ h => h) ?_
          refine wa_undef 24 (j := 22) rfl rfl rfl rfl (some_cons pick0 some_nil) rfl (by kernel_rfl) (fun _ _ _ h => h) ?_
          refine wa_undef 25 (j := 22) rfl rfl rfl rfl (some_cons pick0 some_nil) rfl (by kernel_rfl) (fun _ _ _ h => h) ?_
          refine wa_undef 26 (j := 22) rfl rfl rfl rfl (some_cons pick0 some_nil) rfl (by kernel_rfl) (fun _ _ _ h => h) ?_
          refine wa_undef 27 (j := 22) rfl rfl rfl rfl (some_cons pick0 some_nil) rfl (by kernel_rfl) (fun _ _ _ h => h) ?_
          refine wa_undef 28 (j := 22) rfl rfl rfl rfl (some_cons pick0 some_nil) rfl (by kernel_rfl) (fun _ _ _ h => h) ?_
          refine wa_undef 29 (j := 22) rfl rfl rfl rfl (some_cons pick0 some_nil) rfl (by kernel_rfl) (fun _ _ _ h => h) ?_
          refine wa_undef 30 (j := 22) rfl rfl rfl rfl (some_cons pick0 some_nil) rfl (by kernel_rfl) (fun _ _ _ h => h) ?_
          refine wa_undef 31 (j := 22) rfl rfl rfl rfl (some_cons pick0 some_nil) rfl (by kernel_rfl) (fun _ _ _ h => h) ?_
          refine wa_off 32 (j := 19) rfl rfl rfl rfl rfl (some_cons pick0 some_nil) rfl (by kernel_rfl) (fun _ _ _ h => h) ?_
          refine wa_pure 33 rfl (po_pick_t rfl rfl) (some_cons pick0 some_nil) rfl (by kernel_rfl) (fun _ _ _ h => h) ?_
          refine wa_done (by kernel_rfl) ?_
          exact wj_meet _ () (mtE t2) (sub_cons rfl (sub_cons rfl (sub_cons rfl sub_nil))) some_nil
        refine wa_pure_on 5 (j := 4) rfl rfl rfl rfl (po_fld fo_113_1 rfl) (some_cons pick0 some_nil) rfl (by kernel_rfl) (fun _ _ _ h => h) ?_
        refine wa_pure_on (v := .int .i64 ((gx a_list k1).Since)) 6 (j := 4) rfl rfl rfl rfl (po_load_box tk_3 pick0 rfl rfl) (some_cons pick0 some_nil) rfl (by kernel_rfl) (fun _ _ _ h => h) ?_
        refine wa_1 (i := 7) (by kernel_rfl) ?_
        refine bdO t2 fun v2 hv2 t2 => ?_
        refine ws_call_on (j := 4) rfl rfl rfl rfl (co_c0 fa_70 rfl fun w hw => c_spec_l01In w ((gx a_list k1).Since) 1900 2999 hv2) (fun _ => (sts_some (some_cons pick0 some_nil))) rfl fun _ => ?_
        refine wa_pure_on 8 (j := 4) rfl rfl rfl rfl (po_not rfl) (some_cons pick0 some_nil) rfl (by kernel_rfl) (fun _ _ _ h => h) ?_
        refine wa_pure 9 rfl (po_pick_f rfl rfl) (some_cons pick0 some_nil) rfl (by kernel_rfl) (fun _ _ _ h => h) ?_
        refine wa_pure 10 rfl (po_move rfl) (some_cons pick0 some_nil) rfl (by kernel_rfl) (fun _ _ _ h => h) ?_
        refine waO_ (t := 25) t2 rfl (fun h2 t2 => ?_) fun h2 t2 => ?_
        · skip
          refine wa_off 11 (j := 10) rfl rfl rfl rfl rfl (some_cons pick0 some_nil) rfl (by kernel_rfl) (fun _ _ _ h => h) ?_
          refine wa_off 12 (j := 10) rfl rfl rfl rfl rfl (some_cons pick0 some_nil) rfl (by kernel_rfl) (fun _ _ _ h => h) ?_
          refine wa_off 13 (j := 10) rfl rfl rfl rfl rfl (some_cons pick0 some_nil) rfl (by kernel_rfl) (fun _ _ _ h => h) ?_
          refine wa_off 14 (j := 10) rfl rfl rfl rfl rfl (some_cons pick0 some_nil) rfl (by kernel_rfl) (fun _ _ _ h => h) ?_
          refine wa_off 15 (j := 10) rfl rfl rfl rfl rfl (some_cons pick0 some_nil) rfl (by kernel_rfl) (fun _ _ _ h => h) ?_
          refine wa_off 16 (j := 10) rfl rfl rfl rfl rfl (some_cons pick0 some_nil) rfl (by kernel_rfl) (fun _ _ _ h => h) ?_
          refine wa_off 17 (j := 10) rfl rfl rfl rfl rfl (some_cons pick0 some_nil) rfl (by kernel_rfl) (fun _ _ _ h => h) ?_
          refine wa_pure 18 rfl (po_pick_t rfl rfl) (some_cons pick0 some_nil) rfl (by kernel_rfl) (fun _ _ _ h => h) ?_
          refine wa_pure 19 rfl (po_move rfl) (some_cons pick0 some_nil) rfl (by kernel_rfl) (fun _ _ _ h => h) ?_
          refine wa_off 20 (j := 19) rfl rfl rfl rfl rfl (some_cons pick0 some_nil) rfl (by kernel_rfl) (fun _ _ _ h => h) ?_
          refine wa_off 21 (j := 19) rfl rfl rfl rfl rfl (some_cons pick0 some_nil) rfl (by kernel_rfl) (fun _ _ _ h => h) ?_
          refine wa_off 22 (j := 19) rfl rfl rfl rfl rfl (some_cons pick0 some_nil) rfl (by kernel_rfl) (fun _ _ _ h => h) ?_
          refine wa_undef 23 (j := 22) rfl rfl rfl rfl (some_cons pick0 some_nil) rfl (by kernel_rfl) (fun _ _ _ h => h) ?_
          refine wa_undef 24 (j := 22) rfl rfl rfl rfl (some_cons pick0 some_nil) rfl (by kernel_rfl) (fun _ _ _ h => h) ?_
          refine wa_undef 25 (j := 22) rfl rfl rfl rfl (some_cons pick0 some_nil) rfl (by kernel_rfl) (fun _ _ _ h => h) ?_
          refine wa_undef 26 (j := 22) rfl rfl rfl rfl (some_cons pick0 some_nil) rfl (by kernel_rfl) (fun _ _ _ h => h) ?_
          refine wa_undef 27 (j := 22) rfl rfl rfl rfl (some_cons pick0 some_nil) rfl (by kernel_rfl) (fun _ _ _ h => h) ?_
          refine wa_undef 28 (j := 22) rfl rfl rfl rfl (some_cons pick0 some_nil) rfl (by kernel_rfl) (fun _ _ _ h => h) ?_
          refine wa_undef 29 (j := 22) rfl rfl rfl rfl (some_cons pick0 some_nil) rfl (by kernel_rfl) (fun _ _ _ h => h) ?_
          refine wa_undef 30 (j := 22) rfl rfl rfl rfl (some_cons pick0 some_nil) rfl (by kernel_rfl) (fun _ _ _ h => h) ?_
          refine wa_undef 31 (j := 22) rfl rfl rfl rfl (some_cons pick0 some_nil) rfl (by kernel_rfl) (fun _ _ _ h => h) ?_
          refine wa_off 32 (j := 19) rfl rfl rfl rfl rfl (some_cons pick0 some_nil) rfl (by kernel_rfl) (fun _ _ _ h => h) ?_
          refine wa_pure 33 rfl (po_pick_t rfl rfl) (some_cons pick0 some_nil) rfl (by kernel_rfl) (fun _ _ _ h => h) ?_
          refine wa_done (by kernel_rfl) ?_
          exact wj_meet _ () (mtE t2) (sub_cons rfl (sub_cons rfl (sub_cons rfl sub_nil))) some_nil
        refine wa_pure_on 11 (j := 10) rfl rfl rfl rfl (po_fld fo_113_2 rfl) (some_cons pick0 some_nil) rfl (by kernel_rfl) (fun _ _ _ h => h) ?_
        refine wa_pure_on (v := .int .i64 ((gx a_list k1).Paid)) 12 (j := 10) rfl rfl rfl rfl (po_load_box tk_3 pick0 rfl rfl) (some_cons pick0 some_nil) rfl (by kernel_rfl) (fun _ _ _ h => h) ?_
        refine wa_pure_on 13 (j := 10) rfl rfl rfl rfl (po_fld fo_113_1 rfl) (some_cons pick0 some_nil) rfl (by kernel_rfl) (fun _ _ _ h => h) ?_
        refine wa_pure_on (v := .int .i64 ((gx a_list k1).Since)) 14 (j := 10) rfl rfl rfl rfl (po_load_box tk_3 pick0 rfl rfl) (some_cons pick0 some_nil) rfl (by kernel_rfl) (fun _ _ _ h => h) ?_
        refine wa_pure_on 15 (j := 10) rfl rfl rfl rfl (po_sub rfl rfl) (some_cons pick0 some_nil) rfl (by kernel_rfl) (fun _ _ _ h => h) ?_
        refine wa_1 (i := 16) (by kernel_rfl) ?_
        refine bdO t2 fun v3 hv3 t2 => ?_
        refine ws_call_on (j := 10) rfl rfl rfl rfl (co_c0 fa_70 rfl fun w hw => c_spec_l01In w ((gx a_list k1).Paid) (wr ((gx a_list k1).Since - 1)) 2999 hv3) (fun _ => (sts_some (some_cons pick0 some_nil))) rfl fun _ => ?_
        refine wa_pure_on 17 (j := 10) rfl rfl rfl rfl (po_not rfl) (some_cons pick0 some_nil) rfl (by kernel_rfl) (fun _ _ _ h => h) ?_
        refine wa_pure 18 rfl (po_pick_f rfl rfl) (some_cons pick0 some_nil) rfl (by kernel_rfl) (fun _ _ _ h => h) ?_
        refine wa_pure 19 rfl (po_move rfl) (some_cons pick0 some_nil) rfl (by kernel_rfl) (fun _ _ _ h => h) ?_
        refine waO_ (t := 34) t2 rfl (fun h3 t2 => ?_) fun h3 t2 => ?_
        · skip
          refine wa_off 20 (j := 19) rfl rfl rfl rfl rfl (some_cons pick0 some_nil) rfl (by kernel_rfl) (fun _ _ _ h => h) ?_
          refine wa_off 21 (j := 19) rfl rfl rfl rfl rfl (some_cons pick0 some_nil) rfl (by kernel_rfl) (fun _ _ _ h => h) ?_
          refine wa_off 22 (j := 19) rfl rfl rfl rfl rfl (some_cons pick0 some_nil) rfl (by kernel_rfl) (fun _ _ _ h => h) ?_
          refine wa_undef 23 (j := 22) rfl rfl rfl rfl (some_cons pick0 some_nil) rfl (by kernel_rfl) (fun _ _ _ h => h) ?_
          refine wa_undef 24 (j := 22) rfl rfl rfl rfl (some_cons pick0 some_nil) rfl (by kernel_rfl) (fun _ _ _ h => h) ?_
          refine wa_undef 25 (j := 22) rfl rfl rfl rfl (some_cons pick0 some_nil) rfl (by kernel_rfl) (fun _ _ _ h => h) ?_
          refine wa_undef 26 (j := 22) rfl rfl rfl rfl (some_cons pick0 some_nil) rfl (by kernel_rfl) (fun _ _ _ h => h) ?_
          refine wa_undef 27 (j := 22) rfl rfl rfl rfl (some_cons pick0 some_nil) rfl (by kernel_rfl) (fun _ _ _ h => h) ?_
          refine wa_undef 28 (j := 22) rfl rfl rfl rfl (some_cons pick0 some_nil) rfl (by kernel_rfl) (fun _ _ _ h => h) ?_
          refine wa_undef 29 (j := 22) rfl rfl rfl rfl (some_cons pick0 some_nil) rfl (by kernel_rfl) (fun _ _ _ h => h) ?_
          refine wa_undef 30 (j := 22) rfl rfl rfl rfl (some_cons pick0 some_nil) rfl (by kernel_rfl) (fun _ _ _ h => h) ?_
          refine wa_undef 31 (j := 22) rfl rfl rfl rfl (some_cons pick0 some_nil) rfl (by kernel_rfl) (fun _ _ _ h => h) ?_
          refine wa_off 32 (j := 19) rfl rfl rfl rfl rfl (some_cons pick0 some_nil) rfl (by kernel_rfl) (fun _ _ _ h => h) ?_
          refine wa_pure 33 rfl (po_pick_t rfl rfl) (some_cons pick0 some_nil) rfl (by kernel_rfl) (fun _ _ _ h => h) ?_
          refine wa_done (by kernel_rfl) ?_
          exact wj_meet _ () (mtE t2) (sub_cons rfl (sub_cons rfl (sub_cons rfl sub_nil))) some_nil
        refine wa_pure_on 20 (j := 19) rfl rfl rfl rfl (po_move rfl) (some_cons pick0 some_nil) rfl (by kernel_rfl) (fun _ _ _ h => h) ?_
        refine wa_pure_on 21 (j := 19) rfl rfl rfl rfl (po_gtr rfl rfl) (some_cons pick0 some_nil) rfl (by kernel_rfl) (fun _ _ _ h => h) ?_
        refine wa_pure_on 22 (j := 19) rfl rfl rfl rfl (po_move rfl) (some_cons pick0 some_nil) rfl (by kernel_rfl) (fun _ _ _ h => h) ?_
        refine waO_ (t := 37) t2 rfl (fun h4 t2 => ?_) fun h4 t2 => ?_
        · skip
          refine wa_pure_on 23 (j := 22) rfl rfl rfl rfl (po_fld fo_113_0 rfl) (some_cons pick0 some_nil) rfl (by kernel_rfl) (fun _ _ _ h => h) ?_
          refine wa_pure_on (v := .int .i64 ((gx a_list k1).Number)) 24 (j := 22) rfl rfl rfl rfl (po_load_box tk_3 pick0 rfl rfl) (some_cons pick0 some_nil) rfl (by kernel_rfl) (fun _ _ _ h => h) ?_
          refine wa_pure_on 25 (j := 22) rfl rfl rfl rfl (po_move rfl) (some_cons pick0 some_nil) rfl (by kernel_rfl) (fun _ _ _ h => h) ?_
          refine wa_pure_on 26 (j := 22) rfl rfl rfl rfl (po_move rfl) (some_cons pick0 some_nil) rfl (by kernel_rfl) (fun _ _ _ h => h) ?_
          refine wa_pure_on 27 (j := 22) rfl rfl rfl rfl (po_sub rfl rfl) (some_cons pick0 some_nil) rfl (by kernel_rfl) (fun _ _ _ h => h) ?_
          refine gdO t2 fun g2 t2 => ?_
          refine wa_pure_on 28 (j := 22) rfl rfl rfl rfl (po_ixr (rds_arg r0) el_33 rfl rfl g2.1 g2.2) (some_cons pick0 some_nil) rfl (by kernel_rfl) (fun _ _ _ h => h) ?_
          refine wa_pure_on 29 (j := 22) rfl rfl rfl rfl (po_sfldr (rds_arg r0) (ix_lt g2) fo_113_0 rfl) (some_cons pick0 some_nil) rfl (by kernel_rfl) (fun _ _ _ h => h) ?_
          refine wa_pure_on (v := .int .i64 ((gx a_list (((wr (((k1 : Nat) : Int) - 1))).toNat)).Number)) 30 (j := 22) rfl rfl rfl rfl (po_ldf (rds_arg r0) tk_3 rfl (ix_lt g2) rfl) (some_cons pick0 some_nil) rfl (by kernel_rfl) (fun _ _ _ h => h) ?_
          refine wa_pure_on 31 (j := 22) rfl rfl rfl rfl (po_leq rfl rfl) (some_cons pick0 some_nil) rfl (by kernel_rfl) (fun _ _ _ h => h) ?_
          refine wa_pure_on 32 (j := 19) rfl rfl rfl rfl (po_pick_t rfl rfl) (some_cons pick0 some_nil) rfl (by kernel_rfl) (fun _ _ _ h => h) ?_
          refine wa_pure 33 rfl (po_pick_f rfl rfl) (some_cons pick0 some_nil) rfl (by kernel_rfl) (fun _ _ _ h => h) ?_
          refine wa_done (by kernel_rfl) ?_
          exact wj_meet _ () (mtE t2) (sub_cons rfl (sub_cons rfl (sub_cons rfl sub_nil))) some_nil
        refine wa_off 23 (j := 22) rfl rfl rfl rfl rfl (some_cons pick0 some_nil) rfl (by kernel_rfl) (fun _ _ _ h => h) ?_
        refine wa_off 24 (j := 22) rfl rfl rfl rfl rfl (some_cons pick0 some_nil) rfl (by kernel_rfl) (fun _ _ _ h => h) ?_
        refine wa_off 25 (j := 22) rfl rfl rfl rfl rfl (some_cons pick0 some_nil) rfl (by kernel_rfl) (fun _ _ _ h => h) ?_
        refine wa_off 26 (j := 22) rfl rfl rfl rfl rfl (some_cons pick0 some_nil) rfl (by kernel_rfl) (fun _ _ _ h => h) ?_
        refine wa_off 27 (j := 22) rfl rfl rfl rfl rfl (some_cons pick0 some_nil) rfl (by kernel_rfl) (fun _ _ _ h => h) ?_
        refine wa_off 28 (j := 22) rfl rfl rfl rfl rfl (some_cons pick0 some_nil) rfl (by kernel_rfl) (fun _ _ _ h => h) ?_
        refine wa_off 29 (j := 22) rfl rfl rfl rfl rfl (some_cons pick0 some_nil) rfl (by kernel_rfl) (fun _ _ _ h => h) ?_
        refine wa_off 30 (j := 22) rfl rfl rfl rfl rfl (some_cons pick0 some_nil) rfl (by kernel_rfl) (fun _ _ _ h => h) ?_
        refine wa_off 31 (j := 22) rfl rfl rfl rfl rfl (some_cons pick0 some_nil) rfl (by kernel_rfl) (fun _ _ _ h => h) ?_
        refine wa_pure_on 32 (j := 19) rfl rfl rfl rfl (po_pick_f rfl rfl) (some_cons pick0 some_nil) rfl (by kernel_rfl) (fun _ _ _ h => h) ?_
        refine wa_pure 33 rfl (po_pick_f rfl rfl) (some_cons pick0 some_nil) rfl (by kernel_rfl) (fun _ _ _ h => h) ?_
        refine wa_done (by kernel_rfl) ?_
        exact wj_meet _ () (mtE t2) (sub_cons rfl (sub_cons rfl (sub_cons rfl sub_nil))) some_nil
      intro j1 _ hp
      obtain rfl : j1 = y2 := hp.symm
      refine wq_then ?_
      refine wcO t1 rfl (fun h5 t1 => ?_) fun h5 t1 => ?_
      · skip
        refine wcr ?_
        refine asg rfl rfl ?_
        refine wnt ?_
        refine wc_ret ?_
        refine wq_block_ret ?_
        refine wq_then_ret ?_
        refine wq_then_ret ?_
        refine wq_block_ret ?_
        refine wq_then_ret ?_
        refine wq_then_ret ?_
        replace t0 := lpR t0 l1 t1
        obtain rfl := Option.some.inj t0
        exact wq_ret1 rfl rfl fun w hw => ⟨rfl, hw.weak some_nil⟩
      refine wc_skip ?_
      refine wq_block ?_
      refine wq_then ?_
      refine wc_region ?_
      refine mv rfl rfl ?_
      refine wl_pure (po_inc rfl rfl (by omega)) rfl ?_
      refine asg rfl rfl ?_
      refine wl_nil ?_
      exact wq_rnd hk1 (stpN l1 t1) () (sub_cons rfl (sub_cons rfl sub_nil)) some_nil
    have c1 : (decide (((k1 : Nat) : Int) < ((a_list.length : Nat) : Int))) = false := decide_eq_false (by omega)
    have en1 := forO_end l1 hk1
    refine wc_seq ?_
    refine wcr ?_
    refine mv rfl rfl ?_
    refine mv rfl rfl ?_
    refine wl_pure (po_lenr (rds_arg r0) el_33 rfl) rfl ?_
    refine wl_pure (po_lss rfl rfl) rfl ?_
    refine wnt ?_
    refine wc_cond_f rfl c1 ?_
    refine wc_exit ?_
    refine wq_then_exit ?_
    refine wq_then_exit ?_
    refine wq_block_exit ?_
    exact wj_meet _ () en1 (sub_cons rfl sub_nil) some_nil
  intro e1 _ hp
  replace t0 := sqE (j := e1) t0 hp
  refine wq_then ?_
  refine wcr ?_
  refine mv rfl rfl ?_
  refine wl_pure (po_lenr (rds_arg r0) el_33 rfl) rfl ?_
  refine wl_pure (po_leq rfl rfl) rfl ?_
  refine asg rfl rfl ?_
  refine wnt ?_
  refine wc_ret ?_
  obtain rfl := Option.some.inj t0
  exact wq_ret1 rfl rfl fun w hw => ⟨rfl, hw.weak some_nil⟩

theorem c_spec_StockOk (w : World) (a_stock : List Int) (v0a : Hd) (r0 : rdF w (dm w []) (sl v0a) a_stock) {r : Bool} (t0 : spec_StockOk a_stock = some r) : Calls Try.prog 104 #[(sl v0a)] w fun e w' => e = .returned (.bool r) ∧ SH w [] [] w' := by
  refine calls_of_wc (args := [_]) Try.func104 rfl Try.ntmps104 rfl ?_
  unfold spec_StockOk at t0
  refine wcr ?_
  refine asg rfl rfl ?_
  refine wnt ?_
  refine wc_seq ?_
  refine wcr ?_
  refine asg rfl rfl ?_
  refine wnt ?_
  refine gdO t0 fun g1 t0 => ?_
  refine sqO t0 fun y1 l1 t0 => ?_
  refine wj (J := Unit) (X := Unit) (fun z => y1 = .inl z) (fun _ _ => [(0, (sl v0a))]) (fun _ _ => []) ?_ ?_
  · skip
    refine wc_block ?_
    refine wc_forO (X := Unit) l1 (fun k1 s1 x1l => [(0, (sl v0a)), (3, .int .i64 ((k1 : Nat) : Int))]) (fun k1 s1 x1l => []) () (sub_cons rfl (sub_cons rfl sub_nil)) some_nil fun k1 s1 x1l hN1 l1 => ?_
    by_cases hk1 : k1 < a_stock.length
    · skip
      refine forO_step l1 hk1 fun _ t1 l1 => ?_
      unfold spec_StockOk_L1 at t1
      have c1 : (decide (((k1 : Nat) : Int) < ((a_stock.length : Nat) : Int))) = true := decide_eq_true (by omega)
      refine wc_seq ?_
      refine wcr ?_
      refine mv rfl rfl ?_
      refine mv rfl rfl ?_
      refine wl_pure (po_lenr (rds_arg r0) el_34 rfl) rfl ?_
      refine wl_pure (po_lss rfl rfl) rfl ?_
      refine wnt ?_
      refine wc_cond_t rfl c1 ?_
      refine wc_skip ?_
      refine wq_then ?_
      refine wc_seq ?_
      refine wc_block ?_
      refine wcr ?_
      refine mv rfl rfl ?_
      refine mv rfl rfl ?_
      refine wl_pure (po_ixn (k := k1) (rds_arg r0) el_34 rfl rfl hk1) rfl ?_
      refine wl_pure (v := .int .i64 (gx a_stock k1)) (po_ldf (rds_arg r0) tk_3 rfl hk1 rfl) rfl ?_
      refine bdO t1 fun v1 hv1 t1 => ?_
      refine wl_call (co_c0 fa_70 rfl fun w hw => c_spec_l01In w (gx a_stock k1) 0 1000000 hv1) rfl fun _ => ?_
      refine wl_pure (po_not rfl) rfl ?_
      refine wnt ?_
      refine wcO t1 rfl (fun h1 t1 => ?_) fun h1 t1 => ?_
      · skip
        refine wcr ?_
        refine asg rfl rfl ?_
        refine wnt ?_
        refine wc_ret ?_
        refine wq_block_ret ?_
        refine wq_then_ret ?_
        refine wq_then_ret ?_
        refine wq_block_ret ?_
        refine wq_then_ret ?_
        refine wq_then_ret ?_
        replace t0 := lpR t0 l1 t1
        obtain rfl := Option.some.inj t0
        exact wq_ret1 rfl rfl fun w hw => ⟨rfl, hw.weak some_nil⟩
      refine wc_skip ?_
      refine wq_block ?_
      refine wq_then ?_
      refine wc_region ?_
      refine mv rfl rfl ?_
      refine wl_pure (po_inc rfl rfl (by omega)) rfl ?_
      refine asg rfl rfl ?_
      refine wl_nil ?_
      exact wq_rnd hk1 (stpN l1 t1) () (sub_cons rfl (sub_cons rfl sub_nil)) some_nil
    have c1 : (decide (((k1 : Nat) : Int) < ((a_stock.length : Nat) : Int))) = false := decide_eq_false (by omega)
    have en1 := forO_end l1 hk1
    refine wc_seq ?_
    refine wcr ?_
    refine mv rfl rfl ?_
    refine mv rfl rfl ?_
    refine wl_pure (po_lenr (rds_arg r0) el_34 rfl) rfl ?_
    refine wl_pure (po_lss rfl rfl) rfl ?_
    refine wnt ?_
    refine wc_cond_f rfl c1 ?_
    refine wc_exit ?_
    refine wq_then_exit ?_
    refine wq_then_exit ?_
    refine wq_block_exit ?_
    exact wj_meet _ () en1 (sub_cons rfl sub_nil) some_nil
  intro e1 _ hp
  replace t0 := sqE (j := e1) t0 hp
  refine wq_then ?_
  refine wcr ?_
  refine mv rfl rfl ?_
  refine wl_pure (po_lenr (rds_arg r0) el_34 rfl) rfl ?_
  refine wl_pure (po_eql rfl rfl) rfl ?_
  refine asg rfl rfl ?_
  refine wnt ?_
  refine wc_ret ?_
  obtain rfl := Option.some.inj t0
  exact wq_ret1 rfl rfl fun w hw => ⟨rfl, hw.weak some_nil⟩

theorem c_spec_LedgerOk (w : World) (a_list : List GBooking) (v0a : Hd) (r0 : rdF w (dm w []) (sl v0a) a_list) {r : Bool} (t0 : spec_LedgerOk a_list = some r) : Calls Try.prog 105 #[(sl v0a)] w fun e w' => e = .returned (.bool r) ∧ SH w [] [] w' := by
  refine calls_of_wc (args := [_]) Try.func105 rfl Try.ntmps105 rfl ?_
  unfold spec_LedgerOk at t0
  refine wcr ?_
  refine asg rfl rfl ?_
  refine wnt ?_
  refine wc_seq ?_
  refine wcr ?_
  refine asg rfl rfl ?_
  refine wnt ?_
  refine gdO t0 fun g1 t0 => ?_
  refine sqO t0 fun y1 l1 t0 => ?_
  refine wj (J := Unit) (X := Unit) (fun z => y1 = .inl z) (fun _ _ => [(0, (sl v0a))]) (fun _ _ => []) ?_ ?_
  · skip
    refine wc_block ?_
    refine wc_forO (X := Unit) l1 (fun k1 s1 x1l => [(0, (sl v0a)), (3, .int .i64 ((k1 : Nat) : Int))]) (fun k1 s1 x1l => []) () (sub_cons rfl (sub_cons rfl sub_nil)) some_nil fun k1 s1 x1l hN1 l1 => ?_
    by_cases hk1 : k1 < a_list.length
    · skip
      refine forO_step l1 hk1 fun _ t1 l1 => ?_
      unfold spec_LedgerOk_L1 at t1
      have c1 : (decide (((k1 : Nat) : Int) < ((a_list.length : Nat) : Int))) = true := decide_eq_true (by omega)
      refine wc_seq ?_
      refine wcr ?_
      refine mv rfl rfl ?_
      refine mv rfl rfl ?_
      refine wl_pure (po_lenr (rds_arg r0) el_36 rfl) rfl ?_
      refine wl_pure (po_lss rfl rfl) rfl ?_
      refine wnt ?_
      refine wc_cond_t rfl c1 ?_
      refine wc_skip ?_
      refine wq_then ?_
      refine wc_seq ?_
      refine wc_block ?_
      refine wcr ?_
      refine mv rfl rfl ?_
      refine mv rfl rfl ?_
      refine wl_pure (po_ixn (k := k1) (rds_arg r0) el_36 rfl rfl hk1) rfl ?_
      refine wl_pure (v := .agg #[.int .i64 ((gx a_list k1).Day), .int .i64 ((gx a_list k1).From), .int .i64 ((gx a_list k1).To), .int .i64 ((gx a_list k1).Sum)]) (po_ldfs (rds_arg r0) tk_92 rfl hk1 rfl rfl rfl) rfl ?_
      refine wl_eff (eo_alloc (cs := [.int .i64 0, .int .i64 0, .int .i64 0, .int .i64 0]) za_92) rfl fun b1 => ?_
      refine wl_skipop (so_box (cs' := [.int .i64 ((gx a_list k1).Day), .int .i64 ((gx a_list k1).From), .int .i64 ((gx a_list k1).To), .int .i64 ((gx a_list k1).Sum)]) tk_92 pick0 rfl rfl rfl rfl rfl rfl rfl) ?_
      refine wnt ?_
      refine wc_seq ?_
      refine bdO t1 fun y2 t2 t1 => ?_
      refine wj (J := Bool) (X := Unit) (fun z => y2 = z) (fun z _ => [(0, (sl v0a)), (3, .int .i64 ((k1 : Nat) : Int)), (58, .bool z)]) (fun _ _ => []) ?_ ?_
      · skip
        refine wc_draw [box b1 [.int .i64 ((gx a_list k1).Day), .int .i64 ((gx a_list k1).From), .int .i64 ((gx a_list k1).To), .int .i64 ((gx a_list k1).Sum)]] 44 mixed ?_
        refine wa_pure 0 rfl (po_fld fo_92_0 rfl) (some_cons pick0 some_nil) rfl (by kernel_rfl) (fun _ _ _ h => h) ?_
        refine wa_pure (v := .int .i64 ((gx a_list k1).Day)) 1 rfl (po_load_box tk_3 pick0 rfl rfl) (some_cons pick0 some_nil) rfl (by kernel_rfl) (fun _ _ _ h => h) ?_
        refine wa_1 (i := 2) (by kernel_rfl) ?_
        refine bdO t2 fun v1 hv1 t2 => ?_
        refine ws_call rfl (co_c0 fa_70 rfl fun w hw => c_spec_l01In w ((gx a_list k1).Day) 0 9999 hv1) (fun _ => (sts_some (some_cons pick0 some_nil))) rfl fun _ => ?_
        refine wa_pure 3 rfl (po_not rfl) (some_cons pick0 some_nil) rfl (by kernel_rfl) (fun _ _ _ h => h) ?_
        refine wa_pure 4 rfl (po_move rfl) (some_cons pick0 some_nil) rfl (by kernel_rfl) (fun _ _ _ h => h) ?_
        refine waO_ (t := 19) t2 rfl (fun h1 t2 => ?_) fun h1 t2 => ?_
        · skip
          refine wa_off 5 (j := 4) rfl rfl rfl rfl rfl (some_cons pick0 some_nil) rfl (by kernel_rfl) (fun _ _ _ h => h) ?_
          refine wa_off 6 (j := 4) rfl rfl rfl rfl rfl (some_cons pick0 some_nil) rfl (by kernel_rfl) (fun _ _ _ h => h) ?_
          refine wa_off 7 (j := 4) rfl rfl rfl rfl rfl (some_cons pick0 some_nil) rfl (by kernel_rfl) (fun _ _ _ h => h) ?_
          refine wa_off 8 (j := 4) rfl rfl rfl rfl rfl (some_cons pick0 some_nil) rfl (by kernel_rfl) (fun _ _ _ h => h) ?_
          refine wa_pure 9 rfl (po_pick_t rfl rfl) (some_cons pick0 some_nil) rfl (by kernel_rfl) (fun _ _ _ h => h) ?_
          refine wa_pure 10 rfl (po_move rfl) (some_cons pick0 some_nil) rfl (by kernel_rfl) (fun _ _ _ h => h) ?_
          refine wa_off 11 (j := 10) rfl rfl rfl rfl rfl (some_cons pick0 some_nil) rfl (by kernel_rfl) (fun _ _ _ h => h) ?_
          refine wa_off 12 (j := 10) rfl rfl rfl rfl rfl (some_cons pick0 some_nil) rfl (by kernel_rfl) (fun _ _ _ h => h) ?_
          refine wa_off 13 (j := 10) rfl rfl rfl rfl rfl (some_cons pick0 some_nil) rfl (by kernel_rfl) (fun _ _ _ h => h) ?_
          refine wa_off 14 (j := 10) rfl rfl rfl rfl rfl (some_cons pick0 some_nil) rfl (by kernel_rfl) (fun _ _ _ h => h) ?_
          refine wa_pure 15 rfl (po_pick_t rfl rfl) (some_cons pick0 some_nil) rfl (by kernel_rfl) (fun _ _ _ h => h) ?_
          refine wa_pure 16 rfl (po_move rfl) (some_cons pick0 some_nil) rfl (by kernel_rfl) (fun _ _ _ h => h) ?_
          refine wa_off 17 (j := 16) rfl rfl rfl rfl rfl (some_cons pick0 some_nil) rfl (by kernel_rfl) (fun _ _ _ h => h) ?_
          refine wa_off 18 (j := 16) rfl rfl rfl rfl rfl (some_cons pick0 some_nil) rfl (by kernel_rfl) (fun _ _ _ h => h) ?_
          refine wa_off 19 (j := 16) rfl rfl rfl rfl rfl (some_cons pick0 some_nil) rfl (by kernel_rfl) (fun _ _ _ h => h) ?_
          refine wa_off 20 (j := 16) rfl rfl rfl rfl rfl (some_cons pick0 some_nil) rfl (by kernel_rfl) (fun _ _ _ h => h) ?_
          refine wa_off 21 (j := 16) rfl rfl rfl rfl rfl (some_cons pick0 some_nil) rfl (by kernel_rfl) (fun _ _ _ h => h) ?_
          refine wa_pure 22 rfl (po_pick_t rfl rfl) (some_cons pick0 some_nil) rfl (by kernel_rfl) (fun _ _ _ h => h) ?_
          refine wa_pure 23 rfl (po_move rfl) (some_cons pick0 some_nil) rfl (by kernel_rfl) (fun _ _ _ h => h) ?_
          refine wa_off 24 (j := 23) rfl rfl rfl rfl rfl (some_cons pick0 some_nil) rfl (by kernel_rfl) (fun _ _ _ h => h) ?_
          refine wa_off 25 (j := 23) rfl rfl rfl rfl rfl (some_cons pick0 some_nil) rfl (by kernel_rfl) (fun _ _ _ h => h) ?_
          refine wa_off 26 (j := 23) rfl rfl rfl rfl rfl (some_cons pick0 some_nil) rfl (by kernel_rfl) (fun _ _ _ h => h) ?_
          refine wa_off 27 (j := 23) rfl rfl rfl rfl rfl (some_cons pick0 some_nil) rfl (by kernel_rfl) (fun _ _ _ h => h) ?_
          refine wa_pure 28 rfl (po_pick_t rfl rfl) (some_cons pick0 some_nil) rfl (by kernel_rfl) (fun _ _ _ h => h) ?_
          refine wa_pure 29 rfl (po_move rfl) (some_cons pick0 some_nil) rfl (by kernel_rfl) (fun _ _ _ h => h) ?_
          refine wa_off 30 (j := 29) rfl rfl rfl rfl rfl (some_cons pick0 some_nil) rfl (by kernel_rfl) (fun _ _ _ h => h) ?_
          refine wa_off 31 (j := 29) rfl rfl rfl rfl rfl (some_cons pick0 some_nil) rfl (by kernel_rfl) (fun _ _ _ h => h) ?_
          refine wa_off 32 (j := 29) rfl rfl rfl rfl rfl (some_cons pick0 some_nil) rfl (by kernel_rfl) (fun _ _ _ h => h) ?_
          refine wa_undef 33 (j := 32) rfl rfl rfl rfl (some_cons pick0 some_nil) rfl (by kernel_rfl) (fun _ _ _ h => h) ?_
          refine wa_undef 34 (j := 32) rfl rfl rfl rfl (some_cons pick0 some_nil) rfl (by kernel_rfl) (fun _ _ _ h => h) ?_
          refine wa_undef 35 (j := 32) rfl rfl rfl rfl (some_cons pick0 some_nil) rfl (by kernel_rfl) (fun _ _ _ h => h) ?_
          refine wa_undef 36 (j := 32) rfl rfl rfl rfl (some_cons pick0 some_nil) rfl (by kernel_rfl) (fun _ _ _ h => h) ?_
          refine wa_undef 37 (j := 32) rfl rfl rfl rfl (some_cons pick0 some_nil) rfl (by kernel_rfl) (fun _ _ _ h => h) ?_
          refine wa_undef 38 (j := 32) rfl rfl rfl rfl (some_cons pick0 some_nil) rfl (by kernel_rfl) (fun _ _ _ h => h) ?_
          refine wa_undef 39 (j := 32) rfl rfl rfl rfl (some_cons pick0 some_nil) rfl (by kernel_rfl) (fun _ _ _ h => h) ?_
          refine wa_undef 40 (j := 32) rfl rfl rfl rfl (some_cons pick0 some_nil) rfl (by kernel_rfl) (fun _ _ _ h => h) ?_
          refine wa_undef 41 (j := 32) rfl rfl rfl rfl (some_cons pick0 some_nil) rfl (by kernel_rfl) (fun _ _ _ h => h) ?_
          refine wa_off 42 (j := 29) rfl rfl rfl rfl rfl (some_cons pick0 some_nil) rfl (by kernel_rfl) (fun _ _ _ h => h) ?_
          refine wa_pure 43 rfl (po_pick_t rfl rfl) (some_cons pick0 some_nil) rfl (by kernel_rfl) (fun _ _ _ h => h) ?_
          refine wa_done (by kernel_rfl) ?_
          exact wj_meet _ () (mtE t2) (sub_cons rfl (sub_cons rfl (sub_cons rfl sub_nil))) some_nil
        refine wa_pure_on 5 (j := 4) rfl rfl rfl rfl (po_fld fo_92_1 rfl) (some_cons pick0 some_nil) rfl (by kernel_rfl) (fun _ _ _ h => h) ?_
        refine wa_pure_on (v := .int .i64 ((gx a_list k1).From)) 6 (j := 4) rfl rfl rfl rfl (po_load_box tk_3 pick0 rfl rfl) (some_cons pick0 some_nil) rfl (by kernel_rfl) (fun _ _ _ h => h) ?_
        refine wa_1 (i := 7) (by kernel_rfl) ?_
        refine bdO t2 fun v2 hv2 t2 => ?_
        refine ws_call_on (j := 4) rfl rfl rfl rfl (co_c0 fa_70 rfl fun w hw => c_spec_l01In w ((gx a_list k1).From) 0 4 hv2) (fun _ => (sts_some (some_cons pick0 some_nil))) rfl fun _ => ?_
        refine wa_pure_on 8 (j := 4) rfl rfl rfl rfl (po_not rfl) (some_cons pick0 some_nil) rfl (by kernel_rfl) (fun _ _ _ h => h) ?_
        refine wa_pure 9 rfl (po_pick_f rfl rfl) (some_cons pick0 some_nil) rfl (by kernel_rfl) (fun _ _ _ h => h) ?_
        refine wa_pure 10 rfl (po_move rfl) (some_cons pick0 some_nil) rfl (by kernel_rfl) (fun _ _ _ h => h) ?_
        refine waO_ (t := 25) t2 rfl (fun h2 t2 => ?_) fun h2 t2 => ?_
        · skip
          refine wa_off 11 (j := 10) rfl rfl rfl rfl rfl (some_cons pick0 some_nil) rfl (by kernel_rfl) (fun _ _ _ h => h) ?_
          refine wa_off 12 (j := 10) rfl rfl rfl rfl rfl (some_cons pick0 some_nil) rfl (by kernel_rfl) (fun _ _ _ h => h) ?_
          refine wa_off 13 (j := 10) rfl rfl rfl rfl rfl (some_cons pick0 some_nil) rfl (by kernel_rfl) (fun _ _ _ h => h) ?_
          refine wa_off 14 (j := 10) rfl rfl rfl rfl rfl (some_cons pick0 some_nil) rfl (by kernel_rfl) (fun _ _ _ h => h) ?_
          refine wa_pure 15 rfl (po_pick_t rfl rfl) (some_cons pick0 some_nil) rfl (by kernel_rfl) (fun _ _ _ h => h) ?_
          refine wa_pure 16 rfl (po_move rfl) (some_cons pick0 some_nil) rfl (by kernel_rfl) (fun _ _ _ h => h) ?_
          refine wa_off 17 (j := 16) rfl rfl rfl rfl rfl (some_cons pick0 some_nil) rfl (by kernel_rfl) (fun _ _ _ h => h) ?_
          refine wa_off 18 (j := 16) rfl rfl rfl rfl rfl (some_cons pick0 some_nil) rfl (by kernel_rfl) (fun _ _ _ h => h) ?_
          refine wa_off 19 (j := 16) rfl rfl rfl rfl rfl (some_cons pick0 some_nil) rfl (by kernel_rfl) (fun _ _ _ h => h) ?_
          refine wa_off 20 (j := 16) rfl rfl rfl rfl rfl (some_cons pick0 some_nil) rfl (by kernel_rfl) (fun _ _ _ h => h) ?_
          refine wa_off 21 (j := 16) rfl rfl rfl rfl rfl (some_cons pick0 some_nil) rfl (by kernel_rfl) (fun _ _ _ h => h) ?_
          refine wa_pure 22 rfl (po_pick_t rfl rfl) (some_cons pick0 some_nil) rfl (by kernel_rfl) (fun _ _ _ h => h) ?_
          refine wa_pure 23 rfl (po_move rfl) (some_cons pick0 some_nil) rfl (by kernel_rfl) (fun _ _ _ h => h) ?_
          refine wa_off 24 (j := 23) rfl rfl rfl rfl rfl (some_cons pick0 some_nil) rfl (by kernel_rfl) (fun _ _ _ h => h) ?_
          refine wa_off 25 (j := 23) rfl rfl rfl rfl rfl (some_cons pick0 some_nil) rfl (by kernel_rfl) (fun _ _ _ h => h) ?_
          refine wa_off 26 (j := 23) rfl rfl rfl rfl rfl (some_cons pick0 some_nil) rfl (by kernel_rfl) (fun _ _ _ h => h) ?_
          refine wa_off 27 (j := 23) rfl rfl rfl rfl rfl (some_cons pick0 some_nil) rfl (by kernel_rfl) (fun _ _ _ h => h) ?_
          refine wa_pure 28 rfl (po_pick_t rfl rfl) (some_cons pick0 some_nil) rfl (by kernel_rfl) (fun _ _ _ h => h) ?_
          refine wa_pure 29 rfl (po_move rfl) (some_cons pick0 some_nil) rfl (by kernel_rfl) (fun _ _ _ h => h) ?_
          refine wa_off 30 (j := 29) rfl rfl rfl rfl rfl (some_cons pick0 some_nil) rfl (by kernel_rfl) (fun _ _ _ h => h) ?_
          refine wa_off 31 (j := 29) rfl rfl rfl rfl rfl (some_cons pick0 some_nil) rfl (by kernel_rfl) (fun _ _ _ h => h) ?_
          refine wa_off 32 (j := 29) rfl rfl rfl rfl rfl (some_cons pick0 some_nil) rfl (by kernel_rfl) (fun _ _ _ h => h) ?_
          refine wa_undef 33 (j := 32) rfl rfl rfl rfl (some_cons pick0 some_nil) rfl (by kernel_rfl) (fun _ _ _ h => h) ?_
          refine wa_undef 34 (j := 32) rfl rfl rfl rfl (some_cons pick0 some_nil) rfl (by kernel_rfl) (fun _ _ _ h => h) ?_
          refine wa_undef 35 (j := 32) rfl rfl rfl rfl (some_cons pick0 some_nil) rfl (by kernel_rfl) (fun _ _ _ h => h) ?_
          refine wa_undef 36 (j := 32) rfl rfl rfl rfl (some_cons pick0 some_nil) rfl (by kernel_rfl) (fun _ _ _ h => h) ?_
          refine wa_undef 37 (j := 32) rfl rfl rfl rfl (some_cons pick0 some_nil) rfl (by kernel_rfl) (fun _ _ _ h => h) ?_
          refine wa_undef 38 (j := 32) rfl rfl rfl rfl (some_cons pick0 some_nil) rfl (by kernel_rfl) (fun _ _ _ h => h) ?_
          refine wa_undef 39 (j := 32) rfl rfl rfl rfl (some_cons pick0 some_nil) rfl (by kernel_rfl) (fun _ _ _ h => h) ?_
          refine wa_undef 40 (j := 32) rfl rfl rfl rfl (some_cons pick0 some_nil) rfl (by kernel_rfl) (fun _ _ _ h => h) ?_
          refine wa_undef 41 (j := 32) rfl rfl rfl rfl (some_cons pick0 some_nil) rfl (by kernel_rfl) (fun _ _ _ h => h) ?_
          refine wa_off 42 (j := 29) rfl rfl rfl rfl rfl (some_cons pick0 some_nil) rfl (by kernel_rfl) (fun _ _ _ h => h) ?_
          refine wa_pure 43 rfl (po_pick_t rfl rfl) (some_cons pick0 some_nil) rfl (by kernel_rfl) (fun _ _ _ h => h) ?_
          refine wa_done (by kernel_rfl) ?_
          exact wj_meet _ () (mtE t2) (sub_cons rfl (sub_cons rfl (sub_cons rfl sub_nil))) some_nil
        refine wa_pure_on 11 (j := 10) rfl rfl rfl rfl (po_fld fo_92_2 rfl) (some_cons pick0 some_nil) rfl (by kernel_rfl) (fun _ _ _ h => h) ?_
        refine wa_pure_on (v := .int .i64 ((gx a_list k1).To)) 12 (j := 10) rfl rfl rfl rfl (po_load_box tk_3 pick0 rfl rfl) (some_cons pick0 some_nil) rfl (by kernel_rfl) (fun _ _ _ h => h) ?_
        refine wa_1 (i := 13) (by kernel_rfl) ?_
        refine bdO t2 fun v3 hv3 t2 => ?_
        refine ws_call_on (j := 10) rfl rfl rfl rfl (co_c0 fa_70 rfl fun w hw => c_spec_l01In w ((gx a_list k1).To) 0 4 hv3) (fun _ => (sts_some (some_cons pick0 some_nil))) rfl fun _ => ?_
        refine wa_pure_on 14 (j := 10) rfl rfl rfl rfl (po_not rfl) (some_cons pick0 some_nil) rfl (by kernel_rfl) (fun _ _ _ h => h) ?_
        refine wa_pure 15 rfl (po_pick_f rfl rfl) (some_cons pick0 some_nil) rfl (by kernel_rfl) (fun _ _ _ h => h) ?_
        refine wa_pure 16 rfl (po_move rfl) (some_cons pick0 some_nil) rfl (by kernel_rfl) (fun _ _ _ h => h) ?_
        refine waO_ (t := 31) t2 rfl (fun h3 t2 => ?_) fun h3 t2 => ?_
        · skip
          refine wa_off 17 (j := 16) rfl rfl rfl rfl rfl (some_cons pick0 some_nil) rfl (by kernel_rfl) (fun _ _ _ h => h) ?_
          refine wa_off 18 (j := 16) rfl rfl rfl rfl rfl (some_cons pick0 some_nil) rfl (by kernel_rfl) (fun _ _ _ h => h) ?_
          refine wa_off 19 (j := 16) rfl rfl rfl rfl rfl (some_cons pick0 some_nil) rfl (by kernel_rfl) (fun _ _ _ h => h) ?_
          refine wa_off 20 (j := 16) rfl rfl rfl rfl rfl (some_cons pick0 some_nil) rfl (by kernel_rfl) (fun _ _ _ h => h) ?_
          refine wa_off 21 (j := 16) rfl rfl rfl rfl rfl (some_cons pick0 some_nil) rfl (by kernel_rfl) (fun _ _ _ h => h) ?_
          refine wa_pure 22 rfl (po_pick_t rfl rfl) (some_cons pick0 some_nil) rfl (by kernel_rfl) (fun _ _ _ h => h) ?_
          refine wa_pure 23 rfl (po_move rfl) (some_cons pick0 some_nil) rfl (by kernel_rfl) (fun _ _ _ h => h) ?_
          refine wa_off 24 (j := 23) rfl rfl rfl rfl rfl (some_cons pick0 some_nil) rfl (by kernel_rfl) (fun _ _ _ h => h) ?_
          refine wa_off 25 (j := 23) rfl rfl rfl rfl rfl (some_cons pick0 some_nil) rfl (by kernel_rfl) (fun _ _ _ h => h) ?_
          refine wa_off 26 (j := 23) rfl rfl rfl rfl rfl (some_cons pick0 some_nil) rfl (by kernel_rfl) (fun _ _ _ h => h) ?_
          refine wa_off 27 (j := 23) rfl rfl rfl rfl rfl (some_cons pick0 some_nil) rfl (by kernel_rfl) (fun _ _ _ h => h) ?_
          refine wa_pure 28 rfl (po_pick_t rfl rfl) (some_cons pick0 some_nil) rfl (by kernel_rfl) (fun _ _ _ h => h) ?_
          refine wa_pure 29 rfl (po_move rfl) (some_cons pick0 some_nil) rfl (by kernel_rfl) (fun _ _ _ h => h) ?_
          refine wa_off 30 (j := 29) rfl rfl rfl rfl rfl (some_cons pick0 some_nil) rfl (by kernel_rfl) (fun _ _ _ h => h) ?_
          refine wa_off 31 (j := 29) rfl rfl rfl rfl rfl (some_cons pick0 some_nil) rfl (by kernel_rfl) (fun _ _ _ h => h) ?_
          refine wa_off 32 (j := 29) rfl rfl rfl rfl rfl (some_cons pick0 some_nil) rfl (by kernel_rfl) (fun _ _ _ h => h) ?_
          refine wa_undef 33 (j := 32) rfl rfl rfl rfl (some_cons pick0 some_nil) rfl (by kernel_rfl) (fun _ _ _ h => h) ?_
          refine wa_undef 34 (j := 32) rfl rfl rfl rfl (some_cons pick0 some_nil) rfl (by kernel_rfl) (fun _ _ _ h => h) ?_
          refine wa_undef 35 (j := 32) rfl rfl rfl rfl (some_cons pick0 some_nil) rfl (by kernel_rfl) (fun _ _ _ h => h) ?_
          refine wa_undef 36 (j := 32) rfl rfl rfl rfl (some_cons pick0 some_nil) rfl (by kernel_rfl) (fun _ _ _ h => h) ?_
          refine wa_undef 37 (j := 32) rfl rfl rfl rfl (some_cons pick0 some_nil) rfl (by kernel_rfl) (fun _ _ _ h => h) ?_
          refine wa_undef 38 (j := 32) rfl rfl rfl rfl (some_cons pick0 some_nil) rfl (by kernel_rfl) (fun _ _ _ h => h) ?_
          refine wa_undef 39 (j := 32) rfl rfl rfl rfl (some_cons pick0 some_nil) rfl (by kernel_rfl) (fun _ _ _ h => h) ?_
          refine wa_undef 40 (j := 32) rfl rfl rfl rfl (some_cons pick0 some_nil) rfl (by kernel_rfl) (fun _ _ _ h => h) ?_
          refine wa_undef 41 (j := 32) rfl rfl rfl rfl (some_cons pick0 some_nil) rfl (by kernel_rfl) (fun _ _ _ h => h) ?_
          refine wa_off 42 (j := 29) rfl rfl rfl rfl rfl (some_cons pick0 some_nil) rfl (by kernel_rfl) (fun _ _ _ h => h) ?_
          refine wa_pure 43 rfl (po_pick_t rfl rfl) (some_cons pick0 some_nil) rfl (by kernel_rfl) (fun _ _ _ h => h) ?_
          refine wa_done (by kernel_rfl) ?_
          exact wj_meet _ () (mtE t2) (sub_cons rfl (sub_cons rfl (sub_cons rfl sub_nil))) some_nil
        refine wa_pure_on 17 (j := 16) rfl rfl rfl rfl (po_fld fo_92_1 rfl) (some_cons pick0 some_nil) rfl (by kernel_rfl) (fun _ _ _ h => h) ?_
        refine wa_pure_on (v := .int .i64 ((gx a_list k1).From)) 18 (j := 16) rfl rfl rfl rfl (po_load_box tk_3 pick0 rfl rfl) (some_cons pick0 some_nil) rfl (by kernel_rfl) (fun _ _ _ h => h) ?_
        refine wa_pure_on 19 (j := 16) rfl rfl rfl rfl (po_fld fo_92_2 rfl) (some_cons pick0 some_nil) rfl (by kernel_rfl) (fun _ _ _ h => h) ?_
        refine wa_pure_on (v := .int .i64 ((gx a_list k1).To)) 20 (j := 16) rfl rfl rfl rfl (po_load_box tk_3 pick0 rfl rfl) (some_cons pick0 some_nil) rfl (by kernel_rfl) (fun _ _ _ h => h) ?_
        refine wa_pure_on 21 (j := 16) rfl rfl rfl rfl (po_eql rfl rfl) (some_cons pick0 some_nil) rfl (by kernel_rfl) (fun _ _ _ h => h) ?_
        refine wa_pure 22 rfl (po_pick_f rfl rfl) (some_cons pick0 some_nil) rfl (by kernel_rfl) (fun _ _ _ h => h) ?_
        refine wa_pure 23 rfl (po_move rfl) (some_cons pick0 some_nil) rfl (by kernel_rfl) (fun _ _ _ h => h) ?_
        refine waO_ (t := 38) t2 rfl (fun h4 t2 => ?_) fun h4 t2 => ?_
        · skip
          refine wa_off 24 (j := 23) rfl rfl rfl rfl rfl (some_cons pick0 some_nil) rfl (by kernel_rfl) (fun _ _ _ h => h) ?_
          refine wa_off 25 (j := 23) rfl rfl rfl rfl rfl (some_cons pick0 some_nil) rfl (by kernel_rfl) (fun _ _ _ h => h) ?_
          refine wa_off 26 (j := 23) rfl rfl rfl rfl rfl (some_cons pick0 some_nil) rfl (by kernel_rfl) (fun _ _ _ h => h) ?_
          refine wa_off 27 (j := 23) rfl rfl rfl rfl rfl (some_cons pick0 some_nil) rfl (by kernel_rfl) (fun _ _ _ h => h) ?_
          refine wa_pure 28 rfl (po_pick_t rfl rfl) (some_cons pick0 some_nil) rfl (by kernel_rfl) (fun _ _ _ h => h) ?_
          refine wa_pure 29 rfl (po_move rfl) (some_cons pick0 some_nil) rfl (by kernel_rfl) (fun _ _ _ h => h) ?_
          refine wa_off 30 (j := 29) rfl rfl rfl rfl rfl (some_cons pick0 some_nil) rfl (by kernel_rfl) (fun _ _ _ h => h) ?_
          refine wa_off 31 (j := 29) rfl rfl rfl rfl rfl (some_cons pick0 some_nil) rfl (by kernel_rfl) (fun _ _ _ h => h) ?_
          refine wa_off 32 (j := 29) rfl rfl rfl rfl rfl (some_cons pick0 some_nil) rfl (by kernel_rfl) (fun _ _ _ h => h) ?_
          refine wa_undef 33 (j := 32) rfl rfl rfl rfl (some_cons pick0 some_nil) rfl (by kernel_rfl) (fun _ _ _ h => h) ?_
          refine wa_undef 34 (j := 32) rfl rfl rfl rfl (some_cons pick0 some_nil) rfl (by kernel_rfl) (fun _ _ _ h => h) ?_
          refine wa_undef 35 (j := 32) rfl rfl rfl rfl (some_cons pick0 some_nil) rfl (by kernel_rfl) (fun _ _ _ h => h) ?_
          refine wa_undef 36 (j := 32) rfl rfl rfl rfl (some_cons pick0 some_nil) rfl (by kernel_rfl) (fun _ _ _ h => h) ?_
          refine wa_undef 37 (j := 32) rfl rfl rfl rfl (some_cons pick0 some_nil) rfl (by kernel_rfl) (fun _ _ _ h => h) ?_
          refine wa_undef 38 (j := 32) rfl rfl rfl rfl (some_cons pick0 some_nil) rfl (by kernel_rfl) (fun _ _ _ h => h) ?_
          refine wa_undef 39 (j := 32) rfl rfl rfl rfl (some_cons pick0 some_nil) rfl (by kernel_rfl) (fun _ _ _ h => h) ?_
          refine wa_undef 40 (j := 32) rfl rfl rfl rfl (some_cons pick0 some_nil) rfl (by kernel_rfl) (fun _ _ _ h => h) ?_
          refine wa_undef 41 (j := 32) rfl rfl rfl rfl (some_cons pick0 some_nil) rfl (by kernel_rfl) (fun _ _ _ h => h) ?_
          refine wa_off 42 (j := 29) rfl rfl rfl rfl rfl (some_cons pick0 some_nil) rfl (by kernel_rfl) (fun _ _ _ h => h) ?_
          refine wa_pure 43 rfl (po_pick_t rfl rfl) (some_cons pick0 some_nil) rfl (by kernel_rfl) (fun _ _ _ h => h) ?_
          refine wa_done (by kernel_rfl) ?_
          exact wj_meet _ () (mtE t2) (sub_cons rfl (sub_cons rfl (sub_cons rfl sub_nil))) some_nil
        refine wa_pure_on 24 (j := 23) rfl rfl rfl rfl (po_fld fo_92_3 rfl) (some_cons pick0 some_nil) rfl (by kernel_rfl) (fun _ _ _ h => h) ?_
        refine wa_pure_on (v := .int .i64 ((gx a_list k1).Sum)) 25 (j := 23) rfl rfl rfl rfl (po_load_box tk_3 pick0 rfl rfl) (some_cons pick0 some_nil) rfl (by kernel_rfl) (fun _ _ _ h => h) ?_
        refine wa_1 (i := 26) (by kernel_rfl) ?_
        refine bdO t2 fun v4 hv4 t2 => ?_
        refine ws_call_on (j := 23) rfl rfl rfl rfl (co_c0 fa_70 rfl fun w hw => c_spec_l01In w ((gx a_list k1).Sum) 1 100000 hv4) (fun _ => (sts_some (some_cons pick0 some_nil))) rfl fun _ => ?_
        refine wa_pure_on 27 (j := 23) rfl rfl rfl rfl (po_not rfl) (some_cons pick0 some_nil) rfl (by kernel_rfl) (fun _ _ _ h => h) ?_
        refine wa_pure 28 rfl (po_pick_f rfl rfl) (some_cons pick0 some_nil) rfl (by kernel_rfl) (fun _ _ _ h => h) ?_
        refine wa_pure 29 rfl (po_move rfl) (some_cons pick0 some_nil) rfl (by kernel_rfl) (fun _ _ _ h => h) ?_
        refine waO_ (t := 44) t2 rfl (fun h5 t2 => ?_) fun h5 t2 => ?_
        · skip
          refine wa_off 30 (j := 29) rfl rfl rfl rfl rfl (some_cons pick0 some_nil) rfl (by kernel_rfl) (fun _ _ _ h => h) ?_
          refine wa_off 31 (j := 29) rfl rfl rfl rfl rfl (some_cons pick0 some_nil) rfl (by kernel_rfl) (fun _ _ _ h => h) ?_
          refine wa_off 32 (j := 29) rfl rfl rfl rfl rfl (some_cons pick0 some_nil) rfl (by kernel_rfl) (fun _ _ _ h => h) ?_
          refine wa_undef 33 (j := 32) rfl rfl rfl rfl (some_cons pick0 some_nil) rfl (by kernel_rfl) (fun _ _ _ h => h) ?_
          refine wa_undef 34 (j := 32) rfl rfl rfl rfl (some_cons pick0 some_nil) rfl (by kernel_rfl) (fun _ _ _ h => h) ?_
          refine wa_undef 35 (j := 32) rfl rfl rfl rfl (some_cons pick0 some_nil) rfl (by kernel_rfl) (fun _ _ _ h => h) ?_
          refine wa_undef 36 (j := 32) rfl rfl rfl rfl (some_cons pick0 some_nil) rfl (by kernel_rfl) (fun _ _ _ h => h) ?_
          refine wa_undef 37 (j := 32) rfl rfl rfl rfl (some_cons pick0 some_nil) rfl (by kernel_rfl) (fun _ _ _ h => h) ?_
          refine wa_undef 38 (j := 32) rfl rfl rfl rfl (some_cons pick0 some_nil) rfl (by kernel_rfl) (fun _ _ _ h => h) ?_
          refine wa_undef 39 (j := 32) rfl rfl rfl rfl (some_cons pick0 some_nil) rfl (by kernel_rfl) (fun _ _ _ h => h) ?_
          refine wa_undef 40 (j := 32) rfl rfl rfl rfl (some_cons pick0 some_nil) rfl (by kernel_rfl) (fun _ _ _ h => h) ?_
          refine wa_undef 41 (j := 32) rfl rfl rfl rfl (some_cons pick0 some_nil) rfl (by kernel_rfl) (fun _ _ _ h => h) ?_
          refine wa_off 42 (j := 29) rfl rfl rfl rfl rfl (some_cons pick0 some_nil) rfl (by kernel_rfl) (fun _ _ _ h => h) ?_
          refine wa_pure 43 rfl (po_pick_t rfl rfl) (some_cons pick0 some_nil) rfl (by kernel_rfl) (fun _ _ _ h => h) ?_
          refine wa_done (by kernel_rfl) ?_
          exact wj_meet _ () (mtE t2) (sub_cons rfl (sub_cons rfl (sub_cons rfl sub_nil))) some_nil
        refine wa_pure_on 30 (j := 29) rfl rfl rfl rfl (po_move rfl) (some_cons pick0 some_nil) rfl (by kernel_rfl) (fun _ _ _ h => h) ?_
        refine wa_pure_on 31 (j := 29) rfl rfl rfl rfl (po_gtr rfl rfl) (some_cons pick0 some_nil) rfl (by kernel_rfl) (fun _ _ _ h => h) ?_
        refine wa_pure_on 32 (j := 29) rfl rfl rfl rfl (po_move rfl) (some_cons pick0 some_nil) rfl (by kernel_rfl) (fun _ _ _ h => h) ?_
        refine waO_ (t := 47) t2 rfl (fun h6 t2 => ?_) fun h6 t2 => ?_
        · skip
          refine wa_pure_on 33 (j := 32) rfl rfl rfl rfl (po_fld fo_92_0 rfl) (some_cons pick0 some_nil) rfl (by kernel_rfl) (fun _ _ _ h => h) ?_
          refine wa_pure_on (v := .int .i64 ((gx a_list k1).Day)) 34 (j := 32) rfl rfl rfl rfl (po_load_box tk_3 pick0 rfl rfl) (some_cons pick0 some_nil) rfl (by kernel_rfl) (fun _ _ _ h => h) ?_
          refine wa_pure_on 35 (j := 32) rfl rfl rfl rfl (po_move rfl) (some_cons pick0 some_nil) rfl (by kernel_rfl) (fun _ _ _ h => h) ?_
          refine wa_pure_on 36 (j := 32) rfl rfl rfl rfl (po_move rfl) (some_cons pick0 some_nil) rfl (by kernel_rfl) (fun _ _ _ h => h) ?_
          refine wa_pure_on 37 (j := 32) rfl rfl rfl rfl (po_sub rfl rfl) (some_cons pick0 some_nil) rfl (by kernel_rfl) (fun _ _ _ h => h) ?_
          refine gdO t2 fun g2 t2 => ?_
          refine wa_pure_on 38 (j := 32) rfl rfl rfl rfl (po_ixr (rds_arg r0) el_36 rfl rfl g2.1 g2.2) (some_cons pick0 some_nil) rfl (by kernel_rfl) (fun _ _ _ h => h) ?_
          refine wa_pure_on 39 (j := 32) rfl rfl rfl rfl (po_sfldr (rds_arg r0) (ix_lt g2) fo_92_0 rfl) (some_cons pick0 some_nil) rfl (by kernel_rfl) (fun _ _ _ h => h) ?_
          refine wa_pure_on (v := .int .i64 ((gx a_list (((wr (((k1 : Nat) : Int) - 1))).toNat)).Day)) 40 (j := 32) rfl rfl rfl rfl (po_ldf (rds_arg r0) tk_3 rfl (ix_lt g2) rfl) (some_cons pick0 some_nil) rfl (by kernel_rfl) (fun _ _ _ h => h) ?_
          refine wa_pure_on 41 (j := 32) rfl rfl rfl rfl (po_lss rfl rfl) (some_cons pick0 some_nil) rfl (by kernel_rfl) (fun _ _ _ h => h) ?_
          refine wa_pure_on 42 (j := 29) rfl rfl rfl rfl (po_pick_t rfl rfl) (some_cons pick0 some_nil) rfl (by kernel_rfl) (fun _ _ _ h => h) ?_
          refine wa_pure 43 rfl (po_pick_f rfl rfl) (some_cons pick0 some_nil) rfl (by kernel_rfl) (fun _ _ _ h => h) ?_
          refine wa_done (by kernel_rfl) ?_
          exact wj_meet _ () (mtE t2) (sub_cons rfl (sub_cons rfl (sub_cons rfl sub_nil))) some_nil
        refine wa_off 33 (j := 32) rfl rfl rfl rfl rfl (some_cons pick0 some_nil) rfl (by kernel_rfl) (fun _ _ _ h => h) ?_
        refine wa_off 34 (j := 32) rfl rfl rfl rfl rfl (some_cons pick0 some_nil) rfl (by kernel_rfl) (fun _ _ _ h => h) ?_
        refine wa_off 35 (j := 32) rfl rfl rfl rfl rfl (some_cons pick0 some_nil) rfl (by kernel_rfl) (fun _ _ _ h => h) ?_
        refine wa_off 36 (j := 32) rfl rfl rfl rfl rfl (some_cons pick0 some_nil) rfl (by kernel_rfl) (fun _ _ _ h => h) ?_
        refine wa_off 37 (j := 32) rfl rfl rfl rfl rfl (some_cons pick0 some_nil) rfl (by kernel_rfl) (fun _ _ _ h => h) ?_
        refine wa_off 38 (j := 32) rfl rfl rfl rfl rfl (some_cons pick0 some_nil) rfl (by kernel_rfl) (fun _ _ _ h => h) ?_
        refine wa_off 39 (j := 32) rfl rfl rfl rfl rfl (some_cons pick0 some_nil) rfl (by kernel_rfl) (fun _ _ _ h => h) ?_
        refine wa_off 40 (j := 32) rfl rfl rfl rfl rfl (some_cons pick0 some_nil) rfl (by kernel_rfl) (fun _ _ _ h => h) ?_
        refine wa_off 41 (j := 32) rfl rfl rfl rfl rfl (some_cons pick0 some_nil) rfl (by kernel_rfl) (fun _ _ _ h => h) ?_
        refine wa_pure_on 42 (j := 29) rfl rfl rfl rfl (po_pick_f rfl rfl) (some_cons pick0 some_nil) rfl (by kernel_rfl) (fun _ _ _ h => h) ?_
        refine wa_pure 43 rfl (po_pick_f rfl rfl) (some_cons pick0 some_nil) rfl (by kernel_rfl) (fun _ _ _ h => h) ?_
        refine wa_done (by kernel_rfl) ?_
        exact wj_meet _ () (mtE t2) (sub_cons rfl (sub_cons rfl (sub_cons rfl sub_nil))) some_nil
      intro j1 _ hp
      obtain rfl : j1 = y2 := hp.symm
      refine wq_then ?_
      refine wcO t1 rfl (fun h7 t1 => ?_) fun h7 t1 => ?_
      · skip
        refine wcr ?_
        refine asg rfl rfl ?_
        refine wnt ?_
        refine wc_ret ?_
        refine wq_block_ret ?_
        refine wq_then_ret ?_
        refine wq_then_ret ?_
        refine wq_block_ret ?_
        refine wq_then_ret ?_
        refine wq_then_ret ?_
        replace t0 := lpR t0 l1 t1
        obtain rfl := Option.some.inj t0
        exact wq_ret1 rfl rfl fun w hw => ⟨rfl, hw.weak some_nil⟩
      refine wc_skip ?_
      refine wq_block ?_
      refine wq_then ?_
      refine wc_region ?_
      refine mv rfl rfl ?_
      refine wl_pure (po_inc rfl rfl (by omega)) rfl ?_
      refine asg rfl rfl ?_
      refine wl_nil ?_
      exact wq_rnd hk1 (stpN l1 t1) () (sub_cons rfl (sub_cons rfl sub_nil)) some_nil
    have c1 : (decide (((k1 : Nat) : Int) < ((a_list.length : Nat) : Int))) = false := decide_eq_false (by omega)
    have en1 := forO_end l1 hk1
    refine wc_seq ?_
    refine wcr ?_
    refine mv rfl rfl ?_
    refine mv rfl rfl ?_
    refine wl_pure (po_lenr (rds_arg r0) el_36 rfl) rfl ?_
    refine wl_pure (po_lss rfl rfl) rfl ?_
    refine wnt ?_
    refine wc_cond_f rfl c1 ?_
    refine wc_exit ?_
    refine wq_then_exit ?_
    refine wq_then_exit ?_
    refine wq_block_exit ?_
    exact wj_meet _ () en1 (sub_cons rfl sub_nil) some_nil
  intro e1 _ hp
  replace t0 := sqE (j := e1) t0 hp
  refine wq_then ?_
  refine wcr ?_
  refine mv rfl rfl ?_
  refine wl_pure (po_lenr (rds_arg r0) el_36 rfl) rfl ?_
  refine wl_pure (po_leq rfl rfl) rfl ?_
  refine asg rfl rfl ?_
  refine wnt ?_
  refine wc_ret ?_
  obtain rfl := Option.some.inj t0
  exact wq_ret1 rfl rfl fun w hw => ⟨rfl, hw.weak some_nil⟩

theorem c_spec_CellOk (w : World) (a_c : GCell) {r : Bool} (t0 : spec_CellOk a_c = some r) : Calls Try.prog 123 #[.agg #[.int .i64 a_c.Split, .int .i64 a_c.A, .int .i64 a_c.B]] w fun e w' => e = .returned (.bool r) ∧ SH w [] [] w' := by
  refine calls_of_wc (args := [_]) Try.func123 rfl Try.ntmps123 rfl ?_
  unfold spec_CellOk at t0
  refine wcr ?_
  refine wl_eff (eo_box rfl rfl) rfl fun b1 => ?_
  refine asg rfl rfl ?_
  refine wnt ?_
  refine wc_seq ?_
  refine wc_seq ?_
  refine bdO t0 fun y1 t1 t0 => ?_
  refine wj (J := Bool) (X := Unit) (fun z => y1 = z) (fun z _ => [(1, ptr b1 0), (18, .bool z)]) (fun _ _ => [box b1 [.int .i64 a_c.Split, .int .i64 a_c.A, .int .i64 a_c.B]]) ?_ ?_
  · skip
    refine wc_region ?_
    refine wl_pure (po_fld fo_99_0 rfl) rfl ?_
    refine wl_pure (v := .int .i64 a_c.Split) (po_load_box tk_3 pick0 rfl rfl) rfl ?_
    refine bdO t1 fun v1 hv1 t1 => ?_
    refine wl_call (co_c0 fa_70 rfl fun w hw => c_spec_l01In w a_c.Split 0 2 hv1) rfl fun _ => ?_
    refine wl_pure (po_not rfl) rfl ?_
    refine mv rfl rfl ?_
    refine wlO_ (t := 7) t1 rfl (fun h1 t1 => ?_) fun h1 t1 => ?_
    · skip
      refine wl_guard_off (j := 4) rfl rfl rfl rfl rfl ?_
      refine wl_guard_off (j := 4) rfl rfl rfl rfl rfl ?_
      refine wl_guard_off (j := 4) rfl rfl rfl rfl rfl ?_
      refine wl_guard_off (j := 4) rfl rfl rfl rfl rfl ?_
      refine wl_pure (po_pick_t rfl rfl) rfl ?_
      refine mv rfl rfl ?_
      refine wl_guard_off (j := 10) rfl rfl rfl rfl rfl ?_
      refine wl_guard_off (j := 10) rfl rfl rfl rfl rfl ?_
      refine wl_guard_off (j := 10) rfl rfl rfl rfl rfl ?_
      refine wl_guard_off (j := 10) rfl rfl rfl rfl rfl ?_
      refine wl_pure (po_pick_t rfl rfl) rfl ?_
      refine wl_nil ?_
      exact wj_meet _ () (mtE t1) (sub_cons rfl (sub_cons rfl sub_nil)) (some_cons pick0 some_nil)
    refine wl_guard_on (j := 4) rfl rfl rfl (wl_pure (po_fld fo_99_1 rfl) rfl ?_)
    refine wl_guard_on (j := 4) rfl rfl rfl (wl_pure (v := .int .i64 a_c.A) (po_load_box tk_3 pick0 rfl rfl) rfl ?_)
    refine bdO t1 fun v2 hv2 t1 => ?_
    refine wl_guard_on (j := 4) rfl rfl rfl (wl_call (co_c0 fa_70 rfl fun w hw => c_spec_l01In w a_c.A 0 5 hv2) rfl (fun _ => ?_))
    refine wl_guard_on (j := 4) rfl rfl rfl (wl_pure (po_not rfl) rfl ?_)
    refine wl_pure (po_pick_f rfl rfl) rfl ?_
    refine mv rfl rfl ?_
    refine wlO_ (t := 13) t1 rfl (fun h2 t1 => ?_) fun h2 t1 => ?_
    · skip
      refine wl_guard_off (j := 10) rfl rfl rfl rfl rfl ?_
      refine wl_guard_off (j := 10) rfl rfl rfl rfl rfl ?_
      refine wl_guard_off (j := 10) rfl rfl rfl rfl rfl ?_
      refine wl_guard_off (j := 10) rfl rfl rfl rfl rfl ?_
      refine wl_pure (po_pick_t rfl rfl) rfl ?_
      refine wl_nil ?_
      exact wj_meet _ () (mtE t1) (sub_cons rfl (sub_cons rfl sub_nil)) (some_cons pick0 some_nil)
    refine wl_guard_on (j := 10) rfl rfl rfl (wl_pure (po_fld fo_99_2 rfl) rfl ?_)
    refine wl_guard_on (j := 10) rfl rfl rfl (wl_pure (v := .int .i64 a_c.B) (po_load_box tk_3 pick0 rfl rfl) rfl ?_)
    refine bdO t1 fun v3 hv3 t1 => ?_
    refine wl_guard_on (j := 10) rfl rfl rfl (wl_call (co_c0 fa_70 rfl fun w hw => c_spec_l01In w a_c.B 0 5 hv3) rfl (fun _ => ?_))
    refine wl_guard_on (j := 10) rfl rfl rfl (wl_pure (po_not rfl) rfl ?_)
    refine wl_pure (po_pick_f rfl rfl) rfl ?_
    refine wl_nil ?_
    exact wj_meet _ () (mtE t1) (sub_cons rfl (sub_cons rfl sub_nil)) (some_cons pick0 some_nil)
  intro j1 _ hp
  obtain rfl : j1 = y1 := hp.symm
  refine wq_then ?_
  refine wcO t0 rfl (fun h3 t0 => ?_) fun h3 t0 => ?_
  · skip
    refine wcr ?_
    refine asg rfl rfl ?_
    refine wnt ?_
    refine wc_ret ?_
    refine wq_then_ret ?_
    obtain rfl := Option.some.inj t0
    exact wq_ret1 rfl rfl fun w hw => ⟨rfl, hw.weak some_nil⟩
  refine wc_skip ?_
  refine wq_then ?_
  refine wcr ?_
  refine wl_pure (po_fld fo_99_0 rfl) rfl ?_
  refine wl_pure (v := .int .i64 a_c.Split) (po_load_box tk_3 pick0 rfl rfl) rfl ?_
  refine wl_pure (po_eql rfl rfl) rfl ?_
  refine wl_pure (po_fld fo_99_1 rfl) rfl ?_
  refine wl_pure (v := .int .i64 a_c.A) (po_load_box tk_3 pick0 rfl rfl) rfl ?_
  refine wl_pure (po_fld fo_99_2 rfl) rfl ?_
  refine wl_pure (v := .int .i64 a_c.B) (po_load_box tk_3 pick0 rfl rfl) rfl ?_
  refine wl_pure (po_eql rfl rfl) rfl ?_
  refine wl_pure (po_eql_bool ub_4 rfl rfl) rfl ?_
  refine asg rfl rfl ?_
  refine wnt ?_
  refine wc_ret ?_
  obtain rfl := Option.some.inj t0
  exact wq_ret1 rfl rfl fun w hw => ⟨rfl, hw.weak some_nil⟩

theorem c_spec_BlockOk (w : World) (a_b : GBlock) (v0a : Hd) (r0 : rdF w (dm w []) (sl v0a) a_b.Cells) {r : Bool} (t0 : spec_BlockOk a_b = some r) : Calls Try.prog 83 #[.agg #[.int .i64 a_b.Size, (sl v0a)]] w fun e w' => e = .returned (.bool r) ∧ SH w [] [] w' := by
  refine calls_of_wc (args := [_]) Try.func83 rfl Try.ntmps83 rfl ?_
  unfold spec_BlockOk at t0
  refine wcr ?_
  refine wl_eff (eo_box rfl rfl) rfl fun b1 => ?_
  refine asg rfl rfl ?_
  refine wnt ?_
  refine wc_seq ?_
  refine wc_seq ?_
  refine bdO t0 fun y1 t1 t0 => ?_
  refine wj (J := Bool) (X := Unit) (fun z => y1 = z) (fun z _ => [(1, ptr b1 0), (18, .bool z)]) (fun _ _ => [box b1 [.int .i64 a_b.Size, (sl v0a)]]) ?_ ?_
  · skip
    refine wc_region ?_
    refine wl_pure (po_fld fo_29_0 rfl) rfl ?_
    refine wl_pure (v := .int .i64 a_b.Size) (po_load_box tk_3 pick0 rfl rfl) rfl ?_
    refine bdO t1 fun v1 hv1 t1 => ?_
    refine wl_call (co_c0 fa_70 rfl fun w hw => c_spec_l01In w a_b.Size 1 4 hv1) rfl fun _ => ?_
    refine wl_pure (po_not rfl) rfl ?_
    refine mv rfl rfl ?_
    refine wlO_ (t := 8) t1 rfl (fun h1 t1 => ?_) fun h1 t1 => ?_
    · skip
      refine wl_guard_off (j := 4) rfl rfl rfl rfl rfl ?_
      refine wl_guard_off (j := 4) rfl rfl rfl rfl rfl ?_
      refine wl_guard_off (j := 4) rfl rfl rfl rfl rfl ?_
      refine wl_guard_off (j := 4) rfl rfl rfl rfl rfl ?_
      refine wl_guard_off (j := 4) rfl rfl rfl rfl rfl ?_
      refine wl_guard_off (j := 4) rfl rfl rfl rfl rfl ?_
      refine wl_guard_off (j := 4) rfl rfl rfl rfl rfl ?_
      refine wl_guard_off (j := 4) rfl rfl rfl rfl rfl ?_
      refine wl_guard_off (j := 4) rfl rfl rfl rfl rfl ?_
      refine wl_pure (po_pick_t rfl rfl) rfl ?_
      refine wl_nil ?_
      exact wj_meet _ () (mtE t1) (sub_cons rfl (sub_cons rfl sub_nil)) (some_cons pick0 some_nil)
    refine wl_guard_on (j := 4) rfl rfl rfl (wl_pure (po_fld fo_29_1 rfl) rfl ?_)
    refine wl_guard_on (j := 4) rfl rfl rfl (wl_pure (v := (sl v0a)) (po_load_box tk_27 pick0 rfl rfl) rfl ?_)
    refine wl_guard_on (j := 4) rfl rfl rfl (wl_pure (po_lenr (rds_arg r0) el_27 rfl) rfl ?_)
    refine wl_guard_on (j := 4) rfl rfl rfl (wl_pure (po_fld fo_29_0 rfl) rfl ?_)
    refine wl_guard_on (j := 4) rfl rfl rfl (wl_pure (v := .int .i64 a_b.Size) (po_load_box tk_3 pick0 rfl rfl) rfl ?_)
    refine wl_guard_on (j := 4) rfl rfl rfl (wl_pure (po_fld fo_29_0 rfl) rfl ?_)
    refine wl_guard_on (j := 4) rfl rfl rfl (wl_pure (v := .int .i64 a_b.Size) (po_load_box tk_3 pick0 rfl rfl) rfl ?_)
    refine wl_guard_on (j := 4) rfl rfl rfl (wl_pure (po_mul rfl rfl) rfl ?_)
    refine wl_guard_on (j := 4) rfl rfl rfl (wl_pure (po_neq rfl rfl) rfl ?_)
    refine wl_pure (po_pick_f rfl rfl) rfl ?_
    refine wl_nil ?_
    exact wj_meet _ () (mtE t1) (sub_cons rfl (sub_cons rfl sub_nil)) (some_cons pick0 some_nil)
  intro j1 _ hp
  obtain rfl : j1 = y1 := hp.symm
  refine wq_then ?_
  refine wcO t0 rfl (fun h2 t0 => ?_) fun h2 t0 => ?_
  · skip
    refine wcr ?_
    refine asg rfl rfl ?_
    refine wnt ?_
    refine wc_ret ?_
    refine wq_then_ret ?_
    obtain rfl := Option.some.inj t0
    exact wq_ret1 rfl rfl fun w hw => ⟨rfl, hw.weak some_nil⟩
  refine wc_skip ?_
  refine wq_then ?_
  refine wc_seq ?_
  refine wcr ?_
  refine asg rfl rfl ?_
  refine wnt ?_
  refine gdO t0 fun g1 t0 => ?_
  refine sqO t0 fun y1 l1 t0 => ?_
  refine wj (J := Unit) (X := Unit) (fun z => y1 = .inl z) (fun _ _ => []) (fun _ _ => []) ?_ ?_
  · skip
    refine wc_block ?_
    refine wc_forO (X := Unit) l1 (fun k1 s1 x1l => [(1, ptr b1 0), (3, .int .i64 ((k1 : Nat) : Int))]) (fun k1 s1 x1l => [box b1 [.int .i64 a_b.Size, (sl v0a)]]) () (sub_cons rfl (sub_cons rfl sub_nil)) (some_cons pick0 some_nil) fun k1 s1 x1l hN1 l1 => ?_
    by_cases hk1 : k1 < a_b.Cells.length
    · skip
      refine forO_step l1 hk1 fun _ t1 l1 => ?_
      unfold spec_BlockOk_L1 at t1
      have c1 : (decide (((k1 : Nat) : Int) < ((a_b.Cells.length : Nat) : Int))) = true := decide_eq_true (by omega)
      refine wc_seq ?_
      refine wcr ?_
      refine mv rfl rfl ?_
      refine wl_pure (po_fld fo_29_1 rfl) rfl ?_
      refine wl_pure (v := (sl v0a)) (po_load_box tk_27 pick0 rfl rfl) rfl ?_
      refine wl_pure (po_lenr (rds_arg r0) el_27 rfl) rfl ?_
      refine wl_pure (po_lss rfl rfl) rfl ?_
      refine wnt ?_
      refine wc_cond_t rfl c1 ?_
      refine wc_skip ?_
      refine wq_then ?_
      refine wc_seq ?_
      refine wc_block ?_
      refine wcr ?_
      refine wl_pure (po_fld fo_29_1 rfl) rfl ?_
      refine wl_pure (v := (sl v0a)) (po_load_box tk_27 pick0 rfl rfl) rfl ?_
      refine mv rfl rfl ?_
      refine wl_pure (po_ixn (k := k1) (rds_arg r0) el_27 rfl rfl hk1) rfl ?_
      refine wl_pure (v := .agg #[.int .i64 ((gx a_b.Cells k1).Split), .int .i64 ((gx a_b.Cells k1).A), .int .i64 ((gx a_b.Cells k1).B)]) (po_ldfs (rds_arg r0) tk_99 rfl hk1 rfl rfl rfl) rfl ?_
      refine bdO t1 fun v2 hv2 t1 => ?_
      refine wl_call (co_c0 fa_123 rfl fun w hw => c_spec_CellOk w (gx a_b.Cells k1) hv2) rfl fun _ => ?_
      refine wl_pure (po_not rfl) rfl ?_
      refine wnt ?_
      refine wcO t1 rfl (fun h3 t1 => ?_) fun h3 t1 => ?_
      · skip
        refine wcr ?_
        refine asg rfl rfl ?_
        refine wnt ?_
        refine wc_ret ?_
        refine wq_block_ret ?_
        refine wq_then_ret ?_
        refine wq_then_ret ?_
        refine wq_block_ret ?_
        refine wq_then_ret ?_
        refine wq_then_ret ?_
        replace t0 := lpR t0 l1 t1
        obtain rfl := Option.some.inj t0
        exact wq_ret1 rfl rfl fun w hw => ⟨rfl, hw.weak some_nil⟩
      refine wc_skip ?_
      refine wq_block ?_
      refine wq_then ?_
      refine wc_region ?_
      refine mv rfl rfl ?_
      refine wl_pure (po_inc rfl rfl (by omega)) rfl ?_
      refine asg rfl rfl ?_
      refine wl_nil ?_
      exact wq_rnd hk1 (stpN l1 t1) () (sub_cons rfl (sub_cons rfl sub_nil)) (some_cons pick0 some_nil)
    have c1 : (decide (((k1 : Nat) : Int) < ((a_b.Cells.length : Nat) : Int))) = false := decide_eq_false (by omega)
    have en1 := forO_end l1 hk1
    refine wc_seq ?_
    refine wcr ?_
    refine mv rfl rfl ?_
    refine wl_pure (po_fld fo_29_1 rfl) rfl ?_
    refine wl_pure (v := (sl v0a)) (po_load_box tk_27 pick0 rfl rfl) rfl ?_
    refine wl_pure (po_lenr (rds_arg r0) el_27 rfl) rfl ?_
    refine wl_pure (po_lss rfl rfl) rfl ?_
    refine wnt ?_
    refine wc_cond_f rfl c1 ?_
    refine wc_exit ?_
    refine wq_then_exit ?_
    refine wq_then_exit ?_
    refine wq_block_exit ?_
    exact wj_meet _ () en1 sub_nil some_nil
  intro e1 _ hp
  replace t0 := sqE (j := e1) t0 hp
  refine wq_then ?_
  refine wcr ?_
  refine asg rfl rfl ?_
  refine wnt ?_
  refine wc_ret ?_
  obtain rfl := Option.some.inj t0
  exact wq_ret1 rfl rfl fun w hw => ⟨rfl, hw.weak some_nil⟩

theorem c_spec_EntryOk (w : World) (a_e : GEntry) (v0a : Hd) (r0 : rdF w (dm w []) (sl v0a) a_e.Block.Cells) {r : Bool} (t0 : spec_EntryOk a_e = some r) : Calls Try.prog 106 #[.agg #[.int .i64 a_e.Owner, .int .i64 a_e.Day, .int .i64 a_e.Block.Size, (sl v0a)]] w fun e w' => e = .returned (.bool r) ∧ SH w [] [] w' := by
  refine calls_of_wc (args := [_]) Try.func106 rfl Try.ntmps106 rfl ?_
  unfold spec_EntryOk at t0
  refine wcr ?_
  refine wl_eff (eo_box rfl rfl) rfl fun b1 => ?_
  refine asg rfl rfl ?_
  refine wnt ?_
  refine wc_seq ?_
  refine bdO t0 fun y1 t1 t0 => ?_
  refine wj (J := Bool) (X := Unit) (fun z => y1 = z) (fun z _ => [(2, .bool z)]) (fun _ _ => []) ?_ ?_
  · skip
    refine wc_region ?_
    refine wl_pure (po_fld fo_88_0 rfl) rfl ?_
    refine wl_pure (v := .int .i64 a_e.Owner) (po_load_box tk_3 pick0 rfl rfl) rfl ?_
    refine bdO t1 fun v1 hv1 t1 => ?_
    refine wl_call (co_c0 fa_70 rfl fun w hw => c_spec_l01In w a_e.Owner 0 99 hv1) rfl fun _ => ?_
    refine mv rfl rfl ?_
    refine wlO_ (t := 6) t1 rfl (fun h1 t1 => ?_) fun h1 t1 => ?_
    · skip
      refine wl_guard_on (j := 3) rfl rfl rfl (wl_pure (po_fld fo_88_1 rfl) rfl ?_)
      refine wl_guard_on (j := 3) rfl rfl rfl (wl_pure (v := .int .i64 a_e.Day) (po_load_box tk_3 pick0 rfl rfl) rfl ?_)
      refine bdO t1 fun v2 hv2 t1 => ?_
      refine wl_guard_on (j := 3) rfl rfl rfl (wl_call (co_c0 fa_70 rfl fun w hw => c_spec_l01In w a_e.Day 0 9999 hv2) rfl (fun _ => ?_))
      refine wl_pure (po_pick_t rfl rfl) rfl ?_
      refine mv rfl rfl ?_
      refine wlO_ (t := 11) t1 rfl (fun h2 t1 => ?_) fun h2 t1 => ?_
      · skip
        refine wl_guard_on (j := 8) rfl rfl rfl (wl_pure (po_fld fo_88_2 rfl) rfl ?_)
        refine wl_guard_on (j := 8) rfl rfl rfl (wl_pure (v := .agg #[.int .i64 a_e.Block.Size, (sl v0a)]) (po_load_boxs tk_29 pick0 rfl rfl rfl) rfl ?_)
        refine bdO t1 fun v3 hv3 t1 => ?_
        refine wl_guard_on (j := 8) rfl rfl rfl (wl_call (co_c0 fa_83 rfl fun w hw => c_spec_BlockOk w a_e.Block v0a (Rg.on (rds_arg r0) hw) hv3) rfl (fun _ => ?_))
        refine wl_pure (po_pick_t rfl rfl) rfl ?_
        refine asg rfl rfl ?_
        refine wl_nil ?_
        exact wj_meet _ () (mtE t1) (sub_cons rfl sub_nil) some_nil
      refine wl_guard_off (j := 8) rfl rfl rfl rfl rfl ?_
      refine wl_guard_off (j := 8) rfl rfl rfl rfl rfl ?_
      refine wl_guard_off (j := 8) rfl rfl rfl rfl rfl ?_
      refine wl_pure (po_pick_f rfl rfl) rfl ?_
      refine asg rfl rfl ?_
      refine wl_nil ?_
      exact wj_meet _ () (mtE t1) (sub_cons rfl sub_nil) some_nil
    refine wl_guard_off (j := 3) rfl rfl rfl rfl rfl ?_
    refine wl_guard_off (j := 3) rfl rfl rfl rfl rfl ?_
    refine wl_guard_off (j := 3) rfl rfl rfl rfl rfl ?_
    refine wl_pure (po_pick_f rfl rfl) rfl ?_
    refine mv rfl rfl ?_
    refine wl_guard_off (j := 8) rfl rfl rfl rfl rfl ?_
    refine wl_guard_off (j := 8) rfl rfl rfl rfl rfl ?_
    refine wl_guard_off (j := 8) rfl rfl rfl rfl rfl ?_
    refine wl_pure (po_pick_f rfl rfl) rfl ?_
    refine asg rfl rfl ?_
    refine wl_nil ?_
    exact wj_meet _ () (mtE t1) (sub_cons rfl sub_nil) some_nil
  intro j1 _ hp
  obtain rfl : j1 = y1 := hp.symm
  refine wq_then ?_
  refine wc_ret ?_
  obtain rfl := Option.some.inj t0
  exact wq_ret1 rfl rfl fun w hw => ⟨rfl, hw.weak some_nil⟩

theorem c_spec_l38Member (w : World) (a_list : List GMember) (v0a : Hd) (r0 : rdF w (dm w []) (sl v0a) a_list) (a_number : Int) {r : Bool} (t0 : spec_l38Member a_list a_number = some r) : Calls Try.prog 107 #[(sl v0a), .int .i64 a_number] w fun e w' => e = .returned (.bool r) ∧ SH w [] [] w' := by
  refine calls_of_wc (args := [_, _]) Try.func107 rfl Try.ntmps107 rfl ?_
  unfold spec_l38Member at t0
  refine wcr ?_
  refine asg rfl rfl ?_
  refine wnt ?_
  refine wc_seq ?_
  refine wcr ?_
  refine asg rfl rfl ?_
  refine wnt ?_
  refine gdO t0 fun g1 t0 => ?_
  refine sqO t0 fun y1 l1 t0 => ?_
  refine wj (J := Unit) (X := Unit) (fun z => y1 = .inl z) (fun _ _ => []) (fun _ _ => []) ?_ ?_
  · skip
    refine wc_block ?_
    refine wc_forO (X := Unit) l1 (fun k1 s1 x1l => [(0, (sl v0a)), (1, .int .i64 a_number), (5, .int .i64 ((k1 : Nat) : Int))]) (fun k1 s1 x1l => []) () (sub_cons rfl (sub_cons rfl (sub_cons rfl sub_nil))) some_nil fun k1 s1 x1l hN1 l1 => ?_
    by_cases hk1 : k1 < a_list.length
    · skip
      refine forO_step l1 hk1 fun _ t1 l1 => ?_
      unfold spec_l38Member_L1 at t1
      have c1 : (decide (((k1 : Nat) : Int) < ((a_list.length : Nat) : Int))) = true := decide_eq_true (by omega)
      refine wc_seq ?_
      refine wcr ?_
      refine mv rfl rfl ?_
      refine mv rfl rfl ?_
      refine wl_pure (po_lenr (rds_arg r0) el_33 rfl) rfl ?_
      refine wl_pure (po_lss rfl rfl) rfl ?_
      refine wnt ?_
      refine wc_cond_t rfl c1 ?_
      refine wc_skip ?_
      refine wq_then ?_
      refine wc_seq ?_
      refine wc_block ?_
      refine wcr ?_
      refine mv rfl rfl ?_
      refine mv rfl rfl ?_
      refine wl_pure (po_ixn (k := k1) (rds_arg r0) el_33 rfl rfl hk1) rfl ?_
      refine wl_pure (po_sfldr (rds_arg r0) hk1 fo_113_0 rfl) rfl ?_
      refine wl_pure (v := .int .i64 ((gx a_list k1).Number)) (po_ldf (rds_arg r0) tk_3 rfl hk1 rfl) rfl ?_
      refine mv rfl rfl ?_
      refine wl_pure (po_eql rfl rfl) rfl ?_
      refine wnt ?_
      refine wcO t1 rfl (fun h1 t1 => ?_) fun h1 t1 => ?_
      · skip
        refine wcr ?_
        refine asg rfl rfl ?_
        refine wnt ?_
        refine wc_ret ?_
        refine wq_block_ret ?_
        refine wq_then_ret ?_
        refine wq_then_ret ?_
        refine wq_block_ret ?_
        refine wq_then_ret ?_
        refine wq_then_ret ?_
        replace t0 := lpR t0 l1 t1
        obtain rfl := Option.some.inj t0
        exact wq_ret1 rfl rfl fun w hw => ⟨rfl, hw.weak some_nil⟩
      refine wc_skip ?_
      refine wq_block ?_
      refine wq_then ?_
      refine wc_region ?_
      refine mv rfl rfl ?_
      refine wl_pure (po_inc rfl rfl (by omega)) rfl ?_
      refine asg rfl rfl ?_
      refine wl_nil ?_
      exact wq_rnd hk1 (stpN l1 t1) () (sub_cons rfl (sub_cons rfl (sub_cons rfl sub_nil))) some_nil
    have c1 : (decide (((k1 : Nat) : Int) < ((a_list.length : Nat) : Int))) = false := decide_eq_false (by omega)
    have en1 := forO_end l1 hk1
    refine wc_seq ?_
    refine wcr ?_
    refine mv rfl rfl ?_
    refine mv rfl rfl ?_
    refine wl_pure (po_lenr (rds_arg r0) el_33 rfl) rfl ?_
    refine wl_pure (po_lss rfl rfl) rfl ?_
    refine wnt ?_
    refine wc_cond_f rfl c1 ?_
    refine wc_exit ?_
    refine wq_then_exit ?_
    refine wq_then_exit ?_
    refine wq_block_exit ?_
    exact wj_meet _ () en1 sub_nil some_nil
  intro e1 _ hp
  replace t0 := sqE (j := e1) t0 hp
  refine wq_then ?_
  refine wcr ?_
  refine asg rfl rfl ?_
  refine wnt ?_
  refine wc_ret ?_
  obtain rfl := Option.some.inj t0
  exact wq_ret1 rfl rfl fun w hw => ⟨rfl, hw.weak some_nil⟩

theorem c_spec_GoodStanding (w : World) (a_list : List GMember) (v0a : Hd) (r0 : rdF w (dm w []) (sl v0a) a_list) (a_year : Int) {r : List Int} (t0 : spec_GoodStanding a_list a_year = some r) : Calls Try.prog 114 #[(sl v0a), .int .i64 a_year] w fun e w' => ∃ x : Hd, e = .returned ((sl x)) ∧ SH w [] [ownF (sl x) r] w' := by
  refine calls_of_wc (args := [_, _]) Try.func114 rfl Try.ntmps114 rfl ?_
  unfold spec_GoodStanding at t0
  refine wcr ?_
  refine asg rfl rfl ?_
  refine wnt ?_
  refine wcr ?_
  refine wl_eff (eo_buildSlice rfl sb_34_0) rfl fun b1 => ?_
  refine asg rfl rfl ?_
  refine wnt ?_
  refine wc_seq ?_
  refine wcr ?_
  refine asg rfl rfl ?_
  refine wnt ?_
  refine gdO t0 fun g1 t0 => ?_
  refine lpO_inv t0 fun y1 l1 t0 => ?_
  refine wj (J := List Int) (X := Hd) (fun z => y1 = z) (fun _ x => [(5, (sl x))]) (fun z x => [ownF (sl x) z]) ?_ ?_
  · skip
    refine wc_block ?_
    refine wc_forO (X := Hd) l1 (fun k1 s1 x1l => [(0, (sl v0a)), (1, .int .i64 a_year), (5, (sl x1l)), (6, .int .i64 ((k1 : Nat) : Int))]) (fun k1 s1 x1l => [ownF (sl x1l) s1]) (⟨some ⟨b1, 0, none⟩, 0, 0⟩ : Hd) (sub_cons rfl (sub_cons rfl (sub_cons rfl (sub_cons rfl sub_nil)))) (some_cons (pick_box_own pick0 (n := 0) (xs := ([] : List Int)) rfl rfl (by unfold maxLen; omega)) some_nil) fun k1 s1 x1l hN1 l1 => ?_
    by_cases hk1 : k1 < a_list.length
    · skip
      refine forO_step l1 hk1 fun _ t1 l1 => ?_
      unfold spec_GoodStanding_L1 at t1
      have c1 : (decide (((k1 : Nat) : Int) < ((a_list.length : Nat) : Int))) = true := decide_eq_true (by omega)
      refine wc_seq ?_
      refine wcr ?_
      refine mv rfl rfl ?_
      refine mv rfl rfl ?_
      refine wl_pure (po_lenr (rds_arg r0) el_33 rfl) rfl ?_
      refine wl_pure (po_lss rfl rfl) rfl ?_
      refine mv rfl rfl ?_
      refine wl_know (t := 12) rfl c1 ?_
      refine wl_guard_on (j := 4) rfl rfl rfl (mv rfl rfl ?_)
      refine bdO t1 fun v1 hv1 t1 => ?_
      refine wl_guard_on (j := 4) rfl rfl rfl (wl_call (co_c0 fa_103 rfl fun w hw => c_spec_MembersOk w a_list v0a (Rg.on (rds_arg r0) hw) hv1) rfl (fun _ => ?_))
      refine wl_pure (po_pick_t rfl rfl) rfl ?_
      refine wnt ?_
      refine wcO t1 rfl (fun h1 t1 => ?_) fun h1 t1 => ?_
      · skip
        refine wc_skip ?_
        refine wq_then ?_
        refine wc_seq ?_
        refine wc_block ?_
        refine wcr ?_
        refine mv rfl rfl ?_
        refine mv rfl rfl ?_
        refine wl_pure (po_ixn (k := k1) (rds_arg r0) el_33 rfl rfl hk1) rfl ?_
        refine wl_pure (po_sfldr (rds_arg r0) hk1 fo_113_2 rfl) rfl ?_
        refine wl_pure (v := .int .i64 ((gx a_list k1).Paid)) (po_ldf (rds_arg r0) tk_3 rfl hk1 rfl) rfl ?_
        refine mv rfl rfl ?_
        refine wl_pure (po_geq rfl rfl) rfl ?_
        refine wnt ?_
        refine bdO t1 fun y2 t2 t1 => ?_
        refine wj (J := List Int) (X := Hd) (fun z => y2 = z) (fun _ x => [(0, (sl v0a)), (1, .int .i64 a_year), (5, (sl x)), (6, .int .i64 ((k1 : Nat) : Int)), (13, (sl v0a)), (14, .bool v1)]) (fun z x => [ownF (sl x) z]) ?_ ?_
        · skip
          refine wcO t2 rfl (fun h2 t2 => ?_) fun h2 t2 => ?_
          · skip
            refine wc_region ?_
            refine mv rfl rfl ?_
            refine mv rfl rfl ?_
            refine mv rfl rfl ?_
            refine wl_pure (po_ixn (k := k1) (rds_arg r0) el_33 rfl rfl hk1) rfl ?_
            refine wl_pure (po_sfldr (rds_arg r0) hk1 fo_113_0 rfl) rfl ?_
            refine wl_pure (v := .int .i64 ((gx a_list k1).Number)) (po_ldf (rds_arg r0) tk_3 rfl hk1 rfl) rfl ?_
            refine wl_eff (eo_buildSlice rfl (sb_34_1 ((gx a_list k1).Number))) rfl fun b2 => ?_
            refine gdO t2 fun g2 t2 => ?_
            refine wl_eff (eo_append (xs := s1) (ys := ([(gx a_list k1).Number] : List Int)) ak_34 (pickS pick0) rfl rfl (slin_rd fun _ g => Rg.on (rds_own (pick_box_own pick0 (n := 1) (xs := ([(gx a_list k1).Number] : List Int)) rfl rfl (by unfold maxLen; omega))) g) g2) rfl fun x3 => ?_
            refine asg rfl rfl ?_
            refine wl_nil ?_
            exact wj_meet _ x3 (mtE t2) (sub_cons rfl (sub_cons rfl (sub_cons rfl (sub_cons rfl (sub_cons rfl (sub_cons rfl sub_nil)))))) (some_cons pick0 some_nil)
          refine wc_skip ?_
          exact wj_meet _ x1l (mtE t2) (sub_cons rfl (sub_cons rfl (sub_cons rfl (sub_cons rfl (sub_cons rfl (sub_cons rfl sub_nil)))))) (some_cons pick0 some_nil)
        intro j1 x2 hp
        obtain rfl : j1 = y2 := hp.symm
        refine wq_block ?_
        refine wq_then ?_
        refine wc_region ?_
        refine mv rfl rfl ?_
        refine wl_pure (po_inc rfl rfl (by omega)) rfl ?_
        refine asg rfl rfl ?_
        refine wl_nil ?_
        exact wq_rnd hk1 (stpN l1 t1) x2 (sub_cons rfl (sub_cons rfl (sub_cons rfl (sub_cons rfl sub_nil)))) (some_cons pick0 some_nil)
      refine wc_exit ?_
      refine wq_then_exit ?_
      refine wq_then_exit ?_
      refine wq_block_exit ?_
      exact wj_meet _ x1l (Sum.inl.inj (stpB l1 t1)) (sub_cons rfl sub_nil) (some_cons pick0 some_nil)
    have c1 : (decide (((k1 : Nat) : Int) < ((a_list.length : Nat) : Int))) = false := decide_eq_false (by omega)
    have en1 := forO_end l1 hk1
    refine wc_seq ?_
    refine wcr ?_
    refine mv rfl rfl ?_
    refine mv rfl rfl ?_
    refine wl_pure (po_lenr (rds_arg r0) el_33 rfl) rfl ?_
    refine wl_pure (po_lss rfl rfl) rfl ?_
    refine mv rfl rfl ?_
    refine wl_know (t := 12) rfl c1 ?_
    refine wl_guard_off (j := 4) rfl rfl rfl rfl rfl ?_
    refine wl_guard_off (j := 4) rfl rfl rfl rfl rfl ?_
    refine wl_pure (po_pick_f rfl rfl) rfl ?_
    refine wnt ?_
    refine wc_cond_f rfl rfl ?_
    refine wc_exit ?_
    refine wq_then_exit ?_
    refine wq_then_exit ?_
    refine wq_block_exit ?_
    exact wj_meet _ x1l (Sum.inl.inj en1) (sub_cons rfl sub_nil) (some_cons pick0 some_nil)
  intro e1 x1 hp
  obtain rfl : e1 = y1 := hp.symm
  refine wq_then ?_
  refine wcr ?_
  refine mv rfl rfl ?_
  refine asg rfl rfl ?_
  refine wnt ?_
  refine wc_ret ?_
  obtain rfl := Option.some.inj t0
  exact wq_ret1 rfl rfl fun w hw => ⟨x1, rfl, hw.weak (some_cons pick0 some_nil)⟩

theorem c_spec_SwapRounds (w : World) (a_g : GGuild) (v0a : Hd) (r0 : rdF w (dm w []) (sl v0a) a_g.Members) (v1a : Hd) (r1 : rdF w (dm w []) (sl v1a) a_g.Stock) (v2a : Hd) (u2a : List Value) (r2 : RdL w (dm w []) (sl v2a) u2a a_g.Entries) (v3a : Hd) (r3 : rdF w (dm w []) (sl v3a) a_g.Books) {r : Int} (t0 : spec_SwapRounds a_g = some r) : Calls Try.prog 68 #[.agg #[(sl v0a), (sl v1a), (sl v2a), (sl v3a), .int .i64 a_g.Round, .int .i64 a_g.Year]] w fun e w' => e = .returned (.int .i64 r) ∧ SH w [] [] w' := by
  refine calls_of_wc (args := [_]) Try.func68 rfl Try.ntmps68 rfl ?_
  unfold spec_SwapRounds at t0
  refine wcr ?_
  refine wl_eff (eo_box rfl rfl) rfl fun b1 => ?_
  refine asg rfl rfl ?_
  refine wnt ?_
  refine wcr ?_
  refine wl_pure (po_fld fo_38_0 rfl) rfl ?_
  refine wl_pure (v := (sl v0a)) (po_load_box tk_33 pick0 rfl rfl) rfl ?_
  refine wl_pure (po_fld fo_38_5 rfl) rfl ?_
  refine wl_pure (v := .int .i64 a_g.Year) (po_load_box tk_3 pick0 rfl rfl) rfl ?_
  refine bdO t0 fun v1 hv1 t0 => ?_
  refine wl_call (co_c1 fa_114 rfl fun w hw => c_spec_GoodStanding w a_g.Members v0a (Rg.on (rds_arg r0) hw) a_g.Year hv1) rfl fun x1 => ?_
  refine wl_pure (po_lenr (rds_own pick0) el_34 rfl) rfl ?_
  refine asg rfl rfl ?_
  refine wnt ?_
  refine wc_seq ?_
  refine wcr ?_
  refine mv rfl rfl ?_
  refine bdO t0 fun v2 hv2 t0 => ?_
  refine wl_call (co_c0 fa_70 rfl fun w hw => c_spec_l01In w ((v1.length : Nat) : Int) 2 10 hv2) rfl fun _ => ?_
  refine wl_pure (po_not rfl) rfl ?_
  refine wnt ?_
  refine wcO t0 rfl (fun h1 t0 => ?_) fun h1 t0 => ?_
  · skip
    refine wcr ?_
    refine asg rfl rfl ?_
    refine wnt ?_
    refine wc_ret ?_
    refine wq_then_ret ?_
    obtain rfl := Option.some.inj t0
    exact wq_ret1 rfl rfl fun w hw => ⟨rfl, hw.weak some_nil⟩
  refine wc_skip ?_
  refine wq_then ?_
  refine wcr ?_
  refine mv rfl rfl ?_
  refine wl_pure (po_sub rfl rfl) rfl ?_
  refine asg rfl rfl ?_
  refine wnt ?_
  refine wc_ret ?_
  obtain rfl := Option.some.inj t0
  exact wq_ret1 rfl rfl fun w hw => ⟨rfl, hw.weak some_nil⟩

end Go.Proofs.Ytnfdinafbfggeab
