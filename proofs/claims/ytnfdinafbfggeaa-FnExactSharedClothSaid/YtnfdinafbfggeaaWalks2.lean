/-
  Each Go function computes its Lean function (part 2).
-/
import Derived.Test.YtnfdinafbfggeaaWalks1
namespace Go.Proofs.Ytnfdinafbfggeaa
open Go Go.RowKit Go.Proofs
set_option maxRecDepth 100000

theorem c_impl_ClothFor (w : World) (a_o : GOrder) (v0a : Hd) (r0 : rdF w (dm w []) (sl v0a) a_o.Quilt.Spots) (v1a : Hd) (u1a : List Value) (r1 : RdL w (dm w []) (sl v1a) u1a a_o.Blocks) {r : List Int} (t0 : impl_ClothFor a_o = some r) : Calls Try.prog 12 #[.agg #[.int .i64 a_o.Quilt.Width, .int .i64 a_o.Quilt.Height, (sl v0a), (sl v1a), .int .i64 a_o.Scale]] w fun e w' => ∃ x : Hd, e = .returned ((sl x)) ∧ SH w [] [ownF (sl x) r] w' := by
  refine calls_of_wc (args := [_]) Try.func12 rfl Try.ntmps12 rfl ?_
  unfold impl_ClothFor at t0
  refine wcr ?_
  refine wl_eff (eo_box rfl rfl) rfl fun b1 => ?_
  refine asg rfl rfl ?_
  refine wnt ?_
  refine wc_seq ?_
  refine wcr ?_
  refine wl_pure (v := .agg #[.int .i64 a_o.Quilt.Width, .int .i64 a_o.Quilt.Height, (sl v0a), (sl v1a), .int .i64 a_o.Scale]) (po_load_boxs tk_36 pick0 rfl rfl rfl) rfl ?_
  refine bdO t0 fun v1 hv1 t0 => ?_
  refine wl_call (co_c0 fa_50 rfl fun w hw => c_impl_OrderOk w a_o v0a (Rg.on (rds_arg r0) hw) v1a u1a (Rg.on (rds_arg r1) hw) hv1) rfl fun _ => ?_
  refine wl_pure (po_not rfl) rfl ?_
  refine wnt ?_
  refine wcO t0 rfl (fun h1 t0 => ?_) fun h1 t0 => ?_
  · skip
    refine wcr ?_
    refine asg rfl rfl ?_
    refine wnt ?_
    refine wc_ret ?_
    refine wq_then_ret ?_
    obtain rfl := Option.some.inj t0
    exact wq_ret1 rfl rfl fun w hw => ⟨(⟨none, 0, 0⟩ : Hd), rfl, hw.weak (some_cons pick_nil some_nil)⟩
  refine wc_skip ?_
  refine wq_then ?_
  refine wc_seq ?_
  refine wc_join (X := Hd × Hd) (fun _ => True) (fun z => [(1, ptr b1 0), (3, (sl z.1)), (4, (sl z.2))]) (fun z => [ownF (sl z.2) (List.replicate 6 (0 : Int)), ownF (sl z.1) (List.replicate 6 (0 : Int)), box b1 [.int .i64 a_o.Quilt.Width, .int .i64 a_o.Quilt.Height, (sl v0a), (sl v1a), .int .i64 a_o.Scale]]) ?_ ?_
  · skip
    refine wc_draw [box b1 [.int .i64 a_o.Quilt.Width, .int .i64 a_o.Quilt.Height, (sl v0a), (sl v1a), .int .i64 a_o.Scale]] 4 mixed ?_
    refine wa_2 (i := 0) (j := 1) (by kernel_rfl) ?_ ?_
    · skip
      refine ws_eff rfl (eo_make_ (n := 6) (0 : Int) mk_29 rfl rfl rfl (by omega) rfl) (fun _ => (sts_some (some_cons (pickS pick0) some_nil))) rfl fun x1 => ?_
      refine wa_pure 2 rfl (po_assign rfl) (some_cons (pickS pick0) some_nil) rfl (by kernel_rfl) (fun _ _ _ h => h) ?_
      refine wa_1 (i := 1) (by kernel_rfl) ?_
      refine ws_eff rfl (eo_make_ (n := 6) (0 : Int) mk_29 rfl rfl rfl (by omega) rfl) (fun _ => (sts_some (some_cons (pickS (pickS pick0)) some_nil))) rfl fun x2 => ?_
      refine wa_pure 3 rfl (po_assign rfl) (some_cons (pickS (pickS pick0)) some_nil) rfl (by kernel_rfl) (fun _ _ _ h => h) ?_
      refine wa_done (by kernel_rfl) ?_
      exact wq_meet (x1, x2) trivial (sub_cons rfl (sub_cons rfl (sub_cons rfl sub_nil))) (some_cons pick0 (some_cons pick0 (some_cons pick0 some_nil)))
    refine ws_eff rfl (eo_make_ (n := 6) (0 : Int) mk_29 rfl rfl rfl (by omega) rfl) (fun _ => (sts_some (some_cons (pickS pick0) some_nil))) rfl fun x3 => ?_
    refine wa_1 (i := 0) (by kernel_rfl) ?_
    refine ws_eff rfl (eo_make_ (n := 6) (0 : Int) mk_29 rfl rfl rfl (by omega) rfl) (fun _ => (sts_some (some_cons (pickS (pickS pick0)) some_nil))) rfl fun x4 => ?_
    refine wa_pure 2 rfl (po_assign rfl) (some_cons (pickS (pickS pick0)) some_nil) rfl (by kernel_rfl) (fun _ _ _ h => h) ?_
    refine wa_pure 3 rfl (po_assign rfl) (some_cons (pickS (pickS pick0)) some_nil) rfl (by kernel_rfl) (fun _ _ _ h => h) ?_
    refine wa_done (by kernel_rfl) ?_
    exact wq_meet (x4, x3) trivial (sub_cons rfl (sub_cons rfl (sub_cons rfl sub_nil))) (some_cons (pickS pick0) (some_cons pick0 (some_cons pick0 some_nil)))
  intro x5 _
  refine wq_then ?_
  refine wc_seq ?_
  refine wcr ?_
  refine wl_pure (po_fld fo_36_0 rfl) rfl ?_
  refine wl_pure (v := .agg #[.int .i64 a_o.Quilt.Width, .int .i64 a_o.Quilt.Height, (sl v0a)]) (po_load_boxs tk_33 (pickS (pickS pick0)) rfl rfl rfl) rfl ?_
  refine wl_pure (po_fld fo_36_1 rfl) rfl ?_
  refine wl_pure (v := (sl v1a)) (po_load_box tk_34 (pickS (pickS pick0)) rfl rfl) rfl ?_
  refine bdO t0 fun v2 hv2 t0 => ?_
  refine wl_call (co_c1 fa_51 rfl fun w hw => c_impl_shown w a_o.Quilt v0a (Rg.on (rds_arg r0) hw) a_o.Blocks v1a u1a (Rg.on (rds_arg r1) hw) hv2) rfl fun x6 => ?_
  refine wl_pure (po_lenr (rds_own pick0) el_34 rfl) rfl ?_
  refine mv rfl rfl ?_
  refine wnt ?_
  refine gdO t0 fun g1 t0 => ?_
  refine lpO_inv t0 fun y1 l1 t0 => ?_
  refine wj (J := (List Int) × (List Int)) (X := Unit) (fun z => y1 = z) (fun _ _ => [(3, (sl x5.1)), (4, (sl x5.2))]) (fun z _ => [ownF (sl x5.2) z.2, ownF (sl x5.1) z.1]) ?_ ?_
  · skip
    refine wc_block ?_
    refine wc_forO (X := Unit) l1 (fun k1 s1 x1l => [(1, ptr b1 0), (3, (sl x5.1)), (4, (sl x5.2)), (20, (sl x6.1)), (21, .int .i64 ((v2.length : Nat) : Int)), (22, .int .i64 ((k1 : Nat) : Int))]) (fun k1 s1 x1l => [own (sl x6.1) x6.2 v2, ownF (sl x5.2) s1.2, ownF (sl x5.1) s1.1, box b1 [.int .i64 a_o.Quilt.Width, .int .i64 a_o.Quilt.Height, (sl v0a), (sl v1a), .int .i64 a_o.Scale]]) () (sub_cons rfl (sub_cons rfl (sub_cons rfl (sub_cons rfl (sub_cons rfl (sub_cons rfl sub_nil)))))) (some_cons pick0 (some_cons pick0 (some_cons pick0 (some_cons pick0 some_nil)))) fun k1 s1 x1l hN1 l1 => ?_
    by_cases hk1 : k1 < v2.length
    · skip
      refine forO_step l1 hk1 fun _ t1 l1 => ?_
      unfold impl_ClothFor_L1 at t1
      have c1 : (decide (((k1 : Nat) : Int) < ((v2.length : Nat) : Int))) = true := decide_eq_true (by omega)
      refine wcr ?_
      refine wl_pure (po_lss rfl rfl) rfl ?_
      refine wnt ?_
      refine wc_seq ?_
      refine wc_cond_t rfl c1 ?_
      refine wc_skip ?_
      refine wq_then ?_
      refine wc_seq ?_
      refine wc_block ?_
      refine wcr ?_
      refine wl_pure (po_ixn (k := k1) (rds_own pick0) el_34 rfl rfl hk1) rfl ?_
      refine wl_elem (rds_own pick0) hk1 ?_
      rintro ⟨_, _, he1⟩
      obtain ⟨w1, hc1, _⟩ := rd_GBlock.1 he1
      refine wl_pure (v := .agg #[.int .i64 ((gx v2 k1).Size), (sl w1)]) (po_ldns (rds_own pick0) tk_52 rfl hc1 rfl rfl rfl) rfl ?_
      refine wl_eff (eo_alloc (cs := [.int .i64 0, (sl (⟨none, 0, 0⟩ : Hd))]) za_52) rfl fun b2 => ?_
      refine wl_skipop (so_box (cs' := [.int .i64 ((gx v2 k1).Size), (sl w1)]) tk_52 pick0 rfl rfl rfl rfl rfl rfl rfl) ?_
      refine wnt ?_
      refine wcr ?_
      refine wl_pure (po_fld fo_52_1 rfl) rfl ?_
      refine wl_pure (v := (sl w1)) (po_load_box tk_50 pick0 rfl rfl) rfl ?_
      refine wl_pure (po_lenr (er_GBlock_0 hc1 (rds_own (pickS pick0)) hk1) el_50 rfl) rfl ?_
      refine mv rfl rfl ?_
      refine wnt ?_
      refine gdO t1 fun g2 t1 => ?_
      refine lpO_inv t1 fun y2 l2 t1 => ?_
      refine wj (J := (List Int) × (List Int)) (X := Unit) (fun z => y2 = z) (fun _ _ => [(1, ptr b1 0), (3, (sl x5.1)), (4, (sl x5.2)), (20, (sl x6.1)), (21, .int .i64 ((v2.length : Nat) : Int)), (22, .int .i64 ((k1 : Nat) : Int))]) (fun z _ => [own (sl x6.1) x6.2 v2, ownF (sl x5.2) z.2, ownF (sl x5.1) z.1, box b1 [.int .i64 a_o.Quilt.Width, .int .i64 a_o.Quilt.Height, (sl v0a), (sl v1a), .int .i64 a_o.Scale]]) ?_ ?_
      · skip
        refine wc_block ?_
        refine wc_forO (X := Unit) l2 (fun k2 s2 x2l => [(1, ptr b1 0), (3, (sl x5.1)), (4, (sl x5.2)), (20, (sl x6.1)), (21, .int .i64 ((v2.length : Nat) : Int)), (22, .int .i64 ((k1 : Nat) : Int)), (27, (sl w1)), (28, .int .i64 ((((gx v2 k1).Cells).length : Nat) : Int)), (29, .int .i64 ((k2 : Nat) : Int))]) (fun k2 s2 x2l => [own (sl x6.1) x6.2 v2, ownF (sl x5.2) s2.2, ownF (sl x5.1) s2.1, box b1 [.int .i64 a_o.Quilt.Width, .int .i64 a_o.Quilt.Height, (sl v0a), (sl v1a), .int .i64 a_o.Scale]]) () (sub_cons rfl (sub_cons rfl (sub_cons rfl (sub_cons rfl (sub_cons rfl (sub_cons rfl (sub_cons rfl (sub_cons rfl (sub_cons rfl sub_nil))))))))) (some_cons (pickS pick0) (some_cons (pickS pick0) (some_cons (pickS pick0) (some_cons (pickS pick0) some_nil)))) fun k2 s2 x2l hN2 l2 => ?_
        by_cases hk2 : k2 < ((gx v2 k1).Cells).length
        · skip
          refine forO_step l2 hk2 fun _ t2 l2 => ?_
          unfold impl_ClothFor_L2 at t2
          have c2 : (decide (((k2 : Nat) : Int) < ((((gx v2 k1).Cells).length : Nat) : Int))) = true := decide_eq_true (by omega)
          refine wcr ?_
          refine wl_pure (po_lss rfl rfl) rfl ?_
          refine wnt ?_
          refine wc_seq ?_
          refine wc_cond_t rfl c2 ?_
          refine wc_skip ?_
          refine wq_then ?_
          refine wc_seq ?_
          refine wc_block ?_
          refine wcr ?_
          refine wl_pure (po_ixn (k := k2) (er_GBlock_0 hc1 (rds_own pick0) hk1) el_50 rfl rfl hk2) rfl ?_
          refine wl_pure (v := .agg #[.int .i64 ((gx ((gx v2 k1).Cells) k2).Split), .int .i64 ((gx ((gx v2 k1).Cells) k2).A), .int .i64 ((gx ((gx v2 k1).Cells) k2).B)]) (po_ldfs (er_GBlock_0 hc1 (rds_own pick0) hk1) tk_83 rfl hk2 rfl rfl rfl) rfl ?_
          refine wl_eff (eo_alloc (cs := [.int .i64 0, .int .i64 0, .int .i64 0]) za_83) rfl fun b3 => ?_
          refine wl_skipop (so_box (cs' := [.int .i64 ((gx ((gx v2 k1).Cells) k2).Split), .int .i64 ((gx ((gx v2 k1).Cells) k2).A), .int .i64 ((gx ((gx v2 k1).Cells) k2).B)]) tk_83 pick0 rfl rfl rfl rfl rfl rfl rfl) ?_
          refine wnt ?_
          refine wcr ?_
          refine wl_pure (po_fld fo_83_0 rfl) rfl ?_
          refine wl_pure (v := .int .i64 ((gx ((gx v2 k1).Cells) k2).Split)) (po_load_box tk_3 pick0 rfl rfl) rfl ?_
          refine wl_pure (po_eql rfl rfl) rfl ?_
          refine wnt ?_
          refine bdO t2 fun y3 t3 t2 => ?_
          refine wj (J := (List Int) × (List Int)) (X := Unit) (fun z => y3 = z) (fun _ _ => [(1, ptr b1 0), (3, (sl x5.1)), (4, (sl x5.2)), (20, (sl x6.1)), (21, .int .i64 ((v2.length : Nat) : Int)), (22, .int .i64 ((k1 : Nat) : Int)), (27, (sl w1)), (28, .int .i64 ((((gx v2 k1).Cells).length : Nat) : Int)), (29, .int .i64 ((k2 : Nat) : Int))]) (fun z _ => [box b1 [.int .i64 a_o.Quilt.Width, .int .i64 a_o.Quilt.Height, (sl v0a), (sl v1a), .int .i64 a_o.Scale], ownF (sl x5.1) z.1, ownF (sl x5.2) z.2, own (sl x6.1) x6.2 v2]) ?_ ?_
          · skip
            refine wcO t3 rfl (fun h2 t3 => ?_) fun h2 t3 => ?_
            · skip
              refine wc_draw [box b3 [.int .i64 ((gx ((gx v2 k1).Cells) k2).Split), .int .i64 ((gx ((gx v2 k1).Cells) k2).A), .int .i64 ((gx ((gx v2 k1).Cells) k2).B)], own (sl x6.1) x6.2 v2, ownF (sl x5.2) s2.2, ownF (sl x5.1) s2.1, box b1 [.int .i64 a_o.Quilt.Width, .int .i64 a_o.Quilt.Height, (sl v0a), (sl v1a), .int .i64 a_o.Scale]] 14 mixed ?_
              refine wa_pure 0 rfl (po_move rfl) (some_cons pick0 (some_cons pick0 (some_cons pick0 (some_cons pick0 (some_cons pick0 some_nil))))) rfl (by kernel_rfl) (fun _ _ _ h => h) ?_
              refine wa_pure 1 rfl (po_fld fo_83_1 rfl) (some_cons pick0 (some_cons pick0 (some_cons pick0 (some_cons pick0 (some_cons pick0 some_nil))))) rfl (by kernel_rfl) (fun _ _ _ h => h) ?_
              refine wa_pure (v := .int .i64 ((gx ((gx v2 k1).Cells) k2).A)) 2 rfl (po_load_box tk_3 pick0 rfl rfl) (some_cons pick0 (some_cons pick0 (some_cons pick0 (some_cons pick0 (some_cons pick0 some_nil))))) rfl (by kernel_rfl) (fun _ _ _ h => h) ?_
              refine gdO t3 fun g3 t3 => ?_
              refine wa_pure 3 rfl (po_ixr (rds_own (pickS (pickS (pickS pick0)))) el_29 rfl rfl g3.1 g3.2) (some_cons pick0 (some_cons pick0 (some_cons pick0 (some_cons pick0 (some_cons pick0 some_nil))))) rfl (by kernel_rfl) (fun _ _ _ h => h) ?_
              refine wa_pure (v := .int .i64 (gx s2.1 (((gx ((gx v2 k1).Cells) k2).A).toNat))) 4 rfl (po_ldf (rds_own (pickS (pickS (pickS pick0)))) tk_3 rfl (ix_lt g3) rfl) (some_cons pick0 (some_cons pick0 (some_cons pick0 (some_cons pick0 (some_cons pick0 some_nil))))) rfl (by kernel_rfl) (fun _ _ _ h => h) ?_
              refine wa_pure 5 rfl (po_fld fo_36_2 rfl) (some_cons pick0 (some_cons pick0 (some_cons pick0 (some_cons pick0 (some_cons pick0 some_nil))))) rfl (by kernel_rfl) (fun _ _ _ h => h) ?_
              refine wa_pure (v := .int .i64 a_o.Scale) 6 rfl (po_load_box tk_3 (pickS (pickS (pickS (pickS pick0)))) rfl rfl) (some_cons pick0 (some_cons pick0 (some_cons pick0 (some_cons pick0 (some_cons pick0 some_nil))))) rfl (by kernel_rfl) (fun _ _ _ h => h) ?_
              refine wa_pure 8 rfl (po_fld fo_36_2 rfl) (some_cons pick0 (some_cons pick0 (some_cons pick0 (some_cons pick0 (some_cons pick0 some_nil))))) rfl (by kernel_rfl) (fun _ _ _ h => h) ?_
              refine wa_pure (v := .int .i64 a_o.Scale) 9 rfl (po_load_box tk_3 (pickS (pickS (pickS (pickS pick0)))) rfl rfl) (some_cons pick0 (some_cons pick0 (some_cons pick0 (some_cons pick0 (some_cons pick0 some_nil))))) rfl (by kernel_rfl) (fun _ _ _ h => h) ?_
              refine wa_1 (i := 7) (by kernel_rfl) ?_
              refine bdO t3 fun v3 hv3 t3 => ?_
              refine ws_call rfl (co_c0 fa_52 rfl fun w hw => c_impl_CutSize w a_o.Scale hv3) (fun _ => (sts_some (some_cons pick0 (some_cons pick0 (some_cons pick0 (some_cons pick0 (some_cons pick0 some_nil))))))) rfl fun _ => ?_
              refine wa_1 (i := 10) (by kernel_rfl) ?_
              refine bdO t3 fun v4 hv4 t3 => ?_
              refine ws_call rfl (co_c0 fa_52 rfl fun w hw => c_impl_CutSize w a_o.Scale hv4) (fun _ => (sts_some (some_cons pick0 (some_cons pick0 (some_cons pick0 (some_cons pick0 (some_cons pick0 some_nil))))))) rfl fun _ => ?_
              refine wa_pure 11 rfl (po_mul rfl rfl) (some_cons pick0 (some_cons pick0 (some_cons pick0 (some_cons pick0 (some_cons pick0 some_nil))))) rfl (by kernel_rfl) (fun _ _ _ h => h) ?_
              refine wa_pure 12 rfl (po_add rfl rfl) (some_cons pick0 (some_cons pick0 (some_cons pick0 (some_cons pick0 (some_cons pick0 some_nil))))) rfl (by kernel_rfl) (fun _ _ _ h => h) ?_
              refine wa_pure 13 rfl (po_ixr (rds_own (pickS (pickS (pickS pick0)))) el_29 rfl rfl g3.1 g3.2) (some_cons pick0 (some_cons pick0 (some_cons pick0 (some_cons pick0 (some_cons pick0 some_nil))))) rfl (by kernel_rfl) (fun _ _ _ h => h) ?_
              refine wa_1 (i := 14) (by kernel_rfl) ?_
              refine ws_skipop rfl (so_own (x' := (wr ((gx s2.1 (((gx ((gx v2 k1).Cells) k2).A).toNat)) + (wr (v3 * v4))))) tk_3 (pickS (pickS (pickS pick0))) rfl rfl rfl rfl rfl rfl (ix_lt g3) rfl) (sts_past (by kernel_rfl)) ?_
              refine wa_done (by kernel_rfl) ?_
              exact wj_meet _ () (mtE t3) (sub_cons rfl (sub_cons rfl (sub_cons rfl (sub_cons rfl (sub_cons rfl (sub_cons rfl (sub_cons rfl (sub_cons rfl (sub_cons rfl sub_nil))))))))) (some_cons (pickS (pickS (pickS (pickS pick0)))) (some_cons pick0 (some_cons (pickS (pickS pick0)) (some_cons (pickS pick0) some_nil))))
            refine wc_seq ?_
            refine wc_draw [box b3 [.int .i64 ((gx ((gx v2 k1).Cells) k2).Split), .int .i64 ((gx ((gx v2 k1).Cells) k2).A), .int .i64 ((gx ((gx v2 k1).Cells) k2).B)], own (sl x6.1) x6.2 v2, ownF (sl x5.2) s2.2, ownF (sl x5.1) s2.1, box b1 [.int .i64 a_o.Quilt.Width, .int .i64 a_o.Quilt.Height, (sl v0a), (sl v1a), .int .i64 a_o.Scale]] 14 mixed ?_
            refine wa_pure 0 rfl (po_move rfl) (some_cons pick0 (some_cons pick0 (some_cons pick0 (some_cons pick0 (some_cons pick0 some_nil))))) rfl (by kernel_rfl) (fun _ _ _ h => h) ?_
            refine wa_pure 1 rfl (po_fld fo_83_1 rfl) (some_cons pick0 (some_cons pick0 (some_cons pick0 (some_cons pick0 (some_cons pick0 some_nil))))) rfl (by kernel_rfl) (fun _ _ _ h => h) ?_
            refine wa_pure (v := .int .i64 ((gx ((gx v2 k1).Cells) k2).A)) 2 rfl (po_load_box tk_3 pick0 rfl rfl) (some_cons pick0 (some_cons pick0 (some_cons pick0 (some_cons pick0 (some_cons pick0 some_nil))))) rfl (by kernel_rfl) (fun _ _ _ h => h) ?_
            refine gdO t3 fun g4 t3 => ?_
            refine wa_pure 3 rfl (po_ixr (rds_own (pickS (pickS pick0))) el_29 rfl rfl g4.1 g4.2) (some_cons pick0 (some_cons pick0 (some_cons pick0 (some_cons pick0 (some_cons pick0 some_nil))))) rfl (by kernel_rfl) (fun _ _ _ h => h) ?_
            refine wa_pure (v := .int .i64 (gx s2.2 (((gx ((gx v2 k1).Cells) k2).A).toNat))) 4 rfl (po_ldf (rds_own (pickS (pickS pick0))) tk_3 rfl (ix_lt g4) rfl) (some_cons pick0 (some_cons pick0 (some_cons pick0 (some_cons pick0 (some_cons pick0 some_nil))))) rfl (by kernel_rfl) (fun _ _ _ h => h) ?_
            refine wa_pure 5 rfl (po_fld fo_36_2 rfl) (some_cons pick0 (some_cons pick0 (some_cons pick0 (some_cons pick0 (some_cons pick0 some_nil))))) rfl (by kernel_rfl) (fun _ _ _ h => h) ?_
            refine wa_pure (v := .int .i64 a_o.Scale) 6 rfl (po_load_box tk_3 (pickS (pickS (pickS (pickS pick0)))) rfl rfl) (some_cons pick0 (some_cons pick0 (some_cons pick0 (some_cons pick0 (some_cons pick0 some_nil))))) rfl (by kernel_rfl) (fun _ _ _ h => h) ?_
            refine wa_pure 8 rfl (po_fld fo_36_2 rfl) (some_cons pick0 (some_cons pick0 (some_cons pick0 (some_cons pick0 (some_cons pick0 some_nil))))) rfl (by kernel_rfl) (fun _ _ _ h => h) ?_
            refine wa_pure (v := .int .i64 a_o.Scale) 9 rfl (po_load_box tk_3 (pickS (pickS (pickS (pickS pick0)))) rfl rfl) (some_cons pick0 (some_cons pick0 (some_cons pick0 (some_cons pick0 (some_cons pick0 some_nil))))) rfl (by kernel_rfl) (fun _ _ _ h => h) ?_
            refine wa_1 (i := 7) (by kernel_rfl) ?_
            refine bdO t3 fun v5 hv5 t3 => ?_
            refine ws_call rfl (co_c0 fa_53 rfl fun w hw => c_impl_TriangleSide w a_o.Scale hv5) (fun _ => (sts_some (some_cons pick0 (some_cons pick0 (some_cons pick0 (some_cons pick0 (some_cons pick0 some_nil))))))) rfl fun _ => ?_
            refine wa_1 (i := 10) (by kernel_rfl) ?_
            refine bdO t3 fun v6 hv6 t3 => ?_
            refine ws_call rfl (co_c0 fa_53 rfl fun w hw => c_impl_TriangleSide w a_o.Scale hv6) (fun _ => (sts_some (some_cons pick0 (some_cons pick0 (some_cons pick0 (some_cons pick0 (some_cons pick0 some_nil))))))) rfl fun _ => ?_
            refine wa_pure 11 rfl (po_mul rfl rfl) (some_cons pick0 (some_cons pick0 (some_cons pick0 (some_cons pick0 (some_cons pick0 some_nil))))) rfl (by kernel_rfl) (fun _ _ _ h => h) ?_
            refine wa_pure 12 rfl (po_add rfl rfl) (some_cons pick0 (some_cons pick0 (some_cons pick0 (some_cons pick0 (some_cons pick0 some_nil))))) rfl (by kernel_rfl) (fun _ _ _ h => h) ?_
            refine wa_pure 13 rfl (po_ixr (rds_own (pickS (pickS pick0))) el_29 rfl rfl g4.1 g4.2) (some_cons pick0 (some_cons pick0 (some_cons pick0 (some_cons pick0 (some_cons pick0 some_nil))))) rfl (by kernel_rfl) (fun _ _ _ h => h) ?_
            refine wa_1 (i := 14) (by kernel_rfl) ?_
            refine ws_skipop rfl (so_own (x' := (wr ((gx s2.2 (((gx ((gx v2 k1).Cells) k2).A).toNat)) + (wr (v5 * v6))))) tk_3 (pickS (pickS pick0)) rfl rfl rfl rfl rfl rfl (ix_lt g4) rfl) (sts_past (by kernel_rfl)) ?_
            refine wa_done (by kernel_rfl) ?_
            refine wq_then ?_
            refine wc_draw [ownF (sl x5.2) (s2.2.set (((gx ((gx v2 k1).Cells) k2).A).toNat) (wr ((gx s2.2 (((gx ((gx v2 k1).Cells) k2).A).toNat)) + (wr (v5 * v6))))), box b3 [.int .i64 ((gx ((gx v2 k1).Cells) k2).Split), .int .i64 ((gx ((gx v2 k1).Cells) k2).A), .int .i64 ((gx ((gx v2 k1).Cells) k2).B)], own (sl x6.1) x6.2 v2, ownF (sl x5.1) s2.1, box b1 [.int .i64 a_o.Quilt.Width, .int .i64 a_o.Quilt.Height, (sl v0a), (sl v1a), .int .i64 a_o.Scale]] 14 mixed ?_
            refine wa_pure 0 rfl (po_move rfl) (some_cons pick0 (some_cons pick0 (some_cons pick0 (some_cons pick0 (some_cons pick0 some_nil))))) rfl (by kernel_rfl) (fun _ _ _ h => h) ?_
            refine wa_pure 1 rfl (po_fld fo_83_2 rfl) (some_cons pick0 (some_cons pick0 (some_cons pick0 (some_cons pick0 (some_cons pick0 some_nil))))) rfl (by kernel_rfl) (fun _ _ _ h => h) ?_
            refine wa_pure (v := .int .i64 ((gx ((gx v2 k1).Cells) k2).B)) 2 rfl (po_load_box tk_3 (pickS pick0) rfl rfl) (some_cons pick0 (some_cons pick0 (some_cons pick0 (some_cons pick0 (some_cons pick0 some_nil))))) rfl (by kernel_rfl) (fun _ _ _ h => h) ?_
            refine gdO t3 fun g5 t3 => ?_
            refine wa_pure 3 rfl (po_ixr (rds_own pick0) el_29 rfl rfl g5.1 g5.2) (some_cons pick0 (some_cons pick0 (some_cons pick0 (some_cons pick0 (some_cons pick0 some_nil))))) rfl (by kernel_rfl) (fun _ _ _ h => h) ?_
            refine wa_pure (v := .int .i64 (gx (s2.2.set (((gx ((gx v2 k1).Cells) k2).A).toNat) (wr ((gx s2.2 (((gx ((gx v2 k1).Cells) k2).A).toNat)) + (wr (v5 * v6))))) (((gx ((gx v2 k1).Cells) k2).B).toNat))) 4 rfl (po_ldf (rds_own pick0) tk_3 rfl (ix_lt g5) rfl) (some_cons pick0 (some_cons pick0 (some_cons pick0 (some_cons pick0 (some_cons pick0 some_nil))))) rfl (by kernel_rfl) (fun _ _ _ h => h) ?_
            refine wa_pure 5 rfl (po_fld fo_36_2 rfl) (some_cons pick0 (some_cons pick0 (some_cons pick0 (some_cons pick0 (some_cons pick0 some_nil))))) rfl (by kernel_rfl) (fun _ _ _ h => h) ?_
            refine wa_pure (v := .int .i64 a_o.Scale) 6 rfl (po_load_box tk_3 (pickS (pickS (pickS (pickS pick0)))) rfl rfl) (some_cons pick0 (some_cons pick0 (some_cons pick0 (some_cons pick0 (some_cons pick0 some_nil))))) rfl (by kernel_rfl) (fun _ _ _ h => h) ?_
            refine wa_pure 8 rfl (po_fld fo_36_2 rfl) (some_cons pick0 (some_cons pick0 (some_cons pick0 (some_cons pick0 (some_cons pick0 some_nil))))) rfl (by kernel_rfl) (fun _ _ _ h => h) ?_
            refine wa_pure (v := .int .i64 a_o.Scale) 9 rfl (po_load_box tk_3 (pickS (pickS (pickS (pickS pick0)))) rfl rfl) (some_cons pick0 (some_cons pick0 (some_cons pick0 (some_cons pick0 (some_cons pick0 some_nil))))) rfl (by kernel_rfl) (fun _ _ _ h => h) ?_
            refine wa_1 (i := 7) (by kernel_rfl) ?_
            refine bdO t3 fun v7 hv7 t3 => ?_
            refine ws_call rfl (co_c0 fa_53 rfl fun w hw => c_impl_TriangleSide w a_o.Scale hv7) (fun _ => (sts_some (some_cons pick0 (some_cons pick0 (some_cons pick0 (some_cons pick0 (some_cons pick0 some_nil))))))) rfl fun _ => ?_
            refine wa_1 (i := 10) (by kernel_rfl) ?_
            refine bdO t3 fun v8 hv8 t3 => ?_
            refine ws_call rfl (co_c0 fa_53 rfl fun w hw => c_impl_TriangleSide w a_o.Scale hv8) (fun _ => (sts_some (some_cons pick0 (some_cons pick0 (some_cons pick0 (some_cons pick0 (some_cons pick0 some_nil))))))) rfl fun _ => ?_
            refine wa_pure 11 rfl (po_mul rfl rfl) (some_cons pick0 (some_cons pick0 (some_cons pick0 (some_cons pick0 (some_cons pick0 some_nil))))) rfl (by kernel_rfl) (fun _ _ _ h => h) ?_
            refine wa_pure 12 rfl (po_add rfl rfl) (some_cons pick0 (some_cons pick0 (some_cons pick0 (some_cons pick0 (some_cons pick0 some_nil))))) rfl (by kernel_rfl) (fun _ _ _ h => h) ?_
            refine wa_pure 13 rfl (po_ixr (rds_own pick0) el_29 rfl rfl g5.1 g5.2) (some_cons pick0 (some_cons pick0 (some_cons pick0 (some_cons pick0 (some_cons pick0 some_nil))))) rfl (by kernel_rfl) (fun _ _ _ h => h) ?_
            refine wa_1 (i := 14) (by kernel_rfl) ?_
            refine ws_skipop rfl (so_own (x' := (wr ((gx (s2.2.set (((gx ((gx v2 k1).Cells) k2).A).toNat) (wr ((gx s2.2 (((gx ((gx v2 k1).Cells) k2).A).toNat)) + (wr (v5 * v6))))) (((gx ((gx v2 k1).Cells) k2).B).toNat)) + (wr (v7 * v8))))) tk_3 pick0 rfl rfl rfl rfl rfl rfl (ix_lt g5) rfl) (sts_past (by kernel_rfl)) ?_
            refine wa_done (by kernel_rfl) ?_
            exact wj_meet _ () (mtE t3) (sub_cons rfl (sub_cons rfl (sub_cons rfl (sub_cons rfl (sub_cons rfl (sub_cons rfl (sub_cons rfl (sub_cons rfl (sub_cons rfl sub_nil))))))))) (some_cons (pickS (pickS (pickS (pickS pick0)))) (some_cons (pickS (pickS (pickS pick0))) (some_cons pick0 (some_cons (pickS pick0) some_nil))))
          intro j1 _ hp
          obtain rfl : j1 = y3 := hp.symm
          refine wq_block ?_
          refine wq_then ?_
          refine wc_region ?_
          refine wl_pure (po_inc rfl rfl (by omega)) rfl ?_
          refine mv rfl rfl ?_
          refine wl_nil ?_
          exact wq_rnd hk2 (stpN l2 t2) () (sub_cons rfl (sub_cons rfl (sub_cons rfl (sub_cons rfl (sub_cons rfl (sub_cons rfl (sub_cons rfl (sub_cons rfl (sub_cons rfl sub_nil))))))))) (some_cons (pickS (pickS (pickS pick0))) (some_cons (pickS (pickS pick0)) (some_cons (pickS pick0) (some_cons pick0 some_nil))))
        have c2 : (decide (((k2 : Nat) : Int) < ((((gx v2 k1).Cells).length : Nat) : Int))) = false := decide_eq_false (by omega)
        have en1 := forO_end l2 hk2
        refine wcr ?_
        refine wl_pure (po_lss rfl rfl) rfl ?_
        refine wnt ?_
        refine wc_seq ?_
        refine wc_cond_f rfl c2 ?_
        refine wc_exit ?_
        refine wq_then_exit ?_
        refine wq_then_exit ?_
        refine wq_block_exit ?_
        exact wj_meet _ () (Sum.inl.inj en1) (sub_cons rfl (sub_cons rfl (sub_cons rfl (sub_cons rfl (sub_cons rfl (sub_cons rfl sub_nil)))))) (some_cons pick0 (some_cons pick0 (some_cons pick0 (some_cons pick0 some_nil))))
      intro e2 _ hp
      obtain rfl : e2 = y2 := hp.symm
      refine wq_block ?_
      refine wq_then ?_
      refine wc_region ?_
      refine wl_pure (po_inc rfl rfl (by omega)) rfl ?_
      refine mv rfl rfl ?_
      refine wl_nil ?_
      exact wq_rnd hk1 (stpN l1 t1) () (sub_cons rfl (sub_cons rfl (sub_cons rfl (sub_cons rfl (sub_cons rfl (sub_cons rfl sub_nil)))))) (some_cons pick0 (some_cons pick0 (some_cons pick0 (some_cons pick0 some_nil))))
    have c1 : (decide (((k1 : Nat) : Int) < ((v2.length : Nat) : Int))) = false := decide_eq_false (by omega)
    have en2 := forO_end l1 hk1
    refine wcr ?_
    refine wl_pure (po_lss rfl rfl) rfl ?_
    refine wnt ?_
    refine wc_seq ?_
    refine wc_cond_f rfl c1 ?_
    refine wc_exit ?_
    refine wq_then_exit ?_
    refine wq_then_exit ?_
    refine wq_block_exit ?_
    exact wj_meet _ () (Sum.inl.inj en2) (sub_cons rfl (sub_cons rfl sub_nil)) (some_cons (pickS pick0) (some_cons (pickS pick0) some_nil))
  intro e1 _ hp
  obtain rfl : e1 = y1 := hp.symm
  refine wq_then ?_
  refine wcr ?_
  refine wl_eff (eo_buildSlice rfl sb_29_0) rfl fun b4 => ?_
  refine asg rfl rfl ?_
  refine wnt ?_
  refine wc_seq ?_
  refine wcr ?_
  refine mv rfl rfl ?_
  refine wl_pure (po_lenr (rds_own (pickS (pickS pick0))) el_29 rfl) rfl ?_
  refine mv rfl rfl ?_
  refine wnt ?_
  refine gdO t0 fun g6 t0 => ?_
  refine lpO_inv t0 fun y1 l1 t0 => ?_
  refine wj (J := List Int) (X := Hd) (fun z => y1 = z) (fun _ x => [(9, (sl x))]) (fun z x => [ownF (sl x) z]) ?_ ?_
  · skip
    refine wc_block ?_
    refine wc_forO (X := Hd) l1 (fun k3 s3 x3l => [(3, (sl x5.1)), (4, (sl x5.2)), (9, (sl x3l)), (82, .int .i64 ((e1.1.length : Nat) : Int)), (83, .int .i64 ((k3 : Nat) : Int))]) (fun k3 s3 x3l => [ownF (sl x5.2) e1.2, ownF (sl x5.1) e1.1, ownF (sl x3l) s3]) (⟨some ⟨b4, 0, none⟩, 0, 0⟩ : Hd) (sub_cons rfl (sub_cons rfl (sub_cons rfl (sub_cons rfl (sub_cons rfl sub_nil))))) (some_cons (pickS pick0) (some_cons (pickS pick0) (some_cons (pick_box_own pick0 (n := 0) (xs := ([] : List Int)) rfl rfl (by unfold maxLen; omega)) some_nil))) fun k3 s3 x3l hN3 l1 => ?_
    by_cases hk3 : k3 < e1.1.length
    · skip
      refine forO_step l1 hk3 fun _ t1 l1 => ?_
      unfold impl_ClothFor_L3 at t1
      have c3 : (decide (((k3 : Nat) : Int) < ((e1.1.length : Nat) : Int))) = true := decide_eq_true (by omega)
      refine wcr ?_
      refine wl_pure (po_lss rfl rfl) rfl ?_
      refine wnt ?_
      refine wc_seq ?_
      refine wc_cond_t rfl c3 ?_
      refine wc_skip ?_
      refine wq_then ?_
      refine wc_seq ?_
      refine wc_block ?_
      refine wcr ?_
      refine mv rfl rfl ?_
      refine asg rfl rfl ?_
      refine wnt ?_
      refine wc_draw [ownF (sl x5.2) e1.2, ownF (sl x5.1) e1.1] 14 mixed ?_
      refine wa_pure 0 rfl (po_move rfl) (some_cons pick0 (some_cons pick0 some_nil)) rfl (by kernel_rfl) (fun _ _ _ h => h) ?_
      refine wa_pure 1 rfl (po_move rfl) (some_cons pick0 (some_cons pick0 some_nil)) rfl (by kernel_rfl) (fun _ _ _ h => h) ?_
      refine wa_pure 2 rfl (po_move rfl) (some_cons pick0 (some_cons pick0 some_nil)) rfl (by kernel_rfl) (fun _ _ _ h => h) ?_
      refine wa_pure 3 rfl (po_ixn (k := k3) (rds_own (pickS pick0)) el_29 rfl rfl hk3) (some_cons pick0 (some_cons pick0 some_nil)) rfl (by kernel_rfl) (fun _ _ _ h => h) ?_
      refine wa_pure (v := .int .i64 (gx e1.1 k3)) 4 rfl (po_ldf (rds_own (pickS pick0)) tk_3 rfl hk3 rfl) (some_cons pick0 (some_cons pick0 some_nil)) rfl (by kernel_rfl) (fun _ _ _ h => h) ?_
      refine wa_pure 5 rfl (po_move rfl) (some_cons pick0 (some_cons pick0 some_nil)) rfl (by kernel_rfl) (fun _ _ _ h => h) ?_
      refine wa_pure 6 rfl (po_move rfl) (some_cons pick0 (some_cons pick0 some_nil)) rfl (by kernel_rfl) (fun _ _ _ h => h) ?_
      refine gdO t1 fun g7 t1 => ?_
      refine wa_pure 7 rfl (po_ixn (k := k3) (rds_own pick0) el_29 rfl rfl g7) (some_cons pick0 (some_cons pick0 some_nil)) rfl (by kernel_rfl) (fun _ _ _ h => h) ?_
      refine wa_pure (v := .int .i64 (gx e1.2 k3)) 8 rfl (po_ldf (rds_own pick0) tk_3 rfl g7 rfl) (some_cons pick0 (some_cons pick0 some_nil)) rfl (by kernel_rfl) (fun _ _ _ h => h) ?_
      refine wa_1 (i := 9) (by kernel_rfl) ?_
      refine bdO t1 fun v9 hv9 t1 => ?_
      refine ws_call rfl (co_c0 fa_54 rfl fun w hw => c_impl_up w (gx e1.2 k3) 2 hv9) (fun _ => (sts_some (some_cons pick0 (some_cons pick0 some_nil)))) rfl fun _ => ?_
      refine wa_pure 10 rfl (po_add rfl rfl) (some_cons pick0 (some_cons pick0 some_nil)) rfl (by kernel_rfl) (fun _ _ _ h => h) ?_
      refine wa_1 (i := 11) (by kernel_rfl) ?_
      refine ws_eff rfl (eo_buildSlice rfl (sb_29_1 (wr ((gx e1.1 k3) + v9)))) (fun _ => (sts_some (some_cons (pickS pick0) (some_cons (pickS pick0) some_nil)))) rfl fun b5 => ?_
      refine wa_1 (i := 12) (by kernel_rfl) ?_
      refine gdO t1 fun g8 t1 => ?_
      refine ws_eff rfl (eo_append (xs := s3) (ys := ([(wr ((gx e1.1 k3) + v9))] : List Int)) ak_29 (pickS (pickS (pickS pick0))) rfl rfl (slin_rd fun _ g => Rg.on (rds_own (pick_box_own pick0 (n := 1) (xs := ([(wr ((gx e1.1 k3) + v9))] : List Int)) rfl rfl (by unfold maxLen; omega))) g) g8) (fun _ => (sts_some (some_cons (pickS (pickS pick0)) (some_cons (pickS (pickS pick0)) some_nil)))) rfl fun x11 => ?_
      refine wa_pure 13 rfl (po_assign rfl) (some_cons (pickS (pickS pick0)) (some_cons (pickS (pickS pick0)) some_nil)) rfl (by kernel_rfl) (fun _ _ _ h => h) ?_
      refine wa_done (by kernel_rfl) ?_
      refine wq_block ?_
      refine wq_then ?_
      refine wc_region ?_
      refine wl_pure (po_inc rfl rfl (by omega)) rfl ?_
      refine mv rfl rfl ?_
      refine wl_nil ?_
      exact wq_rnd hk3 (stpN l1 t1) x11 (sub_cons rfl (sub_cons rfl (sub_cons rfl (sub_cons rfl (sub_cons rfl sub_nil))))) (some_cons (pickS (pickS pick0)) (some_cons (pickS (pickS pick0)) (some_cons pick0 some_nil)))
    have c3 : (decide (((k3 : Nat) : Int) < ((e1.1.length : Nat) : Int))) = false := decide_eq_false (by omega)
    have en3 := forO_end l1 hk3
    refine wcr ?_
    refine wl_pure (po_lss rfl rfl) rfl ?_
    refine wnt ?_
    refine wc_seq ?_
    refine wc_cond_f rfl c3 ?_
    refine wc_exit ?_
    refine wq_then_exit ?_
    refine wq_then_exit ?_
    refine wq_block_exit ?_
    exact wj_meet _ x3l (Sum.inl.inj en3) (sub_cons rfl sub_nil) (some_cons (pickS (pickS pick0)) some_nil)
  intro e3 x10 hp
  obtain rfl : e3 = y1 := hp.symm
  refine wq_then ?_
  refine wcr ?_
  refine mv rfl rfl ?_
  refine asg rfl rfl ?_
  refine wnt ?_
  refine wc_ret ?_
  obtain rfl := Option.some.inj t0
  exact wq_ret1 rfl rfl fun w hw => ⟨x10, rfl, hw.weak (some_cons pick0 some_nil)⟩

theorem c_impl_SharedCloth (w : World) (a_o : GOrder) (v0a : Hd) (r0 : rdF w (dm w []) (sl v0a) a_o.Quilt.Spots) (v1a : Hd) (u1a : List Value) (r1 : RdL w (dm w []) (sl v1a) u1a a_o.Blocks) (a_p : GOrder) (v2a : Hd) (r2 : rdF w (dm w []) (sl v2a) a_p.Quilt.Spots) (v3a : Hd) (u3a : List Value) (r3 : RdL w (dm w []) (sl v3a) u3a a_p.Blocks) {r : List Int} (t0 : impl_SharedCloth a_o a_p = some r) : Calls Try.prog 38 #[.agg #[.int .i64 a_o.Quilt.Width, .int .i64 a_o.Quilt.Height, (sl v0a), (sl v1a), .int .i64 a_o.Scale], .agg #[.int .i64 a_p.Quilt.Width, .int .i64 a_p.Quilt.Height, (sl v2a), (sl v3a), .int .i64 a_p.Scale]] w fun e w' => ∃ x : Hd, e = .returned ((sl x)) ∧ SH w [] [ownF (sl x) r] w' := by
  refine calls_of_wc (args := [_, _]) Try.func38 rfl Try.ntmps38 rfl ?_
  unfold impl_SharedCloth at t0
  refine wcr ?_
  refine wl_eff (eo_box rfl rfl) rfl fun b1 => ?_
  refine wl_eff (eo_box rfl rfl) rfl fun b2 => ?_
  refine asg rfl rfl ?_
  refine wnt ?_
  refine wc_seq ?_
  refine wc_seq ?_
  refine bdO t0 fun y1 t1 t0 => ?_
  refine wj (J := Bool) (X := Unit) (fun z => y1 = z) (fun z _ => [(2, ptr b1 0), (3, ptr b2 0), (16, .bool z)]) (fun _ _ => [box b2 [.int .i64 a_p.Quilt.Width, .int .i64 a_p.Quilt.Height, (sl v2a), (sl v3a), .int .i64 a_p.Scale], box b1 [.int .i64 a_o.Quilt.Width, .int .i64 a_o.Quilt.Height, (sl v0a), (sl v1a), .int .i64 a_o.Scale]]) ?_ ?_
  · skip
    refine wc_region ?_
    refine wl_pure (v := .agg #[.int .i64 a_o.Quilt.Width, .int .i64 a_o.Quilt.Height, (sl v0a), (sl v1a), .int .i64 a_o.Scale]) (po_load_boxs tk_36 (pickS pick0) rfl rfl rfl) rfl ?_
    refine bdO t1 fun v1 hv1 t1 => ?_
    refine wl_call (co_c0 fa_50 rfl fun w hw => c_impl_OrderOk w a_o v0a (Rg.on (rds_arg r0) hw) v1a u1a (Rg.on (rds_arg r1) hw) hv1) rfl fun _ => ?_
    refine wl_pure (po_not rfl) rfl ?_
    refine mv rfl rfl ?_
    refine wlO_ (t := 12) t1 rfl (fun h1 t1 => ?_) fun h1 t1 => ?_
    · skip
      refine wl_guard_off (j := 3) rfl rfl rfl rfl rfl ?_
      refine wl_guard_off (j := 3) rfl rfl rfl rfl rfl ?_
      refine wl_guard_off (j := 3) rfl rfl rfl rfl rfl ?_
      refine wl_pure (po_pick_t rfl rfl) rfl ?_
      refine wl_nil ?_
      exact wj_meet _ () (mtE t1) (sub_cons rfl (sub_cons rfl (sub_cons rfl sub_nil))) (some_cons pick0 (some_cons pick0 some_nil))
    refine wl_guard_on (j := 3) rfl rfl rfl (wl_pure (v := .agg #[.int .i64 a_p.Quilt.Width, .int .i64 a_p.Quilt.Height, (sl v2a), (sl v3a), .int .i64 a_p.Scale]) (po_load_boxs tk_36 pick0 rfl rfl rfl) rfl ?_)
    refine bdO t1 fun v2 hv2 t1 => ?_
    refine wl_guard_on (j := 3) rfl rfl rfl (wl_call (co_c0 fa_50 rfl fun w hw => c_impl_OrderOk w a_p v2a (Rg.on (rds_arg r2) hw) v3a u3a (Rg.on (rds_arg r3) hw) hv2) rfl (fun _ => ?_))
    refine wl_guard_on (j := 3) rfl rfl rfl (wl_pure (po_not rfl) rfl ?_)
    refine wl_pure (po_pick_f rfl rfl) rfl ?_
    refine wl_nil ?_
    exact wj_meet _ () (mtE t1) (sub_cons rfl (sub_cons rfl (sub_cons rfl sub_nil))) (some_cons pick0 (some_cons pick0 some_nil))
  intro j1 _ hp
  obtain rfl : j1 = y1 := hp.symm
  refine wq_then ?_
  refine wcO t0 rfl (fun h2 t0 => ?_) fun h2 t0 => ?_
  · skip
    refine wcr ?_
    refine asg rfl rfl ?_
    refine wnt ?_
    refine wc_ret ?_
    refine wq_then_ret ?_
    obtain rfl := Option.some.inj t0
    exact wq_ret1 rfl rfl fun w hw => ⟨(⟨none, 0, 0⟩ : Hd), rfl, hw.weak (some_cons pick_nil some_nil)⟩
  refine wc_skip ?_
  refine wq_then ?_
  refine wc_seq ?_
  refine bdO t0 fun v3 hv3 t0 => ?_
  refine bdO t0 fun v4 hv4 t0 => ?_
  refine wc_join (X := Hd × Hd × Nat) (fun _ => True) (fun z => [(5, (sl z.1)), (6, (sl z.2.1)), (7, (sl (⟨some ⟨z.2.2, 0, none⟩, 0, 0⟩ : Hd)))]) (fun z => [box z.2.2 [], ownF (sl z.2.1) v4, ownF (sl z.1) v3]) ?_ ?_
  · skip
    refine wc_draw [box b2 [.int .i64 a_p.Quilt.Width, .int .i64 a_p.Quilt.Height, (sl v2a), (sl v3a), .int .i64 a_p.Scale], box b1 [.int .i64 a_o.Quilt.Width, .int .i64 a_o.Quilt.Height, (sl v0a), (sl v1a), .int .i64 a_o.Scale]] 8 mixed ?_
    refine wa_pure (v := .agg #[.int .i64 a_o.Quilt.Width, .int .i64 a_o.Quilt.Height, (sl v0a), (sl v1a), .int .i64 a_o.Scale]) 0 rfl (po_load_boxs tk_36 (pickS pick0) rfl rfl rfl) (some_cons pick0 (some_cons pick0 some_nil)) rfl (by kernel_rfl) (fun _ _ _ h => h) ?_
    refine wa_pure (v := .agg #[.int .i64 a_p.Quilt.Width, .int .i64 a_p.Quilt.Height, (sl v2a), (sl v3a), .int .i64 a_p.Scale]) 2 rfl (po_load_boxs tk_36 pick0 rfl rfl rfl) (some_cons pick0 (some_cons pick0 some_nil)) rfl (by kernel_rfl) (fun _ _ _ h => h) ?_
    refine wa_2 (i := 1) (j := 4) (by kernel_rfl) ?_ ?_
    · skip
      refine ws_call rfl (co_c1 fa_12 rfl fun w hw => c_impl_ClothFor w a_o v0a (Rg.on (rds_arg r0) hw) v1a u1a (Rg.on (rds_arg r1) hw) hv3) (fun _ => (sts_some (some_cons (pickS pick0) (some_cons (pickS pick0) some_nil)))) rfl fun x2 => ?_
      refine wa_2 (i := 3) (j := 4) (by kernel_rfl) ?_ ?_
      · skip
        refine ws_call rfl (co_c1 fa_12 rfl fun w hw => c_impl_ClothFor w a_p v2a (Rg.on (rds_arg r2) hw) v3a u3a (Rg.on (rds_arg r3) hw) hv4) (fun _ => (sts_some (some_cons (pickS (pickS pick0)) (some_cons (pickS (pickS pick0)) some_nil)))) rfl fun x3 => ?_
        refine wa_pure 5 rfl (po_assign rfl) (some_cons (pickS (pickS pick0)) (some_cons (pickS (pickS pick0)) some_nil)) rfl (by kernel_rfl) (fun _ _ _ h => h) ?_
        refine wa_pure 6 rfl (po_assign rfl) (some_cons (pickS (pickS pick0)) (some_cons (pickS (pickS pick0)) some_nil)) rfl (by kernel_rfl) (fun _ _ _ h => h) ?_
        refine wa_1 (i := 4) (by kernel_rfl) ?_
        refine ws_eff rfl (eo_buildSlice rfl sb_29_0) (fun _ => (sts_some (some_cons (pickS (pickS (pickS pick0))) (some_cons (pickS (pickS (pickS pick0))) some_nil)))) rfl fun b3 => ?_
        refine wa_pure 7 rfl (po_assign rfl) (some_cons (pickS (pickS (pickS pick0))) (some_cons (pickS (pickS (pickS pick0))) some_nil)) rfl (by kernel_rfl) (fun _ _ _ h => h) ?_
        refine wa_done (by kernel_rfl) ?_
        exact wq_meet (x2, x3, b3) trivial (sub_cons rfl (sub_cons rfl (sub_cons rfl sub_nil))) (some_cons pick0 (some_cons pick0 (some_cons pick0 some_nil)))
      refine ws_eff rfl (eo_buildSlice rfl sb_29_0) (fun _ => (sts_some (some_cons (pickS (pickS pick0)) (some_cons (pickS (pickS pick0)) some_nil)))) rfl fun b4 => ?_
      refine wa_1 (i := 3) (by kernel_rfl) ?_
      refine ws_call rfl (co_c1 fa_12 rfl fun w hw => c_impl_ClothFor w a_p v2a (Rg.on (rds_arg r2) hw) v3a u3a (Rg.on (rds_arg r3) hw) hv4) (fun _ => (sts_some (some_cons (pickS (pickS (pickS pick0))) (some_cons (pickS (pickS (pickS pick0))) some_nil)))) rfl fun x4 => ?_
      refine wa_pure 5 rfl (po_assign rfl) (some_cons (pickS (pickS (pickS pick0))) (some_cons (pickS (pickS (pickS pick0))) some_nil)) rfl (by kernel_rfl) (fun _ _ _ h => h) ?_
      refine wa_pure 6 rfl (po_assign rfl) (some_cons (pickS (pickS (pickS pick0))) (some_cons (pickS (pickS (pickS pick0))) some_nil)) rfl (by kernel_rfl) (fun _ _ _ h => h) ?_
      refine wa_pure 7 rfl (po_assign rfl) (some_cons (pickS (pickS (pickS pick0))) (some_cons (pickS (pickS (pickS pick0))) some_nil)) rfl (by kernel_rfl) (fun _ _ _ h => h) ?_
      refine wa_done (by kernel_rfl) ?_
      exact wq_meet (x2, x4, b4) trivial (sub_cons rfl (sub_cons rfl (sub_cons rfl sub_nil))) (some_cons (pickS pick0) (some_cons pick0 (some_cons pick0 some_nil)))
    refine ws_eff rfl (eo_buildSlice rfl sb_29_0) (fun _ => (sts_some (some_cons (pickS pick0) (some_cons (pickS pick0) some_nil)))) rfl fun b5 => ?_
    refine wa_1 (i := 1) (by kernel_rfl) ?_
    refine ws_call rfl (co_c1 fa_12 rfl fun w hw => c_impl_ClothFor w a_o v0a (Rg.on (rds_arg r0) hw) v1a u1a (Rg.on (rds_arg r1) hw) hv3) (fun _ => (sts_some (some_cons (pickS (pickS pick0)) (some_cons (pickS (pickS pick0)) some_nil)))) rfl fun x5 => ?_
    refine wa_1 (i := 3) (by kernel_rfl) ?_
    refine ws_call rfl (co_c1 fa_12 rfl fun w hw => c_impl_ClothFor w a_p v2a (Rg.on (rds_arg r2) hw) v3a u3a (Rg.on (rds_arg r3) hw) hv4) (fun _ => (sts_some (some_cons (pickS (pickS (pickS pick0))) (some_cons (pickS (pickS (pickS pick0))) some_nil)))) rfl fun x6 => ?_
    refine wa_pure 5 rfl (po_assign rfl) (some_cons (pickS (pickS (pickS pick0))) (some_cons (pickS (pickS (pickS pick0))) some_nil)) rfl (by kernel_rfl) (fun _ _ _ h => h) ?_
    refine wa_pure 6 rfl (po_assign rfl) (some_cons (pickS (pickS (pickS pick0))) (some_cons (pickS (pickS (pickS pick0))) some_nil)) rfl (by kernel_rfl) (fun _ _ _ h => h) ?_
    refine wa_pure 7 rfl (po_assign rfl) (some_cons (pickS (pickS (pickS pick0))) (some_cons (pickS (pickS (pickS pick0))) some_nil)) rfl (by kernel_rfl) (fun _ _ _ h => h) ?_
    refine wa_done (by kernel_rfl) ?_
    exact wq_meet (x5, x6, b5) trivial (sub_cons rfl (sub_cons rfl (sub_cons rfl sub_nil))) (some_cons (pickS (pickS pick0)) (some_cons pick0 (some_cons pick0 some_nil)))
  intro x7 _
  refine wq_then ?_
  refine wc_seq ?_
  refine wcr ?_
  refine mv rfl rfl ?_
  refine wl_pure (po_lenr (rds_own (pickS (pickS pick0))) el_29 rfl) rfl ?_
  refine mv rfl rfl ?_
  refine wnt ?_
  refine gdO t0 fun g1 t0 => ?_
  refine lpO_inv t0 fun y1 l1 t0 => ?_
  refine wj (J := List Int) (X := Hd) (fun z => y1 = z) (fun _ x => [(7, (sl x))]) (fun z x => [ownF (sl x) z]) ?_ ?_
  · skip
    refine wc_block ?_
    refine wc_forO (X := Hd) l1 (fun k1 s1 x1l => [(5, (sl x7.1)), (6, (sl x7.2.1)), (7, (sl x1l)), (23, .int .i64 ((v3.length : Nat) : Int)), (24, .int .i64 ((k1 : Nat) : Int))]) (fun k1 s1 x1l => [ownF (sl x7.2.1) v4, ownF (sl x7.1) v3, ownF (sl x1l) s1]) (⟨some ⟨x7.2.2, 0, none⟩, 0, 0⟩ : Hd) (sub_cons rfl (sub_cons rfl (sub_cons rfl (sub_cons rfl (sub_cons rfl sub_nil))))) (some_cons (pickS pick0) (some_cons (pickS pick0) (some_cons (pick_box_own pick0 (n := 0) (xs := ([] : List Int)) rfl rfl (by unfold maxLen; omega)) some_nil))) fun k1 s1 x1l hN1 l1 => ?_
    by_cases hk1 : k1 < v3.length
    · skip
      refine forO_step l1 hk1 fun _ t1 l1 => ?_
      unfold impl_SharedCloth_L1 at t1
      have c1 : (decide (((k1 : Nat) : Int) < ((v3.length : Nat) : Int))) = true := decide_eq_true (by omega)
      refine wcr ?_
      refine wl_pure (po_lss rfl rfl) rfl ?_
      refine wnt ?_
      refine wc_seq ?_
      refine wc_cond_t rfl c1 ?_
      refine wc_skip ?_
      refine wq_then ?_
      refine wc_seq ?_
      refine wc_block ?_
      refine wcr ?_
      refine mv rfl rfl ?_
      refine asg rfl rfl ?_
      refine wnt ?_
      refine wc_draw [ownF (sl x7.2.1) v4, ownF (sl x7.1) v3] 13 mixed ?_
      refine wa_pure 0 rfl (po_move rfl) (some_cons pick0 (some_cons pick0 some_nil)) rfl (by kernel_rfl) (fun _ _ _ h => h) ?_
      refine wa_pure 1 rfl (po_move rfl) (some_cons pick0 (some_cons pick0 some_nil)) rfl (by kernel_rfl) (fun _ _ _ h => h) ?_
      refine wa_pure 2 rfl (po_move rfl) (some_cons pick0 (some_cons pick0 some_nil)) rfl (by kernel_rfl) (fun _ _ _ h => h) ?_
      refine wa_pure 3 rfl (po_ixn (k := k1) (rds_own (pickS pick0)) el_29 rfl rfl hk1) (some_cons pick0 (some_cons pick0 some_nil)) rfl (by kernel_rfl) (fun _ _ _ h => h) ?_
      refine wa_pure (v := .int .i64 (gx v3 k1)) 4 rfl (po_ldf (rds_own (pickS pick0)) tk_3 rfl hk1 rfl) (some_cons pick0 (some_cons pick0 some_nil)) rfl (by kernel_rfl) (fun _ _ _ h => h) ?_
      refine wa_pure 5 rfl (po_move rfl) (some_cons pick0 (some_cons pick0 some_nil)) rfl (by kernel_rfl) (fun _ _ _ h => h) ?_
      refine wa_pure 6 rfl (po_move rfl) (some_cons pick0 (some_cons pick0 some_nil)) rfl (by kernel_rfl) (fun _ _ _ h => h) ?_
      refine gdO t1 fun g2 t1 => ?_
      refine wa_pure 7 rfl (po_ixn (k := k1) (rds_own pick0) el_29 rfl rfl g2) (some_cons pick0 (some_cons pick0 some_nil)) rfl (by kernel_rfl) (fun _ _ _ h => h) ?_
      refine wa_pure (v := .int .i64 (gx v4 k1)) 8 rfl (po_ldf (rds_own pick0) tk_3 rfl g2 rfl) (some_cons pick0 (some_cons pick0 some_nil)) rfl (by kernel_rfl) (fun _ _ _ h => h) ?_
      refine wa_pure 9 rfl (po_min rfl rfl) (some_cons pick0 (some_cons pick0 some_nil)) rfl (by kernel_rfl) (fun _ _ _ h => h) ?_
      refine wa_1 (i := 10) (by kernel_rfl) ?_
      refine ws_eff rfl (eo_buildSlice rfl (sb_29_1 (if (gx v4 k1) < (gx v3 k1) then (gx v4 k1) else (gx v3 k1)))) (fun _ => (sts_some (some_cons (pickS pick0) (some_cons (pickS pick0) some_nil)))) rfl fun b6 => ?_
      refine wa_1 (i := 11) (by kernel_rfl) ?_
      refine gdO t1 fun g3 t1 => ?_
      refine ws_eff rfl (eo_append (xs := s1) (ys := ([(if (gx v4 k1) < (gx v3 k1) then (gx v4 k1) else (gx v3 k1))] : List Int)) ak_29 (pickS (pickS (pickS pick0))) rfl rfl (slin_rd fun _ g => Rg.on (rds_own (pick_box_own pick0 (n := 1) (xs := ([(if (gx v4 k1) < (gx v3 k1) then (gx v4 k1) else (gx v3 k1))] : List Int)) rfl rfl (by unfold maxLen; omega))) g) g3) (fun _ => (sts_some (some_cons (pickS (pickS pick0)) (some_cons (pickS (pickS pick0)) some_nil)))) rfl fun x9 => ?_
      refine wa_pure 12 rfl (po_assign rfl) (some_cons (pickS (pickS pick0)) (some_cons (pickS (pickS pick0)) some_nil)) rfl (by kernel_rfl) (fun _ _ _ h => h) ?_
      refine wa_done (by kernel_rfl) ?_
      refine wq_block ?_
      refine wq_then ?_
      refine wc_region ?_
      refine wl_pure (po_inc rfl rfl (by omega)) rfl ?_
      refine mv rfl rfl ?_
      refine wl_nil ?_
      exact wq_rnd hk1 (stpN l1 t1) x9 (sub_cons rfl (sub_cons rfl (sub_cons rfl (sub_cons rfl (sub_cons rfl sub_nil))))) (some_cons (pickS (pickS pick0)) (some_cons (pickS (pickS pick0)) (some_cons pick0 some_nil)))
    have c1 : (decide (((k1 : Nat) : Int) < ((v3.length : Nat) : Int))) = false := decide_eq_false (by omega)
    have en1 := forO_end l1 hk1
    refine wcr ?_
    refine wl_pure (po_lss rfl rfl) rfl ?_
    refine wnt ?_
    refine wc_seq ?_
    refine wc_cond_f rfl c1 ?_
    refine wc_exit ?_
    refine wq_then_exit ?_
    refine wq_then_exit ?_
    refine wq_block_exit ?_
    exact wj_meet _ x1l (Sum.inl.inj en1) (sub_cons rfl sub_nil) (some_cons (pickS (pickS pick0)) some_nil)
  intro e1 x8 hp
  obtain rfl : e1 = y1 := hp.symm
  refine wq_then ?_
  refine wcr ?_
  refine mv rfl rfl ?_
  refine asg rfl rfl ?_
  refine wnt ?_
  refine wc_ret ?_
  obtain rfl := Option.some.inj t0
  exact wq_ret1 rfl rfl fun w hw => ⟨x8, rfl, hw.weak (some_cons pick0 some_nil)⟩

theorem c_laws_eqIntS (w : World) (a_a : List Int) (v0a : Hd) (r0 : rdF w (dm w []) (sl v0a) a_a) (a_b : List Int) (v1a : Hd) (r1 : rdF w (dm w []) (sl v1a) a_b) {r : Bool} (t0 : laws_eqIntS a_a a_b = some r) : Calls Try.prog 13 #[(sl v0a), (sl v1a)] w fun e w' => e = .returned (.bool r) ∧ SH w [] [] w' := by
  refine calls_of_wc (args := [_, _]) Try.func13 rfl Try.ntmps13 rfl ?_
  unfold laws_eqIntS at t0
  refine wcr ?_
  refine asg rfl rfl ?_
  refine wnt ?_
  refine wc_seq ?_
  refine wcr ?_
  refine mv rfl rfl ?_
  refine wl_pure (po_lenr (rds_arg r0) el_29 rfl) rfl ?_
  refine mv rfl rfl ?_
  refine wl_pure (po_lenr (rds_arg r1) el_29 rfl) rfl ?_
  refine wl_pure (po_neq rfl rfl) rfl ?_
  refine wnt ?_
  refine wcO t0 rfl (fun h1 t0 => ?_) fun h1 t0 => ?_
  · skip
    refine wcr ?_
    refine asg rfl rfl ?_
    refine wnt ?_
    refine wc_ret ?_
    refine wq_then_ret ?_
    obtain rfl := Option.some.inj t0
    exact wq_ret1 rfl rfl fun w hw => ⟨rfl, hw.weak some_nil⟩
  refine wc_skip ?_
  refine wq_then ?_
  refine wc_seq ?_
  refine wcr ?_
  refine asg rfl rfl ?_
  refine wnt ?_
  refine gdO t0 fun g1 t0 => ?_
  refine sqO t0 fun y1 l1 t0 => ?_
  refine wj (J := Unit) (X := Unit) (fun z => y1 = .inl z) (fun _ _ => []) (fun _ _ => []) ?_ ?_
  · skip
    refine wc_block ?_
    refine wc_forO (X := Unit) l1 (fun k1 s1 x1l => [(0, (sl v0a)), (1, (sl v1a)), (5, .int .i64 ((k1 : Nat) : Int))]) (fun k1 s1 x1l => []) () (sub_cons rfl (sub_cons rfl (sub_cons rfl sub_nil))) some_nil fun k1 s1 x1l hN1 l1 => ?_
    by_cases hk1 : k1 < a_a.length
    · skip
      refine forO_step l1 hk1 fun _ t1 l1 => ?_
      unfold laws_eqIntS_L1 at t1
      have c1 : (decide (((k1 : Nat) : Int) < ((a_a.length : Nat) : Int))) = true := decide_eq_true (by omega)
      refine wc_seq ?_
      refine wcr ?_
      refine mv rfl rfl ?_
      refine mv rfl rfl ?_
      refine wl_pure (po_lenr (rds_arg r0) el_29 rfl) rfl ?_
      refine wl_pure (po_lss rfl rfl) rfl ?_
      refine wnt ?_
      refine wc_cond_t rfl c1 ?_
      refine wc_skip ?_
      refine wq_then ?_
      refine wc_seq ?_
      refine wc_block ?_
      refine wc_seq ?_
      refine wc_draw [] 9 mixed ?_
      refine wa_pure 0 rfl (po_move rfl) some_nil rfl (by kernel_rfl) (fun _ _ _ h => h) ?_
      refine wa_pure 1 rfl (po_move rfl) some_nil rfl (by kernel_rfl) (fun _ _ _ h => h) ?_
      refine wa_pure 2 rfl (po_ixn (k := k1) (rds_arg r0) el_29 rfl rfl hk1) some_nil rfl (by kernel_rfl) (fun _ _ _ h => h) ?_
      refine wa_pure (v := .int .i64 (gx a_a k1)) 3 rfl (po_ldf (rds_arg r0) tk_3 rfl hk1 rfl) some_nil rfl (by kernel_rfl) (fun _ _ _ h => h) ?_
      refine wa_pure 4 rfl (po_move rfl) some_nil rfl (by kernel_rfl) (fun _ _ _ h => h) ?_
      refine wa_pure 5 rfl (po_move rfl) some_nil rfl (by kernel_rfl) (fun _ _ _ h => h) ?_
      refine gdO t1 fun g2 t1 => ?_
      refine wa_pure 6 rfl (po_ixn (k := k1) (rds_arg r1) el_29 rfl rfl g2) some_nil rfl (by kernel_rfl) (fun _ _ _ h => h) ?_
      refine wa_pure (v := .int .i64 (gx a_b k1)) 7 rfl (po_ldf (rds_arg r1) tk_3 rfl g2 rfl) some_nil rfl (by kernel_rfl) (fun _ _ _ h => h) ?_
      refine wa_pure 8 rfl (po_neq rfl rfl) some_nil rfl (by kernel_rfl) (fun _ _ _ h => h) ?_
      refine wa_done (by kernel_rfl) ?_
      refine wq_then ?_
      refine wcO t1 rfl (fun h2 t1 => ?_) fun h2 t1 => ?_
      · skip
        refine wcr ?_
        refine asg rfl rfl ?_
        refine wnt ?_
        refine wc_ret ?_
        refine wq_block_ret ?_
        refine wq_then_ret ?_
        refine wq_then_ret ?_
        refine wq_block_ret ?_
        refine wq_then_ret ?_
        refine wq_then_ret ?_
        replace t0 := lpR t0 l1 t1
        obtain rfl := Option.some.inj t0
        exact wq_ret1 rfl rfl fun w hw => ⟨rfl, hw.weak some_nil⟩
      refine wc_skip ?_
      refine wq_block ?_
      refine wq_then ?_
      refine wc_region ?_
      refine mv rfl rfl ?_
      refine wl_pure (po_inc rfl rfl (by omega)) rfl ?_
      refine asg rfl rfl ?_
      refine wl_nil ?_
      exact wq_rnd hk1 (stpN l1 t1) () (sub_cons rfl (sub_cons rfl (sub_cons rfl sub_nil))) some_nil
    have c1 : (decide (((k1 : Nat) : Int) < ((a_a.length : Nat) : Int))) = false := decide_eq_false (by omega)
    have en1 := forO_end l1 hk1
    refine wc_seq ?_
    refine wcr ?_
    refine mv rfl rfl ?_
    refine mv rfl rfl ?_
    refine wl_pure (po_lenr (rds_arg r0) el_29 rfl) rfl ?_
    refine wl_pure (po_lss rfl rfl) rfl ?_
    refine wnt ?_
    refine wc_cond_f rfl c1 ?_
    refine wc_exit ?_
    refine wq_then_exit ?_
    refine wq_then_exit ?_
    refine wq_block_exit ?_
    exact wj_meet _ () en1 sub_nil some_nil
  intro e1 _ hp
  replace t0 := sqE (j := e1) t0 hp
  refine wq_then ?_
  refine wcr ?_
  refine asg rfl rfl ?_
  refine wnt ?_
  refine wc_ret ?_
  obtain rfl := Option.some.inj t0
  exact wq_ret1 rfl rfl fun w hw => ⟨rfl, hw.weak some_nil⟩

theorem c_laws_eqSpot (w : World) (a_a : GSpot) (a_b : GSpot) {r : Bool} (t0 : laws_eqSpot a_a a_b = some r) : Calls Try.prog 95 #[.agg #[.int .i64 a_a.Block, .int .i64 a_a.Seen], .agg #[.int .i64 a_b.Block, .int .i64 a_b.Seen]] w fun e w' => e = .returned (.bool r) ∧ SH w [] [] w' := by
  refine calls_of_wc (args := [_, _]) Try.func95 rfl Try.ntmps95 rfl ?_
  unfold laws_eqSpot at t0
  refine wcr ?_
  refine wl_eff (eo_box rfl rfl) rfl fun b1 => ?_
  refine wl_eff (eo_box rfl rfl) rfl fun b2 => ?_
  refine asg rfl rfl ?_
  refine wnt ?_
  refine wc_seq ?_
  refine wcr ?_
  refine wl_pure (po_fld fo_108_0 rfl) rfl ?_
  refine wl_pure (v := .int .i64 a_a.Block) (po_load_box tk_3 (pickS pick0) rfl rfl) rfl ?_
  refine wl_pure (po_fld fo_108_0 rfl) rfl ?_
  refine wl_pure (v := .int .i64 a_b.Block) (po_load_box tk_3 pick0 rfl rfl) rfl ?_
  refine wl_pure (po_neq rfl rfl) rfl ?_
  refine wnt ?_
  refine wcO t0 rfl (fun h1 t0 => ?_) fun h1 t0 => ?_
  · skip
    refine wcr ?_
    refine asg rfl rfl ?_
    refine wnt ?_
    refine wc_ret ?_
    refine wq_then_ret ?_
    obtain rfl := Option.some.inj t0
    exact wq_ret1 rfl rfl fun w hw => ⟨rfl, hw.weak some_nil⟩
  refine wc_skip ?_
  refine wq_then ?_
  refine wc_seq ?_
  refine wcr ?_
  refine wl_pure (po_fld fo_108_1 rfl) rfl ?_
  refine wl_pure (v := .int .i64 a_a.Seen) (po_load_box tk_3 (pickS pick0) rfl rfl) rfl ?_
  refine wl_pure (po_fld fo_108_1 rfl) rfl ?_
  refine wl_pure (v := .int .i64 a_b.Seen) (po_load_box tk_3 pick0 rfl rfl) rfl ?_
  refine wl_pure (po_neq rfl rfl) rfl ?_
  refine wnt ?_
  refine wcO t0 rfl (fun h2 t0 => ?_) fun h2 t0 => ?_
  · skip
    refine wcr ?_
    refine asg rfl rfl ?_
    refine wnt ?_
    refine wc_ret ?_
    refine wq_then_ret ?_
    obtain rfl := Option.some.inj t0
    exact wq_ret1 rfl rfl fun w hw => ⟨rfl, hw.weak some_nil⟩
  refine wc_skip ?_
  refine wq_then ?_
  refine wcr ?_
  refine asg rfl rfl ?_
  refine wnt ?_
  refine wc_ret ?_
  obtain rfl := Option.some.inj t0
  exact wq_ret1 rfl rfl fun w hw => ⟨rfl, hw.weak some_nil⟩

theorem c_laws_eqSpotS (w : World) (a_a : List GSpot) (v0a : Hd) (r0 : rdF w (dm w []) (sl v0a) a_a) (a_b : List GSpot) (v1a : Hd) (r1 : rdF w (dm w []) (sl v1a) a_b) {r : Bool} (t0 : laws_eqSpotS a_a a_b = some r) : Calls Try.prog 73 #[(sl v0a), (sl v1a)] w fun e w' => e = .returned (.bool r) ∧ SH w [] [] w' := by
  refine calls_of_wc (args := [_, _]) Try.func73 rfl Try.ntmps73 rfl ?_
  unfold laws_eqSpotS at t0
  refine wcr ?_
  refine asg rfl rfl ?_
  refine wnt ?_
  refine wc_seq ?_
  refine wcr ?_
  refine mv rfl rfl ?_
  refine wl_pure (po_lenr (rds_arg r0) el_31 rfl) rfl ?_
  refine mv rfl rfl ?_
  refine wl_pure (po_lenr (rds_arg r1) el_31 rfl) rfl ?_
  refine wl_pure (po_neq rfl rfl) rfl ?_
  refine wnt ?_
  refine wcO t0 rfl (fun h1 t0 => ?_) fun h1 t0 => ?_
  · skip
    refine wcr ?_
    refine asg rfl rfl ?_
    refine wnt ?_
    refine wc_ret ?_
    refine wq_then_ret ?_
    obtain rfl := Option.some.inj t0
    exact wq_ret1 rfl rfl fun w hw => ⟨rfl, hw.weak some_nil⟩
  refine wc_skip ?_
  refine wq_then ?_
  refine wc_seq ?_
  refine wcr ?_
  refine asg rfl rfl ?_
  refine wnt ?_
  refine gdO t0 fun g1 t0 => ?_
  refine sqO t0 fun y1 l1 t0 => ?_
  refine wj (J := Unit) (X := Unit) (fun z => y1 = .inl z) (fun _ _ => []) (fun _ _ => []) ?_ ?_
  · skip
    refine wc_block ?_
    refine wc_forO (X := Unit) l1 (fun k1 s1 x1l => [(0, (sl v0a)), (1, (sl v1a)), (5, .int .i64 ((k1 : Nat) : Int))]) (fun k1 s1 x1l => []) () (sub_cons rfl (sub_cons rfl (sub_cons rfl sub_nil))) some_nil fun k1 s1 x1l hN1 l1 => ?_
    by_cases hk1 : k1 < a_a.length
    · skip
      refine forO_step l1 hk1 fun _ t1 l1 => ?_
      unfold laws_eqSpotS_L1 at t1
      have c1 : (decide (((k1 : Nat) : Int) < ((a_a.length : Nat) : Int))) = true := decide_eq_true (by omega)
      refine wc_seq ?_
      refine wcr ?_
      refine mv rfl rfl ?_
      refine mv rfl rfl ?_
      refine wl_pure (po_lenr (rds_arg r0) el_31 rfl) rfl ?_
      refine wl_pure (po_lss rfl rfl) rfl ?_
      refine wnt ?_
      refine wc_cond_t rfl c1 ?_
      refine wc_skip ?_
      refine wq_then ?_
      refine wc_seq ?_
      refine wc_block ?_
      refine wc_seq ?_
      refine wc_draw [] 10 mixed ?_
      refine wa_pure 0 rfl (po_move rfl) some_nil rfl (by kernel_rfl) (fun _ _ _ h => h) ?_
      refine wa_pure 1 rfl (po_move rfl) some_nil rfl (by kernel_rfl) (fun _ _ _ h => h) ?_
      refine wa_pure 2 rfl (po_ixn (k := k1) (rds_arg r0) el_31 rfl rfl hk1) some_nil rfl (by kernel_rfl) (fun _ _ _ h => h) ?_
      refine wa_pure (v := .agg #[.int .i64 ((gx a_a k1).Block), .int .i64 ((gx a_a k1).Seen)]) 3 rfl (po_ldfs (rds_arg r0) tk_108 rfl hk1 rfl rfl rfl) some_nil rfl (by kernel_rfl) (fun _ _ _ h => h) ?_
      refine wa_pure 4 rfl (po_move rfl) some_nil rfl (by kernel_rfl) (fun _ _ _ h => h) ?_
      refine wa_pure 5 rfl (po_move rfl) some_nil rfl (by kernel_rfl) (fun _ _ _ h => h) ?_
      refine gdO t1 fun g2 t1 => ?_
      refine wa_pure 6 rfl (po_ixn (k := k1) (rds_arg r1) el_31 rfl rfl g2) some_nil rfl (by kernel_rfl) (fun _ _ _ h => h) ?_
      refine wa_pure (v := .agg #[.int .i64 ((gx a_b k1).Block), .int .i64 ((gx a_b k1).Seen)]) 7 rfl (po_ldfs (rds_arg r1) tk_108 rfl g2 rfl rfl rfl) some_nil rfl (by kernel_rfl) (fun _ _ _ h => h) ?_
      refine wa_1 (i := 8) (by kernel_rfl) ?_
      refine bdO t1 fun v1 hv1 t1 => ?_
      refine ws_call rfl (co_c0 fa_95 rfl fun w hw => c_laws_eqSpot w (gx a_a k1) (gx a_b k1) hv1) (fun _ => (sts_some some_nil)) rfl fun _ => ?_
      refine wa_pure 9 rfl (po_not rfl) some_nil rfl (by kernel_rfl) (fun _ _ _ h => h) ?_
      refine wa_done (by kernel_rfl) ?_
      refine wq_then ?_
      refine wcO t1 rfl (fun h2 t1 => ?_) fun h2 t1 => ?_
      · skip
        refine wcr ?_
        refine asg rfl rfl ?_
        refine wnt ?_
        refine wc_ret ?_
        refine wq_block_ret ?_
        refine wq_then_ret ?_
        refine wq_then_ret ?_
        refine wq_block_ret ?_
        refine wq_then_ret ?_
        refine wq_then_ret ?_
        replace t0 := lpR t0 l1 t1
        obtain rfl := Option.some.inj t0
        exact wq_ret1 rfl rfl fun w hw => ⟨rfl, hw.weak some_nil⟩
      refine wc_skip ?_
      refine wq_block ?_
      refine wq_then ?_
      refine wc_region ?_
      refine mv rfl rfl ?_
      refine wl_pure (po_inc rfl rfl (by omega)) rfl ?_
      refine asg rfl rfl ?_
      refine wl_nil ?_
      exact wq_rnd hk1 (stpN l1 t1) () (sub_cons rfl (sub_cons rfl (sub_cons rfl sub_nil))) some_nil
    have c1 : (decide (((k1 : Nat) : Int) < ((a_a.length : Nat) : Int))) = false := decide_eq_false (by omega)
    have en1 := forO_end l1 hk1
    refine wc_seq ?_
    refine wcr ?_
    refine mv rfl rfl ?_
    refine mv rfl rfl ?_
    refine wl_pure (po_lenr (rds_arg r0) el_31 rfl) rfl ?_
    refine wl_pure (po_lss rfl rfl) rfl ?_
    refine wnt ?_
    refine wc_cond_f rfl c1 ?_
    refine wc_exit ?_
    refine wq_then_exit ?_
    refine wq_then_exit ?_
    refine wq_block_exit ?_
    exact wj_meet _ () en1 sub_nil some_nil
  intro e1 _ hp
  replace t0 := sqE (j := e1) t0 hp
  refine wq_then ?_
  refine wcr ?_
  refine asg rfl rfl ?_
  refine wnt ?_
  refine wc_ret ?_
  obtain rfl := Option.some.inj t0
  exact wq_ret1 rfl rfl fun w hw => ⟨rfl, hw.weak some_nil⟩

theorem c_laws_eqQuilt (w : World) (a_a : GQuilt) (v0a : Hd) (r0 : rdF w (dm w []) (sl v0a) a_a.Spots) (a_b : GQuilt) (v1a : Hd) (r1 : rdF w (dm w []) (sl v1a) a_b.Spots) {r : Bool} (t0 : laws_eqQuilt a_a a_b = some r) : Calls Try.prog 35 #[.agg #[.int .i64 a_a.Width, .int .i64 a_a.Height, (sl v0a)], .agg #[.int .i64 a_b.Width, .int .i64 a_b.Height, (sl v1a)]] w fun e w' => e = .returned (.bool r) ∧ SH w [] [] w' := by
  refine calls_of_wc (args := [_, _]) Try.func35 rfl Try.ntmps35 rfl ?_
  unfold laws_eqQuilt at t0
  refine wcr ?_
  refine wl_eff (eo_box rfl rfl) rfl fun b1 => ?_
  refine wl_eff (eo_box rfl rfl) rfl fun b2 => ?_
  refine asg rfl rfl ?_
  refine wnt ?_
  refine wc_seq ?_
  refine wcr ?_
  refine wl_pure (po_fld fo_33_0 rfl) rfl ?_
  refine wl_pure (v := .int .i64 a_a.Width) (po_load_box tk_3 (pickS pick0) rfl rfl) rfl ?_
  refine wl_pure (po_fld fo_33_0 rfl) rfl ?_
  refine wl_pure (v := .int .i64 a_b.Width) (po_load_box tk_3 pick0 rfl rfl) rfl ?_
  refine wl_pure (po_neq rfl rfl) rfl ?_
  refine wnt ?_
  refine wcO t0 rfl (fun h1 t0 => ?_) fun h1 t0 => ?_
  · skip
    refine wcr ?_
    refine asg rfl rfl ?_
    refine wnt ?_
    refine wc_ret ?_
    refine wq_then_ret ?_
    obtain rfl := Option.some.inj t0
    exact wq_ret1 rfl rfl fun w hw => ⟨rfl, hw.weak some_nil⟩
  refine wc_skip ?_
  refine wq_then ?_
  refine wc_seq ?_
  refine wcr ?_
  refine wl_pure (po_fld fo_33_1 rfl) rfl ?_
  refine wl_pure (v := .int .i64 a_a.Height) (po_load_box tk_3 (pickS pick0) rfl rfl) rfl ?_
  refine wl_pure (po_fld fo_33_1 rfl) rfl ?_
  refine wl_pure (v := .int .i64 a_b.Height) (po_load_box tk_3 pick0 rfl rfl) rfl ?_
  refine wl_pure (po_neq rfl rfl) rfl ?_
  refine wnt ?_
  refine wcO t0 rfl (fun h2 t0 => ?_) fun h2 t0 => ?_
  · skip
    refine wcr ?_
    refine asg rfl rfl ?_
    refine wnt ?_
    refine wc_ret ?_
    refine wq_then_ret ?_
    obtain rfl := Option.some.inj t0
    exact wq_ret1 rfl rfl fun w hw => ⟨rfl, hw.weak some_nil⟩
  refine wc_skip ?_
  refine wq_then ?_
  refine wc_seq ?_
  refine wcr ?_
  refine wl_pure (po_fld fo_33_2 rfl) rfl ?_
  refine wl_pure (v := (sl v0a)) (po_load_box tk_31 (pickS pick0) rfl rfl) rfl ?_
  refine wl_pure (po_fld fo_33_2 rfl) rfl ?_
  refine wl_pure (v := (sl v1a)) (po_load_box tk_31 pick0 rfl rfl) rfl ?_
  refine bdO t0 fun v1 hv1 t0 => ?_
  refine wl_call (co_c0 fa_73 rfl fun w hw => c_laws_eqSpotS w a_a.Spots v0a (Rg.on (rds_arg r0) hw) a_b.Spots v1a (Rg.on (rds_arg r1) hw) hv1) rfl fun _ => ?_
  refine wl_pure (po_not rfl) rfl ?_
  refine wnt ?_
  refine wcO t0 rfl (fun h3 t0 => ?_) fun h3 t0 => ?_
  · skip
    refine wcr ?_
    refine asg rfl rfl ?_
    refine wnt ?_
    refine wc_ret ?_
    refine wq_then_ret ?_
    obtain rfl := Option.some.inj t0
    exact wq_ret1 rfl rfl fun w hw => ⟨rfl, hw.weak some_nil⟩
  refine wc_skip ?_
  refine wq_then ?_
  refine wcr ?_
  refine asg rfl rfl ?_
  refine wnt ?_
  refine wc_ret ?_
  obtain rfl := Option.some.inj t0
  exact wq_ret1 rfl rfl fun w hw => ⟨rfl, hw.weak some_nil⟩

theorem c_laws_eqCell (w : World) (a_a : GCell) (a_b : GCell) {r : Bool} (t0 : laws_eqCell a_a a_b = some r) : Calls Try.prog 92 #[.agg #[.int .i64 a_a.Split, .int .i64 a_a.A, .int .i64 a_a.B], .agg #[.int .i64 a_b.Split, .int .i64 a_b.A, .int .i64 a_b.B]] w fun e w' => e = .returned (.bool r) ∧ SH w [] [] w' := by
  refine calls_of_wc (args := [_, _]) Try.func92 rfl Try.ntmps92 rfl ?_
  unfold laws_eqCell at t0
  refine wcr ?_
  refine wl_eff (eo_box rfl rfl) rfl fun b1 => ?_
  refine wl_eff (eo_box rfl rfl) rfl fun b2 => ?_
  refine asg rfl rfl ?_
  refine wnt ?_
  refine wc_seq ?_
  refine wcr ?_
  refine wl_pure (po_fld fo_83_0 rfl) rfl ?_
  refine wl_pure (v := .int .i64 a_a.Split) (po_load_box tk_3 (pickS pick0) rfl rfl) rfl ?_
  refine wl_pure (po_fld fo_83_0 rfl) rfl ?_
  refine wl_pure (v := .int .i64 a_b.Split) (po_load_box tk_3 pick0 rfl rfl) rfl ?_
  refine wl_pure (po_neq rfl rfl) rfl ?_
  refine wnt ?_
  refine wcO t0 rfl (fun h1 t0 => ?_) fun h1 t0 => ?_
  · skip
    refine wcr ?_
    refine asg rfl rfl ?_
    refine wnt ?_
    refine wc_ret ?_
    refine wq_then_ret ?_
    obtain rfl := Option.some.inj t0
    exact wq_ret1 rfl rfl fun w hw => ⟨rfl, hw.weak some_nil⟩
  refine wc_skip ?_
  refine wq_then ?_
  refine wc_seq ?_
  refine wcr ?_
  refine wl_pure (po_fld fo_83_1 rfl) rfl ?_
  refine wl_pure (v := .int .i64 a_a.A) (po_load_box tk_3 (pickS pick0) rfl rfl) rfl ?_
  refine wl_pure (po_fld fo_83_1 rfl) rfl ?_
  refine wl_pure (v := .int .i64 a_b.A) (po_load_box tk_3 pick0 rfl rfl) rfl ?_
  refine wl_pure (po_neq rfl rfl) rfl ?_
  refine wnt ?_
  refine wcO t0 rfl (fun h2 t0 => ?_) fun h2 t0 => ?_
  · skip
    refine wcr ?_
    refine asg rfl rfl ?_
    refine wnt ?_
    refine wc_ret ?_
    refine wq_then_ret ?_
    obtain rfl := Option.some.inj t0
    exact wq_ret1 rfl rfl fun w hw => ⟨rfl, hw.weak some_nil⟩
  refine wc_skip ?_
  refine wq_then ?_
  refine wc_seq ?_
  refine wcr ?_
  refine wl_pure (po_fld fo_83_2 rfl) rfl ?_
  refine wl_pure (v := .int .i64 a_a.B) (po_load_box tk_3 (pickS pick0) rfl rfl) rfl ?_
  refine wl_pure (po_fld fo_83_2 rfl) rfl ?_
  refine wl_pure (v := .int .i64 a_b.B) (po_load_box tk_3 pick0 rfl rfl) rfl ?_
  refine wl_pure (po_neq rfl rfl) rfl ?_
  refine wnt ?_
  refine wcO t0 rfl (fun h3 t0 => ?_) fun h3 t0 => ?_
  · skip
    refine wcr ?_
    refine asg rfl rfl ?_
    refine wnt ?_
    refine wc_ret ?_
    refine wq_then_ret ?_
    obtain rfl := Option.some.inj t0
    exact wq_ret1 rfl rfl fun w hw => ⟨rfl, hw.weak some_nil⟩
  refine wc_skip ?_
  refine wq_then ?_
  refine wcr ?_
  refine asg rfl rfl ?_
  refine wnt ?_
  refine wc_ret ?_
  obtain rfl := Option.some.inj t0
  exact wq_ret1 rfl rfl fun w hw => ⟨rfl, hw.weak some_nil⟩

theorem c_laws_eqCellS (w : World) (a_a : List GCell) (v0a : Hd) (r0 : rdF w (dm w []) (sl v0a) a_a) (a_b : List GCell) (v1a : Hd) (r1 : rdF w (dm w []) (sl v1a) a_b) {r : Bool} (t0 : laws_eqCellS a_a a_b = some r) : Calls Try.prog 68 #[(sl v0a), (sl v1a)] w fun e w' => e = .returned (.bool r) ∧ SH w [] [] w' := by
  refine calls_of_wc (args := [_, _]) Try.func68 rfl Try.ntmps68 rfl ?_
  unfold laws_eqCellS at t0
  refine wcr ?_
  refine asg rfl rfl ?_
  refine wnt ?_
  refine wc_seq ?_
  refine wcr ?_
  refine mv rfl rfl ?_
  refine wl_pure (po_lenr (rds_arg r0) el_50 rfl) rfl ?_
  refine mv rfl rfl ?_
  refine wl_pure (po_lenr (rds_arg r1) el_50 rfl) rfl ?_
  refine wl_pure (po_neq rfl rfl) rfl ?_
  refine wnt ?_
  refine wcO t0 rfl (fun h1 t0 => ?_) fun h1 t0 => ?_
  · skip
    refine wcr ?_
    refine asg rfl rfl ?_
    refine wnt ?_
    refine wc_ret ?_
    refine wq_then_ret ?_
    obtain rfl := Option.some.inj t0
    exact wq_ret1 rfl rfl fun w hw => ⟨rfl, hw.weak some_nil⟩
  refine wc_skip ?_
  refine wq_then ?_
  refine wc_seq ?_
  refine wcr ?_
  refine asg rfl rfl ?_
  refine wnt ?_
  refine gdO t0 fun g1 t0 => ?_
  refine sqO t0 fun y1 l1 t0 => ?_
  refine wj (J := Unit) (X := Unit) (fun z => y1 = .inl z) (fun _ _ => []) (fun _ _ => []) ?_ ?_
  · skip
    refine wc_block ?_
    refine wc_forO (X := Unit) l1 (fun k1 s1 x1l => [(0, (sl v0a)), (1, (sl v1a)), (5, .int .i64 ((k1 : Nat) : Int))]) (fun k1 s1 x1l => []) () (sub_cons rfl (sub_cons rfl (sub_cons rfl sub_nil))) some_nil fun k1 s1 x1l hN1 l1 => ?_
    by_cases hk1 : k1 < a_a.length
    · skip
      refine forO_step l1 hk1 fun _ t1 l1 => ?_
      unfold laws_eqCellS_L1 at t1
      have c1 : (decide (((k1 : Nat) : Int) < ((a_a.length : Nat) : Int))) = true := decide_eq_true (by omega)
      refine wc_seq ?_
      refine wcr ?_
      refine mv rfl rfl ?_
      refine mv rfl rfl ?_
      refine wl_pure (po_lenr (rds_arg r0) el_50 rfl) rfl ?_
      refine wl_pure (po_lss rfl rfl) rfl ?_
      refine wnt ?_
      refine wc_cond_t rfl c1 ?_
      refine wc_skip ?_
      refine wq_then ?_
      refine wc_seq ?_
      refine wc_block ?_
      refine wc_seq ?_
      refine wc_draw [] 10 mixed ?_
      refine wa_pure 0 rfl (po_move rfl) some_nil rfl (by kernel_rfl) (fun _ _ _ h => h) ?_
      refine wa_pure 1 rfl (po_move rfl) some_nil rfl (by kernel_rfl) (fun _ _ _ h => h) ?_
      refine wa_pure 2 rfl (po_ixn (k := k1) (rds_arg r0) el_50 rfl rfl hk1) some_nil rfl (by kernel_rfl) (fun _ _ _ h => h) ?_
      refine wa_pure (v := .agg #[.int .i64 ((gx a_a k1).Split), .int .i64 ((gx a_a k1).A), .int .i64 ((gx a_a k1).B)]) 3 rfl (po_ldfs (rds_arg r0) tk_83 rfl hk1 rfl rfl rfl) some_nil rfl (by kernel_rfl) (fun _ _ _ h => h) ?_
      refine wa_pure 4 rfl (po_move rfl) some_nil rfl (by kernel_rfl) (fun _ _ _ h => h) ?_
      refine wa_pure 5 rfl (po_move rfl) some_nil rfl (by kernel_rfl) (fun _ _ _ h => h) ?_
      refine gdO t1 fun g2 t1 => ?_
      refine wa_pure 6 rfl (po_ixn (k := k1) (rds_arg r1) el_50 rfl rfl g2) some_nil rfl (by kernel_rfl) (fun _ _ _ h => h) ?_
      refine wa_pure (v := .agg #[.int .i64 ((gx a_b k1).Split), .int .i64 ((gx a_b k1).A), .int .i64 ((gx a_b k1).B)]) 7 rfl (po_ldfs (rds_arg r1) tk_83 rfl g2 rfl rfl rfl) some_nil rfl (by kernel_rfl) (fun _ _ _ h => h) ?_
      refine wa_1 (i := 8) (by kernel_rfl) ?_
      refine bdO t1 fun v1 hv1 t1 => ?_
      refine ws_call rfl (co_c0 fa_92 rfl fun w hw => c_laws_eqCell w (gx a_a k1) (gx a_b k1) hv1) (fun _ => (sts_some some_nil)) rfl fun _ => ?_
      refine wa_pure 9 rfl (po_not rfl) some_nil rfl (by kernel_rfl) (fun _ _ _ h => h) ?_
      refine wa_done (by kernel_rfl) ?_
      refine wq_then ?_
      refine wcO t1 rfl (fun h2 t1 => ?_) fun h2 t1 => ?_
      · skip
        refine wcr ?_
        refine asg rfl rfl ?_
        refine wnt ?_
        refine wc_ret ?_
        refine wq_block_ret ?_
        refine wq_then_ret ?_
        refine wq_then_ret ?_
        refine wq_block_ret ?_
        refine wq_then_ret ?_
        refine wq_then_ret ?_
        replace t0 := lpR t0 l1 t1
        obtain rfl := Option.some.inj t0
        exact wq_ret1 rfl rfl fun w hw => ⟨rfl, hw.weak some_nil⟩
      refine wc_skip ?_
      refine wq_block ?_
      refine wq_then ?_
      refine wc_region ?_
      refine mv rfl rfl ?_
      refine wl_pure (po_inc rfl rfl (by omega)) rfl ?_
      refine asg rfl rfl ?_
      refine wl_nil ?_
      exact wq_rnd hk1 (stpN l1 t1) () (sub_cons rfl (sub_cons rfl (sub_cons rfl sub_nil))) some_nil
    have c1 : (decide (((k1 : Nat) : Int) < ((a_a.length : Nat) : Int))) = false := decide_eq_false (by omega)
    have en1 := forO_end l1 hk1
    refine wc_seq ?_
    refine wcr ?_
    refine mv rfl rfl ?_
    refine mv rfl rfl ?_
    refine wl_pure (po_lenr (rds_arg r0) el_50 rfl) rfl ?_
    refine wl_pure (po_lss rfl rfl) rfl ?_
    refine wnt ?_
    refine wc_cond_f rfl c1 ?_
    refine wc_exit ?_
    refine wq_then_exit ?_
    refine wq_then_exit ?_
    refine wq_block_exit ?_
    exact wj_meet _ () en1 sub_nil some_nil
  intro e1 _ hp
  replace t0 := sqE (j := e1) t0 hp
  refine wq_then ?_
  refine wcr ?_
  refine asg rfl rfl ?_
  refine wnt ?_
  refine wc_ret ?_
  obtain rfl := Option.some.inj t0
  exact wq_ret1 rfl rfl fun w hw => ⟨rfl, hw.weak some_nil⟩

theorem c_laws_eqBlock (w : World) (a_a : GBlock) (v0a : Hd) (r0 : rdF w (dm w []) (sl v0a) a_a.Cells) (a_b : GBlock) (v1a : Hd) (r1 : rdF w (dm w []) (sl v1a) a_b.Cells) {r : Bool} (t0 : laws_eqBlock a_a a_b = some r) : Calls Try.prog 27 #[.agg #[.int .i64 a_a.Size, (sl v0a)], .agg #[.int .i64 a_b.Size, (sl v1a)]] w fun e w' => e = .returned (.bool r) ∧ SH w [] [] w' := by
  refine calls_of_wc (args := [_, _]) Try.func27 rfl Try.ntmps27 rfl ?_
  unfold laws_eqBlock at t0
  refine wcr ?_
  refine wl_eff (eo_box rfl rfl) rfl fun b1 => ?_
  refine wl_eff (eo_box rfl rfl) rfl fun b2 => ?_
  refine asg rfl rfl ?_
  refine wnt ?_
  refine wc_seq ?_
  refine wcr ?_
  refine wl_pure (po_fld fo_52_0 rfl) rfl ?_
  refine wl_pure (v := .int .i64 a_a.Size) (po_load_box tk_3 (pickS pick0) rfl rfl) rfl ?_
  refine wl_pure (po_fld fo_52_0 rfl) rfl ?_
  refine wl_pure (v := .int .i64 a_b.Size) (po_load_box tk_3 pick0 rfl rfl) rfl ?_
  refine wl_pure (po_neq rfl rfl) rfl ?_
  refine wnt ?_
  refine wcO t0 rfl (fun h1 t0 => ?_) fun h1 t0 => ?_
  · skip
    refine wcr ?_
    refine asg rfl rfl ?_
    refine wnt ?_
    refine wc_ret ?_
    refine wq_then_ret ?_
    obtain rfl := Option.some.inj t0
    exact wq_ret1 rfl rfl fun w hw => ⟨rfl, hw.weak some_nil⟩
  refine wc_skip ?_
  refine wq_then ?_
  refine wc_seq ?_
  refine wcr ?_
  refine wl_pure (po_fld fo_52_1 rfl) rfl ?_
  refine wl_pure (v := (sl v0a)) (po_load_box tk_50 (pickS pick0) rfl rfl) rfl ?_
  refine wl_pure (po_fld fo_52_1 rfl) rfl ?_
  refine wl_pure (v := (sl v1a)) (po_load_box tk_50 pick0 rfl rfl) rfl ?_
  refine bdO t0 fun v1 hv1 t0 => ?_
  refine wl_call (co_c0 fa_68 rfl fun w hw => c_laws_eqCellS w a_a.Cells v0a (Rg.on (rds_arg r0) hw) a_b.Cells v1a (Rg.on (rds_arg r1) hw) hv1) rfl fun _ => ?_
  refine wl_pure (po_not rfl) rfl ?_
  refine wnt ?_
  refine wcO t0 rfl (fun h2 t0 => ?_) fun h2 t0 => ?_
  · skip
    refine wcr ?_
    refine asg rfl rfl ?_
    refine wnt ?_
    refine wc_ret ?_
    refine wq_then_ret ?_
    obtain rfl := Option.some.inj t0
    exact wq_ret1 rfl rfl fun w hw => ⟨rfl, hw.weak some_nil⟩
  refine wc_skip ?_
  refine wq_then ?_
  refine wcr ?_
  refine asg rfl rfl ?_
  refine wnt ?_
  refine wc_ret ?_
  obtain rfl := Option.some.inj t0
  exact wq_ret1 rfl rfl fun w hw => ⟨rfl, hw.weak some_nil⟩

theorem c_laws_eqBlockS (w : World) (a_a : List GBlock) (v0a : Hd) (u0a : List Value) (r0 : RdL w (dm w []) (sl v0a) u0a a_a) (a_b : List GBlock) (v1a : Hd) (u1a : List Value) (r1 : RdL w (dm w []) (sl v1a) u1a a_b) {r : Bool} (t0 : laws_eqBlockS a_a a_b = some r) : Calls Try.prog 36 #[(sl v0a), (sl v1a)] w fun e w' => e = .returned (.bool r) ∧ SH w [] [] w' := by
  refine calls_of_wc (args := [_, _]) Try.func36 rfl Try.ntmps36 rfl ?_
  unfold laws_eqBlockS at t0
  refine wcr ?_
  refine asg rfl rfl ?_
  refine wnt ?_
  refine wc_seq ?_
  refine wcr ?_
  refine mv rfl rfl ?_
  refine wl_pure (po_lenr (rds_arg r0) el_34 rfl) rfl ?_
  refine mv rfl rfl ?_
  refine wl_pure (po_lenr (rds_arg r1) el_34 rfl) rfl ?_
  refine wl_pure (po_neq rfl rfl) rfl ?_
  refine wnt ?_
  refine wcO t0 rfl (fun h1 t0 => ?_) fun h1 t0 => ?_
  · skip
    refine wcr ?_
    refine asg rfl rfl ?_
    refine wnt ?_
    refine wc_ret ?_
    refine wq_then_ret ?_
    obtain rfl := Option.some.inj t0
    exact wq_ret1 rfl rfl fun w hw => ⟨rfl, hw.weak some_nil⟩
  refine wc_skip ?_
  refine wq_then ?_
  refine wc_seq ?_
  refine wcr ?_
  refine asg rfl rfl ?_
  refine wnt ?_
  refine gdO t0 fun g1 t0 => ?_
  refine sqO t0 fun y1 l1 t0 => ?_
  refine wj (J := Unit) (X := Unit) (fun z => y1 = .inl z) (fun _ _ => []) (fun _ _ => []) ?_ ?_
  · skip
    refine wc_block ?_
    refine wc_forO (X := Unit) l1 (fun k1 s1 x1l => [(0, (sl v0a)), (1, (sl v1a)), (5, .int .i64 ((k1 : Nat) : Int))]) (fun k1 s1 x1l => []) () (sub_cons rfl (sub_cons rfl (sub_cons rfl sub_nil))) some_nil fun k1 s1 x1l hN1 l1 => ?_
    by_cases hk1 : k1 < a_a.length
    · skip
      refine forO_step l1 hk1 fun _ t1 l1 => ?_
      unfold laws_eqBlockS_L1 at t1
      have c1 : (decide (((k1 : Nat) : Int) < ((a_a.length : Nat) : Int))) = true := decide_eq_true (by omega)
      refine wc_seq ?_
      refine wcr ?_
      refine mv rfl rfl ?_
      refine mv rfl rfl ?_
      refine wl_pure (po_lenr (rds_arg r0) el_34 rfl) rfl ?_
      refine wl_pure (po_lss rfl rfl) rfl ?_
      refine wnt ?_
      refine wc_cond_t rfl c1 ?_
      refine wc_skip ?_
      refine wq_then ?_
      refine wc_seq ?_
      refine wc_block ?_
      refine wc_seq ?_
      refine wc_draw [] 10 mixed ?_
      refine wa_pure 0 rfl (po_move rfl) some_nil rfl (by kernel_rfl) (fun _ _ _ h => h) ?_
      refine wa_pure 1 rfl (po_move rfl) some_nil rfl (by kernel_rfl) (fun _ _ _ h => h) ?_
      refine wa_pure 2 rfl (po_ixn (k := k1) (rds_arg r0) el_34 rfl rfl hk1) some_nil rfl (by kernel_rfl) (fun _ _ _ h => h) ?_
      refine wa_elem (rds_arg r0) hk1 ?_
      rintro ⟨_, _, he1⟩
      obtain ⟨w1, hc1, _⟩ := rd_GBlock.1 he1
      refine wa_pure (v := .agg #[.int .i64 ((gx a_a k1).Size), (sl w1)]) 3 rfl (po_ldns (rds_arg r0) tk_52 rfl hc1 rfl rfl rfl) some_nil rfl (by kernel_rfl) (fun _ _ _ h => h) ?_
      refine wa_pure 4 rfl (po_move rfl) some_nil rfl (by kernel_rfl) (fun _ _ _ h => h) ?_
      refine wa_pure 5 rfl (po_move rfl) some_nil rfl (by kernel_rfl) (fun _ _ _ h => h) ?_
      refine gdO t1 fun g2 t1 => ?_
      refine wa_pure 6 rfl (po_ixn (k := k1) (rds_arg r1) el_34 rfl rfl g2) some_nil rfl (by kernel_rfl) (fun _ _ _ h => h) ?_
      refine wa_elem (rds_arg r1) g2 ?_
      rintro ⟨_, _, he2⟩
      obtain ⟨w2, hc2, _⟩ := rd_GBlock.1 he2
      refine wa_pure (v := .agg #[.int .i64 ((gx a_b k1).Size), (sl w2)]) 7 rfl (po_ldns (rds_arg r1) tk_52 rfl hc2 rfl rfl rfl) some_nil rfl (by kernel_rfl) (fun _ _ _ h => h) ?_
      refine wa_1 (i := 8) (by kernel_rfl) ?_
      refine bdO t1 fun v1 hv1 t1 => ?_
      refine ws_call rfl (co_c0 fa_27 rfl fun w hw => c_laws_eqBlock w (gx a_a k1) w1 (Rg.on (er_GBlock_0 hc1 (rds_arg r0) hk1) hw) (gx a_b k1) w2 (Rg.on (er_GBlock_0 hc2 (rds_arg r1) g2) hw) hv1) (fun _ => (sts_some some_nil)) rfl fun _ => ?_
      refine wa_pure 9 rfl (po_not rfl) some_nil rfl (by kernel_rfl) (fun _ _ _ h => h) ?_
      refine wa_done (by kernel_rfl) ?_
      refine wq_then ?_
      refine wcO t1 rfl (fun h2 t1 => ?_) fun h2 t1 => ?_
      · skip
        refine wcr ?_
        refine asg rfl rfl ?_
        refine wnt ?_
        refine wc_ret ?_
        refine wq_block_ret ?_
        refine wq_then_ret ?_
        refine wq_then_ret ?_
        refine wq_block_ret ?_
        refine wq_then_ret ?_
        refine wq_then_ret ?_
        replace t0 := lpR t0 l1 t1
        obtain rfl := Option.some.inj t0
        exact wq_ret1 rfl rfl fun w hw => ⟨rfl, hw.weak some_nil⟩
      refine wc_skip ?_
      refine wq_block ?_
      refine wq_then ?_
      refine wc_region ?_
      refine mv rfl rfl ?_
      refine wl_pure (po_inc rfl rfl (by omega)) rfl ?_
      refine asg rfl rfl ?_
      refine wl_nil ?_
      exact wq_rnd hk1 (stpN l1 t1) () (sub_cons rfl (sub_cons rfl (sub_cons rfl sub_nil))) some_nil
    have c1 : (decide (((k1 : Nat) : Int) < ((a_a.length : Nat) : Int))) = false := decide_eq_false (by omega)
    have en1 := forO_end l1 hk1
    refine wc_seq ?_
    refine wcr ?_
    refine mv rfl rfl ?_
    refine mv rfl rfl ?_
    refine wl_pure (po_lenr (rds_arg r0) el_34 rfl) rfl ?_
    refine wl_pure (po_lss rfl rfl) rfl ?_
    refine wnt ?_
    refine wc_cond_f rfl c1 ?_
    refine wc_exit ?_
    refine wq_then_exit ?_
    refine wq_then_exit ?_
    refine wq_block_exit ?_
    exact wj_meet _ () en1 sub_nil some_nil
  intro e1 _ hp
  replace t0 := sqE (j := e1) t0 hp
  refine wq_then ?_
  refine wcr ?_
  refine asg rfl rfl ?_
  refine wnt ?_
  refine wc_ret ?_
  obtain rfl := Option.some.inj t0
  exact wq_ret1 rfl rfl fun w hw => ⟨rfl, hw.weak some_nil⟩

theorem c_laws_eqOrder (w : World) (a_a : GOrder) (v0a : Hd) (r0 : rdF w (dm w []) (sl v0a) a_a.Quilt.Spots) (v1a : Hd) (u1a : List Value) (r1 : RdL w (dm w []) (sl v1a) u1a a_a.Blocks) (a_b : GOrder) (v2a : Hd) (r2 : rdF w (dm w []) (sl v2a) a_b.Quilt.Spots) (v3a : Hd) (u3a : List Value) (r3 : RdL w (dm w []) (sl v3a) u3a a_b.Blocks) {r : Bool} (t0 : laws_eqOrder a_a a_b = some r) : Calls Try.prog 14 #[.agg #[.int .i64 a_a.Quilt.Width, .int .i64 a_a.Quilt.Height, (sl v0a), (sl v1a), .int .i64 a_a.Scale], .agg #[.int .i64 a_b.Quilt.Width, .int .i64 a_b.Quilt.Height, (sl v2a), (sl v3a), .int .i64 a_b.Scale]] w fun e w' => e = .returned (.bool r) ∧ SH w [] [] w' := by
  refine calls_of_wc (args := [_, _]) Try.func14 rfl Try.ntmps14 rfl ?_
  unfold laws_eqOrder at t0
  refine wcr ?_
  refine wl_eff (eo_box rfl rfl) rfl fun b1 => ?_
  refine wl_eff (eo_box rfl rfl) rfl fun b2 => ?_
  refine asg rfl rfl ?_
  refine wnt ?_
  refine wc_seq ?_
  refine wcr ?_
  refine wl_pure (po_fld fo_36_0 rfl) rfl ?_
  refine wl_pure (v := .agg #[.int .i64 a_a.Quilt.Width, .int .i64 a_a.Quilt.Height, (sl v0a)]) (po_load_boxs tk_33 (pickS pick0) rfl rfl rfl) rfl ?_
  refine wl_pure (po_fld fo_36_0 rfl) rfl ?_
  refine wl_pure (v := .agg #[.int .i64 a_b.Quilt.Width, .int .i64 a_b.Quilt.Height, (sl v2a)]) (po_load_boxs tk_33 pick0 rfl rfl rfl) rfl ?_
  refine bdO t0 fun v1 hv1 t0 => ?_
  refine wl_call (co_c0 fa_35 rfl fun w hw => c_laws_eqQuilt w a_a.Quilt v0a (Rg.on (rds_arg r0) hw) a_b.Quilt v2a (Rg.on (rds_arg r2) hw) hv1) rfl fun _ => ?_
  refine wl_pure (po_not rfl) rfl ?_
  refine wnt ?_
  refine wcO t0 rfl (fun h1 t0 => ?_) fun h1 t0 => ?_
  · skip
    refine wcr ?_
    refine asg rfl rfl ?_
    refine wnt ?_
    refine wc_ret ?_
    refine wq_then_ret ?_
    obtain rfl := Option.some.inj t0
    exact wq_ret1 rfl rfl fun w hw => ⟨rfl, hw.weak some_nil⟩
  refine wc_skip ?_
  refine wq_then ?_
  refine wc_seq ?_
  refine wcr ?_
  refine wl_pure (po_fld fo_36_1 rfl) rfl ?_
  refine wl_pure (v := (sl v1a)) (po_load_box tk_34 (pickS pick0) rfl rfl) rfl ?_
  refine wl_pure (po_fld fo_36_1 rfl) rfl ?_
  refine wl_pure (v := (sl v3a)) (po_load_box tk_34 pick0 rfl rfl) rfl ?_
  refine bdO t0 fun v2 hv2 t0 => ?_
  refine wl_call (co_c0 fa_36 rfl fun w hw => c_laws_eqBlockS w a_a.Blocks v1a u1a (Rg.on (rds_arg r1) hw) a_b.Blocks v3a u3a (Rg.on (rds_arg r3) hw) hv2) rfl fun _ => ?_
  refine wl_pure (po_not rfl) rfl ?_
  refine wnt ?_
  refine wcO t0 rfl (fun h2 t0 => ?_) fun h2 t0 => ?_
  · skip
    refine wcr ?_
    refine asg rfl rfl ?_
    refine wnt ?_
    refine wc_ret ?_
    refine wq_then_ret ?_
    obtain rfl := Option.some.inj t0
    exact wq_ret1 rfl rfl fun w hw => ⟨rfl, hw.weak some_nil⟩
  refine wc_skip ?_
  refine wq_then ?_
  refine wc_seq ?_
  refine wcr ?_
  refine wl_pure (po_fld fo_36_2 rfl) rfl ?_
  refine wl_pure (v := .int .i64 a_a.Scale) (po_load_box tk_3 (pickS pick0) rfl rfl) rfl ?_
  refine wl_pure (po_fld fo_36_2 rfl) rfl ?_
  refine wl_pure (v := .int .i64 a_b.Scale) (po_load_box tk_3 pick0 rfl rfl) rfl ?_
  refine wl_pure (po_neq rfl rfl) rfl ?_
  refine wnt ?_
  refine wcO t0 rfl (fun h3 t0 => ?_) fun h3 t0 => ?_
  · skip
    refine wcr ?_
    refine asg rfl rfl ?_
    refine wnt ?_
    refine wc_ret ?_
    refine wq_then_ret ?_
    obtain rfl := Option.some.inj t0
    exact wq_ret1 rfl rfl fun w hw => ⟨rfl, hw.weak some_nil⟩
  refine wc_skip ?_
  refine wq_then ?_
  refine wcr ?_
  refine asg rfl rfl ?_
  refine wnt ?_
  refine wc_ret ?_
  obtain rfl := Option.some.inj t0
  exact wq_ret1 rfl rfl fun w hw => ⟨rfl, hw.weak some_nil⟩

theorem c_laws_markSpotS (w : World) (fp : List Nat) (a_a : List GSpot) (v0a : Hd) (a_k : Int) (o : Ow w [ownF (sl v0a) a_a] fp) {r : Int × (List GSpot)} (t0 : laws_markSpotS a_a a_k = some r) : Calls Try.prog 78 #[(sl v0a), .int .i64 a_k] w fun e w' => ∃ _x : Unit, e = .returned (.int .i64 r.1) ∧ SH w fp [ownF (sl v0a) r.2] w' := by
  refine calls_of_wc_own (args := [_, _]) o Try.func78 rfl Try.ntmps78 rfl ?_
  unfold laws_markSpotS at t0
  refine wcr ?_
  refine asg rfl rfl ?_
  refine wnt ?_
  refine wc_seq ?_
  refine wcr ?_
  refine asg rfl rfl ?_
  refine wnt ?_
  refine gdO t0 fun g1 t0 => ?_
  refine wc_hl (rds_own pick0) fun hl1 => ?_
  refine lpO_inv t0 fun y1 l1 t0 => ?_
  refine wj (J := (List GSpot) × Int) (X := Unit) (fun z => y1 = z) (fun z _ => [(0, (sl v0a)), (1, .int .i64 z.2)]) (fun z _ => [ownF (sl v0a) z.1]) ?_ ?_
  · skip
    refine wc_block ?_
    refine wc_forO (X := Unit) l1 (fun k1 s1 x1l => [(0, (sl v0a)), (1, .int .i64 s1.2), (5, .int .i64 ((k1 : Nat) : Int))]) (fun k1 s1 x1l => [ownF (sl v0a) s1.1]) () (sub_cons rfl (sub_cons rfl (sub_cons rfl sub_nil))) (some_cons pick0 some_nil) fun k1 s1 x1l hN1 l1 => ?_
    refine wc_hl (rds_own pick0) fun hl2 => ?_
    by_cases hk1 : k1 < a_a.length
    · skip
      refine forO_step l1 hk1 fun _ t1 l1 => ?_
      unfold laws_markSpotS_L1 at t1
      have c1 : (decide (((k1 : Nat) : Int) < ((s1.1.length : Nat) : Int))) = true := decide_eq_true (by omega)
      have hq1 : k1 < s1.1.length := by omega
      refine wc_seq ?_
      refine wcr ?_
      refine mv rfl rfl ?_
      refine mv rfl rfl ?_
      refine wl_pure (po_lenr (rds_own pick0) el_31 rfl) rfl ?_
      refine wl_pure (po_lss rfl rfl) rfl ?_
      refine wnt ?_
      refine wc_cond_t rfl c1 ?_
      refine wc_skip ?_
      refine wq_then ?_
      refine wc_seq ?_
      refine wc_block ?_
      refine wcr ?_
      refine mv rfl rfl ?_
      refine mv rfl rfl ?_
      refine mv rfl rfl ?_
      refine wl_pure (po_ixn (k := k1) (rds_own pick0) el_31 rfl rfl hq1) rfl ?_
      refine wl_pure (po_sfldr (rds_own pick0) hq1 fo_108_0 rfl) rfl ?_
      refine wl_skipop (so_own (x' := (GSpot.mk s1.2 ((gx s1.1 k1).Seen))) tk_3 pick0 rfl rfl rfl rfl rfl rfl hq1 rfl) ?_
      refine wnt ?_
      refine wcr ?_
      refine mv rfl rfl ?_
      refine wl_pure (po_add rfl rfl) rfl ?_
      refine asg rfl rfl ?_
      refine wnt ?_
      refine wcr ?_
      refine mv rfl rfl ?_
      refine mv rfl rfl ?_
      refine mv rfl rfl ?_
      refine wl_pure (po_ixn (k := k1) (rds_own pick0) el_31 rfl rfl (set_lt hq1)) rfl ?_
      refine wl_pure (po_sfldr (rds_own pick0) (set_lt hq1) fo_108_1 rfl) rfl ?_
      refine wl_skipop (so_own2 (X := s1.1) (e := (GSpot.mk s1.2 ((gx s1.1 k1).Seen))) (x' := (GSpot.mk s1.2 (wr (s1.2 + 1)))) tk_3 pick0 rfl rfl rfl rfl rfl rfl hq1 rfl) ?_
      refine wnt ?_
      refine wc_region ?_
      refine mv rfl rfl ?_
      refine wl_pure (po_add rfl rfl) rfl ?_
      refine asg rfl rfl ?_
      refine wl_nil ?_
      refine wq_block ?_
      refine wq_then ?_
      refine wc_region ?_
      refine mv rfl rfl ?_
      refine wl_pure (po_inc rfl rfl (by omega)) rfl ?_
      refine asg rfl rfl ?_
      refine wl_nil ?_
      exact wq_rnd hk1 (stpN l1 t1) () (sub_cons rfl (sub_cons rfl (sub_cons rfl sub_nil))) (some_cons pick0 some_nil)
    have c1 : (decide (((k1 : Nat) : Int) < ((s1.1.length : Nat) : Int))) = false := decide_eq_false (by omega)
    have en1 := forO_end l1 hk1
    refine wc_seq ?_
    refine wcr ?_
    refine mv rfl rfl ?_
    refine mv rfl rfl ?_
    refine wl_pure (po_lenr (rds_own pick0) el_31 rfl) rfl ?_
    refine wl_pure (po_lss rfl rfl) rfl ?_
    refine wnt ?_
    refine wc_cond_f rfl c1 ?_
    refine wc_exit ?_
    refine wq_then_exit ?_
    refine wq_then_exit ?_
    refine wq_block_exit ?_
    exact wj_meet _ () (Sum.inl.inj en1) (sub_cons rfl (sub_cons rfl sub_nil)) (some_cons pick0 some_nil)
  intro e1 _ hp
  obtain rfl : e1 = y1 := hp.symm
  refine wq_then ?_
  refine wcr ?_
  refine mv rfl rfl ?_
  refine asg rfl rfl ?_
  refine wnt ?_
  refine wc_ret ?_
  obtain rfl := Option.some.inj t0
  exact wq_ret1 rfl rfl fun w hw => ⟨(), rfl, hw.weak (some_cons pick0 some_nil)⟩

theorem c_laws_markQuilt (w : World) (fp : List Nat) (a_a : GQuilt) (v0a : Hd) (a_k : Int) (o : Ow w [ownF (sl v0a) a_a.Spots] fp) {r : Int × (List GSpot)} (t0 : laws_markQuilt a_a a_k = some r) : Calls Try.prog 42 #[.agg #[.int .i64 a_a.Width, .int .i64 a_a.Height, (sl v0a)], .int .i64 a_k] w fun e w' => ∃ _x : Unit, e = .returned (.int .i64 r.1) ∧ SH w fp [ownF (sl v0a) r.2] w' := by
  refine calls_of_wc_own (args := [_, _]) o Try.func42 rfl Try.ntmps42 rfl ?_
  unfold laws_markQuilt at t0
  refine wcr ?_
  refine wl_eff (eo_box rfl rfl) rfl fun b1 => ?_
  refine asg rfl rfl ?_
  refine wnt ?_
  refine wcr ?_
  refine wl_pure (po_fld fo_33_2 rfl) rfl ?_
  refine wl_pure (v := (sl v0a)) (po_load_box tk_31 pick0 rfl rfl) rfl ?_
  refine mv rfl rfl ?_
  refine bdO t0 fun v1 hv1 t0 => ?_
  refine wl_call (co_o1 [ownF (sl v0a) a_a.Spots] fa_78 (some_cons (pickS pick0) some_refl) rfl fun w fp hw => c_laws_markSpotS w fp a_a.Spots v0a a_k hw.ow hv1) rfl fun _ => ?_
  refine asg rfl rfl ?_
  refine wnt ?_
  refine wcr ?_
  refine mv rfl rfl ?_
  refine asg rfl rfl ?_
  refine wnt ?_
  refine wc_ret ?_
  obtain rfl := Option.some.inj t0
  exact wq_ret1 rfl rfl fun w hw => ⟨(), rfl, hw.weak (some_cons pick0 some_nil)⟩

theorem c_laws_markCellS (w : World) (fp : List Nat) (a_a : List GCell) (v0a : Hd) (a_k : Int) (o : Ow w [ownF (sl v0a) a_a] fp) {r : Int × (List GCell)} (t0 : laws_markCellS a_a a_k = some r) : Calls Try.prog 69 #[(sl v0a), .int .i64 a_k] w fun e w' => ∃ _x : Unit, e = .returned (.int .i64 r.1) ∧ SH w fp [ownF (sl v0a) r.2] w' := by
  refine calls_of_wc_own (args := [_, _]) o Try.func69 rfl Try.ntmps69 rfl ?_
  unfold laws_markCellS at t0
  refine wcr ?_
  refine asg rfl rfl ?_
  refine wnt ?_
  refine wc_seq ?_
  refine wcr ?_
  refine asg rfl rfl ?_
  refine wnt ?_
  refine gdO t0 fun g1 t0 => ?_
  refine wc_hl (rds_own pick0) fun hl1 => ?_
  refine lpO_inv t0 fun y1 l1 t0 => ?_
  refine wj (J := (List GCell) × Int) (X := Unit) (fun z => y1 = z) (fun z _ => [(0, (sl v0a)), (1, .int .i64 z.2)]) (fun z _ => [ownF (sl v0a) z.1]) ?_ ?_
  · skip
    refine wc_block ?_
    refine wc_forO (X := Unit) l1 (fun k1 s1 x1l => [(0, (sl v0a)), (1, .int .i64 s1.2), (5, .int .i64 ((k1 : Nat) : Int))]) (fun k1 s1 x1l => [ownF (sl v0a) s1.1]) () (sub_cons rfl (sub_cons rfl (sub_cons rfl sub_nil))) (some_cons pick0 some_nil) fun k1 s1 x1l hN1 l1 => ?_
    refine wc_hl (rds_own pick0) fun hl2 => ?_
    by_cases hk1 : k1 < a_a.length
    · skip
      refine forO_step l1 hk1 fun _ t1 l1 => ?_
      unfold laws_markCellS_L1 at t1
      have c1 : (decide (((k1 : Nat) : Int) < ((s1.1.length : Nat) : Int))) = true := decide_eq_true (by omega)
      have hq1 : k1 < s1.1.length := by omega
      refine wc_seq ?_
      refine wcr ?_
      refine mv rfl rfl ?_
      refine mv rfl rfl ?_
      refine wl_pure (po_lenr (rds_own pick0) el_50 rfl) rfl ?_
      refine wl_pure (po_lss rfl rfl) rfl ?_
      refine wnt ?_
      refine wc_cond_t rfl c1 ?_
      refine wc_skip ?_
      refine wq_then ?_
      refine wc_seq ?_
      refine wc_block ?_
      refine wcr ?_
      refine mv rfl rfl ?_
      refine mv rfl rfl ?_
      refine mv rfl rfl ?_
      refine wl_pure (po_ixn (k := k1) (rds_own pick0) el_50 rfl rfl hq1) rfl ?_
      refine wl_pure (po_sfldr (rds_own pick0) hq1 fo_83_0 rfl) rfl ?_
      refine wl_skipop (so_own (x' := (GCell.mk s1.2 ((gx s1.1 k1).A) ((gx s1.1 k1).B))) tk_3 pick0 rfl rfl rfl rfl rfl rfl hq1 rfl) ?_
      refine wnt ?_
      refine wcr ?_
      refine mv rfl rfl ?_
      refine wl_pure (po_add rfl rfl) rfl ?_
      refine asg rfl rfl ?_
      refine wnt ?_
      refine wcr ?_
      refine mv rfl rfl ?_
      refine mv rfl rfl ?_
      refine mv rfl rfl ?_
      refine wl_pure (po_ixn (k := k1) (rds_own pick0) el_50 rfl rfl (set_lt hq1)) rfl ?_
      refine wl_pure (po_sfldr (rds_own pick0) (set_lt hq1) fo_83_1 rfl) rfl ?_
      refine wl_skipop (so_own2 (X := s1.1) (e := (GCell.mk s1.2 ((gx s1.1 k1).A) ((gx s1.1 k1).B))) (x' := (GCell.mk s1.2 (wr (s1.2 + 1)) ((gx s1.1 k1).B))) tk_3 pick0 rfl rfl rfl rfl rfl rfl hq1 rfl) ?_
      refine wnt ?_
      refine wcr ?_
      refine mv rfl rfl ?_
      refine wl_pure (po_add rfl rfl) rfl ?_
      refine asg rfl rfl ?_
      refine wnt ?_
      refine wcr ?_
      refine mv rfl rfl ?_
      refine mv rfl rfl ?_
      refine mv rfl rfl ?_
      refine wl_pure (po_ixn (k := k1) (rds_own pick0) el_50 rfl rfl (set_lt hq1)) rfl ?_
      refine wl_pure (po_sfldr (rds_own pick0) (set_lt hq1) fo_83_2 rfl) rfl ?_
      refine wl_skipop (so_own2 (X := s1.1) (e := (GCell.mk s1.2 (wr (s1.2 + 1)) ((gx s1.1 k1).B))) (x' := (GCell.mk s1.2 (wr (s1.2 + 1)) (wr ((wr (s1.2 + 1)) + 1)))) tk_3 pick0 rfl rfl rfl rfl rfl rfl hq1 rfl) ?_
      refine wnt ?_
      refine wc_region ?_
      refine mv rfl rfl ?_
      refine wl_pure (po_add rfl rfl) rfl ?_
      refine asg rfl rfl ?_
      refine wl_nil ?_
      refine wq_block ?_
      refine wq_then ?_
      refine wc_region ?_
      refine mv rfl rfl ?_
      refine wl_pure (po_inc rfl rfl (by omega)) rfl ?_
      refine asg rfl rfl ?_
      refine wl_nil ?_
      exact wq_rnd hk1 (stpN l1 t1) () (sub_cons rfl (sub_cons rfl (sub_cons rfl sub_nil))) (some_cons pick0 some_nil)
    have c1 : (decide (((k1 : Nat) : Int) < ((s1.1.length : Nat) : Int))) = false := decide_eq_false (by omega)
    have en1 := forO_end l1 hk1
    refine wc_seq ?_
    refine wcr ?_
    refine mv rfl rfl ?_
    refine mv rfl rfl ?_
    refine wl_pure (po_lenr (rds_own pick0) el_50 rfl) rfl ?_
    refine wl_pure (po_lss rfl rfl) rfl ?_
    refine wnt ?_
    refine wc_cond_f rfl c1 ?_
    refine wc_exit ?_
    refine wq_then_exit ?_
    refine wq_then_exit ?_
    refine wq_block_exit ?_
    exact wj_meet _ () (Sum.inl.inj en1) (sub_cons rfl (sub_cons rfl sub_nil)) (some_cons pick0 some_nil)
  intro e1 _ hp
  obtain rfl : e1 = y1 := hp.symm
  refine wq_then ?_
  refine wcr ?_
  refine mv rfl rfl ?_
  refine asg rfl rfl ?_
  refine wnt ?_
  refine wc_ret ?_
  obtain rfl := Option.some.inj t0
  exact wq_ret1 rfl rfl fun w hw => ⟨(), rfl, hw.weak (some_cons pick0 some_nil)⟩

theorem c_laws_markBlockS (w : World) (fp : List Nat) (a_a : List GBlock) (v0a : Hd) (u0a : List Value) (a_k : Int) (o : Ow w [own (sl v0a) u0a a_a] fp) {r : Int × (List GBlock)} (t0 : laws_markBlockS a_a a_k = some r) : Calls Try.prog 43 #[(sl v0a), .int .i64 a_k] w fun e w' => ∃ x : List Value, e = .returned (.int .i64 r.1) ∧ SH w fp [own (sl v0a) x r.2] w' := by
  refine calls_of_wc_own (args := [_, _]) o Try.func43 rfl Try.ntmps43 rfl ?_
  unfold laws_markBlockS at t0
  refine wcr ?_
  refine asg rfl rfl ?_
  refine wnt ?_
  refine wc_seq ?_
  refine wcr ?_
  refine asg rfl rfl ?_
  refine wnt ?_
  refine gdO t0 fun g1 t0 => ?_
  refine wc_hl (rds_own pick0) fun hl1 => ?_
  refine lpO_inv t0 fun y1 l1 t0 => ?_
  refine wj (J := (List GBlock) × Int) (X := List Value) (fun z => y1 = z) (fun z _ => [(0, (sl v0a)), (1, .int .i64 z.2)]) (fun z x => [own (sl v0a) x z.1]) ?_ ?_
  · skip
    refine wc_block ?_
    refine wc_forO (X := List Value) l1 (fun k1 s1 x1l => [(0, (sl v0a)), (1, .int .i64 s1.2), (5, .int .i64 ((k1 : Nat) : Int))]) (fun k1 s1 x1l => [own (sl v0a) x1l s1.1]) u0a (sub_cons rfl (sub_cons rfl (sub_cons rfl sub_nil))) (some_cons pick0 some_nil) fun k1 s1 x1l hN1 l1 => ?_
    refine wc_hl (rds_own pick0) fun hl2 => ?_
    by_cases hk1 : k1 < a_a.length
    · skip
      refine forO_step l1 hk1 fun _ t1 l1 => ?_
      unfold laws_markBlockS_L1 at t1
      have c1 : (decide (((k1 : Nat) : Int) < ((s1.1.length : Nat) : Int))) = true := decide_eq_true (by omega)
      have hq1 : k1 < s1.1.length := by omega
      refine wc_seq ?_
      refine wcr ?_
      refine mv rfl rfl ?_
      refine mv rfl rfl ?_
      refine wl_pure (po_lenr (rds_own pick0) el_34 rfl) rfl ?_
      refine wl_pure (po_lss rfl rfl) rfl ?_
      refine wnt ?_
      refine wc_cond_t rfl c1 ?_
      refine wc_skip ?_
      refine wq_then ?_
      refine wc_seq ?_
      refine wc_block ?_
      refine wcr ?_
      refine mv rfl rfl ?_
      refine mv rfl rfl ?_
      refine mv rfl rfl ?_
      refine wl_pure (po_ixn (k := k1) (rds_own pick0) el_34 rfl rfl hq1) rfl ?_
      refine wl_pure (po_sfldr (rds_own pick0) hq1 fo_52_0 rfl) rfl ?_
      refine wl_elem (rds_own pick0) hq1 ?_
      rintro ⟨_, _, he1⟩
      obtain ⟨w1, hc1, _⟩ := rd_GBlock.1 he1
      refine wl_ent (Ent.trans un_GBlock (take_elem pick0 hq1 hc1)) ?_
      refine wl_lenh (pickS pick0) fun hl3 => ?_
      refine wl_skipop (so_hol tk_3 (pickS pick0) rfl rfl rfl rfl rfl rfl hq1) ?_
      have hc2 := chunk_putp (o := 0) (vs := [.int .i64 s1.2]) hl3 hq1 rfl hc1 (cells' := [.int .i64 s1.2, (sl w1)]) rfl
      refine wl_ent (put_elem pick0 (pow_GBlock (x := (GBlock.mk s1.2 ((gx s1.1 k1).Cells))) pick0) hq1 hc2) ?_
      refine wnt ?_
      refine wcr ?_
      refine mv rfl rfl ?_
      refine wl_pure (po_add rfl rfl) rfl ?_
      refine asg rfl rfl ?_
      refine wnt ?_
      refine wc_region ?_
      refine mv rfl rfl ?_
      refine mv rfl rfl ?_
      refine wl_pure (po_ixn (k := k1) (rds_own pick0) el_34 rfl rfl (set_lt hq1)) rfl ?_
      refine wl_pure (po_sfldr (rds_own pick0) (set_lt hq1) fo_52_1 rfl) rfl ?_
      refine wl_pure (v := (sl w1)) (po_ldn (rds_own pick0) tk_50 rfl hc2 rfl) rfl ?_
      refine mv rfl rfl ?_
      refine wl_ent (Ent.trans un_GBlock (take_set pick0 hq1 hc2)) ?_
      refine bdO t1 fun v1 hv1 t1 => ?_
      refine wl_call (co_o1 [ownF (sl w1) ((gx s1.1 k1).Cells)] fa_69 (some_cons pick0 some_refl) rfl fun w fp hw => c_laws_markCellS w fp ((gx s1.1 k1).Cells) w1 (wr (s1.2 + 1)) hw.ow hv1) rfl fun _ => ?_
      refine wl_ent (put_elem (pickS pick0) (pow_GBlock (x := (GBlock.mk s1.2 v1.2)) pick0) hq1 hc2) ?_
      refine asg rfl rfl ?_
      refine wl_nil ?_
      refine wq_block ?_
      refine wq_then ?_
      refine wc_region ?_
      refine mv rfl rfl ?_
      refine wl_pure (po_inc rfl rfl (by omega)) rfl ?_
      refine asg rfl rfl ?_
      refine wl_nil ?_
      exact wq_rnd hk1 (stpN l1 t1) (put_ x1l (k1 * (Rep.sz GBlock) + 0) [.int .i64 s1.2]) (sub_cons rfl (sub_cons rfl (sub_cons rfl sub_nil))) (some_cons pick0 some_nil)
    have c1 : (decide (((k1 : Nat) : Int) < ((s1.1.length : Nat) : Int))) = false := decide_eq_false (by omega)
    have en1 := forO_end l1 hk1
    refine wc_seq ?_
    refine wcr ?_
    refine mv rfl rfl ?_
    refine mv rfl rfl ?_
    refine wl_pure (po_lenr (rds_own pick0) el_34 rfl) rfl ?_
    refine wl_pure (po_lss rfl rfl) rfl ?_
    refine wnt ?_
    refine wc_cond_f rfl c1 ?_
    refine wc_exit ?_
    refine wq_then_exit ?_
    refine wq_then_exit ?_
    refine wq_block_exit ?_
    exact wj_meet _ x1l (Sum.inl.inj en1) (sub_cons rfl (sub_cons rfl sub_nil)) (some_cons pick0 some_nil)
  intro e1 x1 hp
  obtain rfl : e1 = y1 := hp.symm
  refine wq_then ?_
  refine wcr ?_
  refine mv rfl rfl ?_
  refine asg rfl rfl ?_
  refine wnt ?_
  refine wc_ret ?_
  obtain rfl := Option.some.inj t0
  exact wq_ret1 rfl rfl fun w hw => ⟨x1, rfl, hw.weak (some_cons pick0 some_nil)⟩

theorem c_laws_markOrder (w : World) (fp : List Nat) (a_a : GOrder) (v0a : Hd) (v1a : Hd) (u1a : List Value) (a_k : Int) (o : Ow w [ownF (sl v0a) a_a.Quilt.Spots, own (sl v1a) u1a a_a.Blocks] fp) {r : Int × (List GSpot) × (List GBlock)} (t0 : laws_markOrder a_a a_k = some r) : Calls Try.prog 15 #[.agg #[.int .i64 a_a.Quilt.Width, .int .i64 a_a.Quilt.Height, (sl v0a), (sl v1a), .int .i64 a_a.Scale], .int .i64 a_k] w fun e w' => ∃ x : List Value, e = .returned (.int .i64 r.1) ∧ SH w fp [ownF (sl v0a) r.2.1, own (sl v1a) x r.2.2] w' := by
  refine calls_of_wc_own (args := [_, _]) o Try.func15 rfl Try.ntmps15 rfl ?_
  unfold laws_markOrder at t0
  refine wcr ?_
  refine wl_eff (eo_box rfl rfl) rfl fun b1 => ?_
  refine asg rfl rfl ?_
  refine wnt ?_
  refine wcr ?_
  refine wl_pure (po_fld fo_36_0 rfl) rfl ?_
  refine wl_pure (v := .agg #[.int .i64 a_a.Quilt.Width, .int .i64 a_a.Quilt.Height, (sl v0a)]) (po_load_boxs tk_33 pick0 rfl rfl rfl) rfl ?_
  refine mv rfl rfl ?_
  refine bdO t0 fun v1 hv1 t0 => ?_
  refine wl_call (co_o1 [ownF (sl v0a) a_a.Quilt.Spots] fa_42 (some_cons (pickS pick0) some_refl) rfl fun w fp hw => c_laws_markQuilt w fp a_a.Quilt v0a a_k hw.ow hv1) rfl fun _ => ?_
  refine asg rfl rfl ?_
  refine wnt ?_
  refine wcr ?_
  refine wl_pure (po_fld fo_36_1 rfl) rfl ?_
  refine wl_pure (v := (sl v1a)) (po_load_box tk_34 (pickS pick0) rfl rfl) rfl ?_
  refine mv rfl rfl ?_
  refine bdO t0 fun v2 hv2 t0 => ?_
  refine wl_call (co_o1 [own (sl v1a) u1a a_a.Blocks] fa_43 (some_cons (pickS (pickS pick0)) some_refl) rfl fun w fp hw => c_laws_markBlockS w fp a_a.Blocks v1a u1a v1.1 hw.ow hv2) rfl fun x1 => ?_
  refine asg rfl rfl ?_
  refine wnt ?_
  refine wcr ?_
  refine mv rfl rfl ?_
  refine asg rfl rfl ?_
  refine wnt ?_
  refine wc_ret ?_
  obtain rfl := Option.some.inj t0
  exact wq_ret1 rfl rfl fun w hw => ⟨x1, rfl, hw.weak (some_cons (pickS pick0) (some_cons pick0 some_nil))⟩

theorem c_laws_markIntS (w : World) (fp : List Nat) (a_a : List Int) (v0a : Hd) (a_k : Int) (o : Ow w [ownF (sl v0a) a_a] fp) {r : Int × (List Int)} (t0 : laws_markIntS a_a a_k = some r) : Calls Try.prog 16 #[(sl v0a), .int .i64 a_k] w fun e w' => ∃ _x : Unit, e = .returned (.int .i64 r.1) ∧ SH w fp [ownF (sl v0a) r.2] w' := by
  refine calls_of_wc_own (args := [_, _]) o Try.func16 rfl Try.ntmps16 rfl ?_
  unfold laws_markIntS at t0
  refine wcr ?_
  refine asg rfl rfl ?_
  refine wnt ?_
  refine wc_seq ?_
  refine wcr ?_
  refine asg rfl rfl ?_
  refine wnt ?_
  refine gdO t0 fun g1 t0 => ?_
  refine wc_hl (rds_own pick0) fun hl1 => ?_
  refine lpO_inv t0 fun y1 l1 t0 => ?_
  refine wj (J := (List Int) × Int) (X := Unit) (fun z => y1 = z) (fun z _ => [(0, (sl v0a)), (1, .int .i64 z.2)]) (fun z _ => [ownF (sl v0a) z.1]) ?_ ?_
  · skip
    refine wc_block ?_
    refine wc_forO (X := Unit) l1 (fun k1 s1 x1l => [(0, (sl v0a)), (1, .int .i64 s1.2), (5, .int .i64 ((k1 : Nat) : Int))]) (fun k1 s1 x1l => [ownF (sl v0a) s1.1]) () (sub_cons rfl (sub_cons rfl (sub_cons rfl sub_nil))) (some_cons pick0 some_nil) fun k1 s1 x1l hN1 l1 => ?_
    refine wc_hl (rds_own pick0) fun hl2 => ?_
    by_cases hk1 : k1 < a_a.length
    · skip
      refine forO_step l1 hk1 fun _ t1 l1 => ?_
      unfold laws_markIntS_L1 at t1
      have c1 : (decide (((k1 : Nat) : Int) < ((s1.1.length : Nat) : Int))) = true := decide_eq_true (by omega)
      have hq1 : k1 < s1.1.length := by omega
      refine wc_seq ?_
      refine wcr ?_
      refine mv rfl rfl ?_
      refine mv rfl rfl ?_
      refine wl_pure (po_lenr (rds_own pick0) el_29 rfl) rfl ?_
      refine wl_pure (po_lss rfl rfl) rfl ?_
      refine wnt ?_
      refine wc_cond_t rfl c1 ?_
      refine wc_skip ?_
      refine wq_then ?_
      refine wc_seq ?_
      refine wc_block ?_
      refine wcr ?_
      refine mv rfl rfl ?_
      refine mv rfl rfl ?_
      refine mv rfl rfl ?_
      refine wl_pure (po_ixn (k := k1) (rds_own pick0) el_29 rfl rfl hq1) rfl ?_
      refine wl_skipop (so_own (x' := s1.2) tk_3 pick0 rfl rfl rfl rfl rfl rfl hq1 rfl) ?_
      refine wnt ?_
      refine wc_region ?_
      refine mv rfl rfl ?_
      refine wl_pure (po_add rfl rfl) rfl ?_
      refine asg rfl rfl ?_
      refine wl_nil ?_
      refine wq_block ?_
      refine wq_then ?_
      refine wc_region ?_
      refine mv rfl rfl ?_
      refine wl_pure (po_inc rfl rfl (by omega)) rfl ?_
      refine asg rfl rfl ?_
      refine wl_nil ?_
      exact wq_rnd hk1 (stpN l1 t1) () (sub_cons rfl (sub_cons rfl (sub_cons rfl sub_nil))) (some_cons pick0 some_nil)
    have c1 : (decide (((k1 : Nat) : Int) < ((s1.1.length : Nat) : Int))) = false := decide_eq_false (by omega)
    have en1 := forO_end l1 hk1
    refine wc_seq ?_
    refine wcr ?_
    refine mv rfl rfl ?_
    refine mv rfl rfl ?_
    refine wl_pure (po_lenr (rds_own pick0) el_29 rfl) rfl ?_
    refine wl_pure (po_lss rfl rfl) rfl ?_
    refine wnt ?_
    refine wc_cond_f rfl c1 ?_
    refine wc_exit ?_
    refine wq_then_exit ?_
    refine wq_then_exit ?_
    refine wq_block_exit ?_
    exact wj_meet _ () (Sum.inl.inj en1) (sub_cons rfl (sub_cons rfl sub_nil)) (some_cons pick0 some_nil)
  intro e1 _ hp
  obtain rfl : e1 = y1 := hp.symm
  refine wq_then ?_
  refine wcr ?_
  refine mv rfl rfl ?_
  refine asg rfl rfl ?_
  refine wnt ?_
  refine wc_ret ?_
  obtain rfl := Option.some.inj t0
  exact wq_ret1 rfl rfl fun w hw => ⟨(), rfl, hw.weak (some_cons pick0 some_nil)⟩

theorem c_laws_heldIntS (w : World) (a_a : List Int) (v0a : Hd) (r0 : rdF w (dm w []) (sl v0a) a_a) (a_k : Int) {r : Int} (t0 : laws_heldIntS a_a a_k = some r) : Calls Try.prog 17 #[(sl v0a), .int .i64 a_k] w fun e w' => e = .returned (.int .i64 r) ∧ SH w [] [] w' := by
  refine calls_of_wc (args := [_, _]) Try.func17 rfl Try.ntmps17 rfl ?_
  unfold laws_heldIntS at t0
  refine wcr ?_
  refine asg rfl rfl ?_
  refine wnt ?_
  refine wc_seq ?_
  refine wcr ?_
  refine asg rfl rfl ?_
  refine wnt ?_
  refine gdO t0 fun g1 t0 => ?_
  refine sqO t0 fun y1 l1 t0 => ?_
  refine wj (J := Int) (X := Unit) (fun z => y1 = .inl z) (fun z _ => [(1, .int .i64 z)]) (fun _ _ => []) ?_ ?_
  · skip
    refine wc_block ?_
    refine wc_forO (X := Unit) l1 (fun k1 s1 x1l => [(0, (sl v0a)), (1, .int .i64 s1), (5, .int .i64 ((k1 : Nat) : Int))]) (fun k1 s1 x1l => []) () (sub_cons rfl (sub_cons rfl (sub_cons rfl sub_nil))) some_nil fun k1 s1 x1l hN1 l1 => ?_
    by_cases hk1 : k1 < a_a.length
    · skip
      refine forO_step l1 hk1 fun _ t1 l1 => ?_
      unfold laws_heldIntS_L1 at t1
      have c1 : (decide (((k1 : Nat) : Int) < ((a_a.length : Nat) : Int))) = true := decide_eq_true (by omega)
      refine wc_seq ?_
      refine wcr ?_
      refine mv rfl rfl ?_
      refine mv rfl rfl ?_
      refine wl_pure (po_lenr (rds_arg r0) el_29 rfl) rfl ?_
      refine wl_pure (po_lss rfl rfl) rfl ?_
      refine wnt ?_
      refine wc_cond_t rfl c1 ?_
      refine wc_skip ?_
      refine wq_then ?_
      refine wc_seq ?_
      refine wc_block ?_
      refine wc_seq ?_
      refine wcr ?_
      refine mv rfl rfl ?_
      refine mv rfl rfl ?_
      refine wl_pure (po_ixn (k := k1) (rds_arg r0) el_29 rfl rfl hk1) rfl ?_
      refine wl_pure (v := .int .i64 (gx a_a k1)) (po_ldf (rds_arg r0) tk_3 rfl hk1 rfl) rfl ?_
      refine mv rfl rfl ?_
      refine wl_pure (po_neq rfl rfl) rfl ?_
      refine wnt ?_
      refine wcO t1 rfl (fun h1 t1 => ?_) fun h1 t1 => ?_
      · skip
        refine wcr ?_
        refine asg rfl rfl ?_
        refine wnt ?_
        refine wc_ret ?_
        refine wq_then_ret ?_
        refine wq_block_ret ?_
        refine wq_then_ret ?_
        refine wq_then_ret ?_
        refine wq_block_ret ?_
        refine wq_then_ret ?_
        refine wq_then_ret ?_
        replace t0 := lpR t0 l1 t1
        obtain rfl := Option.some.inj t0
        exact wq_ret1 rfl rfl fun w hw => ⟨rfl, hw.weak some_nil⟩
      refine wc_skip ?_
      refine wq_then ?_
      refine wc_region ?_
      refine mv rfl rfl ?_
      refine wl_pure (po_add rfl rfl) rfl ?_
      refine asg rfl rfl ?_
      refine wl_nil ?_
      refine wq_block ?_
      refine wq_then ?_
      refine wc_region ?_
      refine mv rfl rfl ?_
      refine wl_pure (po_inc rfl rfl (by omega)) rfl ?_
      refine asg rfl rfl ?_
      refine wl_nil ?_
      exact wq_rnd hk1 (stpN l1 t1) () (sub_cons rfl (sub_cons rfl (sub_cons rfl sub_nil))) some_nil
    have c1 : (decide (((k1 : Nat) : Int) < ((a_a.length : Nat) : Int))) = false := decide_eq_false (by omega)
    have en1 := forO_end l1 hk1
    refine wc_seq ?_
    refine wcr ?_
    refine mv rfl rfl ?_
    refine mv rfl rfl ?_
    refine wl_pure (po_lenr (rds_arg r0) el_29 rfl) rfl ?_
    refine wl_pure (po_lss rfl rfl) rfl ?_
    refine wnt ?_
    refine wc_cond_f rfl c1 ?_
    refine wc_exit ?_
    refine wq_then_exit ?_
    refine wq_then_exit ?_
    refine wq_block_exit ?_
    exact wj_meet _ () en1 (sub_cons rfl sub_nil) some_nil
  intro e1 _ hp
  replace t0 := sqE (j := e1) t0 hp
  refine wq_then ?_
  refine wcr ?_
  refine mv rfl rfl ?_
  refine asg rfl rfl ?_
  refine wnt ?_
  refine wc_ret ?_
  obtain rfl := Option.some.inj t0
  exact wq_ret1 rfl rfl fun w hw => ⟨rfl, hw.weak some_nil⟩

theorem c_laws_FnExactSharedCloth (w : World) (a_aO : GOrder) (v0a : Hd) (r0 : rdF w (dm w []) (sl v0a) a_aO.Quilt.Spots) (v1a : Hd) (u1a : List Value) (r1 : RdL w (dm w []) (sl v1a) u1a a_aO.Blocks) (a_aP : GOrder) (v2a : Hd) (r2 : rdF w (dm w []) (sl v2a) a_aP.Quilt.Spots) (v3a : Hd) (u3a : List Value) (r3 : RdL w (dm w []) (sl v3a) u3a a_aP.Blocks) {r : Bool} (t0 : laws_FnExactSharedCloth a_aO a_aP = some r) : Calls Try.prog 7 #[.agg #[.int .i64 a_aO.Quilt.Width, .int .i64 a_aO.Quilt.Height, (sl v0a), (sl v1a), .int .i64 a_aO.Scale], .agg #[.int .i64 a_aP.Quilt.Width, .int .i64 a_aP.Quilt.Height, (sl v2a), (sl v3a), .int .i64 a_aP.Scale]] w fun e w' => e = .returned (.bool r) ∧ SH w [] [] w' := by
  refine calls_of_wc (args := [_, _]) Try.func7 rfl Try.ntmps7 rfl ?_
  unfold laws_FnExactSharedCloth at t0
  refine wcr ?_
  refine wl_eff (eo_box rfl rfl) rfl fun b1 => ?_
  refine wl_eff (eo_box rfl rfl) rfl fun b2 => ?_
  refine asg rfl rfl ?_
  refine wnt ?_
  refine wcr ?_
  refine asg rfl rfl ?_
  refine wnt ?_
  refine wcr ?_
  refine wl_pure (v := .agg #[.int .i64 a_aO.Quilt.Width, .int .i64 a_aO.Quilt.Height, (sl v0a), (sl v1a), .int .i64 a_aO.Scale]) (po_load_boxs tk_27 (pickS pick0) rfl rfl rfl) rfl ?_
  refine mv rfl rfl ?_
  refine bdO t0 fun v1 hv1 t0 => ?_
  refine wl_call (co_c0 fa_9 rfl fun w hw => c_laws_szOrder w a_aO v0a (Rg.on (rds_arg r0) hw) v1a u1a (Rg.on (rds_arg r1) hw) 1048576 hv1) rfl fun _ => ?_
  refine asg rfl rfl ?_
  refine wnt ?_
  refine wc_seq ?_
  refine wcr ?_
  refine mv rfl rfl ?_
  refine wl_pure (po_lss rfl rfl) rfl ?_
  refine wnt ?_
  refine wcO t0 rfl (fun h1 t0 => ?_) fun h1 t0 => ?_
  · skip
    refine wcr ?_
    refine asg rfl rfl ?_
    refine wnt ?_
    refine wc_ret ?_
    refine wq_then_ret ?_
    obtain rfl := Option.some.inj t0
    exact wq_ret1 rfl rfl fun w hw => ⟨rfl, hw.weak some_nil⟩
  refine wc_skip ?_
  refine wq_then ?_
  refine wcr ?_
  refine wl_pure (v := .agg #[.int .i64 a_aP.Quilt.Width, .int .i64 a_aP.Quilt.Height, (sl v2a), (sl v3a), .int .i64 a_aP.Scale]) (po_load_boxs tk_27 pick0 rfl rfl rfl) rfl ?_
  refine mv rfl rfl ?_
  refine bdO t0 fun v2 hv2 t0 => ?_
  refine wl_call (co_c0 fa_9 rfl fun w hw => c_laws_szOrder w a_aP v2a (Rg.on (rds_arg r2) hw) v3a u3a (Rg.on (rds_arg r3) hw) v1 hv2) rfl fun _ => ?_
  refine asg rfl rfl ?_
  refine wnt ?_
  refine wc_seq ?_
  refine wcr ?_
  refine mv rfl rfl ?_
  refine wl_pure (po_lss rfl rfl) rfl ?_
  refine wnt ?_
  refine wcO t0 rfl (fun h2 t0 => ?_) fun h2 t0 => ?_
  · skip
    refine wcr ?_
    refine asg rfl rfl ?_
    refine wnt ?_
    refine wc_ret ?_
    refine wq_then_ret ?_
    obtain rfl := Option.some.inj t0
    exact wq_ret1 rfl rfl fun w hw => ⟨rfl, hw.weak some_nil⟩
  refine wc_skip ?_
  refine wq_then ?_
  refine wc_seq ?_
  refine wc_draw [box b2 [.int .i64 a_aP.Quilt.Width, .int .i64 a_aP.Quilt.Height, (sl v2a), (sl v3a), .int .i64 a_aP.Scale], box b1 [.int .i64 a_aO.Quilt.Width, .int .i64 a_aO.Quilt.Height, (sl v0a), (sl v1a), .int .i64 a_aO.Scale]] 6 mixed ?_
  refine wa_pure (v := .agg #[.int .i64 a_aO.Quilt.Width, .int .i64 a_aO.Quilt.Height, (sl v0a), (sl v1a), .int .i64 a_aO.Scale]) 0 rfl (po_load_boxs tk_27 (pickS pick0) rfl rfl rfl) (some_cons pick0 (some_cons pick0 some_nil)) rfl (by kernel_rfl) (fun _ _ _ h => h) ?_
  refine wa_pure (v := .agg #[.int .i64 a_aP.Quilt.Width, .int .i64 a_aP.Quilt.Height, (sl v2a), (sl v3a), .int .i64 a_aP.Scale]) 2 rfl (po_load_boxs tk_27 pick0 rfl rfl rfl) (some_cons pick0 (some_cons pick0 some_nil)) rfl (by kernel_rfl) (fun _ _ _ h => h) ?_
  refine wa_1 (i := 1) (by kernel_rfl) ?_
  refine bdO t0 fun v3 hv3 t0 => ?_
  refine ws_call rfl (co_c2 fa_11 rfl fun w hw => c_laws_toOrder w a_aO v0a (Rg.on (rds_arg r0) hw) v1a u1a (Rg.on (rds_arg r1) hw) hv3) (fun _ => (sts_some (some_cons (pickS (pickS pick0)) (some_cons (pickS (pickS pick0)) some_nil)))) rfl fun x1 => ?_
  refine wa_1 (i := 3) (by kernel_rfl) ?_
  refine bdO t0 fun v4 hv4 t0 => ?_
  refine ws_call rfl (co_c2 fa_11 rfl fun w hw => c_laws_toOrder w a_aP v2a (Rg.on (rds_arg r2) hw) v3a u3a (Rg.on (rds_arg r3) hw) hv4) (fun _ => (sts_some (some_cons (pickS (pickS (pickS (pickS pick0)))) (some_cons (pickS (pickS (pickS (pickS pick0)))) some_nil)))) rfl fun x2 => ?_
  refine wa_1 (i := 4) (by kernel_rfl) ?_
  refine bdO t0 fun v5 hv5 t0 => ?_
  refine ws_call rfl (co_c1 fa_37 rfl fun w hw => c_spec_SharedCloth w v3 x1.1 (Rg.on (rds_own (pickS (pickS pick0))) hw) x1.2.1 x1.2.2 (Rg.on (rds_own (pickS (pickS (pickS pick0)))) hw) v4 x2.1 (Rg.on (rds_own pick0) hw) x2.2.1 x2.2.2 (Rg.on (rds_own (pickS pick0)) hw) hv5) (fun _ => (sts_some (some_cons (pickS (pickS (pickS (pickS (pickS pick0))))) (some_cons (pickS (pickS (pickS (pickS (pickS pick0))))) some_nil)))) rfl fun x3 => ?_
  refine wa_pure 5 rfl (po_assign rfl) (some_cons (pickS (pickS (pickS (pickS (pickS pick0))))) (some_cons (pickS (pickS (pickS (pickS (pickS pick0))))) some_nil)) rfl (by kernel_rfl) (fun _ _ _ h => h) ?_
  refine wa_done (by kernel_rfl) ?_
  refine wq_then ?_
  refine wcr ?_
  refine wl_pure (v := .agg #[.int .i64 a_aO.Quilt.Width, .int .i64 a_aO.Quilt.Height, (sl v0a), (sl v1a), .int .i64 a_aO.Scale]) (po_load_boxs tk_27 (pickS (pickS (pickS (pickS (pickS (pickS pick0)))))) rfl rfl rfl) rfl ?_
  refine bdO t0 fun v6 hv6 t0 => ?_
  refine wl_call (co_c2 fa_11 rfl fun w hw => c_laws_toOrder w a_aO v0a (Rg.on (rds_arg r0) hw) v1a u1a (Rg.on (rds_arg r1) hw) hv6) rfl fun x4 => ?_
  refine wl_eff (eo_alloc (cs := [.int .i64 0, .int .i64 0, (sl (⟨none, 0, 0⟩ : Hd)), (sl (⟨none, 0, 0⟩ : Hd)), .int .i64 0]) za_36) rfl fun b3 => ?_
  refine wl_skipop (so_box (cs' := [.int .i64 v6.Quilt.Width, .int .i64 v6.Quilt.Height, (sl x4.1), (sl x4.2.1), .int .i64 v6.Scale]) tk_36 pick0 rfl rfl rfl rfl rfl rfl rfl) ?_
  refine wnt ?_
  refine wcr ?_
  refine wl_pure (v := .agg #[.int .i64 a_aP.Quilt.Width, .int .i64 a_aP.Quilt.Height, (sl v2a), (sl v3a), .int .i64 a_aP.Scale]) (po_load_boxs tk_27 (pickS (pickS (pickS (pickS (pickS (pickS (pickS (pickS pick0)))))))) rfl rfl rfl) rfl ?_
  refine bdO t0 fun v7 hv7 t0 => ?_
  refine wl_call (co_c2 fa_11 rfl fun w hw => c_laws_toOrder w a_aP v2a (Rg.on (rds_arg r2) hw) v3a u3a (Rg.on (rds_arg r3) hw) hv7) rfl fun x5 => ?_
  refine wl_eff (eo_alloc (cs := [.int .i64 0, .int .i64 0, (sl (⟨none, 0, 0⟩ : Hd)), (sl (⟨none, 0, 0⟩ : Hd)), .int .i64 0]) za_36) rfl fun b4 => ?_
  refine wl_skipop (so_box (cs' := [.int .i64 v7.Quilt.Width, .int .i64 v7.Quilt.Height, (sl x5.1), (sl x5.2.1), .int .i64 v7.Scale]) tk_36 pick0 rfl rfl rfl rfl rfl rfl rfl) ?_
  refine wnt ?_
  refine wcr ?_
  refine wl_pure (v := .agg #[.int .i64 v6.Quilt.Width, .int .i64 v6.Quilt.Height, (sl x4.1), (sl x4.2.1), .int .i64 v6.Scale]) (po_load_boxs tk_36 (pickS (pickS (pickS pick0))) rfl rfl rfl) rfl ?_
  refine wl_pure (v := .agg #[.int .i64 v7.Quilt.Width, .int .i64 v7.Quilt.Height, (sl x5.1), (sl x5.2.1), .int .i64 v7.Scale]) (po_load_boxs tk_36 pick0 rfl rfl rfl) rfl ?_
  refine bdO t0 fun v8 hv8 t0 => ?_
  refine wl_call (co_c1 fa_38 rfl fun w hw => c_impl_SharedCloth w v6 x4.1 (Rg.on (rds_own (pickS (pickS (pickS (pickS pick0))))) hw) x4.2.1 x4.2.2 (Rg.on (rds_own (pickS (pickS (pickS (pickS (pickS pick0)))))) hw) v7 x5.1 (Rg.on (rds_own (pickS pick0)) hw) x5.2.1 x5.2.2 (Rg.on (rds_own (pickS (pickS pick0))) hw) hv8) rfl fun x6 => ?_
  refine asg rfl rfl ?_
  refine wnt ?_
  refine wc_seq ?_
  refine wcr ?_
  refine mv rfl rfl ?_
  refine mv rfl rfl ?_
  refine bdO t0 fun v9 hv9 t0 => ?_
  refine wl_call (co_c0 fa_13 rfl fun w hw => c_laws_eqIntS w v8 x6 (Rg.on (rds_own pick0) hw) v5 x3 (Rg.on (rds_own (pickS (pickS (pickS (pickS (pickS (pickS (pickS pick0)))))))) hw) hv9) rfl fun _ => ?_
  refine wl_pure (po_not rfl) rfl ?_
  refine wnt ?_
  refine wcO t0 rfl (fun h3 t0 => ?_) fun h3 t0 => ?_
  · skip
    refine wcr ?_
    refine asg rfl rfl ?_
    refine wnt ?_
    refine wc_ret ?_
    refine wq_then_ret ?_
    obtain rfl := Option.some.inj t0
    exact wq_ret1 rfl rfl fun w hw => ⟨rfl, hw.weak some_nil⟩
  refine wc_skip ?_
  refine wq_then ?_
  refine wc_seq ?_
  refine wc_seq ?_
  refine wc_draw [ownF (sl x6) v8, box b4 [.int .i64 v7.Quilt.Width, .int .i64 v7.Quilt.Height, (sl x5.1), (sl x5.2.1), .int .i64 v7.Scale], ownF (sl x5.1) v7.Quilt.Spots, own (sl x5.2.1) x5.2.2 v7.Blocks, box b3 [.int .i64 v6.Quilt.Width, .int .i64 v6.Quilt.Height, (sl x4.1), (sl x4.2.1), .int .i64 v6.Scale], ownF (sl x4.1) v6.Quilt.Spots, own (sl x4.2.1) x4.2.2 v6.Blocks, ownF (sl x3) v5, ownF (sl x2.1) v4.Quilt.Spots, own (sl x2.2.1) x2.2.2 v4.Blocks, ownF (sl x1.1) v3.Quilt.Spots, own (sl x1.2.1) x1.2.2 v3.Blocks, box b2 [.int .i64 a_aP.Quilt.Width, .int .i64 a_aP.Quilt.Height, (sl v2a), (sl v3a), .int .i64 a_aP.Scale], box b1 [.int .i64 a_aO.Quilt.Width, .int .i64 a_aO.Quilt.Height, (sl v0a), (sl v1a), .int .i64 a_aO.Scale]] 5 mixed ?_
  refine wa_pure (v := .agg #[.int .i64 v6.Quilt.Width, .int .i64 v6.Quilt.Height, (sl x4.1), (sl x4.2.1), .int .i64 v6.Scale]) 0 rfl (po_load_boxs tk_36 (pickS (pickS (pickS (pickS pick0)))) rfl rfl rfl) (some_cons pick0 (some_cons pick0 (some_cons pick0 (some_cons pick0 (some_cons pick0 (some_cons pick0 (some_cons pick0 (some_cons pick0 (some_cons pick0 (some_cons pick0 (some_cons pick0 (some_cons pick0 (some_cons pick0 (some_cons pick0 some_nil)))))))))))))) rfl (by kernel_rfl) (fun _ _ _ h => h) ?_
  refine wa_pure (v := .agg #[.int .i64 a_aO.Quilt.Width, .int .i64 a_aO.Quilt.Height, (sl v0a), (sl v1a), .int .i64 a_aO.Scale]) 1 rfl (po_load_boxs tk_27 (pickS (pickS (pickS (pickS (pickS (pickS (pickS (pickS (pickS (pickS (pickS (pickS (pickS pick0))))))))))))) rfl rfl rfl) (some_cons pick0 (some_cons pick0 (some_cons pick0 (some_cons pick0 (some_cons pick0 (some_cons pick0 (some_cons pick0 (some_cons pick0 (some_cons pick0 (some_cons pick0 (some_cons pick0 (some_cons pick0 (some_cons pick0 (some_cons pick0 some_nil)))))))))))))) rfl (by kernel_rfl) (fun _ _ _ h => h) ?_
  refine wa_1 (i := 2) (by kernel_rfl) ?_
  refine bdO t0 fun v10 hv10 t0 => ?_
  refine ws_call rfl (co_c2 fa_11 rfl fun w hw => c_laws_toOrder w a_aO v0a (Rg.on (rds_arg r0) hw) v1a u1a (Rg.on (rds_arg r1) hw) hv10) (fun _ => (sts_some (some_cons (pickS (pickS pick0)) (some_cons (pickS (pickS pick0)) (some_cons (pickS (pickS pick0)) (some_cons (pickS (pickS pick0)) (some_cons (pickS (pickS pick0)) (some_cons (pickS (pickS pick0)) (some_cons (pickS (pickS pick0)) (some_cons (pickS (pickS pick0)) (some_cons (pickS (pickS pick0)) (some_cons (pickS (pickS pick0)) (some_cons (pickS (pickS pick0)) (some_cons (pickS (pickS pick0)) (some_cons (pickS (pickS pick0)) (some_cons (pickS (pickS pick0)) some_nil)))))))))))))))) rfl fun x7 => ?_
  refine wa_1 (i := 3) (by kernel_rfl) ?_
  refine bdO t0 fun v11 hv11 t0 => ?_
  refine ws_call rfl (co_c0 fa_14 rfl fun w hw => c_laws_eqOrder w v6 x4.1 (Rg.on (rds_own (pickS (pickS (pickS (pickS (pickS (pickS (pickS pick0)))))))) hw) x4.2.1 x4.2.2 (Rg.on (rds_own (pickS (pickS (pickS (pickS (pickS (pickS (pickS (pickS pick0))))))))) hw) v10 x7.1 (Rg.on (rds_own pick0) hw) x7.2.1 x7.2.2 (Rg.on (rds_own (pickS pick0)) hw) hv11) (fun _ => (sts_some (some_cons (pickS (pickS pick0)) (some_cons (pickS (pickS pick0)) (some_cons (pickS (pickS pick0)) (some_cons (pickS (pickS pick0)) (some_cons (pickS (pickS pick0)) (some_cons (pickS (pickS pick0)) (some_cons (pickS (pickS pick0)) (some_cons (pickS (pickS pick0)) (some_cons (pickS (pickS pick0)) (some_cons (pickS (pickS pick0)) (some_cons (pickS (pickS pick0)) (some_cons (pickS (pickS pick0)) (some_cons (pickS (pickS pick0)) (some_cons (pickS (pickS pick0)) some_nil)))))))))))))))) rfl fun _ => ?_
  refine wa_pure 4 rfl (po_not rfl) (some_cons (pickS (pickS pick0)) (some_cons (pickS (pickS pick0)) (some_cons (pickS (pickS pick0)) (some_cons (pickS (pickS pick0)) (some_cons (pickS (pickS pick0)) (some_cons (pickS (pickS pick0)) (some_cons (pickS (pickS pick0)) (some_cons (pickS (pickS pick0)) (some_cons (pickS (pickS pick0)) (some_cons (pickS (pickS pick0)) (some_cons (pickS (pickS pick0)) (some_cons (pickS (pickS pick0)) (some_cons (pickS (pickS pick0)) (some_cons (pickS (pickS pick0)) some_nil)))))))))))))) rfl (by kernel_rfl) (fun _ _ _ h => h) ?_
  refine wa_done (by kernel_rfl) ?_
  refine wq_then ?_
  refine wcO t0 rfl (fun h4 t0 => ?_) fun h4 t0 => ?_
  · skip
    refine wcr ?_
    refine asg rfl rfl ?_
    refine wnt ?_
    refine wc_ret ?_
    refine wq_then_ret ?_
    obtain rfl := Option.some.inj t0
    exact wq_ret1 rfl rfl fun w hw => ⟨rfl, hw.weak some_nil⟩
  refine wc_skip ?_
  refine wq_then ?_
  refine wc_seq ?_
  refine wc_seq ?_
  refine wc_draw [ownF (sl x7.1) v10.Quilt.Spots, own (sl x7.2.1) x7.2.2 v10.Blocks, ownF (sl x6) v8, box b4 [.int .i64 v7.Quilt.Width, .int .i64 v7.Quilt.Height, (sl x5.1), (sl x5.2.1), .int .i64 v7.Scale], ownF (sl x5.1) v7.Quilt.Spots, own (sl x5.2.1) x5.2.2 v7.Blocks, box b3 [.int .i64 v6.Quilt.Width, .int .i64 v6.Quilt.Height, (sl x4.1), (sl x4.2.1), .int .i64 v6.Scale], ownF (sl x4.1) v6.Quilt.Spots, own (sl x4.2.1) x4.2.2 v6.Blocks, ownF (sl x3) v5, ownF (sl x2.1) v4.Quilt.Spots, own (sl x2.2.1) x2.2.2 v4.Blocks, ownF (sl x1.1) v3.Quilt.Spots, own (sl x1.2.1) x1.2.2 v3.Blocks, box b2 [.int .i64 a_aP.Quilt.Width, .int .i64 a_aP.Quilt.Height, (sl v2a), (sl v3a), .int .i64 a_aP.Scale], box b1 [.int .i64 a_aO.Quilt.Width, .int .i64 a_aO.Quilt.Height, (sl v0a), (sl v1a), .int .i64 a_aO.Scale]] 5 mixed ?_
  refine wa_pure (v := .agg #[.int .i64 v7.Quilt.Width, .int .i64 v7.Quilt.Height, (sl x5.1), (sl x5.2.1), .int .i64 v7.Scale]) 0 rfl (po_load_boxs tk_36 (pickS (pickS (pickS pick0))) rfl rfl rfl) (some_cons pick0 (some_cons pick0 (some_cons pick0 (some_cons pick0 (some_cons pick0 (some_cons pick0 (some_cons pick0 (some_cons pick0 (some_cons pick0 (some_cons pick0 (some_cons pick0 (some_cons pick0 (some_cons pick0 (some_cons pick0 (some_cons pick0 (some_cons pick0 some_nil)))))))))))))))) rfl (by kernel_rfl) (fun _ _ _ h => h) ?_
  refine wa_pure (v := .agg #[.int .i64 a_aP.Quilt.Width, .int .i64 a_aP.Quilt.Height, (sl v2a), (sl v3a), .int .i64 a_aP.Scale]) 1 rfl (po_load_boxs tk_27 (pickS (pickS (pickS (pickS (pickS (pickS (pickS (pickS (pickS (pickS (pickS (pickS (pickS (pickS pick0)))))))))))))) rfl rfl rfl) (some_cons pick0 (some_cons pick0 (some_cons pick0 (some_cons pick0 (some_cons pick0 (some_cons pick0 (some_cons pick0 (some_cons pick0 (some_cons pick0 (some_cons pick0 (some_cons pick0 (some_cons pick0 (some_cons pick0 (some_cons pick0 (some_cons pick0 (some_cons pick0 some_nil)))))))))))))))) rfl (by kernel_rfl) (fun _ _ _ h => h) ?_
  refine wa_1 (i := 2) (by kernel_rfl) ?_
  refine bdO t0 fun v12 hv12 t0 => ?_
  refine ws_call rfl (co_c2 fa_11 rfl fun w hw => c_laws_toOrder w a_aP v2a (Rg.on (rds_arg r2) hw) v3a u3a (Rg.on (rds_arg r3) hw) hv12) (fun _ => (sts_some (some_cons (pickS (pickS pick0)) (some_cons (pickS (pickS pick0)) (some_cons (pickS (pickS pick0)) (some_cons (pickS (pickS pick0)) (some_cons (pickS (pickS pick0)) (some_cons (pickS (pickS pick0)) (some_cons (pickS (pickS pick0)) (some_cons (pickS (pickS pick0)) (some_cons (pickS (pickS pick0)) (some_cons (pickS (pickS pick0)) (some_cons (pickS (pickS pick0)) (some_cons (pickS (pickS pick0)) (some_cons (pickS (pickS pick0)) (some_cons (pickS (pickS pick0)) (some_cons (pickS (pickS pick0)) (some_cons (pickS (pickS pick0)) some_nil)))))))))))))))))) rfl fun x8 => ?_
  refine wa_1 (i := 3) (by kernel_rfl) ?_
  refine bdO t0 fun v13 hv13 t0 => ?_
  refine ws_call rfl (co_c0 fa_14 rfl fun w hw => c_laws_eqOrder w v7 x5.1 (Rg.on (rds_own (pickS (pickS (pickS (pickS (pickS (pickS pick0))))))) hw) x5.2.1 x5.2.2 (Rg.on (rds_own (pickS (pickS (pickS (pickS (pickS (pickS (pickS pick0)))))))) hw) v12 x8.1 (Rg.on (rds_own pick0) hw) x8.2.1 x8.2.2 (Rg.on (rds_own (pickS pick0)) hw) hv13) (fun _ => (sts_some (some_cons (pickS (pickS pick0)) (some_cons (pickS (pickS pick0)) (some_cons (pickS (pickS pick0)) (some_cons (pickS (pickS pick0)) (some_cons (pickS (pickS pick0)) (some_cons (pickS (pickS pick0)) (some_cons (pickS (pickS pick0)) (some_cons (pickS (pickS pick0)) (some_cons (pickS (pickS pick0)) (some_cons (pickS (pickS pick0)) (some_cons (pickS (pickS pick0)) (some_cons (pickS (pickS pick0)) (some_cons (pickS (pickS pick0)) (some_cons (pickS (pickS pick0)) (some_cons (pickS (pickS pick0)) (some_cons (pickS (pickS pick0)) some_nil)))))))))))))))))) rfl fun _ => ?_
  refine wa_pure 4 rfl (po_not rfl) (some_cons (pickS (pickS pick0)) (some_cons (pickS (pickS pick0)) (some_cons (pickS (pickS pick0)) (some_cons (pickS (pickS pick0)) (some_cons (pickS (pickS pick0)) (some_cons (pickS (pickS pick0)) (some_cons (pickS (pickS pick0)) (some_cons (pickS (pickS pick0)) (some_cons (pickS (pickS pick0)) (some_cons (pickS (pickS pick0)) (some_cons (pickS (pickS pick0)) (some_cons (pickS (pickS pick0)) (some_cons (pickS (pickS pick0)) (some_cons (pickS (pickS pick0)) (some_cons (pickS (pickS pick0)) (some_cons (pickS (pickS pick0)) some_nil)))))))))))))))) rfl (by kernel_rfl) (fun _ _ _ h => h) ?_
  refine wa_done (by kernel_rfl) ?_
  refine wq_then ?_
  refine wcO t0 rfl (fun h5 t0 => ?_) fun h5 t0 => ?_
  · skip
    refine wcr ?_
    refine asg rfl rfl ?_
    refine wnt ?_
    refine wc_ret ?_
    refine wq_then_ret ?_
    obtain rfl := Option.some.inj t0
    exact wq_ret1 rfl rfl fun w hw => ⟨rfl, hw.weak some_nil⟩
  refine wc_skip ?_
  refine wq_then ?_
  refine wcr ?_
  refine asg rfl rfl ?_
  refine wnt ?_
  refine wcr ?_
  refine wl_pure (v := .agg #[.int .i64 v6.Quilt.Width, .int .i64 v6.Quilt.Height, (sl x4.1), (sl x4.2.1), .int .i64 v6.Scale]) (po_load_boxs tk_36 (pickS (pickS (pickS (pickS (pickS (pickS (pickS (pickS pick0)))))))) rfl rfl rfl) rfl ?_
  refine mv rfl rfl ?_
  refine bdO t0 fun v14 hv14 t0 => ?_
  refine wl_call (co_o2 [ownF (sl x4.1) v6.Quilt.Spots, own (sl x4.2.1) x4.2.2 v6.Blocks] fa_15 (some_cons (pickS (pickS (pickS (pickS (pickS (pickS (pickS (pickS (pickS pick0))))))))) (some_cons (pickS (pickS (pickS (pickS (pickS (pickS (pickS (pickS (pickS pick0))))))))) some_refl)) rfl fun w fp hw => c_laws_markOrder w fp v6 x4.1 x4.2.1 x4.2.2 1 hw.ow hv14) rfl fun x9 => ?_
  refine asg rfl rfl ?_
  refine wnt ?_
  refine wcr ?_
  refine wl_pure (v := .agg #[.int .i64 v7.Quilt.Width, .int .i64 v7.Quilt.Height, (sl x5.1), (sl x5.2.1), .int .i64 v7.Scale]) (po_load_boxs tk_36 (pickS (pickS (pickS (pickS (pickS (pickS (pickS pick0))))))) rfl rfl rfl) rfl ?_
  refine mv rfl rfl ?_
  refine bdO t0 fun v15 hv15 t0 => ?_
  refine wl_call (co_o2 [ownF (sl x5.1) v7.Quilt.Spots, own (sl x5.2.1) x5.2.2 v7.Blocks] fa_15 (some_cons (pickS (pickS (pickS (pickS (pickS (pickS (pickS (pickS pick0)))))))) (some_cons (pickS (pickS (pickS (pickS (pickS (pickS (pickS (pickS pick0)))))))) some_refl)) rfl fun w fp hw => c_laws_markOrder w fp v7 x5.1 x5.2.1 x5.2.2 v14.1 hw.ow hv15) rfl fun x10 => ?_
  refine asg rfl rfl ?_
  refine wnt ?_
  refine wc_seq ?_
  refine wc_seq ?_
  refine bdO t0 fun y1 t1 t0 => ?_
  refine wj (J := Bool) (X := Unit) (fun z => y1 = z) (fun z _ => [(2, ptr b1 0), (3, ptr b2 0), (6, (sl x3)), (9, (sl x6)), (63, .bool z)]) (fun _ _ => [box b2 [.int .i64 a_aP.Quilt.Width, .int .i64 a_aP.Quilt.Height, (sl v2a), (sl v3a), .int .i64 a_aP.Scale], box b1 [.int .i64 a_aO.Quilt.Width, .int .i64 a_aO.Quilt.Height, (sl v0a), (sl v1a), .int .i64 a_aO.Scale], ownF (sl x3) v5, ownF (sl x6) v8]) ?_ ?_
  · skip
    refine wc_region ?_
    refine mv rfl rfl ?_
    refine wl_pure (po_lss rfl rfl) rfl ?_
    refine mv rfl rfl ?_
    refine wlO_ (t := 58) t1 rfl (fun h6 t1 => ?_) fun h6 t1 => ?_
    · skip
      refine wl_guard_off (j := 2) rfl rfl rfl rfl rfl ?_
      refine wl_guard_off (j := 2) rfl rfl rfl rfl rfl ?_
      refine wl_guard_off (j := 2) rfl rfl rfl rfl rfl ?_
      refine wl_guard_off (j := 2) rfl rfl rfl rfl rfl ?_
      refine wl_pure (po_pick_t rfl rfl) rfl ?_
      refine wl_nil ?_
      exact wj_meet _ () (mtE t1) (sub_cons rfl (sub_cons rfl (sub_cons rfl (sub_cons rfl (sub_cons rfl sub_nil))))) (some_cons (pickS (pickS (pickS (pickS (pickS (pickS (pickS (pickS (pickS (pickS (pickS (pickS (pickS (pickS (pickS (pickS pick0)))))))))))))))) (some_cons (pickS (pickS (pickS (pickS (pickS (pickS (pickS (pickS (pickS (pickS (pickS (pickS (pickS (pickS (pickS (pickS pick0)))))))))))))))) (some_cons (pickS (pickS (pickS (pickS (pickS (pickS (pickS (pickS (pickS (pickS (pickS pick0))))))))))) (some_cons (pickS (pickS (pickS (pickS (pickS (pickS (pickS (pickS pick0)))))))) some_nil))))
    refine wl_guard_on (j := 2) rfl rfl rfl (mv rfl rfl ?_)
    refine wl_guard_on (j := 2) rfl rfl rfl (mv rfl rfl ?_)
    refine bdO t1 fun v16 hv16 t1 => ?_
    refine wl_guard_on (j := 2) rfl rfl rfl (wl_call (co_c0 fa_13 rfl fun w hw => c_laws_eqIntS w v8 x6 (Rg.on (rds_own (pickS (pickS (pickS (pickS (pickS (pickS (pickS (pickS pick0))))))))) hw) v5 x3 (Rg.on (rds_own (pickS (pickS (pickS (pickS (pickS (pickS (pickS (pickS (pickS (pickS (pickS pick0)))))))))))) hw) hv16) rfl (fun _ => ?_))
    refine wl_guard_on (j := 2) rfl rfl rfl (wl_pure (po_not rfl) rfl ?_)
    refine wl_pure (po_pick_f rfl rfl) rfl ?_
    refine wl_nil ?_
    exact wj_meet _ () (mtE t1) (sub_cons rfl (sub_cons rfl (sub_cons rfl (sub_cons rfl (sub_cons rfl sub_nil))))) (some_cons (pickS (pickS (pickS (pickS (pickS (pickS (pickS (pickS (pickS (pickS (pickS (pickS (pickS (pickS (pickS (pickS pick0)))))))))))))))) (some_cons (pickS (pickS (pickS (pickS (pickS (pickS (pickS (pickS (pickS (pickS (pickS (pickS (pickS (pickS (pickS (pickS pick0)))))))))))))))) (some_cons (pickS (pickS (pickS (pickS (pickS (pickS (pickS (pickS (pickS (pickS (pickS pick0))))))))))) (some_cons (pickS (pickS (pickS (pickS (pickS (pickS (pickS (pickS pick0)))))))) some_nil))))
  intro j1 _ hp
  obtain rfl : j1 = y1 := hp.symm
  refine wq_then ?_
  refine wcO t0 rfl (fun h7 t0 => ?_) fun h7 t0 => ?_
  · skip
    refine wcr ?_
    refine asg rfl rfl ?_
    refine wnt ?_
    refine wc_ret ?_
    refine wq_then_ret ?_
    obtain rfl := Option.some.inj t0
    exact wq_ret1 rfl rfl fun w hw => ⟨rfl, hw.weak some_nil⟩
  refine wc_skip ?_
  refine wq_then ?_
  refine wcr ?_
  refine asg rfl rfl ?_
  refine wnt ?_
  refine wcr ?_
  refine mv rfl rfl ?_
  refine mv rfl rfl ?_
  refine bdO t0 fun v17 hv17 t0 => ?_
  refine wl_call (co_o1 [ownF (sl x6) v8] fa_16 (some_cons (pickS (pickS (pickS pick0))) some_refl) rfl fun w fp hw => c_laws_markIntS w fp v8 x6 1 hw.ow hv17) rfl fun _ => ?_
  refine asg rfl rfl ?_
  refine wnt ?_
  refine wcr ?_
  refine asg rfl rfl ?_
  refine wnt ?_
  refine wcr ?_
  refine mv rfl rfl ?_
  refine mv rfl rfl ?_
  refine bdO t0 fun v18 hv18 t0 => ?_
  refine wl_call (co_c0 fa_17 rfl fun w hw => c_laws_heldIntS w v17.2 x6 (Rg.on (rds_own pick0) hw) 1 hv18) rfl fun _ => ?_
  refine asg rfl rfl ?_
  refine wnt ?_
  refine wc_seq ?_
  refine wcr ?_
  refine mv rfl rfl ?_
  refine wl_pure (po_lss rfl rfl) rfl ?_
  refine wnt ?_
  refine wcO t0 rfl (fun h8 t0 => ?_) fun h8 t0 => ?_
  · skip
    refine wcr ?_
    refine asg rfl rfl ?_
    refine wnt ?_
    refine wc_ret ?_
    refine wq_then_ret ?_
    obtain rfl := Option.some.inj t0
    exact wq_ret1 rfl rfl fun w hw => ⟨rfl, hw.weak some_nil⟩
  refine wc_skip ?_
  refine wq_then ?_
  refine wc_seq ?_
  refine wcr ?_
  refine mv rfl rfl ?_
  refine mv rfl rfl ?_
  refine wl_pure (po_neq rfl rfl) rfl ?_
  refine wnt ?_
  refine wcO t0 rfl (fun h9 t0 => ?_) fun h9 t0 => ?_
  · skip
    refine wcr ?_
    refine asg rfl rfl ?_
    refine wnt ?_
    refine wc_ret ?_
    refine wq_then_ret ?_
    obtain rfl := Option.some.inj t0
    exact wq_ret1 rfl rfl fun w hw => ⟨rfl, hw.weak some_nil⟩
  refine wc_skip ?_
  refine wq_then ?_
  refine wc_seq ?_
  refine wc_draw [ownF (sl x6) v17.2, box b2 [.int .i64 a_aP.Quilt.Width, .int .i64 a_aP.Quilt.Height, (sl v2a), (sl v3a), .int .i64 a_aP.Scale], box b1 [.int .i64 a_aO.Quilt.Width, .int .i64 a_aO.Quilt.Height, (sl v0a), (sl v1a), .int .i64 a_aO.Scale], ownF (sl x3) v5] 6 mixed ?_
  refine wa_pure (v := .agg #[.int .i64 a_aO.Quilt.Width, .int .i64 a_aO.Quilt.Height, (sl v0a), (sl v1a), .int .i64 a_aO.Scale]) 0 rfl (po_load_boxs tk_27 (pickS (pickS pick0)) rfl rfl rfl) (some_cons pick0 (some_cons pick0 (some_cons pick0 (some_cons pick0 some_nil)))) rfl (by kernel_rfl) (fun _ _ _ h => h) ?_
  refine wa_pure (v := .agg #[.int .i64 a_aP.Quilt.Width, .int .i64 a_aP.Quilt.Height, (sl v2a), (sl v3a), .int .i64 a_aP.Scale]) 2 rfl (po_load_boxs tk_27 (pickS pick0) rfl rfl rfl) (some_cons pick0 (some_cons pick0 (some_cons pick0 (some_cons pick0 some_nil)))) rfl (by kernel_rfl) (fun _ _ _ h => h) ?_
  refine wa_1 (i := 1) (by kernel_rfl) ?_
  refine bdO t0 fun v19 hv19 t0 => ?_
  refine ws_call rfl (co_c2 fa_11 rfl fun w hw => c_laws_toOrder w a_aO v0a (Rg.on (rds_arg r0) hw) v1a u1a (Rg.on (rds_arg r1) hw) hv19) (fun _ => (sts_some (some_cons (pickS (pickS pick0)) (some_cons (pickS (pickS pick0)) (some_cons (pickS (pickS pick0)) (some_cons (pickS (pickS pick0)) some_nil)))))) rfl fun x12 => ?_
  refine wa_1 (i := 3) (by kernel_rfl) ?_
  refine bdO t0 fun v20 hv20 t0 => ?_
  refine ws_call rfl (co_c2 fa_11 rfl fun w hw => c_laws_toOrder w a_aP v2a (Rg.on (rds_arg r2) hw) v3a u3a (Rg.on (rds_arg r3) hw) hv20) (fun _ => (sts_some (some_cons (pickS (pickS (pickS (pickS pick0)))) (some_cons (pickS (pickS (pickS (pickS pick0)))) (some_cons (pickS (pickS (pickS (pickS pick0)))) (some_cons (pickS (pickS (pickS (pickS pick0)))) some_nil)))))) rfl fun x13 => ?_
  refine wa_1 (i := 4) (by kernel_rfl) ?_
  refine bdO t0 fun v21 hv21 t0 => ?_
  refine ws_call rfl (co_c1 fa_38 rfl fun w hw => c_impl_SharedCloth w v19 x12.1 (Rg.on (rds_own (pickS (pickS pick0))) hw) x12.2.1 x12.2.2 (Rg.on (rds_own (pickS (pickS (pickS pick0)))) hw) v20 x13.1 (Rg.on (rds_own pick0) hw) x13.2.1 x13.2.2 (Rg.on (rds_own (pickS pick0)) hw) hv21) (fun _ => (sts_some (some_cons (pickS (pickS (pickS (pickS (pickS pick0))))) (some_cons (pickS (pickS (pickS (pickS (pickS pick0))))) (some_cons (pickS (pickS (pickS (pickS (pickS pick0))))) (some_cons (pickS (pickS (pickS (pickS (pickS pick0))))) some_nil)))))) rfl fun x14 => ?_
  refine wa_pure 5 rfl (po_assign rfl) (some_cons (pickS (pickS (pickS (pickS (pickS pick0))))) (some_cons (pickS (pickS (pickS (pickS (pickS pick0))))) (some_cons (pickS (pickS (pickS (pickS (pickS pick0))))) (some_cons (pickS (pickS (pickS (pickS (pickS pick0))))) some_nil)))) rfl (by kernel_rfl) (fun _ _ _ h => h) ?_
  refine wa_done (by kernel_rfl) ?_
  refine wq_then ?_
  refine wc_seq ?_
  refine wcr ?_
  refine mv rfl rfl ?_
  refine mv rfl rfl ?_
  refine bdO t0 fun v22 hv22 t0 => ?_
  refine wl_call (co_c0 fa_13 rfl fun w hw => c_laws_eqIntS w v21 x14 (Rg.on (rds_own pick0) hw) v5 x3 (Rg.on (rds_own (pickS (pickS (pickS (pickS (pickS (pickS (pickS (pickS pick0))))))))) hw) hv22) rfl fun _ => ?_
  refine wl_pure (po_not rfl) rfl ?_
  refine wnt ?_
  refine wcO t0 rfl (fun h10 t0 => ?_) fun h10 t0 => ?_
  · skip
    refine wcr ?_
    refine asg rfl rfl ?_
    refine wnt ?_
    refine wc_ret ?_
    refine wq_then_ret ?_
    obtain rfl := Option.some.inj t0
    exact wq_ret1 rfl rfl fun w hw => ⟨rfl, hw.weak some_nil⟩
  refine wc_skip ?_
  refine wq_then ?_
  refine wcr ?_
  refine asg rfl rfl ?_
  refine wnt ?_
  refine wcr ?_
  refine mv rfl rfl ?_
  refine mv rfl rfl ?_
  refine bdO t0 fun v23 hv23 t0 => ?_
  refine wl_call (co_c0 fa_17 rfl fun w hw => c_laws_heldIntS w v17.2 x6 (Rg.on (rds_own (pickS (pickS (pickS (pickS (pickS pick0)))))) hw) 1 hv23) rfl fun _ => ?_
  refine asg rfl rfl ?_
  refine wnt ?_
  refine wc_seq ?_
  refine wcr ?_
  refine mv rfl rfl ?_
  refine wl_pure (po_lss rfl rfl) rfl ?_
  refine wnt ?_
  refine wcO t0 rfl (fun h11 t0 => ?_) fun h11 t0 => ?_
  · skip
    refine wcr ?_
    refine asg rfl rfl ?_
    refine wnt ?_
    refine wc_ret ?_
    refine wq_then_ret ?_
    obtain rfl := Option.some.inj t0
    exact wq_ret1 rfl rfl fun w hw => ⟨rfl, hw.weak some_nil⟩
  refine wc_skip ?_
  refine wq_then ?_
  refine wc_seq ?_
  refine wcr ?_
  refine mv rfl rfl ?_
  refine mv rfl rfl ?_
  refine wl_pure (po_neq rfl rfl) rfl ?_
  refine wnt ?_
  refine wcO t0 rfl (fun h12 t0 => ?_) fun h12 t0 => ?_
  · skip
    refine wcr ?_
    refine asg rfl rfl ?_
    refine wnt ?_
    refine wc_ret ?_
    refine wq_then_ret ?_
    obtain rfl := Option.some.inj t0
    exact wq_ret1 rfl rfl fun w hw => ⟨rfl, hw.weak some_nil⟩
  refine wc_skip ?_
  refine wq_then ?_
  refine wcr ?_
  refine asg rfl rfl ?_
  refine wnt ?_
  refine wc_ret ?_
  obtain rfl := Option.some.inj t0
  exact wq_ret1 rfl rfl fun w hw => ⟨rfl, hw.weak some_nil⟩

end Go.Proofs.Ytnfdinafbfggeaa
