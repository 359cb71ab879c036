/-
  Each Go function computes its Lean function (part 2).
-/
import Derived.Test.YtmkmlnfkokfmaacWalks1
namespace Go.Proofs.Ytmkmlnfkokfmaac
open Go Go.RowKit Go.Proofs
set_option maxRecDepth 100000

theorem c_spec_TurnCell (w : World) (a_c : GCell) {r : GCell} (t0 : spec_TurnCell a_c = some r) : Calls Try.prog 45 #[.agg #[.int .i64 a_c.Split, .int .i64 a_c.A, .int .i64 a_c.B]] w fun e w' => e = .returned (.agg #[.int .i64 r.Split, .int .i64 r.A, .int .i64 r.B]) ∧ SH w [] [] w' := by
  refine calls_of_wc (args := [_]) Try.func45 rfl Try.ntmps45 rfl ?_
  unfold spec_TurnCell at t0
  refine wcr ?_
  refine wl_eff (eo_box rfl rfl) rfl fun b1 => ?_
  refine wl_eff (eo_alloc (cs := [.int .i64 0, .int .i64 0, .int .i64 0]) za_47) rfl fun b2 => ?_
  refine wnt ?_
  refine wc_seq ?_
  refine wcr ?_
  refine wl_pure (v := .agg #[.int .i64 a_c.Split, .int .i64 a_c.A, .int .i64 a_c.B]) (po_load_boxs tk_47 (pickS pick0) rfl rfl rfl) rfl ?_
  refine bdO t0 fun v1 hv1 t0 => ?_
  refine wl_call (co_c0 fa_43 rfl fun w hw => c_spec_CellOk w a_c hv1) rfl fun _ => ?_
  refine wl_pure (po_not rfl) rfl ?_
  refine wnt ?_
  refine wcO t0 rfl (fun h1 t0 => ?_) fun h1 t0 => ?_
  · skip
    refine wcr ?_
    refine wl_pure (po_build rfl bd_47) rfl ?_
    refine wl_skipop (so_box (cs' := [.int .i64 0, .int .i64 0, .int .i64 0]) tk_47 pick0 rfl rfl rfl rfl rfl rfl rfl) ?_
    refine wnt ?_
    refine wc_ret ?_
    refine wq_then_ret ?_
    obtain rfl := Option.some.inj t0
    exact wq_retc rfl tk_47 rfl pick0 rfl fun w hw => ⟨rfl, hw.weak some_nil⟩
  refine wc_skip ?_
  refine wq_then ?_
  refine wc_seq ?_
  refine wcr ?_
  refine wl_pure (po_fld fo_47_0 rfl) rfl ?_
  refine wl_pure (v := .int .i64 a_c.Split) (po_load_box tk_3 (pickS pick0) rfl rfl) rfl ?_
  refine wnt ?_
  refine wc_block ?_
  refine wcr ?_
  refine wl_pure (po_eql rfl rfl) rfl ?_
  refine asg rfl rfl ?_
  refine wnt ?_
  refine wcO t0 rfl (fun h2 t0 => ?_) fun h2 t0 => ?_
  · skip
    refine wcr ?_
    refine wl_pure (po_fld fo_47_2 rfl) rfl ?_
    refine wl_pure (v := .int .i64 a_c.B) (po_load_box tk_3 (pickS pick0) rfl rfl) rfl ?_
    refine wl_pure (po_fld fo_47_1 rfl) rfl ?_
    refine wl_pure (v := .int .i64 a_c.A) (po_load_box tk_3 (pickS pick0) rfl rfl) rfl ?_
    refine wl_pure (po_build rfl (bd_47_0_1_2 2 a_c.B a_c.A)) rfl ?_
    refine wl_skipop (so_box (cs' := [.int .i64 2, .int .i64 a_c.B, .int .i64 a_c.A]) tk_47 pick0 rfl rfl rfl rfl rfl rfl rfl) ?_
    refine wnt ?_
    refine wc_ret ?_
    refine wq_block_ret ?_
    refine wq_then_ret ?_
    obtain rfl := Option.some.inj t0
    exact wq_retc rfl tk_47 rfl pick0 rfl fun w hw => ⟨rfl, hw.weak some_nil⟩
  refine wcr ?_
  refine wl_pure (po_eql rfl rfl) rfl ?_
  refine asg rfl rfl ?_
  refine wnt ?_
  refine wcO t0 rfl (fun h3 t0 => ?_) fun h3 t0 => ?_
  · skip
    refine wcr ?_
    refine wl_pure (po_fld fo_47_1 rfl) rfl ?_
    refine wl_pure (v := .int .i64 a_c.A) (po_load_box tk_3 (pickS pick0) rfl rfl) rfl ?_
    refine wl_pure (po_fld fo_47_2 rfl) rfl ?_
    refine wl_pure (v := .int .i64 a_c.B) (po_load_box tk_3 (pickS pick0) rfl rfl) rfl ?_
    refine wl_pure (po_build rfl (bd_47_0_1_2 1 a_c.A a_c.B)) rfl ?_
    refine wl_skipop (so_box (cs' := [.int .i64 1, .int .i64 a_c.A, .int .i64 a_c.B]) tk_47 pick0 rfl rfl rfl rfl rfl rfl rfl) ?_
    refine wnt ?_
    refine wc_ret ?_
    refine wq_block_ret ?_
    refine wq_then_ret ?_
    obtain rfl := Option.some.inj t0
    exact wq_retc rfl tk_47 rfl pick0 rfl fun w hw => ⟨rfl, hw.weak some_nil⟩
  refine wc_skip ?_
  refine wq_block ?_
  refine wq_then ?_
  refine wcr ?_
  refine wl_pure (v := .agg #[.int .i64 a_c.Split, .int .i64 a_c.A, .int .i64 a_c.B]) (po_load_boxs tk_47 (pickS pick0) rfl rfl rfl) rfl ?_
  refine wl_skipop (so_box (cs' := [.int .i64 a_c.Split, .int .i64 a_c.A, .int .i64 a_c.B]) tk_47 pick0 rfl rfl rfl rfl rfl rfl rfl) ?_
  refine wnt ?_
  refine wc_ret ?_
  obtain rfl := Option.some.inj t0
  exact wq_retc rfl tk_47 rfl pick0 rfl fun w hw => ⟨rfl, hw.weak some_nil⟩

theorem c_spec_TurnBlock (w : World) (a_b : GBlock) (v0a : Hd) (r0 : rdF w (dm w []) (sl v0a) a_b.Cells) {r : GBlock} (t0 : spec_TurnBlock a_b = some r) : Calls Try.prog 29 #[.agg #[.int .i64 a_b.Size, (sl v0a)]] w fun e w' => ∃ x : Hd, e = .returned (.agg #[.int .i64 r.Size, (sl x)]) ∧ SH w [] [ownF (sl x) r.Cells] w' := by
  refine calls_of_wc (args := [_]) Try.func29 rfl Try.ntmps29 rfl ?_
  unfold spec_TurnBlock at t0
  refine wcr ?_
  refine wl_eff (eo_box rfl rfl) rfl fun b1 => ?_
  refine wl_eff (eo_alloc (cs := [.int .i64 0, (sl (⟨none, 0, 0⟩ : Hd))]) za_26) rfl fun b2 => ?_
  refine wnt ?_
  refine wc_seq ?_
  refine wcr ?_
  refine wl_pure (v := .agg #[.int .i64 a_b.Size, (sl v0a)]) (po_load_boxs tk_26 (pickS pick0) rfl rfl rfl) rfl ?_
  refine bdO t0 fun v1 hv1 t0 => ?_
  refine wl_call (co_c0 fa_25 rfl fun w hw => c_spec_BlockOk w a_b v0a (Rg.on (rds_arg r0) hw) hv1) rfl fun _ => ?_
  refine wl_pure (po_not rfl) rfl ?_
  refine wnt ?_
  refine wcO t0 rfl (fun h1 t0 => ?_) fun h1 t0 => ?_
  · skip
    refine wcr ?_
    refine wl_pure (po_build rfl bd_26) rfl ?_
    refine wl_skipop (so_box (cs' := [.int .i64 0, (sl (⟨none, 0, 0⟩ : Hd))]) tk_26 pick0 rfl rfl rfl rfl rfl rfl rfl) ?_
    refine wnt ?_
    refine wc_ret ?_
    refine wq_then_ret ?_
    obtain rfl := Option.some.inj t0
    exact wq_retc rfl tk_26 rfl pick0 rfl fun w hw => ⟨(⟨none, 0, 0⟩ : Hd), rfl, hw.weak (some_cons pick_nil some_nil)⟩
  refine wc_skip ?_
  refine wq_then ?_
  refine wcr ?_
  refine wl_pure (po_fld fo_26_0 rfl) rfl ?_
  refine wl_pure (v := .int .i64 a_b.Size) (po_load_box tk_3 (pickS pick0) rfl rfl) rfl ?_
  refine wl_pure (po_build rfl (bd_26_0 a_b.Size)) rfl ?_
  refine wl_eff (eo_alloc (cs := [.int .i64 0, (sl (⟨none, 0, 0⟩ : Hd))]) za_26) rfl fun b3 => ?_
  refine wl_skipop (so_box (cs' := [.int .i64 a_b.Size, (sl (⟨none, 0, 0⟩ : Hd))]) tk_26 pick0 rfl rfl rfl rfl rfl rfl rfl) ?_
  refine wnt ?_
  refine wc_seq ?_
  refine wcr ?_
  refine asg rfl rfl ?_
  refine wnt ?_
  refine gdO t0 fun g1 t0 => ?_
  refine lpO_inv t0 fun y1 l1 t0 => ?_
  refine wj (J := List GCell) (X := Hd) (fun z => y1 = z) (fun _ _ => [(2, ptr b2 0), (3, ptr b3 0)]) (fun z x => [box b3 [.int .i64 a_b.Size, (sl x)], box b2 [.int .i64 0, (sl (⟨none, 0, 0⟩ : Hd))], ownF (sl x) z]) ?_ ?_
  · skip
    refine wc_block ?_
    refine wc_forO (X := Hd) l1 (fun k1 s1 x1l => [(1, ptr b1 0), (2, ptr b2 0), (3, ptr b3 0), (4, .int .i64 ((k1 : Nat) : Int))]) (fun k1 s1 x1l => [box b3 [.int .i64 a_b.Size, (sl x1l)], box b2 [.int .i64 0, (sl (⟨none, 0, 0⟩ : Hd))], box b1 [.int .i64 a_b.Size, (sl v0a)], ownF (sl x1l) s1]) (⟨none, 0, 0⟩ : Hd) (sub_cons rfl (sub_cons rfl (sub_cons rfl (sub_cons rfl sub_nil)))) (some_cons pick0 (some_cons pick0 (some_cons pick0 (some_cons pick_nil some_nil)))) fun k1 s1 x1l hN1 l1 => ?_
    by_cases hk1 : k1 < (a_b.Size).toNat
    · skip
      refine forO_step l1 hk1 fun _ t1 l1 => ?_
      unfold spec_TurnBlock_L1 at t1
      have c1 : (decide (((k1 : Nat) : Int) < a_b.Size)) = true := decide_eq_true (by omega)
      refine wc_seq ?_
      refine wcr ?_
      refine mv rfl rfl ?_
      refine wl_pure (po_fld fo_26_0 rfl) rfl ?_
      refine wl_pure (v := .int .i64 a_b.Size) (po_load_box tk_3 (pickS (pickS pick0)) rfl rfl) rfl ?_
      refine wl_pure (po_lss rfl rfl) rfl ?_
      refine wnt ?_
      refine wc_cond_t rfl c1 ?_
      refine wc_skip ?_
      refine wq_then ?_
      refine wc_seq ?_
      refine wc_block ?_
      refine wcr ?_
      refine asg rfl rfl ?_
      refine wnt ?_
      refine lpO_inv t1 fun y2 l2 t1 => ?_
      refine wj (J := List GCell) (X := Hd) (fun z => y2 = z) (fun _ _ => [(1, ptr b1 0), (2, ptr b2 0), (3, ptr b3 0), (4, .int .i64 ((k1 : Nat) : Int))]) (fun z x => [box b3 [.int .i64 a_b.Size, (sl x)], box b2 [.int .i64 0, (sl (⟨none, 0, 0⟩ : Hd))], box b1 [.int .i64 a_b.Size, (sl v0a)], ownF (sl x) z]) ?_ ?_
      · skip
        refine wc_block ?_
        refine wc_forO (X := Hd) l2 (fun k2 s2 x2l => [(1, ptr b1 0), (2, ptr b2 0), (3, ptr b3 0), (4, .int .i64 ((k1 : Nat) : Int)), (5, .int .i64 ((k2 : Nat) : Int))]) (fun k2 s2 x2l => [box b3 [.int .i64 a_b.Size, (sl x2l)], box b2 [.int .i64 0, (sl (⟨none, 0, 0⟩ : Hd))], box b1 [.int .i64 a_b.Size, (sl v0a)], ownF (sl x2l) s2]) x1l (sub_cons rfl (sub_cons rfl (sub_cons rfl (sub_cons rfl (sub_cons rfl sub_nil))))) (some_cons pick0 (some_cons pick0 (some_cons pick0 (some_cons pick0 some_nil)))) fun k2 s2 x2l hN2 l2 => ?_
        by_cases hk2 : k2 < (a_b.Size).toNat
        · skip
          refine forO_step l2 hk2 fun _ t2 l2 => ?_
          unfold spec_TurnBlock_L2 at t2
          have c2 : (decide (((k2 : Nat) : Int) < a_b.Size)) = true := decide_eq_true (by omega)
          refine wc_seq ?_
          refine wcr ?_
          refine mv rfl rfl ?_
          refine wl_pure (po_fld fo_26_0 rfl) rfl ?_
          refine wl_pure (v := .int .i64 a_b.Size) (po_load_box tk_3 (pickS (pickS pick0)) rfl rfl) rfl ?_
          refine wl_pure (po_lss rfl rfl) rfl ?_
          refine wnt ?_
          refine wc_cond_t rfl c2 ?_
          refine wc_skip ?_
          refine wq_then ?_
          refine wc_seq ?_
          refine wc_block ?_
          refine wc_draw [box b3 [.int .i64 a_b.Size, (sl x2l)], box b2 [.int .i64 0, (sl (⟨none, 0, 0⟩ : Hd))], box b1 [.int .i64 a_b.Size, (sl v0a)]] 20 mixed ?_
          refine wa_pure 0 rfl (po_fld fo_26_1 rfl) (some_cons pick0 (some_cons pick0 (some_cons pick0 some_nil))) rfl (by kernel_rfl) (fun _ _ _ h => h) ?_
          refine wa_pure (v := (sl x2l)) 1 rfl (po_load_box tk_24 pick0 rfl rfl) (some_cons pick0 (some_cons pick0 (some_cons pick0 some_nil))) rfl (by kernel_rfl) (fun _ _ _ h => h) ?_
          refine wa_pure 2 rfl (po_fld fo_26_1 rfl) (some_cons pick0 (some_cons pick0 (some_cons pick0 some_nil))) rfl (by kernel_rfl) (fun _ _ _ h => h) ?_
          refine wa_pure (v := (sl v0a)) 3 rfl (po_load_box tk_24 (pickS (pickS pick0)) rfl rfl) (some_cons pick0 (some_cons pick0 (some_cons pick0 some_nil))) rfl (by kernel_rfl) (fun _ _ _ h => h) ?_
          refine wa_pure 4 rfl (po_fld fo_26_0 rfl) (some_cons pick0 (some_cons pick0 (some_cons pick0 some_nil))) rfl (by kernel_rfl) (fun _ _ _ h => h) ?_
          refine wa_pure (v := .int .i64 a_b.Size) 5 rfl (po_load_box tk_3 (pickS (pickS pick0)) rfl rfl) (some_cons pick0 (some_cons pick0 (some_cons pick0 some_nil))) rfl (by kernel_rfl) (fun _ _ _ h => h) ?_
          refine wa_pure 6 rfl (po_sub rfl rfl) (some_cons pick0 (some_cons pick0 (some_cons pick0 some_nil))) rfl (by kernel_rfl) (fun _ _ _ h => h) ?_
          refine wa_pure 7 rfl (po_move rfl) (some_cons pick0 (some_cons pick0 (some_cons pick0 some_nil))) rfl (by kernel_rfl) (fun _ _ _ h => h) ?_
          refine wa_pure 8 rfl (po_sub rfl rfl) (some_cons pick0 (some_cons pick0 (some_cons pick0 some_nil))) rfl (by kernel_rfl) (fun _ _ _ h => h) ?_
          refine wa_pure 9 rfl (po_fld fo_26_0 rfl) (some_cons pick0 (some_cons pick0 (some_cons pick0 some_nil))) rfl (by kernel_rfl) (fun _ _ _ h => h) ?_
          refine wa_pure (v := .int .i64 a_b.Size) 10 rfl (po_load_box tk_3 (pickS (pickS pick0)) rfl rfl) (some_cons pick0 (some_cons pick0 (some_cons pick0 some_nil))) rfl (by kernel_rfl) (fun _ _ _ h => h) ?_
          refine wa_pure 11 rfl (po_mul rfl rfl) (some_cons pick0 (some_cons pick0 (some_cons pick0 some_nil))) rfl (by kernel_rfl) (fun _ _ _ h => h) ?_
          refine wa_pure 12 rfl (po_move rfl) (some_cons pick0 (some_cons pick0 (some_cons pick0 some_nil))) rfl (by kernel_rfl) (fun _ _ _ h => h) ?_
          refine wa_pure 13 rfl (po_add rfl rfl) (some_cons pick0 (some_cons pick0 (some_cons pick0 some_nil))) rfl (by kernel_rfl) (fun _ _ _ h => h) ?_
          refine gdO t2 fun g2 t2 => ?_
          refine wa_pure 14 rfl (po_ixr (rds_arg r0) el_24 rfl rfl g2.1 g2.2) (some_cons pick0 (some_cons pick0 (some_cons pick0 some_nil))) rfl (by kernel_rfl) (fun _ _ _ h => h) ?_
          refine wa_pure (v := .agg #[.int .i64 ((gx a_b.Cells (((wr ((wr ((wr ((wr (a_b.Size - 1)) - ((k2 : Nat) : Int))) * a_b.Size)) + ((k1 : Nat) : Int)))).toNat)).Split), .int .i64 ((gx a_b.Cells (((wr ((wr ((wr ((wr (a_b.Size - 1)) - ((k2 : Nat) : Int))) * a_b.Size)) + ((k1 : Nat) : Int)))).toNat)).A), .int .i64 ((gx a_b.Cells (((wr ((wr ((wr ((wr (a_b.Size - 1)) - ((k2 : Nat) : Int))) * a_b.Size)) + ((k1 : Nat) : Int)))).toNat)).B)]) 15 rfl (po_ldfs (rds_arg r0) tk_47 rfl (ix_lt g2) rfl rfl rfl) (some_cons pick0 (some_cons pick0 (some_cons pick0 some_nil))) rfl (by kernel_rfl) (fun _ _ _ h => h) ?_
          refine wa_1 (i := 16) (by kernel_rfl) ?_
          refine bdO t2 fun v2 hv2 t2 => ?_
          refine ws_call rfl (co_c0 fa_45 rfl fun w hw => c_spec_TurnCell w (gx a_b.Cells (((wr ((wr ((wr ((wr (a_b.Size - 1)) - ((k2 : Nat) : Int))) * a_b.Size)) + ((k1 : Nat) : Int)))).toNat)) hv2) (fun _ => (sts_some (some_cons pick0 (some_cons pick0 (some_cons pick0 some_nil))))) rfl fun _ => ?_
          refine wa_1 (i := 17) (by kernel_rfl) ?_
          refine ws_eff rfl (eo_buildSlice rfl (sb_24_1 v2.Split v2.A v2.B)) (fun _ => (sts_some (some_cons (pickS pick0) (some_cons (pickS pick0) (some_cons (pickS pick0) some_nil))))) rfl fun b4 => ?_
          refine wa_1 (i := 18) (by kernel_rfl) ?_
          refine gdO t2 fun g3 t2 => ?_
          refine ws_eff rfl (eo_append (xs := s2) (ys := ([v2] : List GCell)) ak_24 (pickS (pickS (pickS (pickS pick0)))) rfl rfl (slin_rd fun _ g => Rg.on (rds_own (pick_box_own pick0 (n := 1) (xs := ([v2] : List GCell)) rfl rfl (by unfold maxLen; omega))) g) g3) (fun _ => (sts_some (some_cons (pickS (pickS pick0)) (some_cons (pickS (pickS pick0)) (some_cons (pickS (pickS pick0)) some_nil))))) rfl fun x3 => ?_
          refine wa_pure 19 rfl (po_fld fo_26_1 rfl) (some_cons (pickS (pickS pick0)) (some_cons (pickS (pickS pick0)) (some_cons (pickS (pickS pick0)) some_nil))) rfl (by kernel_rfl) (fun _ _ _ h => h) ?_
          refine wa_1 (i := 20) (by kernel_rfl) ?_
          refine ws_skipop rfl (so_box (cs' := [.int .i64 a_b.Size, (sl x3)]) tk_24 (pickS (pickS pick0)) rfl rfl rfl rfl rfl rfl rfl) (sts_past (by kernel_rfl)) ?_
          refine wa_done (by kernel_rfl) ?_
          refine wq_block ?_
          refine wq_then ?_
          refine wc_region ?_
          refine mv rfl rfl ?_
          refine wl_pure (po_inc rfl rfl (by omega)) rfl ?_
          refine asg rfl rfl ?_
          refine wl_nil ?_
          exact wq_rnd hk2 (stpN l2 t2) x3 (sub_cons rfl (sub_cons rfl (sub_cons rfl (sub_cons rfl (sub_cons rfl sub_nil))))) (some_cons pick0 (some_cons (pickS (pickS pick0)) (some_cons (pickS (pickS pick0)) (some_cons pick0 some_nil))))
        have c2 : (decide (((k2 : Nat) : Int) < a_b.Size)) = false := decide_eq_false (by omega)
        have en1 := forO_end l2 hk2
        refine wc_seq ?_
        refine wcr ?_
        refine mv rfl rfl ?_
        refine wl_pure (po_fld fo_26_0 rfl) rfl ?_
        refine wl_pure (v := .int .i64 a_b.Size) (po_load_box tk_3 (pickS (pickS pick0)) rfl rfl) rfl ?_
        refine wl_pure (po_lss rfl rfl) rfl ?_
        refine wnt ?_
        refine wc_cond_f rfl c2 ?_
        refine wc_exit ?_
        refine wq_then_exit ?_
        refine wq_then_exit ?_
        refine wq_block_exit ?_
        exact wj_meet _ x2l (Sum.inl.inj en1) (sub_cons rfl (sub_cons rfl (sub_cons rfl (sub_cons rfl sub_nil)))) (some_cons pick0 (some_cons pick0 (some_cons pick0 (some_cons pick0 some_nil))))
      intro e2 x2 hp
      obtain rfl : e2 = y2 := hp.symm
      refine wq_block ?_
      refine wq_then ?_
      refine wc_region ?_
      refine mv rfl rfl ?_
      refine wl_pure (po_inc rfl rfl (by omega)) rfl ?_
      refine asg rfl rfl ?_
      refine wl_nil ?_
      exact wq_rnd hk1 (stpN l1 t1) x2 (sub_cons rfl (sub_cons rfl (sub_cons rfl (sub_cons rfl sub_nil)))) (some_cons pick0 (some_cons pick0 (some_cons pick0 (some_cons pick0 some_nil))))
    have c1 : (decide (((k1 : Nat) : Int) < a_b.Size)) = false := decide_eq_false (by omega)
    have en2 := forO_end l1 hk1
    refine wc_seq ?_
    refine wcr ?_
    refine mv rfl rfl ?_
    refine wl_pure (po_fld fo_26_0 rfl) rfl ?_
    refine wl_pure (v := .int .i64 a_b.Size) (po_load_box tk_3 (pickS (pickS pick0)) rfl rfl) rfl ?_
    refine wl_pure (po_lss rfl rfl) rfl ?_
    refine wnt ?_
    refine wc_cond_f rfl c1 ?_
    refine wc_exit ?_
    refine wq_then_exit ?_
    refine wq_then_exit ?_
    refine wq_block_exit ?_
    exact wj_meet _ x1l (Sum.inl.inj en2) (sub_cons rfl (sub_cons rfl sub_nil)) (some_cons pick0 (some_cons pick0 (some_cons (pickS pick0) some_nil)))
  intro e1 x1 hp
  obtain rfl : e1 = y1 := hp.symm
  refine wq_then ?_
  refine wcr ?_
  refine wl_pure (v := .agg #[.int .i64 a_b.Size, (sl x1)]) (po_load_boxs tk_26 pick0 rfl rfl rfl) rfl ?_
  refine wl_skipop (so_box (cs' := [.int .i64 a_b.Size, (sl x1)]) tk_26 (pickS pick0) rfl rfl rfl rfl rfl rfl rfl) ?_
  refine wnt ?_
  refine wc_ret ?_
  obtain rfl := Option.some.inj t0
  exact wq_retc rfl tk_26 rfl pick0 rfl fun w hw => ⟨x1, rfl, hw.weak (some_cons (pickS (pickS pick0)) some_nil)⟩

theorem c_spec_SeenFrom (w : World) (a_b : GBlock) (v0a : Hd) (r0 : rdF w (dm w []) (sl v0a) a_b.Cells) (a_k : Int) {r : GBlock} (t0 : spec_SeenFrom a_b a_k = some r) : Calls Try.prog 11 #[.agg #[.int .i64 a_b.Size, (sl v0a)], .int .i64 a_k] w fun e w' => ∃ x : Hd, e = .returned (.agg #[.int .i64 r.Size, (sl x)]) ∧ SH w [] [ownF (sl x) r.Cells] w' := by
  refine calls_of_wc (args := [_, _]) Try.func11 rfl Try.ntmps11 rfl ?_
  unfold spec_SeenFrom at t0
  refine wcr ?_
  refine wl_eff (eo_box rfl rfl) rfl fun b1 => ?_
  refine wl_eff (eo_alloc (cs := [.int .i64 0, (sl (⟨none, 0, 0⟩ : Hd))]) za_26) rfl fun b2 => ?_
  refine wnt ?_
  refine wc_seq ?_
  refine wc_seq ?_
  refine bdO t0 fun y1 t1 t0 => ?_
  refine wj (J := Bool) (X := Unit) (fun z => y1 = z) (fun z _ => [(1, .int .i64 a_k), (2, ptr b1 0), (4, ptr b2 0), (14, .bool z)]) (fun _ _ => [box b2 [.int .i64 0, (sl (⟨none, 0, 0⟩ : Hd))], box b1 [.int .i64 a_b.Size, (sl v0a)]]) ?_ ?_
  · skip
    refine wc_region ?_
    refine wl_pure (v := .agg #[.int .i64 a_b.Size, (sl v0a)]) (po_load_boxs tk_26 (pickS pick0) rfl rfl rfl) rfl ?_
    refine bdO t1 fun v1 hv1 t1 => ?_
    refine wl_call (co_c0 fa_25 rfl fun w hw => c_spec_BlockOk w a_b v0a (Rg.on (rds_arg r0) hw) hv1) rfl fun _ => ?_
    refine wl_pure (po_not rfl) rfl ?_
    refine mv rfl rfl ?_
    refine wlO_ (t := 10) t1 rfl (fun h1 t1 => ?_) fun h1 t1 => ?_
    · skip
      refine wl_guard_off (j := 3) rfl rfl rfl rfl rfl ?_
      refine wl_guard_off (j := 3) rfl rfl rfl rfl rfl ?_
      refine wl_guard_off (j := 3) rfl rfl rfl rfl rfl ?_
      refine wl_pure (po_pick_t rfl rfl) rfl ?_
      refine wl_nil ?_
      exact wj_meet _ () (mtE t1) (sub_cons rfl (sub_cons rfl (sub_cons rfl (sub_cons rfl sub_nil)))) (some_cons pick0 (some_cons pick0 some_nil))
    refine wl_guard_on (j := 3) rfl rfl rfl (mv rfl rfl ?_)
    refine bdO t1 fun v2 hv2 t1 => ?_
    refine wl_guard_on (j := 3) rfl rfl rfl (wl_call (co_c0 fa_26 rfl fun w hw => c_spec_l01In w a_k 0 7 hv2) rfl (fun _ => ?_))
    refine wl_guard_on (j := 3) rfl rfl rfl (wl_pure (po_not rfl) rfl ?_)
    refine wl_pure (po_pick_f rfl rfl) rfl ?_
    refine wl_nil ?_
    exact wj_meet _ () (mtE t1) (sub_cons rfl (sub_cons rfl (sub_cons rfl (sub_cons rfl sub_nil)))) (some_cons pick0 (some_cons pick0 some_nil))
  intro j1 _ hp
  obtain rfl : j1 = y1 := hp.symm
  refine wq_then ?_
  refine wcO t0 rfl (fun h2 t0 => ?_) fun h2 t0 => ?_
  · skip
    refine wcr ?_
    refine wl_pure (po_build rfl bd_26) rfl ?_
    refine wl_skipop (so_box (cs' := [.int .i64 0, (sl (⟨none, 0, 0⟩ : Hd))]) tk_26 pick0 rfl rfl rfl rfl rfl rfl rfl) ?_
    refine wnt ?_
    refine wc_ret ?_
    refine wq_then_ret ?_
    obtain rfl := Option.some.inj t0
    exact wq_retc rfl tk_26 rfl pick0 rfl fun w hw => ⟨(⟨none, 0, 0⟩ : Hd), rfl, hw.weak (some_cons pick_nil some_nil)⟩
  refine wc_skip ?_
  refine wq_then ?_
  refine wcr ?_
  refine wl_pure (v := .agg #[.int .i64 a_b.Size, (sl v0a)]) (po_load_boxs tk_26 (pickS pick0) rfl rfl rfl) rfl ?_
  refine bdO t0 fun v3 hv3 t0 => ?_
  refine wl_call (co_c1 fa_27 rfl fun w hw => c_spec_l03Copy w a_b v0a (Rg.on (rds_arg r0) hw) hv3) rfl fun x2 => ?_
  refine wl_eff (eo_alloc (cs := [.int .i64 0, (sl (⟨none, 0, 0⟩ : Hd))]) za_26) rfl fun b3 => ?_
  refine wl_skipop (so_box (cs' := [.int .i64 v3.Size, (sl x2)]) tk_26 pick0 rfl rfl rfl rfl rfl rfl rfl) ?_
  refine wnt ?_
  refine wc_seq ?_
  refine wcr ?_
  refine mv rfl rfl ?_
  refine wl_pure (po_geq rfl rfl) rfl ?_
  refine wnt ?_
  refine bdO t0 fun y1 t1 t0 => ?_
  refine wj (J := GBlock) (X := Hd) (fun z => y1 = z) (fun _ _ => [(1, .int .i64 a_k), (4, ptr b2 0), (5, ptr b3 0)]) (fun z x => [box b3 [.int .i64 ((z).Size), (sl x)], box b2 [.int .i64 0, (sl (⟨none, 0, 0⟩ : Hd))], ownF (sl x) ((z).Cells)]) ?_ ?_
  · skip
    refine wcO t1 rfl (fun h3 t1 => ?_) fun h3 t1 => ?_
    · skip
      refine wc_region ?_
      refine wl_pure (v := .agg #[.int .i64 a_b.Size, (sl v0a)]) (po_load_boxs tk_26 (pickS (pickS (pickS pick0))) rfl rfl rfl) rfl ?_
      refine bdO t1 fun v4 hv4 t1 => ?_
      refine wl_call (co_c1 fa_28 rfl fun w hw => c_spec_MirrorBlock w a_b v0a (Rg.on (rds_arg r0) hw) hv4) rfl fun x4 => ?_
      refine wl_skipop (so_box (cs' := [.int .i64 v4.Size, (sl x4)]) tk_26 (pickS pick0) rfl rfl rfl rfl rfl rfl rfl) ?_
      refine wl_nil ?_
      exact wj_meet _ x4 (mtE t1) (sub_cons rfl (sub_cons rfl (sub_cons rfl sub_nil))) (some_cons pick0 (some_cons (pickS (pickS pick0)) (some_cons pick0 some_nil)))
    refine wc_skip ?_
    exact wj_meet _ x2 (mtE t1) (sub_cons rfl (sub_cons rfl (sub_cons rfl sub_nil))) (some_cons pick0 (some_cons (pickS pick0) (some_cons pick0 some_nil)))
  intro j2 x3 hp
  obtain rfl : j2 = y1 := hp.symm
  refine wq_then ?_
  refine wc_seq ?_
  refine wcr ?_
  refine asg rfl rfl ?_
  refine wnt ?_
  refine gdO t0 fun g1 t0 => ?_
  refine lpO_inv t0 fun y1 l1 t0 => ?_
  refine wj (J := Int × (List GCell)) (X := Hd) (fun z => y1 = z) (fun _ _ => [(4, ptr b2 0), (5, ptr b3 0)]) (fun z x => [box b3 [.int .i64 z.1, (sl x)], box b2 [.int .i64 0, (sl (⟨none, 0, 0⟩ : Hd))], ownF (sl x) z.2]) ?_ ?_
  · skip
    refine wc_block ?_
    refine wc_forO (X := Hd) l1 (fun k1 s1 x1l => [(1, .int .i64 a_k), (4, ptr b2 0), (5, ptr b3 0), (6, .int .i64 ((k1 : Nat) : Int))]) (fun k1 s1 x1l => [box b3 [.int .i64 s1.1, (sl x1l)], box b2 [.int .i64 0, (sl (⟨none, 0, 0⟩ : Hd))], ownF (sl x1l) s1.2]) x3 (sub_cons rfl (sub_cons rfl (sub_cons rfl (sub_cons rfl sub_nil)))) (some_cons pick0 (some_cons pick0 (some_cons pick0 some_nil))) fun k1 s1 x1l hN1 l1 => ?_
    by_cases hk1 : k1 < ((a_k.tmod 4)).toNat
    · skip
      refine forO_step l1 hk1 fun _ t1 l1 => ?_
      unfold spec_SeenFrom_L1 at t1
      have c1 : (decide (((k1 : Nat) : Int) < (a_k.tmod 4))) = true := decide_eq_true (by omega)
      refine wc_seq ?_
      refine wcr ?_
      refine mv rfl rfl ?_
      refine mv rfl rfl ?_
      refine wl_pure (po_rem rfl rfl (by decide)) rfl ?_
      refine wl_pure (po_lss rfl rfl) rfl ?_
      refine wnt ?_
      refine wc_cond_t rfl c1 ?_
      refine wc_skip ?_
      refine wq_then ?_
      refine wc_seq ?_
      refine wc_block ?_
      refine wc_region ?_
      refine wl_pure (v := .agg #[.int .i64 s1.1, (sl x1l)]) (po_load_boxs tk_26 pick0 rfl rfl rfl) rfl ?_
      refine bdO t1 fun v5 hv5 t1 => ?_
      refine wl_call (co_c1 fa_29 rfl fun w hw => c_spec_TurnBlock w (GBlock.mk s1.1 s1.2) x1l (Rg.on (rds_own (pickS (pickS pick0))) hw) hv5) rfl fun x6 => ?_
      refine wl_skipop (so_box (cs' := [.int .i64 v5.Size, (sl x6)]) tk_26 (pickS pick0) rfl rfl rfl rfl rfl rfl rfl) ?_
      refine wl_nil ?_
      refine wq_block ?_
      refine wq_then ?_
      refine wc_region ?_
      refine mv rfl rfl ?_
      refine wl_pure (po_inc rfl rfl (by omega)) rfl ?_
      refine asg rfl rfl ?_
      refine wl_nil ?_
      exact wq_rnd hk1 (stpN l1 t1) x6 (sub_cons rfl (sub_cons rfl (sub_cons rfl (sub_cons rfl sub_nil)))) (some_cons pick0 (some_cons (pickS pick0) (some_cons pick0 some_nil)))
    have c1 : (decide (((k1 : Nat) : Int) < (a_k.tmod 4))) = false := decide_eq_false (by omega)
    have en1 := forO_end l1 hk1
    refine wc_seq ?_
    refine wcr ?_
    refine mv rfl rfl ?_
    refine mv rfl rfl ?_
    refine wl_pure (po_rem rfl rfl (by decide)) rfl ?_
    refine wl_pure (po_lss rfl rfl) rfl ?_
    refine wnt ?_
    refine wc_cond_f rfl c1 ?_
    refine wc_exit ?_
    refine wq_then_exit ?_
    refine wq_then_exit ?_
    refine wq_block_exit ?_
    exact wj_meet _ x1l (Sum.inl.inj en1) (sub_cons rfl (sub_cons rfl sub_nil)) (some_cons pick0 (some_cons pick0 (some_cons pick0 some_nil)))
  intro e1 x5 hp
  obtain rfl : e1 = y1 := hp.symm
  refine wq_then ?_
  refine wcr ?_
  refine wl_pure (v := .agg #[.int .i64 e1.1, (sl x5)]) (po_load_boxs tk_26 pick0 rfl rfl rfl) rfl ?_
  refine wl_skipop (so_box (cs' := [.int .i64 e1.1, (sl x5)]) tk_26 (pickS pick0) rfl rfl rfl rfl rfl rfl rfl) ?_
  refine wnt ?_
  refine wc_ret ?_
  obtain rfl := Option.some.inj t0
  exact wq_retc rfl tk_26 rfl pick0 rfl fun w hw => ⟨x5, rfl, hw.weak (some_cons (pickS (pickS pick0)) some_nil)⟩

theorem c_impl_InverseOf (w : World) (a_k : Int) {r : Int} (t0 : impl_InverseOf a_k = some r) : Calls Try.prog 12 #[.int .i64 a_k] w fun e w' => e = .returned (.int .i64 r) ∧ SH w [] [] w' := by
  refine calls_of_wc (args := [_]) Try.func12 rfl Try.ntmps12 rfl ?_
  unfold impl_InverseOf at t0
  refine wcr ?_
  refine asg rfl rfl ?_
  refine wnt ?_
  refine wc_seq ?_
  refine wcr ?_
  refine mv rfl rfl ?_
  refine wnt ?_
  refine sqO t0 fun y1 l1 t0 => ?_
  refine wj (J := Unit) (X := Unit) (fun z => y1 = .inl z) (fun _ _ => []) (fun _ _ => []) ?_ ?_
  · skip
    refine wc_block ?_
    refine wc_forO (X := Unit) l1 (fun k1 s1 x1l => [(0, .int .i64 a_k), (4, .int .i64 ((k1 : Nat) : Int))]) (fun k1 s1 x1l => []) () (sub_cons rfl (sub_cons rfl sub_nil)) some_nil fun k1 s1 x1l hN1 l1 => ?_
    by_cases hk1 : k1 < 8
    · skip
      refine forO_step l1 hk1 fun _ t1 l1 => ?_
      unfold impl_InverseOf_L1 at t1
      have c1 : (decide (((k1 : Nat) : Int) < 8)) = true := decide_eq_true (by omega)
      refine wcr ?_
      refine wl_pure (po_lss rfl rfl) rfl ?_
      refine wnt ?_
      refine wc_seq ?_
      refine wc_cond_t rfl c1 ?_
      refine wc_skip ?_
      refine wq_then ?_
      refine wc_seq ?_
      refine wc_block ?_
      refine wcr ?_
      refine mv rfl rfl ?_
      refine asg rfl rfl ?_
      refine wnt ?_
      refine wcr ?_
      refine mv rfl rfl ?_
      refine mv rfl rfl ?_
      refine bdO t1 fun v1 hv1 t1 => ?_
      refine wl_call (co_c0 fa_9 rfl fun w hw => c_impl_ProductOf w a_k ((k1 : Nat) : Int) hv1) rfl fun _ => ?_
      refine wl_pure (po_eql rfl rfl) rfl ?_
      refine wnt ?_
      refine wcO t1 rfl (fun h1 t1 => ?_) fun h1 t1 => ?_
      · skip
        refine wcr ?_
        refine mv rfl rfl ?_
        refine asg rfl rfl ?_
        refine wnt ?_
        refine wc_ret ?_
        refine wq_block_ret ?_
        refine wq_then_ret ?_
        refine wq_then_ret ?_
        refine wq_block_ret ?_
        refine wq_then_ret ?_
        refine wq_then_ret ?_
        replace t0 := lpR t0 l1 t1
        obtain rfl := Option.some.inj t0
        exact wq_ret1 rfl rfl fun w hw => ⟨rfl, hw.weak some_nil⟩
      refine wc_skip ?_
      refine wq_block ?_
      refine wq_then ?_
      refine wc_region ?_
      refine wl_pure (po_inc rfl rfl (by omega)) rfl ?_
      refine mv rfl rfl ?_
      refine wl_nil ?_
      exact wq_rnd hk1 (stpN l1 t1) () (sub_cons rfl (sub_cons rfl sub_nil)) some_nil
    have c1 : (decide (((k1 : Nat) : Int) < 8)) = false := decide_eq_false (by omega)
    have en1 := forO_end l1 hk1
    refine wcr ?_
    refine wl_pure (po_lss rfl rfl) rfl ?_
    refine wnt ?_
    refine wc_seq ?_
    refine wc_cond_f rfl c1 ?_
    refine wc_exit ?_
    refine wq_then_exit ?_
    refine wq_then_exit ?_
    refine wq_block_exit ?_
    exact wj_meet _ () en1 sub_nil some_nil
  intro e1 _ hp
  replace t0 := sqE (j := e1) t0 hp
  refine wq_then ?_
  refine wcr ?_
  refine asg rfl rfl ?_
  refine wnt ?_
  refine wc_ret ?_
  obtain rfl := Option.some.inj t0
  exact wq_ret1 rfl rfl fun w hw => ⟨rfl, hw.weak some_nil⟩

theorem c_laws_has (w : World) (a_list : List Int) (v0a : Hd) (r0 : rdF w (dm w []) (sl v0a) a_list) (a_k : Int) {r : Bool} (t0 : laws_has a_list a_k = some r) : Calls Try.prog 13 #[(sl v0a), .int .i64 a_k] w fun e w' => e = .returned (.bool r) ∧ SH w [] [] w' := by
  refine calls_of_wc (args := [_, _]) Try.func13 rfl Try.ntmps13 rfl ?_
  unfold laws_has at t0
  refine wcr ?_
  refine asg rfl rfl ?_
  refine wnt ?_
  refine wc_seq ?_
  refine wcr ?_
  refine asg rfl rfl ?_
  refine wnt ?_
  refine gdO t0 fun g1 t0 => ?_
  refine sqO t0 fun y1 l1 t0 => ?_
  refine wj (J := Unit) (X := Unit) (fun z => y1 = .inl z) (fun _ _ => []) (fun _ _ => []) ?_ ?_
  · skip
    refine wc_block ?_
    refine wc_forO (X := Unit) l1 (fun k1 s1 x1l => [(0, (sl v0a)), (1, .int .i64 a_k), (5, .int .i64 ((k1 : Nat) : Int))]) (fun k1 s1 x1l => []) () (sub_cons rfl (sub_cons rfl (sub_cons rfl sub_nil))) some_nil fun k1 s1 x1l hN1 l1 => ?_
    by_cases hk1 : k1 < a_list.length
    · skip
      refine forO_step l1 hk1 fun _ t1 l1 => ?_
      unfold laws_has_L1 at t1
      have c1 : (decide (((k1 : Nat) : Int) < ((a_list.length : Nat) : Int))) = true := decide_eq_true (by omega)
      refine wc_seq ?_
      refine wcr ?_
      refine mv rfl rfl ?_
      refine mv rfl rfl ?_
      refine wl_pure (po_lenr (rds_arg r0) el_28 rfl) rfl ?_
      refine wl_pure (po_lss rfl rfl) rfl ?_
      refine wnt ?_
      refine wc_cond_t rfl c1 ?_
      refine wc_skip ?_
      refine wq_then ?_
      refine wc_seq ?_
      refine wc_block ?_
      refine wcr ?_
      refine mv rfl rfl ?_
      refine mv rfl rfl ?_
      refine wl_pure (po_ixn (k := k1) (rds_arg r0) el_28 rfl rfl hk1) rfl ?_
      refine wl_pure (v := .int .i64 (gx a_list k1)) (po_ldf (rds_arg r0) tk_3 rfl hk1 rfl) rfl ?_
      refine mv rfl rfl ?_
      refine wl_pure (po_eql rfl rfl) rfl ?_
      refine wnt ?_
      refine wcO t1 rfl (fun h1 t1 => ?_) fun h1 t1 => ?_
      · skip
        refine wcr ?_
        refine asg rfl rfl ?_
        refine wnt ?_
        refine wc_ret ?_
        refine wq_block_ret ?_
        refine wq_then_ret ?_
        refine wq_then_ret ?_
        refine wq_block_ret ?_
        refine wq_then_ret ?_
        refine wq_then_ret ?_
        replace t0 := lpR t0 l1 t1
        obtain rfl := Option.some.inj t0
        exact wq_ret1 rfl rfl fun w hw => ⟨rfl, hw.weak some_nil⟩
      refine wc_skip ?_
      refine wq_block ?_
      refine wq_then ?_
      refine wc_region ?_
      refine mv rfl rfl ?_
      refine wl_pure (po_inc rfl rfl (by omega)) rfl ?_
      refine asg rfl rfl ?_
      refine wl_nil ?_
      exact wq_rnd hk1 (stpN l1 t1) () (sub_cons rfl (sub_cons rfl (sub_cons rfl sub_nil))) some_nil
    have c1 : (decide (((k1 : Nat) : Int) < ((a_list.length : Nat) : Int))) = false := decide_eq_false (by omega)
    have en1 := forO_end l1 hk1
    refine wc_seq ?_
    refine wcr ?_
    refine mv rfl rfl ?_
    refine mv rfl rfl ?_
    refine wl_pure (po_lenr (rds_arg r0) el_28 rfl) rfl ?_
    refine wl_pure (po_lss rfl rfl) rfl ?_
    refine wnt ?_
    refine wc_cond_f rfl c1 ?_
    refine wc_exit ?_
    refine wq_then_exit ?_
    refine wq_then_exit ?_
    refine wq_block_exit ?_
    exact wj_meet _ () en1 sub_nil some_nil
  intro e1 _ hp
  replace t0 := sqE (j := e1) t0 hp
  refine wq_then ?_
  refine wcr ?_
  refine asg rfl rfl ?_
  refine wnt ?_
  refine wc_ret ?_
  obtain rfl := Option.some.inj t0
  exact wq_ret1 rfl rfl fun w hw => ⟨rfl, hw.weak some_nil⟩

theorem c_impl_IsClosed (w : World) (a_list : List Int) (v0a : Hd) (r0 : rdF w (dm w []) (sl v0a) a_list) {r : Bool} (t0 : impl_IsClosed a_list = some r) : Calls Try.prog 14 #[(sl v0a)] w fun e w' => e = .returned (.bool r) ∧ SH w [] [] w' := by
  refine calls_of_wc (args := [_]) Try.func14 rfl Try.ntmps14 rfl ?_
  unfold impl_IsClosed at t0
  refine wcr ?_
  refine asg rfl rfl ?_
  refine wnt ?_
  refine wc_seq ?_
  refine wc_seq ?_
  refine bdO t0 fun y1 t1 t0 => ?_
  refine wj (J := Bool) (X := Unit) (fun z => y1 = z) (fun z _ => [(0, (sl v0a)), (14, .bool z)]) (fun _ _ => []) ?_ ?_
  · skip
    refine wc_region ?_
    refine mv rfl rfl ?_
    refine bdO t1 fun v1 hv1 t1 => ?_
    refine wl_call (co_c0 fa_30 rfl fun w hw => c_impl_isStrict w a_list v0a (Rg.on (rds_arg r0) hw) 0 7 hv1) rfl fun _ => ?_
    refine wl_pure (po_not rfl) rfl ?_
    refine mv rfl rfl ?_
    refine wlO_ (t := 10) t1 rfl (fun h1 t1 => ?_) fun h1 t1 => ?_
    · skip
      refine wl_guard_off (j := 3) rfl rfl rfl rfl rfl ?_
      refine wl_guard_off (j := 3) rfl rfl rfl rfl rfl ?_
      refine wl_guard_off (j := 3) rfl rfl rfl rfl rfl ?_
      refine wl_pure (po_pick_t rfl rfl) rfl ?_
      refine wl_nil ?_
      exact wj_meet _ () (mtE t1) (sub_cons rfl (sub_cons rfl sub_nil)) some_nil
    refine wl_guard_on (j := 3) rfl rfl rfl (mv rfl rfl ?_)
    refine bdO t1 fun v2 hv2 t1 => ?_
    refine wl_guard_on (j := 3) rfl rfl rfl (wl_call (co_c0 fa_31 rfl fun w hw => c_impl_indexOf w a_list v0a (Rg.on (rds_arg r0) hw) 0 hv2) rfl (fun _ => ?_))
    refine wl_guard_on (j := 3) rfl rfl rfl (wl_pure (po_lss rfl rfl) rfl ?_)
    refine wl_pure (po_pick_f rfl rfl) rfl ?_
    refine wl_nil ?_
    exact wj_meet _ () (mtE t1) (sub_cons rfl (sub_cons rfl sub_nil)) some_nil
  intro j1 _ hp
  obtain rfl : j1 = y1 := hp.symm
  refine wq_then ?_
  refine wcO t0 rfl (fun h2 t0 => ?_) fun h2 t0 => ?_
  · skip
    refine wcr ?_
    refine asg rfl rfl ?_
    refine wnt ?_
    refine wc_ret ?_
    refine wq_then_ret ?_
    obtain rfl := Option.some.inj t0
    exact wq_ret1 rfl rfl fun w hw => ⟨rfl, hw.weak some_nil⟩
  refine wc_skip ?_
  refine wq_then ?_
  refine wc_seq ?_
  refine wcr ?_
  refine mv rfl rfl ?_
  refine wl_pure (po_lenr (rds_arg r0) el_28 rfl) rfl ?_
  refine mv rfl rfl ?_
  refine wnt ?_
  refine gdO t0 fun g1 t0 => ?_
  refine sqO t0 fun y1 l1 t0 => ?_
  refine wj (J := Unit) (X := Unit) (fun z => y1 = .inl z) (fun _ _ => []) (fun _ _ => []) ?_ ?_
  · skip
    refine wc_block ?_
    refine wc_forO (X := Unit) l1 (fun k1 s1 x1l => [(0, (sl v0a)), (15, (sl v0a)), (16, .int .i64 ((a_list.length : Nat) : Int)), (17, .int .i64 ((k1 : Nat) : Int))]) (fun k1 s1 x1l => []) () (sub_cons rfl (sub_cons rfl (sub_cons rfl (sub_cons rfl sub_nil)))) some_nil fun k1 s1 x1l hN1 l1 => ?_
    by_cases hk1 : k1 < a_list.length
    · skip
      refine forO_step l1 hk1 fun _ t1 l1 => ?_
      unfold impl_IsClosed_L1 at t1
      have c1 : (decide (((k1 : Nat) : Int) < ((a_list.length : Nat) : Int))) = true := decide_eq_true (by omega)
      refine wcr ?_
      refine wl_pure (po_lss rfl rfl) rfl ?_
      refine wnt ?_
      refine wc_seq ?_
      refine wc_cond_t rfl c1 ?_
      refine wc_skip ?_
      refine wq_then ?_
      refine wc_seq ?_
      refine wc_block ?_
      refine wcr ?_
      refine wl_pure (po_ixn (k := k1) (rds_arg r0) el_28 rfl rfl hk1) rfl ?_
      refine wl_pure (v := .int .i64 (gx a_list k1)) (po_ldf (rds_arg r0) tk_3 rfl hk1 rfl) rfl ?_
      refine asg rfl rfl ?_
      refine wnt ?_
      refine wcr ?_
      refine mv rfl rfl ?_
      refine wl_pure (po_lenr (rds_arg r0) el_28 rfl) rfl ?_
      refine mv rfl rfl ?_
      refine wnt ?_
      refine sqO t1 fun y2 l2 t1 => ?_
      refine wj (J := Unit) (X := Unit) (fun z => y2 = .inl z) (fun _ _ => [(0, (sl v0a)), (15, (sl v0a)), (16, .int .i64 ((a_list.length : Nat) : Int)), (17, .int .i64 ((k1 : Nat) : Int))]) (fun _ _ => []) ?_ ?_
      · skip
        refine wc_block ?_
        refine wc_forO (X := Unit) l2 (fun k2 s2 x2l => [(0, (sl v0a)), (4, .int .i64 (gx a_list k1)), (15, (sl v0a)), (16, .int .i64 ((a_list.length : Nat) : Int)), (17, .int .i64 ((k1 : Nat) : Int)), (21, (sl v0a)), (22, .int .i64 ((a_list.length : Nat) : Int)), (23, .int .i64 ((k2 : Nat) : Int))]) (fun k2 s2 x2l => []) () (sub_cons rfl (sub_cons rfl (sub_cons rfl (sub_cons rfl (sub_cons rfl (sub_cons rfl (sub_cons rfl (sub_cons rfl sub_nil)))))))) some_nil fun k2 s2 x2l hN2 l2 => ?_
        by_cases hk2 : k2 < a_list.length
        · skip
          refine forO_step l2 hk2 fun _ t2 l2 => ?_
          unfold impl_IsClosed_L2 at t2
          have c2 : (decide (((k2 : Nat) : Int) < ((a_list.length : Nat) : Int))) = true := decide_eq_true (by omega)
          refine wcr ?_
          refine wl_pure (po_lss rfl rfl) rfl ?_
          refine wnt ?_
          refine wc_seq ?_
          refine wc_cond_t rfl c2 ?_
          refine wc_skip ?_
          refine wq_then ?_
          refine wc_seq ?_
          refine wc_block ?_
          refine wcr ?_
          refine wl_pure (po_ixn (k := k2) (rds_arg r0) el_28 rfl rfl hk2) rfl ?_
          refine wl_pure (v := .int .i64 (gx a_list k2)) (po_ldf (rds_arg r0) tk_3 rfl hk2 rfl) rfl ?_
          refine asg rfl rfl ?_
          refine wnt ?_
          refine wcr ?_
          refine mv rfl rfl ?_
          refine mv rfl rfl ?_
          refine mv rfl rfl ?_
          refine bdO t2 fun v3 hv3 t2 => ?_
          refine wl_call (co_c0 fa_9 rfl fun w hw => c_impl_ProductOf w (gx a_list k1) (gx a_list k2) hv3) rfl fun _ => ?_
          refine bdO t2 fun v4 hv4 t2 => ?_
          refine wl_call (co_c0 fa_31 rfl fun w hw => c_impl_indexOf w a_list v0a (Rg.on (rds_arg r0) hw) v3 hv4) rfl fun _ => ?_
          refine wl_pure (po_lss rfl rfl) rfl ?_
          refine wnt ?_
          refine wcO t2 rfl (fun h3 t2 => ?_) fun h3 t2 => ?_
          · skip
            refine wcr ?_
            refine asg rfl rfl ?_
            refine wnt ?_
            refine wc_ret ?_
            refine wq_block_ret ?_
            refine wq_then_ret ?_
            refine wq_then_ret ?_
            refine wq_block_ret ?_
            refine wq_then_ret ?_
            refine wq_block_ret ?_
            refine wq_then_ret ?_
            refine wq_then_ret ?_
            refine wq_block_ret ?_
            refine wq_then_ret ?_
            refine wq_then_ret ?_
            replace t1 := lpR t1 l2 t2
            replace t0 := lpR t0 l1 t1
            obtain rfl := Option.some.inj t0
            exact wq_ret1 rfl rfl fun w hw => ⟨rfl, hw.weak some_nil⟩
          refine wc_skip ?_
          refine wq_block ?_
          refine wq_then ?_
          refine wc_region ?_
          refine wl_pure (po_inc rfl rfl (by omega)) rfl ?_
          refine mv rfl rfl ?_
          refine wl_nil ?_
          exact wq_rnd hk2 (stpN l2 t2) () (sub_cons rfl (sub_cons rfl (sub_cons rfl (sub_cons rfl (sub_cons rfl (sub_cons rfl (sub_cons rfl (sub_cons rfl sub_nil)))))))) some_nil
        have c2 : (decide (((k2 : Nat) : Int) < ((a_list.length : Nat) : Int))) = false := decide_eq_false (by omega)
        have en1 := forO_end l2 hk2
        refine wcr ?_
        refine wl_pure (po_lss rfl rfl) rfl ?_
        refine wnt ?_
        refine wc_seq ?_
        refine wc_cond_f rfl c2 ?_
        refine wc_exit ?_
        refine wq_then_exit ?_
        refine wq_then_exit ?_
        refine wq_block_exit ?_
        exact wj_meet _ () en1 (sub_cons rfl (sub_cons rfl (sub_cons rfl (sub_cons rfl sub_nil)))) some_nil
      intro e2 _ hp
      replace t1 := sqE (j := e2) t1 hp
      refine wq_block ?_
      refine wq_then ?_
      refine wc_region ?_
      refine wl_pure (po_inc rfl rfl (by omega)) rfl ?_
      refine mv rfl rfl ?_
      refine wl_nil ?_
      exact wq_rnd hk1 (stpN l1 t1) () (sub_cons rfl (sub_cons rfl (sub_cons rfl (sub_cons rfl sub_nil)))) some_nil
    have c1 : (decide (((k1 : Nat) : Int) < ((a_list.length : Nat) : Int))) = false := decide_eq_false (by omega)
    have en2 := forO_end l1 hk1
    refine wcr ?_
    refine wl_pure (po_lss rfl rfl) rfl ?_
    refine wnt ?_
    refine wc_seq ?_
    refine wc_cond_f rfl c1 ?_
    refine wc_exit ?_
    refine wq_then_exit ?_
    refine wq_then_exit ?_
    refine wq_block_exit ?_
    exact wj_meet _ () en2 sub_nil some_nil
  intro e1 _ hp
  replace t0 := sqE (j := e1) t0 hp
  refine wq_then ?_
  refine wcr ?_
  refine asg rfl rfl ?_
  refine wnt ?_
  refine wc_ret ?_
  obtain rfl := Option.some.inj t0
  exact wq_ret1 rfl rfl fun w hw => ⟨rfl, hw.weak some_nil⟩

theorem c_spec_SameBlock (w : World) (a_b : GBlock) (v0a : Hd) (r0 : rdF w (dm w []) (sl v0a) a_b.Cells) (a_d : GBlock) (v1a : Hd) (r1 : rdF w (dm w []) (sl v1a) a_d.Cells) {r : Bool} (t0 : spec_SameBlock a_b a_d = some r) : Calls Try.prog 32 #[.agg #[.int .i64 a_b.Size, (sl v0a)], .agg #[.int .i64 a_d.Size, (sl v1a)]] w fun e w' => e = .returned (.bool r) ∧ SH w [] [] w' := by
  refine calls_of_wc (args := [_, _]) Try.func32 rfl Try.ntmps32 rfl ?_
  unfold spec_SameBlock at t0
  refine wcr ?_
  refine wl_eff (eo_box rfl rfl) rfl fun b1 => ?_
  refine wl_eff (eo_box rfl rfl) rfl fun b2 => ?_
  refine asg rfl rfl ?_
  refine wnt ?_
  refine wc_seq ?_
  refine wc_seq ?_
  refine wc_join (X := Unit) (fun _ => True) (fun _ => [(2, ptr b1 0), (3, ptr b2 0), (19, .bool ((a_b.Size != a_d.Size) || (((a_b.Cells.length : Nat) : Int) != ((a_d.Cells.length : Nat) : Int))))]) (fun _ => [box b2 [.int .i64 a_d.Size, (sl v1a)], box b1 [.int .i64 a_b.Size, (sl v0a)]]) ?_ ?_
  · skip
    refine wc_region ?_
    refine wl_pure (po_fld fo_26_0 rfl) rfl ?_
    refine wl_pure (v := .int .i64 a_b.Size) (po_load_box tk_3 (pickS pick0) rfl rfl) rfl ?_
    refine wl_pure (po_fld fo_26_0 rfl) rfl ?_
    refine wl_pure (v := .int .i64 a_d.Size) (po_load_box tk_3 pick0 rfl rfl) rfl ?_
    refine wl_pure (po_neq rfl rfl) rfl ?_
    refine mv rfl rfl ?_
    refine wl_fork (t := 11) rfl (fun h1 => ?_) fun h1 => ?_
    · skip
      refine wl_guard_off (j := 5) rfl rfl rfl rfl rfl ?_
      refine wl_guard_off (j := 5) rfl rfl rfl rfl rfl ?_
      refine wl_guard_off (j := 5) rfl rfl rfl rfl rfl ?_
      refine wl_guard_off (j := 5) rfl rfl rfl rfl rfl ?_
      refine wl_guard_off (j := 5) rfl rfl rfl rfl rfl ?_
      refine wl_guard_off (j := 5) rfl rfl rfl rfl rfl ?_
      refine wl_guard_off (j := 5) rfl rfl rfl rfl rfl ?_
      refine wl_pure (po_pick_t rfl rfl) rfl ?_
      refine wl_nil ?_
      exact wq_meet () trivial (sub_cons rfl (sub_cons rfl (sub_b rfl (by rw [h1]; rfl) sub_nil))) (some_cons pick0 (some_cons pick0 some_nil))
    refine wl_guard_on (j := 5) rfl rfl rfl (wl_pure (po_fld fo_26_1 rfl) rfl ?_)
    refine wl_guard_on (j := 5) rfl rfl rfl (wl_pure (v := (sl v0a)) (po_load_box tk_24 (pickS pick0) rfl rfl) rfl ?_)
    refine wl_guard_on (j := 5) rfl rfl rfl (wl_pure (po_lenr (rds_arg r0) el_24 rfl) rfl ?_)
    refine wl_guard_on (j := 5) rfl rfl rfl (wl_pure (po_fld fo_26_1 rfl) rfl ?_)
    refine wl_guard_on (j := 5) rfl rfl rfl (wl_pure (v := (sl v1a)) (po_load_box tk_24 pick0 rfl rfl) rfl ?_)
    refine wl_guard_on (j := 5) rfl rfl rfl (wl_pure (po_lenr (rds_arg r1) el_24 rfl) rfl ?_)
    refine wl_guard_on (j := 5) rfl rfl rfl (wl_pure (po_neq rfl rfl) rfl ?_)
    refine wl_pure (po_pick_f rfl rfl) rfl ?_
    refine wl_nil ?_
    exact wq_meet () trivial (sub_cons rfl (sub_cons rfl (sub_b rfl (by rw [h1]; rfl) sub_nil))) (some_cons pick0 (some_cons pick0 some_nil))
  intro _ _
  refine wq_then ?_
  refine wcO t0 rfl (fun h2 t0 => ?_) fun h2 t0 => ?_
  · skip
    refine wcr ?_
    refine asg rfl rfl ?_
    refine wnt ?_
    refine wc_ret ?_
    refine wq_then_ret ?_
    obtain rfl := Option.some.inj t0
    exact wq_ret1 rfl rfl fun w hw => ⟨rfl, hw.weak some_nil⟩
  refine wc_skip ?_
  refine wq_then ?_
  refine wc_seq ?_
  refine wcr ?_
  refine asg rfl rfl ?_
  refine wnt ?_
  refine gdO t0 fun g1 t0 => ?_
  refine sqO t0 fun y1 l1 t0 => ?_
  refine wj (J := Unit) (X := Unit) (fun z => y1 = .inl z) (fun _ _ => []) (fun _ _ => []) ?_ ?_
  · skip
    refine wc_block ?_
    refine wc_forO (X := Unit) l1 (fun k1 s1 x1l => [(2, ptr b1 0), (3, ptr b2 0), (5, .int .i64 ((k1 : Nat) : Int))]) (fun k1 s1 x1l => [box b2 [.int .i64 a_d.Size, (sl v1a)], box b1 [.int .i64 a_b.Size, (sl v0a)]]) () (sub_cons rfl (sub_cons rfl (sub_cons rfl sub_nil))) (some_cons pick0 (some_cons pick0 some_nil)) fun k1 s1 x1l hN1 l1 => ?_
    by_cases hk1 : k1 < a_b.Cells.length
    · skip
      refine forO_step l1 hk1 fun _ t1 l1 => ?_
      unfold spec_SameBlock_L1 at t1
      have c1 : (decide (((k1 : Nat) : Int) < ((a_b.Cells.length : Nat) : Int))) = true := decide_eq_true (by omega)
      refine wc_seq ?_
      refine wcr ?_
      refine mv rfl rfl ?_
      refine wl_pure (po_fld fo_26_1 rfl) rfl ?_
      refine wl_pure (v := (sl v0a)) (po_load_box tk_24 (pickS pick0) rfl rfl) rfl ?_
      refine wl_pure (po_lenr (rds_arg r0) el_24 rfl) rfl ?_
      refine wl_pure (po_lss rfl rfl) rfl ?_
      refine wnt ?_
      refine wc_cond_t rfl c1 ?_
      refine wc_skip ?_
      refine wq_then ?_
      refine wc_seq ?_
      refine wc_block ?_
      refine wc_seq ?_
      refine wc_draw [box b2 [.int .i64 a_d.Size, (sl v1a)], box b1 [.int .i64 a_b.Size, (sl v0a)]] 11 mixed ?_
      refine wa_pure 0 rfl (po_fld fo_26_1 rfl) (some_cons pick0 (some_cons pick0 some_nil)) rfl (by kernel_rfl) (fun _ _ _ h => h) ?_
      refine wa_pure (v := (sl v0a)) 1 rfl (po_load_box tk_24 (pickS pick0) rfl rfl) (some_cons pick0 (some_cons pick0 some_nil)) rfl (by kernel_rfl) (fun _ _ _ h => h) ?_
      refine wa_pure 2 rfl (po_move rfl) (some_cons pick0 (some_cons pick0 some_nil)) rfl (by kernel_rfl) (fun _ _ _ h => h) ?_
      refine wa_pure 3 rfl (po_ixn (k := k1) (rds_arg r0) el_24 rfl rfl hk1) (some_cons pick0 (some_cons pick0 some_nil)) rfl (by kernel_rfl) (fun _ _ _ h => h) ?_
      refine wa_pure (v := .agg #[.int .i64 ((gx a_b.Cells k1).Split), .int .i64 ((gx a_b.Cells k1).A), .int .i64 ((gx a_b.Cells k1).B)]) 4 rfl (po_ldfs (rds_arg r0) tk_47 rfl hk1 rfl rfl rfl) (some_cons pick0 (some_cons pick0 some_nil)) rfl (by kernel_rfl) (fun _ _ _ h => h) ?_
      refine wa_pure 5 rfl (po_fld fo_26_1 rfl) (some_cons pick0 (some_cons pick0 some_nil)) rfl (by kernel_rfl) (fun _ _ _ h => h) ?_
      refine wa_pure (v := (sl v1a)) 6 rfl (po_load_box tk_24 pick0 rfl rfl) (some_cons pick0 (some_cons pick0 some_nil)) rfl (by kernel_rfl) (fun _ _ _ h => h) ?_
      refine wa_pure 7 rfl (po_move rfl) (some_cons pick0 (some_cons pick0 some_nil)) rfl (by kernel_rfl) (fun _ _ _ h => h) ?_
      refine gdO t1 fun g2 t1 => ?_
      refine wa_pure 8 rfl (po_ixn (k := k1) (rds_arg r1) el_24 rfl rfl g2) (some_cons pick0 (some_cons pick0 some_nil)) rfl (by kernel_rfl) (fun _ _ _ h => h) ?_
      refine wa_pure (v := .agg #[.int .i64 ((gx a_d.Cells k1).Split), .int .i64 ((gx a_d.Cells k1).A), .int .i64 ((gx a_d.Cells k1).B)]) 9 rfl (po_ldfs (rds_arg r1) tk_47 rfl g2 rfl rfl rfl) (some_cons pick0 (some_cons pick0 some_nil)) rfl (by kernel_rfl) (fun _ _ _ h => h) ?_
      refine wa_pure 10 rfl (po_neq_struct (ps := [(gx a_b.Cells k1).Split, (gx a_b.Cells k1).A, (gx a_b.Cells k1).B]) (qs := [(gx a_d.Cells k1).Split, (gx a_d.Cells k1).A, (gx a_d.Cells k1).B]) sq_47 rfl rfl rfl rfl) (some_cons pick0 (some_cons pick0 some_nil)) rfl (by kernel_rfl) (fun _ _ _ h => h) ?_
      refine wa_done (by kernel_rfl) ?_
      refine wq_then ?_
      refine wcO t1 rfl (fun h3 t1 => ?_) fun h3 t1 => ?_
      · skip
        refine wcr ?_
        refine asg rfl rfl ?_
        refine wnt ?_
        refine wc_ret ?_
        refine wq_block_ret ?_
        refine wq_then_ret ?_
        refine wq_then_ret ?_
        refine wq_block_ret ?_
        refine wq_then_ret ?_
        refine wq_then_ret ?_
        replace t0 := lpR t0 l1 t1
        obtain rfl := Option.some.inj t0
        exact wq_ret1 rfl rfl fun w hw => ⟨rfl, hw.weak some_nil⟩
      refine wc_skip ?_
      refine wq_block ?_
      refine wq_then ?_
      refine wc_region ?_
      refine mv rfl rfl ?_
      refine wl_pure (po_inc rfl rfl (by omega)) rfl ?_
      refine asg rfl rfl ?_
      refine wl_nil ?_
      exact wq_rnd hk1 (stpN l1 t1) () (sub_cons rfl (sub_cons rfl (sub_cons rfl sub_nil))) (some_cons pick0 (some_cons pick0 some_nil))
    have c1 : (decide (((k1 : Nat) : Int) < ((a_b.Cells.length : Nat) : Int))) = false := decide_eq_false (by omega)
    have en1 := forO_end l1 hk1
    refine wc_seq ?_
    refine wcr ?_
    refine mv rfl rfl ?_
    refine wl_pure (po_fld fo_26_1 rfl) rfl ?_
    refine wl_pure (v := (sl v0a)) (po_load_box tk_24 (pickS pick0) rfl rfl) rfl ?_
    refine wl_pure (po_lenr (rds_arg r0) el_24 rfl) rfl ?_
    refine wl_pure (po_lss rfl rfl) rfl ?_
    refine wnt ?_
    refine wc_cond_f rfl c1 ?_
    refine wc_exit ?_
    refine wq_then_exit ?_
    refine wq_then_exit ?_
    refine wq_block_exit ?_
    exact wj_meet _ () en1 sub_nil some_nil
  intro e1 _ hp
  replace t0 := sqE (j := e1) t0 hp
  refine wq_then ?_
  refine wcr ?_
  refine asg rfl rfl ?_
  refine wnt ?_
  refine wc_ret ?_
  obtain rfl := Option.some.inj t0
  exact wq_ret1 rfl rfl fun w hw => ⟨rfl, hw.weak some_nil⟩

theorem c_spec_CountForms (w : World) (a_b : GBlock) (v0a : Hd) (r0 : rdF w (dm w []) (sl v0a) a_b.Cells) {r : Int} (t0 : spec_CountForms a_b = some r) : Calls Try.prog 15 #[.agg #[.int .i64 a_b.Size, (sl v0a)]] w fun e w' => e = .returned (.int .i64 r) ∧ SH w [] [] w' := by
  refine calls_of_wc (args := [_]) Try.func15 rfl Try.ntmps15 rfl ?_
  unfold spec_CountForms at t0
  refine wcr ?_
  refine wl_eff (eo_box rfl rfl) rfl fun b1 => ?_
  refine asg rfl rfl ?_
  refine wnt ?_
  refine wcr ?_
  refine asg rfl rfl ?_
  refine wnt ?_
  refine wc_seq ?_
  refine wcr ?_
  refine asg rfl rfl ?_
  refine wnt ?_
  refine lpO_inv t0 fun y1 l1 t0 => ?_
  refine wj (J := Int) (X := Unit) (fun z => y1 = z) (fun z _ => [(3, .int .i64 z)]) (fun _ _ => []) ?_ ?_
  · skip
    refine wc_block ?_
    refine wc_forO (X := Unit) l1 (fun k1 s1 x1l => [(1, ptr b1 0), (3, .int .i64 s1), (4, .int .i64 ((k1 : Nat) : Int))]) (fun k1 s1 x1l => [box b1 [.int .i64 a_b.Size, (sl v0a)]]) () (sub_cons rfl (sub_cons rfl (sub_cons rfl sub_nil))) (some_cons pick0 some_nil) fun k1 s1 x1l hN1 l1 => ?_
    by_cases hk1 : k1 < 8
    · skip
      refine forO_step l1 hk1 fun _ t1 l1 => ?_
      unfold spec_CountForms_L1 at t1
      have c1 : (decide (((k1 : Nat) : Int) < 8)) = true := decide_eq_true (by omega)
      refine wc_seq ?_
      refine wcr ?_
      refine mv rfl rfl ?_
      refine wl_pure (po_lss rfl rfl) rfl ?_
      refine mv rfl rfl ?_
      refine wl_know (t := 9) rfl c1 ?_
      refine wl_guard_on (j := 2) rfl rfl rfl (wl_pure (v := .agg #[.int .i64 a_b.Size, (sl v0a)]) (po_load_boxs tk_26 pick0 rfl rfl rfl) rfl ?_)
      refine bdO t1 fun v1 hv1 t1 => ?_
      refine wl_guard_on (j := 2) rfl rfl rfl (wl_call (co_c0 fa_25 rfl fun w hw => c_spec_BlockOk w a_b v0a (Rg.on (rds_arg r0) hw) hv1) rfl (fun _ => ?_))
      refine wl_pure (po_pick_t rfl rfl) rfl ?_
      refine wnt ?_
      refine wcO t1 rfl (fun h1 t1 => ?_) fun h1 t1 => ?_
      · skip
        refine wc_skip ?_
        refine wq_then ?_
        refine wc_seq ?_
        refine wc_block ?_
        refine wcr ?_
        refine asg rfl rfl ?_
        refine wnt ?_
        refine wc_seq ?_
        refine wcr ?_
        refine asg rfl rfl ?_
        refine wnt ?_
        refine gdO t1 fun g1 t1 => ?_
        refine lpO_inv t1 fun y2 l2 t1 => ?_
        refine wj (J := Bool) (X := Unit) (fun z => y2 = z) (fun z _ => [(1, ptr b1 0), (3, .int .i64 s1), (4, .int .i64 ((k1 : Nat) : Int)), (5, .bool z), (10, .agg #[.int .i64 a_b.Size, (sl v0a)]), (11, .bool v1)]) (fun _ _ => [box b1 [.int .i64 a_b.Size, (sl v0a)]]) ?_ ?_
        · skip
          refine wc_block ?_
          refine wc_forO (X := Unit) l2 (fun k2 s2 x2l => [(1, ptr b1 0), (3, .int .i64 s1), (4, .int .i64 ((k1 : Nat) : Int)), (5, .bool s2), (6, .int .i64 ((k2 : Nat) : Int)), (10, .agg #[.int .i64 a_b.Size, (sl v0a)]), (11, .bool v1)]) (fun k2 s2 x2l => [box b1 [.int .i64 a_b.Size, (sl v0a)]]) () (sub_cons rfl (sub_cons rfl (sub_cons rfl (sub_cons rfl (sub_cons rfl (sub_cons rfl (sub_cons rfl sub_nil))))))) (some_cons pick0 some_nil) fun k2 s2 x2l hN2 l2 => ?_
          by_cases hk2 : k2 < k1
          · skip
            refine forO_step l2 hk2 fun _ t2 l2 => ?_
            unfold spec_CountForms_L2 at t2
            have c2 : (decide (((k2 : Nat) : Int) < ((k1 : Nat) : Int))) = true := decide_eq_true (by omega)
            refine wc_seq ?_
            refine wcr ?_
            refine mv rfl rfl ?_
            refine mv rfl rfl ?_
            refine wl_pure (po_lss rfl rfl) rfl ?_
            refine wnt ?_
            refine wc_cond_t rfl c2 ?_
            refine wc_skip ?_
            refine wq_then ?_
            refine wc_seq ?_
            refine wc_block ?_
            refine bdO t2 fun y3 t3 t2 => ?_
            refine wj (J := Bool) (X := Unit) (fun z => y3 = z) (fun z _ => [(1, ptr b1 0), (3, .int .i64 s1), (4, .int .i64 ((k1 : Nat) : Int)), (5, .bool z), (6, .int .i64 ((k2 : Nat) : Int)), (10, .agg #[.int .i64 a_b.Size, (sl v0a)]), (11, .bool v1)]) (fun _ _ => [box b1 [.int .i64 a_b.Size, (sl v0a)]]) ?_ ?_
            · skip
              refine wc_draw [box b1 [.int .i64 a_b.Size, (sl v0a)]] 12 mixed ?_
              refine wa_pure 0 rfl (po_move rfl) (some_cons pick0 some_nil) rfl (by kernel_rfl) (fun _ _ _ h => h) ?_
              refine wa_pure 1 rfl (po_move rfl) (some_cons pick0 some_nil) rfl (by kernel_rfl) (fun _ _ _ h => h) ?_
              refine waO_ (t := 21) t3 rfl (fun h2 t3 => ?_) fun h2 t3 => ?_
              · skip
                refine wa_pure_on (v := .agg #[.int .i64 a_b.Size, (sl v0a)]) 2 (j := 1) rfl rfl rfl rfl (po_load_boxs tk_26 pick0 rfl rfl rfl) (some_cons pick0 some_nil) rfl (by kernel_rfl) (fun _ _ _ h => h) ?_
                refine wa_pure_on 3 (j := 1) rfl rfl rfl rfl (po_move rfl) (some_cons pick0 some_nil) rfl (by kernel_rfl) (fun _ _ _ h => h) ?_
                refine wa_pure_on (v := .agg #[.int .i64 a_b.Size, (sl v0a)]) 5 (j := 1) rfl rfl rfl rfl (po_load_boxs tk_26 pick0 rfl rfl rfl) (some_cons pick0 some_nil) rfl (by kernel_rfl) (fun _ _ _ h => h) ?_
                refine wa_pure_on 6 (j := 1) rfl rfl rfl rfl (po_move rfl) (some_cons pick0 some_nil) rfl (by kernel_rfl) (fun _ _ _ h => h) ?_
                refine wa_1 (i := 4) (by kernel_rfl) ?_
                refine bdO t3 fun v2 hv2 t3 => ?_
                refine ws_call_on (j := 1) rfl rfl rfl rfl (co_c1 fa_11 rfl fun w hw => c_spec_SeenFrom w a_b v0a (Rg.on (rds_arg r0) hw) ((k2 : Nat) : Int) hv2) (fun _ => (sts_some (some_cons (pickS pick0) some_nil))) rfl fun x4 => ?_
                refine wa_1 (i := 7) (by kernel_rfl) ?_
                refine bdO t3 fun v3 hv3 t3 => ?_
                refine ws_call_on (j := 1) rfl rfl rfl rfl (co_c1 fa_11 rfl fun w hw => c_spec_SeenFrom w a_b v0a (Rg.on (rds_arg r0) hw) ((k1 : Nat) : Int) hv3) (fun _ => (sts_some (some_cons (pickS (pickS pick0)) some_nil))) rfl fun x5 => ?_
                refine wa_1 (i := 8) (by kernel_rfl) ?_
                refine bdO t3 fun v4 hv4 t3 => ?_
                refine ws_call_on (j := 1) rfl rfl rfl rfl (co_c0 fa_32 rfl fun w hw => c_spec_SameBlock w v2 x4 (Rg.on (rds_own (pickS pick0)) hw) v3 x5 (Rg.on (rds_own pick0) hw) hv4) (fun _ => (sts_some (some_cons (pickS (pickS pick0)) some_nil))) rfl fun _ => ?_
                refine wa_pure_on 9 (j := 1) rfl rfl rfl rfl (po_not rfl) (some_cons (pickS (pickS pick0)) some_nil) rfl (by kernel_rfl) (fun _ _ _ h => h) ?_
                refine wa_pure 10 rfl (po_pick_t rfl rfl) (some_cons (pickS (pickS pick0)) some_nil) rfl (by kernel_rfl) (fun _ _ _ h => h) ?_
                refine wa_pure 11 rfl (po_assign rfl) (some_cons (pickS (pickS pick0)) some_nil) rfl (by kernel_rfl) (fun _ _ _ h => h) ?_
                refine wa_done (by kernel_rfl) ?_
                exact wj_meet _ () (mtE t3) (sub_cons rfl (sub_cons rfl (sub_cons rfl (sub_cons rfl (sub_cons rfl (sub_cons rfl (sub_cons rfl sub_nil))))))) (some_cons (pickS (pickS pick0)) some_nil)
              refine wa_off 2 (j := 1) rfl rfl rfl rfl rfl (some_cons pick0 some_nil) rfl (by kernel_rfl) (fun _ _ _ h => h) ?_
              refine wa_off 3 (j := 1) rfl rfl rfl rfl rfl (some_cons pick0 some_nil) rfl (by kernel_rfl) (fun _ _ _ h => h) ?_
              refine wa_off 4 (j := 1) rfl rfl rfl rfl rfl (some_cons pick0 some_nil) rfl (by kernel_rfl) (fun _ _ _ h => h) ?_
              refine wa_off 5 (j := 1) rfl rfl rfl rfl rfl (some_cons pick0 some_nil) rfl (by kernel_rfl) (fun _ _ _ h => h) ?_
              refine wa_off 6 (j := 1) rfl rfl rfl rfl rfl (some_cons pick0 some_nil) rfl (by kernel_rfl) (fun _ _ _ h => h) ?_
              refine wa_off 7 (j := 1) rfl rfl rfl rfl rfl (some_cons pick0 some_nil) rfl (by kernel_rfl) (fun _ _ _ h => h) ?_
              refine wa_off 8 (j := 1) rfl rfl rfl rfl rfl (some_cons pick0 some_nil) rfl (by kernel_rfl) (fun _ _ _ h => h) ?_
              refine wa_off 9 (j := 1) rfl rfl rfl rfl rfl (some_cons pick0 some_nil) rfl (by kernel_rfl) (fun _ _ _ h => h) ?_
              refine wa_pure 10 rfl (po_pick_f rfl rfl) (some_cons pick0 some_nil) rfl (by kernel_rfl) (fun _ _ _ h => h) ?_
              refine wa_pure 11 rfl (po_assign rfl) (some_cons pick0 some_nil) rfl (by kernel_rfl) (fun _ _ _ h => h) ?_
              refine wa_done (by kernel_rfl) ?_
              exact wj_meet _ () (mtE t3) (sub_cons rfl (sub_cons rfl (sub_cons rfl (sub_cons rfl (sub_cons rfl (sub_cons rfl (sub_cons rfl sub_nil))))))) (some_cons pick0 some_nil)
            intro j1 _ hp
            obtain rfl : j1 = y3 := hp.symm
            refine wq_block ?_
            refine wq_then ?_
            refine wc_region ?_
            refine mv rfl rfl ?_
            refine wl_pure (po_inc rfl rfl (by omega)) rfl ?_
            refine asg rfl rfl ?_
            refine wl_nil ?_
            exact wq_rnd hk2 (stpN l2 t2) () (sub_cons rfl (sub_cons rfl (sub_cons rfl (sub_cons rfl (sub_cons rfl (sub_cons rfl (sub_cons rfl sub_nil))))))) (some_cons pick0 some_nil)
          have c2 : (decide (((k2 : Nat) : Int) < ((k1 : Nat) : Int))) = false := decide_eq_false (by omega)
          have en1 := forO_end l2 hk2
          refine wc_seq ?_
          refine wcr ?_
          refine mv rfl rfl ?_
          refine mv rfl rfl ?_
          refine wl_pure (po_lss rfl rfl) rfl ?_
          refine wnt ?_
          refine wc_cond_f rfl c2 ?_
          refine wc_exit ?_
          refine wq_then_exit ?_
          refine wq_then_exit ?_
          refine wq_block_exit ?_
          exact wj_meet _ () (Sum.inl.inj en1) (sub_cons rfl (sub_cons rfl (sub_cons rfl (sub_cons rfl (sub_cons rfl (sub_cons rfl sub_nil)))))) (some_cons pick0 some_nil)
        intro e2 _ hp
        obtain rfl : e2 = y2 := hp.symm
        refine wq_then ?_
        refine wcr ?_
        refine mv rfl rfl ?_
        refine wnt ?_
        refine wc_join (X := Unit) (fun _ => True) (fun _ => [(1, ptr b1 0), (3, .int .i64 (bif e2 then (wr (s1 + 1)) else s1)), (4, .int .i64 ((k1 : Nat) : Int)), (10, .agg #[.int .i64 a_b.Size, (sl v0a)]), (11, .bool v1)]) (fun _ => [box b1 [.int .i64 a_b.Size, (sl v0a)]]) ?_ ?_
        · skip
          refine wc_cond rfl (fun h3 => ?_) fun h3 => ?_
          · skip
            refine wc_region ?_
            refine mv rfl rfl ?_
            refine wl_pure (po_add rfl rfl) rfl ?_
            refine asg rfl rfl ?_
            refine wl_nil ?_
            exact wq_meet () trivial (sub_cons rfl (sub_i rfl (by simp only [h3, cond_true]) (sub_cons rfl (sub_cons rfl (sub_cons rfl sub_nil))))) (some_cons pick0 some_nil)
          refine wc_skip ?_
          exact wq_meet () trivial (sub_cons rfl (sub_i rfl (by simp only [h3, cond_false]) (sub_cons rfl (sub_cons rfl (sub_cons rfl sub_nil))))) (some_cons pick0 some_nil)
        intro _ _
        refine wq_block ?_
        refine wq_then ?_
        refine wc_region ?_
        refine mv rfl rfl ?_
        refine wl_pure (po_inc rfl rfl (by omega)) rfl ?_
        refine asg rfl rfl ?_
        refine wl_nil ?_
        exact wq_rnd hk1 (stpN l1 t1) () (sub_cons rfl (sub_cons rfl (sub_cons rfl sub_nil))) (some_cons pick0 some_nil)
      refine wc_exit ?_
      refine wq_then_exit ?_
      refine wq_then_exit ?_
      refine wq_block_exit ?_
      exact wj_meet _ () (Sum.inl.inj (stpB l1 t1)) (sub_cons rfl sub_nil) some_nil
    have c1 : (decide (((k1 : Nat) : Int) < 8)) = false := decide_eq_false (by omega)
    have en2 := forO_end l1 hk1
    refine wc_seq ?_
    refine wcr ?_
    refine mv rfl rfl ?_
    refine wl_pure (po_lss rfl rfl) rfl ?_
    refine mv rfl rfl ?_
    refine wl_know (t := 9) rfl c1 ?_
    refine wl_guard_off (j := 2) rfl rfl rfl rfl rfl ?_
    refine wl_guard_off (j := 2) rfl rfl rfl rfl rfl ?_
    refine wl_pure (po_pick_f rfl rfl) rfl ?_
    refine wnt ?_
    refine wc_cond_f rfl rfl ?_
    refine wc_exit ?_
    refine wq_then_exit ?_
    refine wq_then_exit ?_
    refine wq_block_exit ?_
    exact wj_meet _ () (Sum.inl.inj en2) (sub_cons rfl sub_nil) some_nil
  intro e1 _ hp
  obtain rfl : e1 = y1 := hp.symm
  refine wq_then ?_
  refine wcr ?_
  refine mv rfl rfl ?_
  refine asg rfl rfl ?_
  refine wnt ?_
  refine wc_ret ?_
  obtain rfl := Option.some.inj t0
  exact wq_ret1 rfl rfl fun w hw => ⟨rfl, hw.weak some_nil⟩

theorem c_impl_IsMirrored (w : World) (a_b : GBlock) (v0a : Hd) (r0 : rdF w (dm w []) (sl v0a) a_b.Cells) {r : Bool} (t0 : impl_IsMirrored a_b = some r) : Calls Try.prog 16 #[.agg #[.int .i64 a_b.Size, (sl v0a)]] w fun e w' => e = .returned (.bool r) ∧ SH w [] [] w' := by
  refine calls_of_wc (args := [_]) Try.func16 rfl Try.ntmps16 rfl ?_
  unfold impl_IsMirrored at t0
  refine wcr ?_
  refine wl_eff (eo_box rfl rfl) rfl fun b1 => ?_
  refine asg rfl rfl ?_
  refine wnt ?_
  refine wcr ?_
  refine wl_pure (v := .agg #[.int .i64 a_b.Size, (sl v0a)]) (po_load_boxs tk_26 pick0 rfl rfl rfl) rfl ?_
  refine bdO t0 fun v1 hv1 t0 => ?_
  refine wl_call (co_c1 fa_6 rfl fun w hw => c_impl_SymmetriesOf w a_b v0a (Rg.on (rds_arg r0) hw) hv1) rfl fun x1 => ?_
  refine asg rfl rfl ?_
  refine wnt ?_
  refine wc_seq ?_
  refine bdO t0 fun y1 t1 t0 => ?_
  refine wj (J := Bool) (X := Unit) (fun z => y1 = z) (fun z _ => [(2, .bool z)]) (fun _ _ => []) ?_ ?_
  · skip
    refine wc_region ?_
    refine mv rfl rfl ?_
    refine wl_pure (po_lenr (rds_own pick0) el_28 rfl) rfl ?_
    refine wl_pure (po_gtr rfl rfl) rfl ?_
    refine mv rfl rfl ?_
    refine wlO_ (t := 9) t1 rfl (fun h1 t1 => ?_) fun h1 t1 => ?_
    · skip
      refine wl_guard_on (j := 3) rfl rfl rfl (mv rfl rfl ?_)
      refine wl_guard_on (j := 3) rfl rfl rfl (mv rfl rfl ?_)
      refine wl_guard_on (j := 3) rfl rfl rfl (wl_pure (po_lenr (rds_own pick0) el_28 rfl) rfl ?_)
      refine wl_guard_on (j := 3) rfl rfl rfl (wl_pure (po_sub rfl rfl) rfl ?_)
      refine gdO t1 fun g1 t1 => ?_
      refine wl_guard_on (j := 3) rfl rfl rfl (wl_pure (po_ixr (rds_own pick0) el_28 rfl rfl g1.1 g1.2) rfl ?_)
      refine wl_guard_on (j := 3) rfl rfl rfl (wl_pure (v := .int .i64 (gx v1 (((wr (((v1.length : Nat) : Int) - 1))).toNat))) (po_ldf (rds_own pick0) tk_3 rfl (ix_lt g1) rfl) rfl ?_)
      refine wl_guard_on (j := 3) rfl rfl rfl (wl_pure (po_geq rfl rfl) rfl ?_)
      refine wl_pure (po_pick_t rfl rfl) rfl ?_
      refine asg rfl rfl ?_
      refine wl_nil ?_
      exact wj_meet _ () (mtE t1) (sub_cons rfl sub_nil) some_nil
    refine wl_guard_off (j := 3) rfl rfl rfl rfl rfl ?_
    refine wl_guard_off (j := 3) rfl rfl rfl rfl rfl ?_
    refine wl_guard_off (j := 3) rfl rfl rfl rfl rfl ?_
    refine wl_guard_off (j := 3) rfl rfl rfl rfl rfl ?_
    refine wl_guard_off (j := 3) rfl rfl rfl rfl rfl ?_
    refine wl_guard_off (j := 3) rfl rfl rfl rfl rfl ?_
    refine wl_guard_off (j := 3) rfl rfl rfl rfl rfl ?_
    refine wl_pure (po_pick_f rfl rfl) rfl ?_
    refine asg rfl rfl ?_
    refine wl_nil ?_
    exact wj_meet _ () (mtE t1) (sub_cons rfl sub_nil) some_nil
  intro j1 _ hp
  obtain rfl : j1 = y1 := hp.symm
  refine wq_then ?_
  refine wc_ret ?_
  obtain rfl := Option.some.inj t0
  exact wq_ret1 rfl rfl fun w hw => ⟨rfl, hw.weak some_nil⟩

theorem c_impl_StarBlock (w : World)  {r : GBlock} (t0 : impl_StarBlock = some r) : Calls Try.prog 17 #[] w fun e w' => ∃ x : Hd, e = .returned (.agg #[.int .i64 r.Size, (sl x)]) ∧ SH w [] [ownF (sl x) r.Cells] w' := by
  refine calls_of_wc (args := []) Try.func17 rfl Try.ntmps17 rfl ?_
  unfold impl_StarBlock at t0
  refine wcr ?_
  refine wl_eff (eo_alloc (cs := [.int .i64 0, (sl (⟨none, 0, 0⟩ : Hd))]) za_26) rfl fun b1 => ?_
  refine wnt ?_
  refine wcr ?_
  refine bdO t0 fun v1 hv1 t0 => ?_
  refine wl_call (co_c0 fa_33 rfl fun w hw => c_impl_WholeCell w 1 hv1) rfl fun _ => ?_
  refine wl_eff (eo_alloc (cs := [.int .i64 0, .int .i64 0, .int .i64 0]) za_47) rfl fun b2 => ?_
  refine wl_skipop (so_box (cs' := [.int .i64 v1.Split, .int .i64 v1.A, .int .i64 v1.B]) tk_47 pick0 rfl rfl rfl rfl rfl rfl rfl) ?_
  refine wnt ?_
  refine wc_seq ?_
  refine wc_draw [box b2 [.int .i64 v1.Split, .int .i64 v1.A, .int .i64 v1.B], box b1 [.int .i64 0, (sl (⟨none, 0, 0⟩ : Hd))]] 11 mixed ?_
  refine wa_pure (v := .agg #[.int .i64 v1.Split, .int .i64 v1.A, .int .i64 v1.B]) 1 rfl (po_load_boxs tk_47 pick0 rfl rfl rfl) (some_cons pick0 (some_cons pick0 some_nil)) rfl (by kernel_rfl) (fun _ _ _ h => h) ?_
  refine wa_pure (v := .agg #[.int .i64 v1.Split, .int .i64 v1.A, .int .i64 v1.B]) 3 rfl (po_load_boxs tk_47 pick0 rfl rfl rfl) (some_cons pick0 (some_cons pick0 some_nil)) rfl (by kernel_rfl) (fun _ _ _ h => h) ?_
  refine wa_pure (v := .agg #[.int .i64 v1.Split, .int .i64 v1.A, .int .i64 v1.B]) 4 rfl (po_load_boxs tk_47 pick0 rfl rfl rfl) (some_cons pick0 (some_cons pick0 some_nil)) rfl (by kernel_rfl) (fun _ _ _ h => h) ?_
  refine wa_pure (v := .agg #[.int .i64 v1.Split, .int .i64 v1.A, .int .i64 v1.B]) 5 rfl (po_load_boxs tk_47 pick0 rfl rfl rfl) (some_cons pick0 (some_cons pick0 some_nil)) rfl (by kernel_rfl) (fun _ _ _ h => h) ?_
  refine wa_pure (v := .agg #[.int .i64 v1.Split, .int .i64 v1.A, .int .i64 v1.B]) 7 rfl (po_load_boxs tk_47 pick0 rfl rfl rfl) (some_cons pick0 (some_cons pick0 some_nil)) rfl (by kernel_rfl) (fun _ _ _ h => h) ?_
  refine wa_1 (i := 0) (by kernel_rfl) ?_
  refine bdO t0 fun v2 hv2 t0 => ?_
  refine ws_call rfl (co_c0 fa_34 rfl fun w hw => c_impl_SplitCell w 1 0 1 hv2) (fun _ => (sts_some (some_cons pick0 (some_cons pick0 some_nil)))) rfl fun _ => ?_
  refine wa_1 (i := 2) (by kernel_rfl) ?_
  refine bdO t0 fun v3 hv3 t0 => ?_
  refine ws_call rfl (co_c0 fa_34 rfl fun w hw => c_impl_SplitCell w 2 1 0 hv3) (fun _ => (sts_some (some_cons pick0 (some_cons pick0 some_nil)))) rfl fun _ => ?_
  refine wa_1 (i := 6) (by kernel_rfl) ?_
  refine bdO t0 fun v4 hv4 t0 => ?_
  refine ws_call rfl (co_c0 fa_34 rfl fun w hw => c_impl_SplitCell w 2 0 1 hv4) (fun _ => (sts_some (some_cons pick0 (some_cons pick0 some_nil)))) rfl fun _ => ?_
  refine wa_1 (i := 8) (by kernel_rfl) ?_
  refine bdO t0 fun v5 hv5 t0 => ?_
  refine ws_call rfl (co_c0 fa_34 rfl fun w hw => c_impl_SplitCell w 1 1 0 hv5) (fun _ => (sts_some (some_cons pick0 (some_cons pick0 some_nil)))) rfl fun _ => ?_
  refine wa_1 (i := 9) (by kernel_rfl) ?_
  refine ws_eff rfl (eo_buildSlice (qs := [(0, .agg #[.int .i64 v2.Split, .int .i64 v2.A, .int .i64 v2.B]), (1, .agg #[.int .i64 v1.Split, .int .i64 v1.A, .int .i64 v1.B]), (2, .agg #[.int .i64 v3.Split, .int .i64 v3.A, .int .i64 v3.B]), (3, .agg #[.int .i64 v1.Split, .int .i64 v1.A, .int .i64 v1.B]), (4, .agg #[.int .i64 v1.Split, .int .i64 v1.A, .int .i64 v1.B]), (5, .agg #[.int .i64 v1.Split, .int .i64 v1.A, .int .i64 v1.B]), (6, .agg #[.int .i64 v4.Split, .int .i64 v4.A, .int .i64 v4.B]), (7, .agg #[.int .i64 v1.Split, .int .i64 v1.A, .int .i64 v1.B]), (8, .agg #[.int .i64 v5.Split, .int .i64 v5.A, .int .i64 v5.B])]) rfl (sb_24_9 v2.Split v2.A v2.B v1.Split v1.A v1.B v3.Split v3.A v3.B v1.Split v1.A v1.B v1.Split v1.A v1.B v1.Split v1.A v1.B v4.Split v4.A v4.B v1.Split v1.A v1.B v5.Split v5.A v5.B)) (fun _ => (sts_some (some_cons (pickS pick0) (some_cons (pickS pick0) some_nil)))) rfl fun b3 => ?_
  refine wa_pure 10 rfl (po_build rfl (bd_26_0_1 3 (⟨some ⟨b3, 0, none⟩, 9, 9⟩ : Hd))) (some_cons (pickS pick0) (some_cons (pickS pick0) some_nil)) rfl (by kernel_rfl) (fun _ _ _ h => h) ?_
  refine wa_1 (i := 11) (by kernel_rfl) ?_
  refine ws_skipop rfl (so_box (cs' := [.int .i64 3, (sl (⟨some ⟨b3, 0, none⟩, 9, 9⟩ : Hd))]) tk_26 (pickS (pickS pick0)) rfl rfl rfl rfl rfl rfl rfl) (sts_past (by kernel_rfl)) ?_
  refine wa_done (by kernel_rfl) ?_
  refine wq_then ?_
  refine wc_ret ?_
  obtain rfl := Option.some.inj t0
  exact wq_retc rfl tk_26 rfl pick0 rfl fun w hw => ⟨(⟨some ⟨b3, 0, none⟩, 9, 9⟩ : Hd), rfl, hw.weak (some_cons (pick_box_own (pickS pick0) (n := 9) (xs := ([v2, v1, v3, v1, v1, v1, v4, v1, v5] : List GCell)) rfl rfl (by unfold maxLen; omega)) some_nil)⟩

theorem c_laws_FnGroups (w : World) (a_code : List UInt8) (v0a : Hd) (r0 : rdF w (dm w []) (sl v0a) a_code) {r : Bool} (t0 : laws_FnGroups a_code = some r) : Calls Try.prog 3 #[(sl v0a)] w fun e w' => e = .returned (.bool r) ∧ SH w [] [] w' := by
  refine calls_of_wc (args := [_]) Try.func3 rfl Try.ntmps3 rfl ?_
  unfold laws_FnGroups at t0
  refine wcr ?_
  refine asg rfl rfl ?_
  refine wnt ?_
  refine wc_seq ?_
  refine wcr ?_
  refine mv rfl rfl ?_
  refine bdO t0 fun v1 hv1 t0 => ?_
  refine wl_call (co_c0 fa_4 rfl fun w hw => c_laws_big w a_code v0a (Rg.on (rds_arg r0) hw) hv1) rfl fun _ => ?_
  refine wnt ?_
  refine wcO t0 rfl (fun h1 t0 => ?_) fun h1 t0 => ?_
  · skip
    refine wcr ?_
    refine asg rfl rfl ?_
    refine wnt ?_
    refine wc_ret ?_
    refine wq_then_ret ?_
    obtain rfl := Option.some.inj t0
    exact wq_ret1 rfl rfl fun w hw => ⟨rfl, hw.weak some_nil⟩
  refine wc_skip ?_
  refine wq_then ?_
  refine wcr ?_
  refine mv rfl rfl ?_
  refine bdO t0 fun v2 hv2 t0 => ?_
  refine wl_call (co_c1 fa_5 rfl fun w hw => c_spec_DrawBlock w a_code v0a (Rg.on (rds_arg r0) hw) hv2) rfl fun x1 => ?_
  refine wl_eff (eo_alloc (cs := [.int .i64 0, (sl (⟨none, 0, 0⟩ : Hd))]) za_26) rfl fun b1 => ?_
  refine wl_skipop (so_box (cs' := [.int .i64 v2.Size, (sl x1)]) tk_26 pick0 rfl rfl rfl rfl rfl rfl rfl) ?_
  refine wnt ?_
  refine wcr ?_
  refine wl_pure (v := .agg #[.int .i64 v2.Size, (sl x1)]) (po_load_boxs tk_26 pick0 rfl rfl rfl) rfl ?_
  refine bdO t0 fun v3 hv3 t0 => ?_
  refine wl_call (co_c1 fa_6 rfl fun w hw => c_impl_SymmetriesOf w v2 x1 (Rg.on (rds_own (pickS pick0)) hw) hv3) rfl fun x2 => ?_
  refine asg rfl rfl ?_
  refine wnt ?_
  refine wcr ?_
  refine wl_pure (v := .agg #[.int .i64 v2.Size, (sl x1)]) (po_load_boxs tk_26 (pickS pick0) rfl rfl rfl) rfl ?_
  refine bdO t0 fun v4 hv4 t0 => ?_
  refine wl_call (co_c1 fa_7 rfl fun w hw => c_impl_ColorSymmetries w v2 x1 (Rg.on (rds_own (pickS (pickS pick0))) hw) hv4) rfl fun x3 => ?_
  refine asg rfl rfl ?_
  refine wnt ?_
  refine wcr ?_
  refine mv rfl rfl ?_
  refine bdO t0 fun v5 hv5 t0 => ?_
  refine wl_call (co_c0 fa_8 rfl fun w hw => c_laws_at w a_code v0a (Rg.on (rds_arg r0) hw) 0 hv5) rfl fun _ => ?_
  refine wl_pure (po_rem rfl rfl (by decide)) rfl ?_
  refine asg rfl rfl ?_
  refine wnt ?_
  refine wcr ?_
  refine mv rfl rfl ?_
  refine bdO t0 fun v6 hv6 t0 => ?_
  refine wl_call (co_c0 fa_8 rfl fun w hw => c_laws_at w a_code v0a (Rg.on (rds_arg r0) hw) 1 hv6) rfl fun _ => ?_
  refine wl_pure (po_rem rfl rfl (by decide)) rfl ?_
  refine asg rfl rfl ?_
  refine wnt ?_
  refine wcr ?_
  refine mv rfl rfl ?_
  refine bdO t0 fun v7 hv7 t0 => ?_
  refine wl_call (co_c0 fa_8 rfl fun w hw => c_laws_at w a_code v0a (Rg.on (rds_arg r0) hw) 2 hv7) rfl fun _ => ?_
  refine wl_pure (po_rem rfl rfl (by decide)) rfl ?_
  refine asg rfl rfl ?_
  refine wnt ?_
  refine wcr ?_
  refine mv rfl rfl ?_
  refine mv rfl rfl ?_
  refine bdO t0 fun v8 hv8 t0 => ?_
  refine wl_call (co_c0 fa_9 rfl fun w hw => c_impl_ProductOf w (v5.tmod 8) (v6.tmod 8) hv8) rfl fun _ => ?_
  refine asg rfl rfl ?_
  refine wnt ?_
  refine wc_seq ?_
  refine wc_seq ?_
  refine bdO t0 fun y1 t1 t0 => ?_
  refine wj (J := Bool) (X := Unit) (fun z => y1 = z) (fun z _ => [(3, ptr b1 0), (4, (sl x2)), (5, (sl x3)), (72, .bool z)]) (fun _ _ => [box b1 [.int .i64 v2.Size, (sl x1)], ownF (sl x2) v3, ownF (sl x3) v4, ownF (sl x1) v2.Cells]) ?_ ?_
  · skip
    refine wc_draw [ownF (sl x3) v4, ownF (sl x2) v3, box b1 [.int .i64 v2.Size, (sl x1)], ownF (sl x1) v2.Cells] 42 mixed ?_
    refine wa_pure 0 rfl (po_move rfl) (some_cons pick0 (some_cons pick0 (some_cons pick0 (some_cons pick0 some_nil)))) rfl (by kernel_rfl) (fun _ _ _ h => h) ?_
    refine wa_pure 1 rfl (po_lss rfl rfl) (some_cons pick0 (some_cons pick0 (some_cons pick0 (some_cons pick0 some_nil)))) rfl (by kernel_rfl) (fun _ _ _ h => h) ?_
    refine wa_pure 2 rfl (po_move rfl) (some_cons pick0 (some_cons pick0 (some_cons pick0 (some_cons pick0 some_nil)))) rfl (by kernel_rfl) (fun _ _ _ h => h) ?_
    refine waO_ (t := 33) t1 rfl (fun h2 t1 => ?_) fun h2 t1 => ?_
    · skip
      refine wa_off 3 (j := 2) rfl rfl rfl rfl rfl (some_cons pick0 (some_cons pick0 (some_cons pick0 (some_cons pick0 some_nil)))) rfl (by kernel_rfl) (fun _ _ _ h => h) ?_
      refine wa_off 4 (j := 2) rfl rfl rfl rfl rfl (some_cons pick0 (some_cons pick0 (some_cons pick0 (some_cons pick0 some_nil)))) rfl (by kernel_rfl) (fun _ _ _ h => h) ?_
      refine wa_pure 5 rfl (po_pick_t rfl rfl) (some_cons pick0 (some_cons pick0 (some_cons pick0 (some_cons pick0 some_nil)))) rfl (by kernel_rfl) (fun _ _ _ h => h) ?_
      refine wa_pure 6 rfl (po_move rfl) (some_cons pick0 (some_cons pick0 (some_cons pick0 (some_cons pick0 some_nil)))) rfl (by kernel_rfl) (fun _ _ _ h => h) ?_
      refine wa_off 7 (j := 6) rfl rfl rfl rfl rfl (some_cons pick0 (some_cons pick0 (some_cons pick0 (some_cons pick0 some_nil)))) rfl (by kernel_rfl) (fun _ _ _ h => h) ?_
      refine wa_off 8 (j := 6) rfl rfl rfl rfl rfl (some_cons pick0 (some_cons pick0 (some_cons pick0 (some_cons pick0 some_nil)))) rfl (by kernel_rfl) (fun _ _ _ h => h) ?_
      refine wa_off 9 (j := 6) rfl rfl rfl rfl rfl (some_cons pick0 (some_cons pick0 (some_cons pick0 (some_cons pick0 some_nil)))) rfl (by kernel_rfl) (fun _ _ _ h => h) ?_
      refine wa_off 10 (j := 6) rfl rfl rfl rfl rfl (some_cons pick0 (some_cons pick0 (some_cons pick0 (some_cons pick0 some_nil)))) rfl (by kernel_rfl) (fun _ _ _ h => h) ?_
      refine wa_off 11 (j := 6) rfl rfl rfl rfl rfl (some_cons pick0 (some_cons pick0 (some_cons pick0 (some_cons pick0 some_nil)))) rfl (by kernel_rfl) (fun _ _ _ h => h) ?_
      refine wa_off 12 (j := 6) rfl rfl rfl rfl rfl (some_cons pick0 (some_cons pick0 (some_cons pick0 (some_cons pick0 some_nil)))) rfl (by kernel_rfl) (fun _ _ _ h => h) ?_
      refine wa_off 13 (j := 6) rfl rfl rfl rfl rfl (some_cons pick0 (some_cons pick0 (some_cons pick0 (some_cons pick0 some_nil)))) rfl (by kernel_rfl) (fun _ _ _ h => h) ?_
      refine wa_off 14 (j := 6) rfl rfl rfl rfl rfl (some_cons pick0 (some_cons pick0 (some_cons pick0 (some_cons pick0 some_nil)))) rfl (by kernel_rfl) (fun _ _ _ h => h) ?_
      refine wa_off 15 (j := 6) rfl rfl rfl rfl rfl (some_cons pick0 (some_cons pick0 (some_cons pick0 (some_cons pick0 some_nil)))) rfl (by kernel_rfl) (fun _ _ _ h => h) ?_
      refine wa_off 16 (j := 6) rfl rfl rfl rfl rfl (some_cons pick0 (some_cons pick0 (some_cons pick0 (some_cons pick0 some_nil)))) rfl (by kernel_rfl) (fun _ _ _ h => h) ?_
      refine wa_pure 17 rfl (po_pick_t rfl rfl) (some_cons pick0 (some_cons pick0 (some_cons pick0 (some_cons pick0 some_nil)))) rfl (by kernel_rfl) (fun _ _ _ h => h) ?_
      refine wa_pure 18 rfl (po_move rfl) (some_cons pick0 (some_cons pick0 (some_cons pick0 (some_cons pick0 some_nil)))) rfl (by kernel_rfl) (fun _ _ _ h => h) ?_
      refine wa_off 19 (j := 18) rfl rfl rfl rfl rfl (some_cons pick0 (some_cons pick0 (some_cons pick0 (some_cons pick0 some_nil)))) rfl (by kernel_rfl) (fun _ _ _ h => h) ?_
      refine wa_off 20 (j := 18) rfl rfl rfl rfl rfl (some_cons pick0 (some_cons pick0 (some_cons pick0 (some_cons pick0 some_nil)))) rfl (by kernel_rfl) (fun _ _ _ h => h) ?_
      refine wa_off 21 (j := 18) rfl rfl rfl rfl rfl (some_cons pick0 (some_cons pick0 (some_cons pick0 (some_cons pick0 some_nil)))) rfl (by kernel_rfl) (fun _ _ _ h => h) ?_
      refine wa_off 22 (j := 18) rfl rfl rfl rfl rfl (some_cons pick0 (some_cons pick0 (some_cons pick0 (some_cons pick0 some_nil)))) rfl (by kernel_rfl) (fun _ _ _ h => h) ?_
      refine wa_off 23 (j := 18) rfl rfl rfl rfl rfl (some_cons pick0 (some_cons pick0 (some_cons pick0 (some_cons pick0 some_nil)))) rfl (by kernel_rfl) (fun _ _ _ h => h) ?_
      refine wa_off 24 (j := 18) rfl rfl rfl rfl rfl (some_cons pick0 (some_cons pick0 (some_cons pick0 (some_cons pick0 some_nil)))) rfl (by kernel_rfl) (fun _ _ _ h => h) ?_
      refine wa_off 25 (j := 18) rfl rfl rfl rfl rfl (some_cons pick0 (some_cons pick0 (some_cons pick0 (some_cons pick0 some_nil)))) rfl (by kernel_rfl) (fun _ _ _ h => h) ?_
      refine wa_off 26 (j := 18) rfl rfl rfl rfl rfl (some_cons pick0 (some_cons pick0 (some_cons pick0 (some_cons pick0 some_nil)))) rfl (by kernel_rfl) (fun _ _ _ h => h) ?_
      refine wa_off 27 (j := 18) rfl rfl rfl rfl rfl (some_cons pick0 (some_cons pick0 (some_cons pick0 (some_cons pick0 some_nil)))) rfl (by kernel_rfl) (fun _ _ _ h => h) ?_
      refine wa_pure 28 rfl (po_pick_t rfl rfl) (some_cons pick0 (some_cons pick0 (some_cons pick0 (some_cons pick0 some_nil)))) rfl (by kernel_rfl) (fun _ _ _ h => h) ?_
      refine wa_pure 29 rfl (po_move rfl) (some_cons pick0 (some_cons pick0 (some_cons pick0 (some_cons pick0 some_nil)))) rfl (by kernel_rfl) (fun _ _ _ h => h) ?_
      refine wa_off 30 (j := 29) rfl rfl rfl rfl rfl (some_cons pick0 (some_cons pick0 (some_cons pick0 (some_cons pick0 some_nil)))) rfl (by kernel_rfl) (fun _ _ _ h => h) ?_
      refine wa_off 31 (j := 29) rfl rfl rfl rfl rfl (some_cons pick0 (some_cons pick0 (some_cons pick0 (some_cons pick0 some_nil)))) rfl (by kernel_rfl) (fun _ _ _ h => h) ?_
      refine wa_off 32 (j := 29) rfl rfl rfl rfl rfl (some_cons pick0 (some_cons pick0 (some_cons pick0 (some_cons pick0 some_nil)))) rfl (by kernel_rfl) (fun _ _ _ h => h) ?_
      refine wa_off 33 (j := 29) rfl rfl rfl rfl rfl (some_cons pick0 (some_cons pick0 (some_cons pick0 (some_cons pick0 some_nil)))) rfl (by kernel_rfl) (fun _ _ _ h => h) ?_
      refine wa_off 34 (j := 29) rfl rfl rfl rfl rfl (some_cons pick0 (some_cons pick0 (some_cons pick0 (some_cons pick0 some_nil)))) rfl (by kernel_rfl) (fun _ _ _ h => h) ?_
      refine wa_pure 35 rfl (po_pick_t rfl rfl) (some_cons pick0 (some_cons pick0 (some_cons pick0 (some_cons pick0 some_nil)))) rfl (by kernel_rfl) (fun _ _ _ h => h) ?_
      refine wa_pure 36 rfl (po_move rfl) (some_cons pick0 (some_cons pick0 (some_cons pick0 (some_cons pick0 some_nil)))) rfl (by kernel_rfl) (fun _ _ _ h => h) ?_
      refine wa_off 37 (j := 36) rfl rfl rfl rfl rfl (some_cons pick0 (some_cons pick0 (some_cons pick0 (some_cons pick0 some_nil)))) rfl (by kernel_rfl) (fun _ _ _ h => h) ?_
      refine wa_off 38 (j := 36) rfl rfl rfl rfl rfl (some_cons pick0 (some_cons pick0 (some_cons pick0 (some_cons pick0 some_nil)))) rfl (by kernel_rfl) (fun _ _ _ h => h) ?_
      refine wa_off 39 (j := 36) rfl rfl rfl rfl rfl (some_cons pick0 (some_cons pick0 (some_cons pick0 (some_cons pick0 some_nil)))) rfl (by kernel_rfl) (fun _ _ _ h => h) ?_
      refine wa_off 40 (j := 36) rfl rfl rfl rfl rfl (some_cons pick0 (some_cons pick0 (some_cons pick0 (some_cons pick0 some_nil)))) rfl (by kernel_rfl) (fun _ _ _ h => h) ?_
      refine wa_pure 41 rfl (po_pick_t rfl rfl) (some_cons pick0 (some_cons pick0 (some_cons pick0 (some_cons pick0 some_nil)))) rfl (by kernel_rfl) (fun _ _ _ h => h) ?_
      refine wa_done (by kernel_rfl) ?_
      exact wj_meet _ () (mtE t1) (sub_cons rfl (sub_cons rfl (sub_cons rfl (sub_cons rfl sub_nil)))) (some_cons (pickS (pickS pick0)) (some_cons (pickS pick0) (some_cons pick0 (some_cons pick0 some_nil))))
    refine wa_pure_on 3 (j := 2) rfl rfl rfl rfl (po_move rfl) (some_cons pick0 (some_cons pick0 (some_cons pick0 (some_cons pick0 some_nil)))) rfl (by kernel_rfl) (fun _ _ _ h => h) ?_
    refine wa_pure_on 4 (j := 2) rfl rfl rfl rfl (po_gtr rfl rfl) (some_cons pick0 (some_cons pick0 (some_cons pick0 (some_cons pick0 some_nil)))) rfl (by kernel_rfl) (fun _ _ _ h => h) ?_
    refine wa_pure 5 rfl (po_pick_f rfl rfl) (some_cons pick0 (some_cons pick0 (some_cons pick0 (some_cons pick0 some_nil)))) rfl (by kernel_rfl) (fun _ _ _ h => h) ?_
    refine wa_pure 6 rfl (po_move rfl) (some_cons pick0 (some_cons pick0 (some_cons pick0 (some_cons pick0 some_nil)))) rfl (by kernel_rfl) (fun _ _ _ h => h) ?_
    refine waO_ (t := 37) t1 rfl (fun h3 t1 => ?_) fun h3 t1 => ?_
    · skip
      refine wa_off 7 (j := 6) rfl rfl rfl rfl rfl (some_cons pick0 (some_cons pick0 (some_cons pick0 (some_cons pick0 some_nil)))) rfl (by kernel_rfl) (fun _ _ _ h => h) ?_
      refine wa_off 8 (j := 6) rfl rfl rfl rfl rfl (some_cons pick0 (some_cons pick0 (some_cons pick0 (some_cons pick0 some_nil)))) rfl (by kernel_rfl) (fun _ _ _ h => h) ?_
      refine wa_off 9 (j := 6) rfl rfl rfl rfl rfl (some_cons pick0 (some_cons pick0 (some_cons pick0 (some_cons pick0 some_nil)))) rfl (by kernel_rfl) (fun _ _ _ h => h) ?_
      refine wa_off 10 (j := 6) rfl rfl rfl rfl rfl (some_cons pick0 (some_cons pick0 (some_cons pick0 (some_cons pick0 some_nil)))) rfl (by kernel_rfl) (fun _ _ _ h => h) ?_
      refine wa_off 11 (j := 6) rfl rfl rfl rfl rfl (some_cons pick0 (some_cons pick0 (some_cons pick0 (some_cons pick0 some_nil)))) rfl (by kernel_rfl) (fun _ _ _ h => h) ?_
      refine wa_off 12 (j := 6) rfl rfl rfl rfl rfl (some_cons pick0 (some_cons pick0 (some_cons pick0 (some_cons pick0 some_nil)))) rfl (by kernel_rfl) (fun _ _ _ h => h) ?_
      refine wa_off 13 (j := 6) rfl rfl rfl rfl rfl (some_cons pick0 (some_cons pick0 (some_cons pick0 (some_cons pick0 some_nil)))) rfl (by kernel_rfl) (fun _ _ _ h => h) ?_
      refine wa_off 14 (j := 6) rfl rfl rfl rfl rfl (some_cons pick0 (some_cons pick0 (some_cons pick0 (some_cons pick0 some_nil)))) rfl (by kernel_rfl) (fun _ _ _ h => h) ?_
      refine wa_off 15 (j := 6) rfl rfl rfl rfl rfl (some_cons pick0 (some_cons pick0 (some_cons pick0 (some_cons pick0 some_nil)))) rfl (by kernel_rfl) (fun _ _ _ h => h) ?_
      refine wa_off 16 (j := 6) rfl rfl rfl rfl rfl (some_cons pick0 (some_cons pick0 (some_cons pick0 (some_cons pick0 some_nil)))) rfl (by kernel_rfl) (fun _ _ _ h => h) ?_
      refine wa_pure 17 rfl (po_pick_t rfl rfl) (some_cons pick0 (some_cons pick0 (some_cons pick0 (some_cons pick0 some_nil)))) rfl (by kernel_rfl) (fun _ _ _ h => h) ?_
      refine wa_pure 18 rfl (po_move rfl) (some_cons pick0 (some_cons pick0 (some_cons pick0 (some_cons pick0 some_nil)))) rfl (by kernel_rfl) (fun _ _ _ h => h) ?_
      refine wa_off 19 (j := 18) rfl rfl rfl rfl rfl (some_cons pick0 (some_cons pick0 (some_cons pick0 (some_cons pick0 some_nil)))) rfl (by kernel_rfl) (fun _ _ _ h => h) ?_
      refine wa_off 20 (j := 18) rfl rfl rfl rfl rfl (some_cons pick0 (some_cons pick0 (some_cons pick0 (some_cons pick0 some_nil)))) rfl (by kernel_rfl) (fun _ _ _ h => h) ?_
      refine wa_off 21 (j := 18) rfl rfl rfl rfl rfl (some_cons pick0 (some_cons pick0 (some_cons pick0 (some_cons pick0 some_nil)))) rfl (by kernel_rfl) (fun _ _ _ h => h) ?_
      refine wa_off 22 (j := 18) rfl rfl rfl rfl rfl (some_cons pick0 (some_cons pick0 (some_cons pick0 (some_cons pick0 some_nil)))) rfl (by kernel_rfl) (fun _ _ _ h => h) ?_
      refine wa_off 23 (j := 18) rfl rfl rfl rfl rfl (some_cons pick0 (some_cons pick0 (some_cons pick0 (some_cons pick0 some_nil)))) rfl (by kernel_rfl) (fun _ _ _ h => h) ?_
      refine wa_off 24 (j := 18) rfl rfl rfl rfl rfl (some_cons pick0 (some_cons pick0 (some_cons pick0 (some_cons pick0 some_nil)))) rfl (by kernel_rfl) (fun _ _ _ h => h) ?_
      refine wa_off 25 (j := 18) rfl rfl rfl rfl rfl (some_cons pick0 (some_cons pick0 (some_cons pick0 (some_cons pick0 some_nil)))) rfl (by kernel_rfl) (fun _ _ _ h => h) ?_
      refine wa_off 26 (j := 18) rfl rfl rfl rfl rfl (some_cons pick0 (some_cons pick0 (some_cons pick0 (some_cons pick0 some_nil)))) rfl (by kernel_rfl) (fun _ _ _ h => h) ?_
      refine wa_off 27 (j := 18) rfl rfl rfl rfl rfl (some_cons pick0 (some_cons pick0 (some_cons pick0 (some_cons pick0 some_nil)))) rfl (by kernel_rfl) (fun _ _ _ h => h) ?_
      refine wa_pure 28 rfl (po_pick_t rfl rfl) (some_cons pick0 (some_cons pick0 (some_cons pick0 (some_cons pick0 some_nil)))) rfl (by kernel_rfl) (fun _ _ _ h => h) ?_
      refine wa_pure 29 rfl (po_move rfl) (some_cons pick0 (some_cons pick0 (some_cons pick0 (some_cons pick0 some_nil)))) rfl (by kernel_rfl) (fun _ _ _ h => h) ?_
      refine wa_off 30 (j := 29) rfl rfl rfl rfl rfl (some_cons pick0 (some_cons pick0 (some_cons pick0 (some_cons pick0 some_nil)))) rfl (by kernel_rfl) (fun _ _ _ h => h) ?_
      refine wa_off 31 (j := 29) rfl rfl rfl rfl rfl (some_cons pick0 (some_cons pick0 (some_cons pick0 (some_cons pick0 some_nil)))) rfl (by kernel_rfl) (fun _ _ _ h => h) ?_
      refine wa_off 32 (j := 29) rfl rfl rfl rfl rfl (some_cons pick0 (some_cons pick0 (some_cons pick0 (some_cons pick0 some_nil)))) rfl (by kernel_rfl) (fun _ _ _ h => h) ?_
      refine wa_off 33 (j := 29) rfl rfl rfl rfl rfl (some_cons pick0 (some_cons pick0 (some_cons pick0 (some_cons pick0 some_nil)))) rfl (by kernel_rfl) (fun _ _ _ h => h) ?_
      refine wa_off 34 (j := 29) rfl rfl rfl rfl rfl (some_cons pick0 (some_cons pick0 (some_cons pick0 (some_cons pick0 some_nil)))) rfl (by kernel_rfl) (fun _ _ _ h => h) ?_
      refine wa_pure 35 rfl (po_pick_t rfl rfl) (some_cons pick0 (some_cons pick0 (some_cons pick0 (some_cons pick0 some_nil)))) rfl (by kernel_rfl) (fun _ _ _ h => h) ?_
      refine wa_pure 36 rfl (po_move rfl) (some_cons pick0 (some_cons pick0 (some_cons pick0 (some_cons pick0 some_nil)))) rfl (by kernel_rfl) (fun _ _ _ h => h) ?_
      refine wa_off 37 (j := 36) rfl rfl rfl rfl rfl (some_cons pick0 (some_cons pick0 (some_cons pick0 (some_cons pick0 some_nil)))) rfl (by kernel_rfl) (fun _ _ _ h => h) ?_
      refine wa_off 38 (j := 36) rfl rfl rfl rfl rfl (some_cons pick0 (some_cons pick0 (some_cons pick0 (some_cons pick0 some_nil)))) rfl (by kernel_rfl) (fun _ _ _ h => h) ?_
      refine wa_off 39 (j := 36) rfl rfl rfl rfl rfl (some_cons pick0 (some_cons pick0 (some_cons pick0 (some_cons pick0 some_nil)))) rfl (by kernel_rfl) (fun _ _ _ h => h) ?_
      refine wa_off 40 (j := 36) rfl rfl rfl rfl rfl (some_cons pick0 (some_cons pick0 (some_cons pick0 (some_cons pick0 some_nil)))) rfl (by kernel_rfl) (fun _ _ _ h => h) ?_
      refine wa_pure 41 rfl (po_pick_t rfl rfl) (some_cons pick0 (some_cons pick0 (some_cons pick0 (some_cons pick0 some_nil)))) rfl (by kernel_rfl) (fun _ _ _ h => h) ?_
      refine wa_done (by kernel_rfl) ?_
      exact wj_meet _ () (mtE t1) (sub_cons rfl (sub_cons rfl (sub_cons rfl (sub_cons rfl sub_nil)))) (some_cons (pickS (pickS pick0)) (some_cons (pickS pick0) (some_cons pick0 (some_cons pick0 some_nil))))
    refine wa_pure_on (v := .agg #[.int .i64 v2.Size, (sl x1)]) 7 (j := 6) rfl rfl rfl rfl (po_load_boxs tk_26 (pickS (pickS pick0)) rfl rfl rfl) (some_cons pick0 (some_cons pick0 (some_cons pick0 (some_cons pick0 some_nil)))) rfl (by kernel_rfl) (fun _ _ _ h => h) ?_
    refine wa_pure_on 8 (j := 6) rfl rfl rfl rfl (po_move rfl) (some_cons pick0 (some_cons pick0 (some_cons pick0 (some_cons pick0 some_nil)))) rfl (by kernel_rfl) (fun _ _ _ h => h) ?_
    refine wa_pure_on 10 (j := 6) rfl rfl rfl rfl (po_move rfl) (some_cons pick0 (some_cons pick0 (some_cons pick0 (some_cons pick0 some_nil)))) rfl (by kernel_rfl) (fun _ _ _ h => h) ?_
    refine wa_pure_on (v := .agg #[.int .i64 v2.Size, (sl x1)]) 12 (j := 6) rfl rfl rfl rfl (po_load_boxs tk_26 (pickS (pickS pick0)) rfl rfl rfl) (some_cons pick0 (some_cons pick0 (some_cons pick0 (some_cons pick0 some_nil)))) rfl (by kernel_rfl) (fun _ _ _ h => h) ?_
    refine wa_pure_on 13 (j := 6) rfl rfl rfl rfl (po_move rfl) (some_cons pick0 (some_cons pick0 (some_cons pick0 (some_cons pick0 some_nil)))) rfl (by kernel_rfl) (fun _ _ _ h => h) ?_
    refine wa_1 (i := 9) (by kernel_rfl) ?_
    refine bdO t1 fun v9 hv9 t1 => ?_
    refine ws_call_on (j := 6) rfl rfl rfl rfl (co_c1 fa_11 rfl fun w hw => c_spec_SeenFrom w v2 x1 (Rg.on (rds_own (pickS (pickS (pickS pick0)))) hw) (v5.tmod 8) hv9) (fun _ => (sts_some (some_cons (pickS pick0) (some_cons (pickS pick0) (some_cons (pickS pick0) (some_cons (pickS pick0) some_nil)))))) rfl fun x5 => ?_
    refine wa_1 (i := 11) (by kernel_rfl) ?_
    refine bdO t1 fun v10 hv10 t1 => ?_
    refine ws_call_on (j := 6) rfl rfl rfl rfl (co_c1 fa_11 rfl fun w hw => c_spec_SeenFrom w v9 x5 (Rg.on (rds_own pick0) hw) (v6.tmod 8) hv10) (fun _ => (sts_some (some_cons (pickS (pickS pick0)) (some_cons (pickS (pickS pick0)) (some_cons (pickS (pickS pick0)) (some_cons (pickS (pickS pick0)) some_nil)))))) rfl fun x6 => ?_
    refine wa_1 (i := 14) (by kernel_rfl) ?_
    refine bdO t1 fun v11 hv11 t1 => ?_
    refine ws_call_on (j := 6) rfl rfl rfl rfl (co_c1 fa_11 rfl fun w hw => c_spec_SeenFrom w v2 x1 (Rg.on (rds_own (pickS (pickS (pickS (pickS (pickS pick0)))))) hw) v8 hv11) (fun _ => (sts_some (some_cons (pickS (pickS (pickS pick0))) (some_cons (pickS (pickS (pickS pick0))) (some_cons (pickS (pickS (pickS pick0))) (some_cons (pickS (pickS (pickS pick0))) some_nil)))))) rfl fun x7 => ?_
    refine wa_1 (i := 15) (by kernel_rfl) ?_
    refine bdO t1 fun v12 hv12 t1 => ?_
    refine ws_call_on (j := 6) rfl rfl rfl rfl (co_c0 fa_10 rfl fun w hw => c_impl_SameBlock w v10 x6 (Rg.on (rds_own (pickS pick0)) hw) v11 x7 (Rg.on (rds_own pick0) hw) hv12) (fun _ => (sts_some (some_cons (pickS (pickS (pickS pick0))) (some_cons (pickS (pickS (pickS pick0))) (some_cons (pickS (pickS (pickS pick0))) (some_cons (pickS (pickS (pickS pick0))) some_nil)))))) rfl fun _ => ?_
    refine wa_pure_on 16 (j := 6) rfl rfl rfl rfl (po_not rfl) (some_cons (pickS (pickS (pickS pick0))) (some_cons (pickS (pickS (pickS pick0))) (some_cons (pickS (pickS (pickS pick0))) (some_cons (pickS (pickS (pickS pick0))) some_nil)))) rfl (by kernel_rfl) (fun _ _ _ h => h) ?_
    refine wa_pure 17 rfl (po_pick_f rfl rfl) (some_cons (pickS (pickS (pickS pick0))) (some_cons (pickS (pickS (pickS pick0))) (some_cons (pickS (pickS (pickS pick0))) (some_cons (pickS (pickS (pickS pick0))) some_nil)))) rfl (by kernel_rfl) (fun _ _ _ h => h) ?_
    refine wa_pure 18 rfl (po_move rfl) (some_cons (pickS (pickS (pickS pick0))) (some_cons (pickS (pickS (pickS pick0))) (some_cons (pickS (pickS (pickS pick0))) (some_cons (pickS (pickS (pickS pick0))) some_nil)))) rfl (by kernel_rfl) (fun _ _ _ h => h) ?_
    refine waO_ (t := 49) t1 rfl (fun h4 t1 => ?_) fun h4 t1 => ?_
    · skip
      refine wa_off 19 (j := 18) rfl rfl rfl rfl rfl (some_cons (pickS (pickS (pickS pick0))) (some_cons (pickS (pickS (pickS pick0))) (some_cons (pickS (pickS (pickS pick0))) (some_cons (pickS (pickS (pickS pick0))) some_nil)))) rfl (by kernel_rfl) (fun _ _ _ h => h) ?_
      refine wa_off 20 (j := 18) rfl rfl rfl rfl rfl (some_cons (pickS (pickS (pickS pick0))) (some_cons (pickS (pickS (pickS pick0))) (some_cons (pickS (pickS (pickS pick0))) (some_cons (pickS (pickS (pickS pick0))) some_nil)))) rfl (by kernel_rfl) (fun _ _ _ h => h) ?_
      refine wa_off 21 (j := 18) rfl rfl rfl rfl rfl (some_cons (pickS (pickS (pickS pick0))) (some_cons (pickS (pickS (pickS pick0))) (some_cons (pickS (pickS (pickS pick0))) (some_cons (pickS (pickS (pickS pick0))) some_nil)))) rfl (by kernel_rfl) (fun _ _ _ h => h) ?_
      refine wa_off 22 (j := 18) rfl rfl rfl rfl rfl (some_cons (pickS (pickS (pickS pick0))) (some_cons (pickS (pickS (pickS pick0))) (some_cons (pickS (pickS (pickS pick0))) (some_cons (pickS (pickS (pickS pick0))) some_nil)))) rfl (by kernel_rfl) (fun _ _ _ h => h) ?_
      refine wa_off 23 (j := 18) rfl rfl rfl rfl rfl (some_cons (pickS (pickS (pickS pick0))) (some_cons (pickS (pickS (pickS pick0))) (some_cons (pickS (pickS (pickS pick0))) (some_cons (pickS (pickS (pickS pick0))) some_nil)))) rfl (by kernel_rfl) (fun _ _ _ h => h) ?_
      refine wa_off 24 (j := 18) rfl rfl rfl rfl rfl (some_cons (pickS (pickS (pickS pick0))) (some_cons (pickS (pickS (pickS pick0))) (some_cons (pickS (pickS (pickS pick0))) (some_cons (pickS (pickS (pickS pick0))) some_nil)))) rfl (by kernel_rfl) (fun _ _ _ h => h) ?_
      refine wa_off 25 (j := 18) rfl rfl rfl rfl rfl (some_cons (pickS (pickS (pickS pick0))) (some_cons (pickS (pickS (pickS pick0))) (some_cons (pickS (pickS (pickS pick0))) (some_cons (pickS (pickS (pickS pick0))) some_nil)))) rfl (by kernel_rfl) (fun _ _ _ h => h) ?_
      refine wa_off 26 (j := 18) rfl rfl rfl rfl rfl (some_cons (pickS (pickS (pickS pick0))) (some_cons (pickS (pickS (pickS pick0))) (some_cons (pickS (pickS (pickS pick0))) (some_cons (pickS (pickS (pickS pick0))) some_nil)))) rfl (by kernel_rfl) (fun _ _ _ h => h) ?_
      refine wa_off 27 (j := 18) rfl rfl rfl rfl rfl (some_cons (pickS (pickS (pickS pick0))) (some_cons (pickS (pickS (pickS pick0))) (some_cons (pickS (pickS (pickS pick0))) (some_cons (pickS (pickS (pickS pick0))) some_nil)))) rfl (by kernel_rfl) (fun _ _ _ h => h) ?_
      refine wa_pure 28 rfl (po_pick_t rfl rfl) (some_cons (pickS (pickS (pickS pick0))) (some_cons (pickS (pickS (pickS pick0))) (some_cons (pickS (pickS (pickS pick0))) (some_cons (pickS (pickS (pickS pick0))) some_nil)))) rfl (by kernel_rfl) (fun _ _ _ h => h) ?_
      refine wa_pure 29 rfl (po_move rfl) (some_cons (pickS (pickS (pickS pick0))) (some_cons (pickS (pickS (pickS pick0))) (some_cons (pickS (pickS (pickS pick0))) (some_cons (pickS (pickS (pickS pick0))) some_nil)))) rfl (by kernel_rfl) (fun _ _ _ h => h) ?_
      refine wa_off 30 (j := 29) rfl rfl rfl rfl rfl (some_cons (pickS (pickS (pickS pick0))) (some_cons (pickS (pickS (pickS pick0))) (some_cons (pickS (pickS (pickS pick0))) (some_cons (pickS (pickS (pickS pick0))) some_nil)))) rfl (by kernel_rfl) (fun _ _ _ h => h) ?_
      refine wa_off 31 (j := 29) rfl rfl rfl rfl rfl (some_cons (pickS (pickS (pickS pick0))) (some_cons (pickS (pickS (pickS pick0))) (some_cons (pickS (pickS (pickS pick0))) (some_cons (pickS (pickS (pickS pick0))) some_nil)))) rfl (by kernel_rfl) (fun _ _ _ h => h) ?_
      refine wa_off 32 (j := 29) rfl rfl rfl rfl rfl (some_cons (pickS (pickS (pickS pick0))) (some_cons (pickS (pickS (pickS pick0))) (some_cons (pickS (pickS (pickS pick0))) (some_cons (pickS (pickS (pickS pick0))) some_nil)))) rfl (by kernel_rfl) (fun _ _ _ h => h) ?_
      refine wa_off 33 (j := 29) rfl rfl rfl rfl rfl (some_cons (pickS (pickS (pickS pick0))) (some_cons (pickS (pickS (pickS pick0))) (some_cons (pickS (pickS (pickS pick0))) (some_cons (pickS (pickS (pickS pick0))) some_nil)))) rfl (by kernel_rfl) (fun _ _ _ h => h) ?_
      refine wa_off 34 (j := 29) rfl rfl rfl rfl rfl (some_cons (pickS (pickS (pickS pick0))) (some_cons (pickS (pickS (pickS pick0))) (some_cons (pickS (pickS (pickS pick0))) (some_cons (pickS (pickS (pickS pick0))) some_nil)))) rfl (by kernel_rfl) (fun _ _ _ h => h) ?_
      refine wa_pure 35 rfl (po_pick_t rfl rfl) (some_cons (pickS (pickS (pickS pick0))) (some_cons (pickS (pickS (pickS pick0))) (some_cons (pickS (pickS (pickS pick0))) (some_cons (pickS (pickS (pickS pick0))) some_nil)))) rfl (by kernel_rfl) (fun _ _ _ h => h) ?_
      refine wa_pure 36 rfl (po_move rfl) (some_cons (pickS (pickS (pickS pick0))) (some_cons (pickS (pickS (pickS pick0))) (some_cons (pickS (pickS (pickS pick0))) (some_cons (pickS (pickS (pickS pick0))) some_nil)))) rfl (by kernel_rfl) (fun _ _ _ h => h) ?_
      refine wa_off 37 (j := 36) rfl rfl rfl rfl rfl (some_cons (pickS (pickS (pickS pick0))) (some_cons (pickS (pickS (pickS pick0))) (some_cons (pickS (pickS (pickS pick0))) (some_cons (pickS (pickS (pickS pick0))) some_nil)))) rfl (by kernel_rfl) (fun _ _ _ h => h) ?_
      refine wa_off 38 (j := 36) rfl rfl rfl rfl rfl (some_cons (pickS (pickS (pickS pick0))) (some_cons (pickS (pickS (pickS pick0))) (some_cons (pickS (pickS (pickS pick0))) (some_cons (pickS (pickS (pickS pick0))) some_nil)))) rfl (by kernel_rfl) (fun _ _ _ h => h) ?_
      refine wa_off 39 (j := 36) rfl rfl rfl rfl rfl (some_cons (pickS (pickS (pickS pick0))) (some_cons (pickS (pickS (pickS pick0))) (some_cons (pickS (pickS (pickS pick0))) (some_cons (pickS (pickS (pickS pick0))) some_nil)))) rfl (by kernel_rfl) (fun _ _ _ h => h) ?_
      refine wa_off 40 (j := 36) rfl rfl rfl rfl rfl (some_cons (pickS (pickS (pickS pick0))) (some_cons (pickS (pickS (pickS pick0))) (some_cons (pickS (pickS (pickS pick0))) (some_cons (pickS (pickS (pickS pick0))) some_nil)))) rfl (by kernel_rfl) (fun _ _ _ h => h) ?_
      refine wa_pure 41 rfl (po_pick_t rfl rfl) (some_cons (pickS (pickS (pickS pick0))) (some_cons (pickS (pickS (pickS pick0))) (some_cons (pickS (pickS (pickS pick0))) (some_cons (pickS (pickS (pickS pick0))) some_nil)))) rfl (by kernel_rfl) (fun _ _ _ h => h) ?_
      refine wa_done (by kernel_rfl) ?_
      exact wj_meet _ () (mtE t1) (sub_cons rfl (sub_cons rfl (sub_cons rfl (sub_cons rfl sub_nil)))) (some_cons (pickS (pickS (pickS (pickS (pickS pick0))))) (some_cons (pickS (pickS (pickS (pickS pick0)))) (some_cons (pickS (pickS (pickS pick0))) (some_cons (pickS (pickS (pickS pick0))) some_nil))))
    refine wa_pure_on 19 (j := 18) rfl rfl rfl rfl (po_move rfl) (some_cons (pickS (pickS (pickS pick0))) (some_cons (pickS (pickS (pickS pick0))) (some_cons (pickS (pickS (pickS pick0))) (some_cons (pickS (pickS (pickS pick0))) some_nil)))) rfl (by kernel_rfl) (fun _ _ _ h => h) ?_
    refine wa_pure_on 20 (j := 18) rfl rfl rfl rfl (po_move rfl) (some_cons (pickS (pickS (pickS pick0))) (some_cons (pickS (pickS (pickS pick0))) (some_cons (pickS (pickS (pickS pick0))) (some_cons (pickS (pickS (pickS pick0))) some_nil)))) rfl (by kernel_rfl) (fun _ _ _ h => h) ?_
    refine wa_pure_on 22 (j := 18) rfl rfl rfl rfl (po_move rfl) (some_cons (pickS (pickS (pickS pick0))) (some_cons (pickS (pickS (pickS pick0))) (some_cons (pickS (pickS (pickS pick0))) (some_cons (pickS (pickS (pickS pick0))) some_nil)))) rfl (by kernel_rfl) (fun _ _ _ h => h) ?_
    refine wa_pure_on 23 (j := 18) rfl rfl rfl rfl (po_move rfl) (some_cons (pickS (pickS (pickS pick0))) (some_cons (pickS (pickS (pickS pick0))) (some_cons (pickS (pickS (pickS pick0))) (some_cons (pickS (pickS (pickS pick0))) some_nil)))) rfl (by kernel_rfl) (fun _ _ _ h => h) ?_
    refine wa_pure_on 24 (j := 18) rfl rfl rfl rfl (po_move rfl) (some_cons (pickS (pickS (pickS pick0))) (some_cons (pickS (pickS (pickS pick0))) (some_cons (pickS (pickS (pickS pick0))) (some_cons (pickS (pickS (pickS pick0))) some_nil)))) rfl (by kernel_rfl) (fun _ _ _ h => h) ?_
    refine wa_1 (i := 21) (by kernel_rfl) ?_
    refine bdO t1 fun v13 hv13 t1 => ?_
    refine ws_call_on (j := 18) rfl rfl rfl rfl (co_c0 fa_9 rfl fun w hw => c_impl_ProductOf w v8 (v7.tmod 8) hv13) (fun _ => (sts_some (some_cons (pickS (pickS (pickS pick0))) (some_cons (pickS (pickS (pickS pick0))) (some_cons (pickS (pickS (pickS pick0))) (some_cons (pickS (pickS (pickS pick0))) some_nil)))))) rfl fun _ => ?_
    refine wa_1 (i := 25) (by kernel_rfl) ?_
    refine bdO t1 fun v14 hv14 t1 => ?_
    refine ws_call_on (j := 18) rfl rfl rfl rfl (co_c0 fa_9 rfl fun w hw => c_impl_ProductOf w (v6.tmod 8) (v7.tmod 8) hv14) (fun _ => (sts_some (some_cons (pickS (pickS (pickS pick0))) (some_cons (pickS (pickS (pickS pick0))) (some_cons (pickS (pickS (pickS pick0))) (some_cons (pickS (pickS (pickS pick0))) some_nil)))))) rfl fun _ => ?_
    refine wa_1 (i := 26) (by kernel_rfl) ?_
    refine bdO t1 fun v15 hv15 t1 => ?_
    refine ws_call_on (j := 18) rfl rfl rfl rfl (co_c0 fa_9 rfl fun w hw => c_impl_ProductOf w (v5.tmod 8) v14 hv15) (fun _ => (sts_some (some_cons (pickS (pickS (pickS pick0))) (some_cons (pickS (pickS (pickS pick0))) (some_cons (pickS (pickS (pickS pick0))) (some_cons (pickS (pickS (pickS pick0))) some_nil)))))) rfl fun _ => ?_
    refine wa_pure_on 27 (j := 18) rfl rfl rfl rfl (po_neq rfl rfl) (some_cons (pickS (pickS (pickS pick0))) (some_cons (pickS (pickS (pickS pick0))) (some_cons (pickS (pickS (pickS pick0))) (some_cons (pickS (pickS (pickS pick0))) some_nil)))) rfl (by kernel_rfl) (fun _ _ _ h => h) ?_
    refine wa_pure 28 rfl (po_pick_f rfl rfl) (some_cons (pickS (pickS (pickS pick0))) (some_cons (pickS (pickS (pickS pick0))) (some_cons (pickS (pickS (pickS pick0))) (some_cons (pickS (pickS (pickS pick0))) some_nil)))) rfl (by kernel_rfl) (fun _ _ _ h => h) ?_
    refine wa_pure 29 rfl (po_move rfl) (some_cons (pickS (pickS (pickS pick0))) (some_cons (pickS (pickS (pickS pick0))) (some_cons (pickS (pickS (pickS pick0))) (some_cons (pickS (pickS (pickS pick0))) some_nil)))) rfl (by kernel_rfl) (fun _ _ _ h => h) ?_
    refine waO_ (t := 60) t1 rfl (fun h5 t1 => ?_) fun h5 t1 => ?_
    · skip
      refine wa_off 30 (j := 29) rfl rfl rfl rfl rfl (some_cons (pickS (pickS (pickS pick0))) (some_cons (pickS (pickS (pickS pick0))) (some_cons (pickS (pickS (pickS pick0))) (some_cons (pickS (pickS (pickS pick0))) some_nil)))) rfl (by kernel_rfl) (fun _ _ _ h => h) ?_
      refine wa_off 31 (j := 29) rfl rfl rfl rfl rfl (some_cons (pickS (pickS (pickS pick0))) (some_cons (pickS (pickS (pickS pick0))) (some_cons (pickS (pickS (pickS pick0))) (some_cons (pickS (pickS (pickS pick0))) some_nil)))) rfl (by kernel_rfl) (fun _ _ _ h => h) ?_
      refine wa_off 32 (j := 29) rfl rfl rfl rfl rfl (some_cons (pickS (pickS (pickS pick0))) (some_cons (pickS (pickS (pickS pick0))) (some_cons (pickS (pickS (pickS pick0))) (some_cons (pickS (pickS (pickS pick0))) some_nil)))) rfl (by kernel_rfl) (fun _ _ _ h => h) ?_
      refine wa_off 33 (j := 29) rfl rfl rfl rfl rfl (some_cons (pickS (pickS (pickS pick0))) (some_cons (pickS (pickS (pickS pick0))) (some_cons (pickS (pickS (pickS pick0))) (some_cons (pickS (pickS (pickS pick0))) some_nil)))) rfl (by kernel_rfl) (fun _ _ _ h => h) ?_
      refine wa_off 34 (j := 29) rfl rfl rfl rfl rfl (some_cons (pickS (pickS (pickS pick0))) (some_cons (pickS (pickS (pickS pick0))) (some_cons (pickS (pickS (pickS pick0))) (some_cons (pickS (pickS (pickS pick0))) some_nil)))) rfl (by kernel_rfl) (fun _ _ _ h => h) ?_
      refine wa_pure 35 rfl (po_pick_t rfl rfl) (some_cons (pickS (pickS (pickS pick0))) (some_cons (pickS (pickS (pickS pick0))) (some_cons (pickS (pickS (pickS pick0))) (some_cons (pickS (pickS (pickS pick0))) some_nil)))) rfl (by kernel_rfl) (fun _ _ _ h => h) ?_
      refine wa_pure 36 rfl (po_move rfl) (some_cons (pickS (pickS (pickS pick0))) (some_cons (pickS (pickS (pickS pick0))) (some_cons (pickS (pickS (pickS pick0))) (some_cons (pickS (pickS (pickS pick0))) some_nil)))) rfl (by kernel_rfl) (fun _ _ _ h => h) ?_
      refine wa_off 37 (j := 36) rfl rfl rfl rfl rfl (some_cons (pickS (pickS (pickS pick0))) (some_cons (pickS (pickS (pickS pick0))) (some_cons (pickS (pickS (pickS pick0))) (some_cons (pickS (pickS (pickS pick0))) some_nil)))) rfl (by kernel_rfl) (fun _ _ _ h => h) ?_
      refine wa_off 38 (j := 36) rfl rfl rfl rfl rfl (some_cons (pickS (pickS (pickS pick0))) (some_cons (pickS (pickS (pickS pick0))) (some_cons (pickS (pickS (pickS pick0))) (some_cons (pickS (pickS (pickS pick0))) some_nil)))) rfl (by kernel_rfl) (fun _ _ _ h => h) ?_
      refine wa_off 39 (j := 36) rfl rfl rfl rfl rfl (some_cons (pickS (pickS (pickS pick0))) (some_cons (pickS (pickS (pickS pick0))) (some_cons (pickS (pickS (pickS pick0))) (some_cons (pickS (pickS (pickS pick0))) some_nil)))) rfl (by kernel_rfl) (fun _ _ _ h => h) ?_
      refine wa_off 40 (j := 36) rfl rfl rfl rfl rfl (some_cons (pickS (pickS (pickS pick0))) (some_cons (pickS (pickS (pickS pick0))) (some_cons (pickS (pickS (pickS pick0))) (some_cons (pickS (pickS (pickS pick0))) some_nil)))) rfl (by kernel_rfl) (fun _ _ _ h => h) ?_
      refine wa_pure 41 rfl (po_pick_t rfl rfl) (some_cons (pickS (pickS (pickS pick0))) (some_cons (pickS (pickS (pickS pick0))) (some_cons (pickS (pickS (pickS pick0))) (some_cons (pickS (pickS (pickS pick0))) some_nil)))) rfl (by kernel_rfl) (fun _ _ _ h => h) ?_
      refine wa_done (by kernel_rfl) ?_
      exact wj_meet _ () (mtE t1) (sub_cons rfl (sub_cons rfl (sub_cons rfl (sub_cons rfl sub_nil)))) (some_cons (pickS (pickS (pickS (pickS (pickS pick0))))) (some_cons (pickS (pickS (pickS (pickS pick0)))) (some_cons (pickS (pickS (pickS pick0))) (some_cons (pickS (pickS (pickS pick0))) some_nil))))
    refine wa_pure_on 30 (j := 29) rfl rfl rfl rfl (po_move rfl) (some_cons (pickS (pickS (pickS pick0))) (some_cons (pickS (pickS (pickS pick0))) (some_cons (pickS (pickS (pickS pick0))) (some_cons (pickS (pickS (pickS pick0))) some_nil)))) rfl (by kernel_rfl) (fun _ _ _ h => h) ?_
    refine wa_pure_on 31 (j := 29) rfl rfl rfl rfl (po_move rfl) (some_cons (pickS (pickS (pickS pick0))) (some_cons (pickS (pickS (pickS pick0))) (some_cons (pickS (pickS (pickS pick0))) (some_cons (pickS (pickS (pickS pick0))) some_nil)))) rfl (by kernel_rfl) (fun _ _ _ h => h) ?_
    refine wa_1 (i := 32) (by kernel_rfl) ?_
    refine bdO t1 fun v16 hv16 t1 => ?_
    refine ws_call_on (j := 29) rfl rfl rfl rfl (co_c0 fa_12 rfl fun w hw => c_impl_InverseOf w (v5.tmod 8) hv16) (fun _ => (sts_some (some_cons (pickS (pickS (pickS pick0))) (some_cons (pickS (pickS (pickS pick0))) (some_cons (pickS (pickS (pickS pick0))) (some_cons (pickS (pickS (pickS pick0))) some_nil)))))) rfl fun _ => ?_
    refine wa_1 (i := 33) (by kernel_rfl) ?_
    refine bdO t1 fun v17 hv17 t1 => ?_
    refine ws_call_on (j := 29) rfl rfl rfl rfl (co_c0 fa_9 rfl fun w hw => c_impl_ProductOf w (v5.tmod 8) v16 hv17) (fun _ => (sts_some (some_cons (pickS (pickS (pickS pick0))) (some_cons (pickS (pickS (pickS pick0))) (some_cons (pickS (pickS (pickS pick0))) (some_cons (pickS (pickS (pickS pick0))) some_nil)))))) rfl fun _ => ?_
    refine wa_pure_on 34 (j := 29) rfl rfl rfl rfl (po_neq rfl rfl) (some_cons (pickS (pickS (pickS pick0))) (some_cons (pickS (pickS (pickS pick0))) (some_cons (pickS (pickS (pickS pick0))) (some_cons (pickS (pickS (pickS pick0))) some_nil)))) rfl (by kernel_rfl) (fun _ _ _ h => h) ?_
    refine wa_pure 35 rfl (po_pick_f rfl rfl) (some_cons (pickS (pickS (pickS pick0))) (some_cons (pickS (pickS (pickS pick0))) (some_cons (pickS (pickS (pickS pick0))) (some_cons (pickS (pickS (pickS pick0))) some_nil)))) rfl (by kernel_rfl) (fun _ _ _ h => h) ?_
    refine wa_pure 36 rfl (po_move rfl) (some_cons (pickS (pickS (pickS pick0))) (some_cons (pickS (pickS (pickS pick0))) (some_cons (pickS (pickS (pickS pick0))) (some_cons (pickS (pickS (pickS pick0))) some_nil)))) rfl (by kernel_rfl) (fun _ _ _ h => h) ?_
    refine waO_ (t := 67) t1 rfl (fun h6 t1 => ?_) fun h6 t1 => ?_
    · skip
      refine wa_off 37 (j := 36) rfl rfl rfl rfl rfl (some_cons (pickS (pickS (pickS pick0))) (some_cons (pickS (pickS (pickS pick0))) (some_cons (pickS (pickS (pickS pick0))) (some_cons (pickS (pickS (pickS pick0))) some_nil)))) rfl (by kernel_rfl) (fun _ _ _ h => h) ?_
      refine wa_off 38 (j := 36) rfl rfl rfl rfl rfl (some_cons (pickS (pickS (pickS pick0))) (some_cons (pickS (pickS (pickS pick0))) (some_cons (pickS (pickS (pickS pick0))) (some_cons (pickS (pickS (pickS pick0))) some_nil)))) rfl (by kernel_rfl) (fun _ _ _ h => h) ?_
      refine wa_off 39 (j := 36) rfl rfl rfl rfl rfl (some_cons (pickS (pickS (pickS pick0))) (some_cons (pickS (pickS (pickS pick0))) (some_cons (pickS (pickS (pickS pick0))) (some_cons (pickS (pickS (pickS pick0))) some_nil)))) rfl (by kernel_rfl) (fun _ _ _ h => h) ?_
      refine wa_off 40 (j := 36) rfl rfl rfl rfl rfl (some_cons (pickS (pickS (pickS pick0))) (some_cons (pickS (pickS (pickS pick0))) (some_cons (pickS (pickS (pickS pick0))) (some_cons (pickS (pickS (pickS pick0))) some_nil)))) rfl (by kernel_rfl) (fun _ _ _ h => h) ?_
      refine wa_pure 41 rfl (po_pick_t rfl rfl) (some_cons (pickS (pickS (pickS pick0))) (some_cons (pickS (pickS (pickS pick0))) (some_cons (pickS (pickS (pickS pick0))) (some_cons (pickS (pickS (pickS pick0))) some_nil)))) rfl (by kernel_rfl) (fun _ _ _ h => h) ?_
      refine wa_done (by kernel_rfl) ?_
      exact wj_meet _ () (mtE t1) (sub_cons rfl (sub_cons rfl (sub_cons rfl (sub_cons rfl sub_nil)))) (some_cons (pickS (pickS (pickS (pickS (pickS pick0))))) (some_cons (pickS (pickS (pickS (pickS pick0)))) (some_cons (pickS (pickS (pickS pick0))) (some_cons (pickS (pickS (pickS pick0))) some_nil))))
    refine wa_pure_on 37 (j := 36) rfl rfl rfl rfl (po_move rfl) (some_cons (pickS (pickS (pickS pick0))) (some_cons (pickS (pickS (pickS pick0))) (some_cons (pickS (pickS (pickS pick0))) (some_cons (pickS (pickS (pickS pick0))) some_nil)))) rfl (by kernel_rfl) (fun _ _ _ h => h) ?_
    refine wa_pure_on 39 (j := 36) rfl rfl rfl rfl (po_move rfl) (some_cons (pickS (pickS (pickS pick0))) (some_cons (pickS (pickS (pickS pick0))) (some_cons (pickS (pickS (pickS pick0))) (some_cons (pickS (pickS (pickS pick0))) some_nil)))) rfl (by kernel_rfl) (fun _ _ _ h => h) ?_
    refine wa_1 (i := 38) (by kernel_rfl) ?_
    refine bdO t1 fun v18 hv18 t1 => ?_
    refine ws_call_on (j := 36) rfl rfl rfl rfl (co_c0 fa_9 rfl fun w hw => c_impl_ProductOf w (v5.tmod 8) 0 hv18) (fun _ => (sts_some (some_cons (pickS (pickS (pickS pick0))) (some_cons (pickS (pickS (pickS pick0))) (some_cons (pickS (pickS (pickS pick0))) (some_cons (pickS (pickS (pickS pick0))) some_nil)))))) rfl fun _ => ?_
    refine wa_pure_on 40 (j := 36) rfl rfl rfl rfl (po_neq rfl rfl) (some_cons (pickS (pickS (pickS pick0))) (some_cons (pickS (pickS (pickS pick0))) (some_cons (pickS (pickS (pickS pick0))) (some_cons (pickS (pickS (pickS pick0))) some_nil)))) rfl (by kernel_rfl) (fun _ _ _ h => h) ?_
    refine wa_pure 41 rfl (po_pick_f rfl rfl) (some_cons (pickS (pickS (pickS pick0))) (some_cons (pickS (pickS (pickS pick0))) (some_cons (pickS (pickS (pickS pick0))) (some_cons (pickS (pickS (pickS pick0))) some_nil)))) rfl (by kernel_rfl) (fun _ _ _ h => h) ?_
    refine wa_done (by kernel_rfl) ?_
    exact wj_meet _ () (mtE t1) (sub_cons rfl (sub_cons rfl (sub_cons rfl (sub_cons rfl sub_nil)))) (some_cons (pickS (pickS (pickS (pickS (pickS pick0))))) (some_cons (pickS (pickS (pickS (pickS pick0)))) (some_cons (pickS (pickS (pickS pick0))) (some_cons (pickS (pickS (pickS pick0))) some_nil))))
  intro j1 _ hp
  obtain rfl : j1 = y1 := hp.symm
  refine wq_then ?_
  refine wcO t0 rfl (fun h7 t0 => ?_) fun h7 t0 => ?_
  · skip
    refine wcr ?_
    refine asg rfl rfl ?_
    refine wnt ?_
    refine wc_ret ?_
    refine wq_then_ret ?_
    obtain rfl := Option.some.inj t0
    exact wq_ret1 rfl rfl fun w hw => ⟨rfl, hw.weak some_nil⟩
  refine wc_skip ?_
  refine wq_then ?_
  refine wc_seq ?_
  refine wcr ?_
  refine asg rfl rfl ?_
  refine wnt ?_
  refine gdO t0 fun g1 t0 => ?_
  refine sqO t0 fun y1 l1 t0 => ?_
  refine wj (J := Unit) (X := Unit) (fun z => y1 = .inl z) (fun _ _ => [(3, ptr b1 0), (4, (sl x2)), (5, (sl x3))]) (fun _ _ => [box b1 [.int .i64 v2.Size, (sl x1)], ownF (sl x2) v3, ownF (sl x3) v4, ownF (sl x1) v2.Cells]) ?_ ?_
  · skip
    refine wc_block ?_
    refine wc_forO (X := Unit) l1 (fun k1 s1 x1l => [(3, ptr b1 0), (4, (sl x2)), (5, (sl x3)), (10, .int .i64 ((k1 : Nat) : Int))]) (fun k1 s1 x1l => [box b1 [.int .i64 v2.Size, (sl x1)], ownF (sl x2) v3, ownF (sl x3) v4, ownF (sl x1) v2.Cells]) () (sub_cons rfl (sub_cons rfl (sub_cons rfl (sub_cons rfl sub_nil)))) (some_cons pick0 (some_cons pick0 (some_cons pick0 (some_cons pick0 some_nil)))) fun k1 s1 x1l hN1 l1 => ?_
    by_cases hk1 : k1 < v3.length
    · skip
      refine forO_step l1 hk1 fun _ t1 l1 => ?_
      unfold laws_FnGroups_L1 at t1
      have c1 : (decide (((k1 : Nat) : Int) < ((v3.length : Nat) : Int))) = true := decide_eq_true (by omega)
      refine wc_seq ?_
      refine wcr ?_
      refine mv rfl rfl ?_
      refine mv rfl rfl ?_
      refine wl_pure (po_lenr (rds_own (pickS pick0)) el_28 rfl) rfl ?_
      refine wl_pure (po_lss rfl rfl) rfl ?_
      refine wnt ?_
      refine wc_cond_t rfl c1 ?_
      refine wc_skip ?_
      refine wq_then ?_
      refine wc_seq ?_
      refine wc_block ?_
      refine wcr ?_
      refine mv rfl rfl ?_
      refine mv rfl rfl ?_
      refine mv rfl rfl ?_
      refine wl_pure (po_ixn (k := k1) (rds_own (pickS pick0)) el_28 rfl rfl hk1) rfl ?_
      refine wl_pure (v := .int .i64 (gx v3 k1)) (po_ldf (rds_own (pickS pick0)) tk_3 rfl hk1 rfl) rfl ?_
      refine bdO t1 fun v19 hv19 t1 => ?_
      refine wl_call (co_c0 fa_13 rfl fun w hw => c_laws_has w v4 x3 (Rg.on (rds_own (pickS (pickS pick0))) hw) (gx v3 k1) hv19) rfl fun _ => ?_
      refine wl_pure (po_not rfl) rfl ?_
      refine wnt ?_
      refine wcO t1 rfl (fun h8 t1 => ?_) fun h8 t1 => ?_
      · skip
        refine wcr ?_
        refine asg rfl rfl ?_
        refine wnt ?_
        refine wc_ret ?_
        refine wq_block_ret ?_
        refine wq_then_ret ?_
        refine wq_then_ret ?_
        refine wq_block_ret ?_
        refine wq_then_ret ?_
        refine wq_then_ret ?_
        replace t0 := lpR t0 l1 t1
        obtain rfl := Option.some.inj t0
        exact wq_ret1 rfl rfl fun w hw => ⟨rfl, hw.weak some_nil⟩
      refine wc_skip ?_
      refine wq_block ?_
      refine wq_then ?_
      refine wc_region ?_
      refine mv rfl rfl ?_
      refine wl_pure (po_inc rfl rfl (by omega)) rfl ?_
      refine asg rfl rfl ?_
      refine wl_nil ?_
      exact wq_rnd hk1 (stpN l1 t1) () (sub_cons rfl (sub_cons rfl (sub_cons rfl (sub_cons rfl sub_nil)))) (some_cons pick0 (some_cons pick0 (some_cons pick0 (some_cons pick0 some_nil))))
    have c1 : (decide (((k1 : Nat) : Int) < ((v3.length : Nat) : Int))) = false := decide_eq_false (by omega)
    have en1 := forO_end l1 hk1
    refine wc_seq ?_
    refine wcr ?_
    refine mv rfl rfl ?_
    refine mv rfl rfl ?_
    refine wl_pure (po_lenr (rds_own (pickS pick0)) el_28 rfl) rfl ?_
    refine wl_pure (po_lss rfl rfl) rfl ?_
    refine wnt ?_
    refine wc_cond_f rfl c1 ?_
    refine wc_exit ?_
    refine wq_then_exit ?_
    refine wq_then_exit ?_
    refine wq_block_exit ?_
    exact wj_meet _ () en1 (sub_cons rfl (sub_cons rfl (sub_cons rfl sub_nil))) (some_cons pick0 (some_cons pick0 (some_cons pick0 (some_cons pick0 some_nil))))
  intro e1 _ hp
  replace t0 := sqE (j := e1) t0 hp
  refine wq_then ?_
  refine wc_seq ?_
  refine bdO t0 fun y1 t1 t0 => ?_
  refine wj (J := Bool) (X := Unit) (fun z => y1 = z) (fun z _ => [(2, .bool z)]) (fun _ _ => []) ?_ ?_
  · skip
    refine wc_region ?_
    refine mv rfl rfl ?_
    refine bdO t1 fun v20 hv20 t1 => ?_
    refine wl_call (co_c0 fa_14 rfl fun w hw => c_impl_IsClosed w v3 x2 (Rg.on (rds_own (pickS pick0)) hw) hv20) rfl fun _ => ?_
    refine mv rfl rfl ?_
    refine wlO_ (t := 88) t1 rfl (fun h9 t1 => ?_) fun h9 t1 => ?_
    · skip
      refine wl_guard_on (j := 2) rfl rfl rfl (mv rfl rfl ?_)
      refine bdO t1 fun v21 hv21 t1 => ?_
      refine wl_guard_on (j := 2) rfl rfl rfl (wl_call (co_c0 fa_14 rfl fun w hw => c_impl_IsClosed w v4 x3 (Rg.on (rds_own (pickS (pickS pick0))) hw) hv21) rfl (fun _ => ?_))
      refine wl_pure (po_pick_t rfl rfl) rfl ?_
      refine mv rfl rfl ?_
      refine wlO_ (t := 92) t1 rfl (fun h10 t1 => ?_) fun h10 t1 => ?_
      · skip
        refine wl_guard_on (j := 6) rfl rfl rfl (mv rfl rfl ?_)
        refine wl_guard_on (j := 6) rfl rfl rfl (wl_pure (po_lenr (rds_own (pickS pick0)) el_28 rfl) rfl ?_)
        refine wl_guard_on (j := 6) rfl rfl rfl (wl_pure (v := .agg #[.int .i64 v2.Size, (sl x1)]) (po_load_boxs tk_26 pick0 rfl rfl rfl) rfl ?_)
        refine bdO t1 fun v22 hv22 t1 => ?_
        refine wl_guard_on (j := 6) rfl rfl rfl (wl_call (co_c0 fa_15 rfl fun w hw => c_spec_CountForms w v2 x1 (Rg.on (rds_own (pickS (pickS (pickS pick0)))) hw) hv22) rfl (fun _ => ?_))
        refine wl_guard_on (j := 6) rfl rfl rfl (wl_pure (po_mul rfl rfl) rfl ?_)
        refine wl_guard_on (j := 6) rfl rfl rfl (wl_pure (po_eql rfl rfl) rfl ?_)
        refine wl_pure (po_pick_t rfl rfl) rfl ?_
        refine mv rfl rfl ?_
        refine wlO_ (t := 100) t1 rfl (fun h11 t1 => ?_) fun h11 t1 => ?_
        · skip
          refine wl_guard_on (j := 14) rfl rfl rfl (wl_pure (v := .agg #[.int .i64 v2.Size, (sl x1)]) (po_load_boxs tk_26 pick0 rfl rfl rfl) rfl ?_)
          refine bdO t1 fun v23 hv23 t1 => ?_
          refine wl_guard_on (j := 14) rfl rfl rfl (wl_call (co_c0 fa_16 rfl fun w hw => c_impl_IsMirrored w v2 x1 (Rg.on (rds_own (pickS (pickS (pickS pick0)))) hw) hv23) rfl (fun _ => ?_))
          refine wl_guard_on (j := 14) rfl rfl rfl (mv rfl rfl ?_)
          refine wl_guard_on (j := 14) rfl rfl rfl (wl_pure (po_lenr (rds_own (pickS pick0)) el_28 rfl) rfl ?_)
          refine wl_guard_on (j := 14) rfl rfl rfl (wl_pure (po_gtr rfl rfl) rfl ?_)
          refine wl_guard_on (j := 14) rfl rfl rfl (mv rfl rfl ?_)
          refine wlO_ (t := 106) t1 rfl (fun h12 t1 => ?_) fun h12 t1 => ?_
          · skip
            refine wl_guard_on (j := 20) rfl rfl rfl (mv rfl rfl ?_)
            refine wl_guard_on (j := 20) rfl rfl rfl (mv rfl rfl ?_)
            refine wl_guard_on (j := 20) rfl rfl rfl (wl_pure (po_lenr (rds_own (pickS pick0)) el_28 rfl) rfl ?_)
            refine wl_guard_on (j := 20) rfl rfl rfl (wl_pure (po_sub rfl rfl) rfl ?_)
            refine gdO t1 fun g2 t1 => ?_
            refine wl_guard_on (j := 20) rfl rfl rfl (wl_pure (po_ixr (rds_own (pickS pick0)) el_28 rfl rfl g2.1 g2.2) rfl ?_)
            refine wl_guard_on (j := 20) rfl rfl rfl (wl_pure (v := .int .i64 (gx v3 (((wr (((v3.length : Nat) : Int) - 1))).toNat))) (po_ldf (rds_own (pickS pick0)) tk_3 rfl (ix_lt g2) rfl) rfl ?_)
            refine wl_guard_on (j := 20) rfl rfl rfl (wl_pure (po_geq rfl rfl) rfl ?_)
            refine wl_guard_on (j := 14) rfl rfl rfl (wl_pure (po_pick_t rfl rfl) rfl ?_)
            refine wl_guard_on (j := 14) rfl rfl rfl (wl_pure (po_eql_bool ub_4 rfl rfl) rfl ?_)
            refine wl_pure (po_pick_t rfl rfl) rfl ?_
            refine mv rfl rfl ?_
            refine wlO_ (t := 117) t1 rfl (fun h13 t1 => ?_) fun h13 t1 => ?_
            · skip
              refine bdO t1 fun v24 hv24 t1 => ?_
              refine wl_guard_on (j := 31) rfl rfl rfl (wl_call (co_c1 fa_17 rfl fun w hw => c_impl_StarBlock w hv24) rfl (fun x10 => ?_))
              refine bdO t1 fun v25 hv25 t1 => ?_
              refine wl_guard_on (j := 31) rfl rfl rfl (wl_call (co_c1 fa_6 rfl fun w hw => c_impl_SymmetriesOf w v24 x10 (Rg.on (rds_own pick0) hw) hv25) rfl (fun x11 => ?_))
              refine wl_guard_on (j := 31) rfl rfl rfl (wl_pure (po_lenr (rds_own pick0) el_28 rfl) rfl ?_)
              refine wl_guard_on (j := 31) rfl rfl rfl (wl_pure (po_eql rfl rfl) rfl ?_)
              refine wl_pure (po_pick_t rfl rfl) rfl ?_
              refine mv rfl rfl ?_
              refine wlO_ (t := 123) t1 rfl (fun h14 t1 => ?_) fun h14 t1 => ?_
              · skip
                refine wl_guard_on (j := 37) rfl rfl rfl (wl_eff (eo_buildSlice rfl (sb_28_2 0 1)) rfl (fun b2 => ?_))
                refine bdO t1 fun v26 hv26 t1 => ?_
                refine wl_guard_on (j := 37) rfl rfl rfl (wl_call (co_c0 fa_14 rfl fun w hw => c_impl_IsClosed w ([0, 1] : List Int) (⟨some ⟨b2, 0, none⟩, 2, 2⟩ : Hd) (Rg.on (rds_own (pick_box_own pick0 (n := 2) (xs := ([0, 1] : List Int)) rfl rfl (by unfold maxLen; omega))) hw) hv26) rfl (fun _ => ?_))
                refine wl_guard_on (j := 37) rfl rfl rfl (wl_pure (po_not rfl) rfl ?_)
                refine wl_pure (po_pick_t rfl rfl) rfl ?_
                refine asg rfl rfl ?_
                refine wl_nil ?_
                exact wj_meet _ () (mtE t1) (sub_cons rfl sub_nil) some_nil
              refine wl_guard_off (j := 37) rfl rfl rfl rfl rfl ?_
              refine wl_guard_off (j := 37) rfl rfl rfl rfl rfl ?_
              refine wl_guard_off (j := 37) rfl rfl rfl rfl rfl ?_
              refine wl_pure (po_pick_f rfl rfl) rfl ?_
              refine asg rfl rfl ?_
              refine wl_nil ?_
              exact wj_meet _ () (mtE t1) (sub_cons rfl sub_nil) some_nil
            refine wl_guard_off (j := 31) rfl rfl rfl rfl rfl ?_
            refine wl_guard_off (j := 31) rfl rfl rfl rfl rfl ?_
            refine wl_guard_off (j := 31) rfl rfl rfl rfl rfl ?_
            refine wl_guard_off (j := 31) rfl rfl rfl rfl rfl ?_
            refine wl_pure (po_pick_f rfl rfl) rfl ?_
            refine mv rfl rfl ?_
            refine wl_guard_off (j := 37) rfl rfl rfl rfl rfl ?_
            refine wl_guard_off (j := 37) rfl rfl rfl rfl rfl ?_
            refine wl_guard_off (j := 37) rfl rfl rfl rfl rfl ?_
            refine wl_pure (po_pick_f rfl rfl) rfl ?_
            refine asg rfl rfl ?_
            refine wl_nil ?_
            exact wj_meet _ () (mtE t1) (sub_cons rfl sub_nil) some_nil
          refine wl_guard_off (j := 20) rfl rfl rfl rfl rfl ?_
          refine wl_guard_off (j := 20) rfl rfl rfl rfl rfl ?_
          refine wl_guard_off (j := 20) rfl rfl rfl rfl rfl ?_
          refine wl_guard_off (j := 20) rfl rfl rfl rfl rfl ?_
          refine wl_guard_off (j := 20) rfl rfl rfl rfl rfl ?_
          refine wl_guard_off (j := 20) rfl rfl rfl rfl rfl ?_
          refine wl_guard_off (j := 20) rfl rfl rfl rfl rfl ?_
          refine wl_guard_on (j := 14) rfl rfl rfl (wl_pure (po_pick_f rfl rfl) rfl ?_)
          refine wl_guard_on (j := 14) rfl rfl rfl (wl_pure (po_eql_bool ub_4 rfl rfl) rfl ?_)
          refine wl_pure (po_pick_t rfl rfl) rfl ?_
          refine mv rfl rfl ?_
          refine wlO_ (t := 117) t1 rfl (fun h15 t1 => ?_) fun h15 t1 => ?_
          · skip
            refine bdO t1 fun v27 hv27 t1 => ?_
            refine wl_guard_on (j := 31) rfl rfl rfl (wl_call (co_c1 fa_17 rfl fun w hw => c_impl_StarBlock w hv27) rfl (fun x12 => ?_))
            refine bdO t1 fun v28 hv28 t1 => ?_
            refine wl_guard_on (j := 31) rfl rfl rfl (wl_call (co_c1 fa_6 rfl fun w hw => c_impl_SymmetriesOf w v27 x12 (Rg.on (rds_own pick0) hw) hv28) rfl (fun x13 => ?_))
            refine wl_guard_on (j := 31) rfl rfl rfl (wl_pure (po_lenr (rds_own pick0) el_28 rfl) rfl ?_)
            refine wl_guard_on (j := 31) rfl rfl rfl (wl_pure (po_eql rfl rfl) rfl ?_)
            refine wl_pure (po_pick_t rfl rfl) rfl ?_
            refine mv rfl rfl ?_
            refine wlO_ (t := 123) t1 rfl (fun h16 t1 => ?_) fun h16 t1 => ?_
            · skip
              refine wl_guard_on (j := 37) rfl rfl rfl (wl_eff (eo_buildSlice rfl (sb_28_2 0 1)) rfl (fun b3 => ?_))
              refine bdO t1 fun v29 hv29 t1 => ?_
              refine wl_guard_on (j := 37) rfl rfl rfl (wl_call (co_c0 fa_14 rfl fun w hw => c_impl_IsClosed w ([0, 1] : List Int) (⟨some ⟨b3, 0, none⟩, 2, 2⟩ : Hd) (Rg.on (rds_own (pick_box_own pick0 (n := 2) (xs := ([0, 1] : List Int)) rfl rfl (by unfold maxLen; omega))) hw) hv29) rfl (fun _ => ?_))
              refine wl_guard_on (j := 37) rfl rfl rfl (wl_pure (po_not rfl) rfl ?_)
              refine wl_pure (po_pick_t rfl rfl) rfl ?_
              refine asg rfl rfl ?_
              refine wl_nil ?_
              exact wj_meet _ () (mtE t1) (sub_cons rfl sub_nil) some_nil
            refine wl_guard_off (j := 37) rfl rfl rfl rfl rfl ?_
            refine wl_guard_off (j := 37) rfl rfl rfl rfl rfl ?_
            refine wl_guard_off (j := 37) rfl rfl rfl rfl rfl ?_
            refine wl_pure (po_pick_f rfl rfl) rfl ?_
            refine asg rfl rfl ?_
            refine wl_nil ?_
            exact wj_meet _ () (mtE t1) (sub_cons rfl sub_nil) some_nil
          refine wl_guard_off (j := 31) rfl rfl rfl rfl rfl ?_
          refine wl_guard_off (j := 31) rfl rfl rfl rfl rfl ?_
          refine wl_guard_off (j := 31) rfl rfl rfl rfl rfl ?_
          refine wl_guard_off (j := 31) rfl rfl rfl rfl rfl ?_
          refine wl_pure (po_pick_f rfl rfl) rfl ?_
          refine mv rfl rfl ?_
          refine wl_guard_off (j := 37) rfl rfl rfl rfl rfl ?_
          refine wl_guard_off (j := 37) rfl rfl rfl rfl rfl ?_
          refine wl_guard_off (j := 37) rfl rfl rfl rfl rfl ?_
          refine wl_pure (po_pick_f rfl rfl) rfl ?_
          refine asg rfl rfl ?_
          refine wl_nil ?_
          exact wj_meet _ () (mtE t1) (sub_cons rfl sub_nil) some_nil
        refine wl_guard_off (j := 14) rfl rfl rfl rfl rfl ?_
        refine wl_guard_off (j := 14) rfl rfl rfl rfl rfl ?_
        refine wl_guard_off (j := 14) rfl rfl rfl rfl rfl ?_
        refine wl_guard_off (j := 14) rfl rfl rfl rfl rfl ?_
        refine wl_guard_off (j := 14) rfl rfl rfl rfl rfl ?_
        refine wl_guard_off (j := 14) rfl rfl rfl rfl rfl ?_
        refine wl_guard_undef (j := 20) rfl rfl rfl rfl ?_
        refine wl_guard_undef (j := 20) rfl rfl rfl rfl ?_
        refine wl_guard_undef (j := 20) rfl rfl rfl rfl ?_
        refine wl_guard_undef (j := 20) rfl rfl rfl rfl ?_
        refine wl_guard_undef (j := 20) rfl rfl rfl rfl ?_
        refine wl_guard_undef (j := 20) rfl rfl rfl rfl ?_
        refine wl_guard_undef (j := 20) rfl rfl rfl rfl ?_
        refine wl_guard_off (j := 14) rfl rfl rfl rfl rfl ?_
        refine wl_guard_off (j := 14) rfl rfl rfl rfl rfl ?_
        refine wl_pure (po_pick_f rfl rfl) rfl ?_
        refine mv rfl rfl ?_
        refine wl_guard_off (j := 31) rfl rfl rfl rfl rfl ?_
        refine wl_guard_off (j := 31) rfl rfl rfl rfl rfl ?_
        refine wl_guard_off (j := 31) rfl rfl rfl rfl rfl ?_
        refine wl_guard_off (j := 31) rfl rfl rfl rfl rfl ?_
        refine wl_pure (po_pick_f rfl rfl) rfl ?_
        refine mv rfl rfl ?_
        refine wl_guard_off (j := 37) rfl rfl rfl rfl rfl ?_
        refine wl_guard_off (j := 37) rfl rfl rfl rfl rfl ?_
        refine wl_guard_off (j := 37) rfl rfl rfl rfl rfl ?_
        refine wl_pure (po_pick_f rfl rfl) rfl ?_
        refine asg rfl rfl ?_
        refine wl_nil ?_
        exact wj_meet _ () (mtE t1) (sub_cons rfl sub_nil) some_nil
      refine wl_guard_off (j := 6) rfl rfl rfl rfl rfl ?_
      refine wl_guard_off (j := 6) rfl rfl rfl rfl rfl ?_
      refine wl_guard_off (j := 6) rfl rfl rfl rfl rfl ?_
      refine wl_guard_off (j := 6) rfl rfl rfl rfl rfl ?_
      refine wl_guard_off (j := 6) rfl rfl rfl rfl rfl ?_
      refine wl_guard_off (j := 6) rfl rfl rfl rfl rfl ?_
      refine wl_pure (po_pick_f rfl rfl) rfl ?_
      refine mv rfl rfl ?_
      refine wl_guard_off (j := 14) rfl rfl rfl rfl rfl ?_
      refine wl_guard_off (j := 14) rfl rfl rfl rfl rfl ?_
      refine wl_guard_off (j := 14) rfl rfl rfl rfl rfl ?_
      refine wl_guard_off (j := 14) rfl rfl rfl rfl rfl ?_
      refine wl_guard_off (j := 14) rfl rfl rfl rfl rfl ?_
      refine wl_guard_off (j := 14) rfl rfl rfl rfl rfl ?_
      refine wl_guard_undef (j := 20) rfl rfl rfl rfl ?_
      refine wl_guard_undef (j := 20) rfl rfl rfl rfl ?_
      refine wl_guard_undef (j := 20) rfl rfl rfl rfl ?_
      refine wl_guard_undef (j := 20) rfl rfl rfl rfl ?_
      refine wl_guard_undef (j := 20) rfl rfl rfl rfl ?_
      refine wl_guard_undef (j := 20) rfl rfl rfl rfl ?_
      refine wl_guard_undef (j := 20) rfl rfl rfl rfl ?_
      refine wl_guard_off (j := 14) rfl rfl rfl rfl rfl ?_
      refine wl_guard_off (j := 14) rfl rfl rfl rfl rfl ?_
      refine wl_pure (po_pick_f rfl rfl) rfl ?_
      refine mv rfl rfl ?_
      refine wl_guard_off (j := 31) rfl rfl rfl rfl rfl ?_
      refine wl_guard_off (j := 31) rfl rfl rfl rfl rfl ?_
      refine wl_guard_off (j := 31) rfl rfl rfl rfl rfl ?_
      refine wl_guard_off (j := 31) rfl rfl rfl rfl rfl ?_
      refine wl_pure (po_pick_f rfl rfl) rfl ?_
      refine mv rfl rfl ?_
      refine wl_guard_off (j := 37) rfl rfl rfl rfl rfl ?_
      refine wl_guard_off (j := 37) rfl rfl rfl rfl rfl ?_
      refine wl_guard_off (j := 37) rfl rfl rfl rfl rfl ?_
      refine wl_pure (po_pick_f rfl rfl) rfl ?_
      refine asg rfl rfl ?_
      refine wl_nil ?_
      exact wj_meet _ () (mtE t1) (sub_cons rfl sub_nil) some_nil
    refine wl_guard_off (j := 2) rfl rfl rfl rfl rfl ?_
    refine wl_guard_off (j := 2) rfl rfl rfl rfl rfl ?_
    refine wl_pure (po_pick_f rfl rfl) rfl ?_
    refine mv rfl rfl ?_
    refine wl_guard_off (j := 6) rfl rfl rfl rfl rfl ?_
    refine wl_guard_off (j := 6) rfl rfl rfl rfl rfl ?_
    refine wl_guard_off (j := 6) rfl rfl rfl rfl rfl ?_
    refine wl_guard_off (j := 6) rfl rfl rfl rfl rfl ?_
    refine wl_guard_off (j := 6) rfl rfl rfl rfl rfl ?_
    refine wl_guard_off (j := 6) rfl rfl rfl rfl rfl ?_
    refine wl_pure (po_pick_f rfl rfl) rfl ?_
    refine mv rfl rfl ?_
    refine wl_guard_off (j := 14) rfl rfl rfl rfl rfl ?_
    refine wl_guard_off (j := 14) rfl rfl rfl rfl rfl ?_
    refine wl_guard_off (j := 14) rfl rfl rfl rfl rfl ?_
    refine wl_guard_off (j := 14) rfl rfl rfl rfl rfl ?_
    refine wl_guard_off (j := 14) rfl rfl rfl rfl rfl ?_
    refine wl_guard_off (j := 14) rfl rfl rfl rfl rfl ?_
    refine wl_guard_undef (j := 20) rfl rfl rfl rfl ?_
    refine wl_guard_undef (j := 20) rfl rfl rfl rfl ?_
    refine wl_guard_undef (j := 20) rfl rfl rfl rfl ?_
    refine wl_guard_undef (j := 20) rfl rfl rfl rfl ?_
    refine wl_guard_undef (j := 20) rfl rfl rfl rfl ?_
    refine wl_guard_undef (j := 20) rfl rfl rfl rfl ?_
    refine wl_guard_undef (j := 20) rfl rfl rfl rfl ?_
    refine wl_guard_off (j := 14) rfl rfl rfl rfl rfl ?_
    refine wl_guard_off (j := 14) rfl rfl rfl rfl rfl ?_
    refine wl_pure (po_pick_f rfl rfl) rfl ?_
    refine mv rfl rfl ?_
    refine wl_guard_off (j := 31) rfl rfl rfl rfl rfl ?_
    refine wl_guard_off (j := 31) rfl rfl rfl rfl rfl ?_
    refine wl_guard_off (j := 31) rfl rfl rfl rfl rfl ?_
    refine wl_guard_off (j := 31) rfl rfl rfl rfl rfl ?_
    refine wl_pure (po_pick_f rfl rfl) rfl ?_
    refine mv rfl rfl ?_
    refine wl_guard_off (j := 37) rfl rfl rfl rfl rfl ?_
    refine wl_guard_off (j := 37) rfl rfl rfl rfl rfl ?_
    refine wl_guard_off (j := 37) rfl rfl rfl rfl rfl ?_
    refine wl_pure (po_pick_f rfl rfl) rfl ?_
    refine asg rfl rfl ?_
    refine wl_nil ?_
    exact wj_meet _ () (mtE t1) (sub_cons rfl sub_nil) some_nil
  intro j2 _ hp
  obtain rfl : j2 = y1 := hp.symm
  refine wq_then ?_
  refine wc_ret ?_
  obtain rfl := Option.some.inj t0
  exact wq_ret1 rfl rfl fun w hw => ⟨rfl, hw.weak some_nil⟩

end Go.Proofs.Ytmkmlnfkokfmaac
