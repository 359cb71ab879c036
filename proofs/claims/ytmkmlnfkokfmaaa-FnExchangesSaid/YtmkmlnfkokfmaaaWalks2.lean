/-
  Each Go function computes its Lean function (part 2).
-/
import Derived.Test.YtmkmlnfkokfmaaaWalks1
namespace Go.Proofs.Ytmkmlnfkokfmaaa
open Go Go.RowKit Go.Proofs
set_option maxRecDepth 100000

theorem c_spec_FirstUse (w : World) (a_b : GBlock) (v0a : Hd) (r0 : rdF w (dm w []) (sl v0a) a_b.Cells) {r : List Int} (t0 : spec_FirstUse a_b = some r) : Calls Try.prog 19 #[.agg #[.int .i64 a_b.Size, (sl v0a)]] w fun e w' => ∃ x : Hd, e = .returned ((sl x)) ∧ SH w [] [ownF (sl x) r] w' := by
  refine calls_of_wc (args := [_]) Try.func19 rfl Try.ntmps19 rfl ?_
  unfold spec_FirstUse at t0
  refine wcr ?_
  refine wl_eff (eo_box rfl rfl) rfl fun b1 => ?_
  refine asg rfl rfl ?_
  refine wnt ?_
  refine wc_seq ?_
  refine wcr ?_
  refine wl_pure (v := .agg #[.int .i64 a_b.Size, (sl v0a)]) (po_load_boxs tk_26 pick0 rfl rfl rfl) rfl ?_
  refine bdO t0 fun v1 hv1 t0 => ?_
  refine wl_call (co_c0 fa_7 rfl fun w hw => c_spec_BlockOk w a_b v0a (Rg.on (rds_arg r0) hw) hv1) rfl fun _ => ?_
  refine wl_pure (po_not rfl) rfl ?_
  refine wnt ?_
  refine wcO t0 rfl (fun h1 t0 => ?_) fun h1 t0 => ?_
  · skip
    refine wcr ?_
    refine wl_eff (eo_buildSlice rfl sb_27_0) rfl fun b2 => ?_
    refine asg rfl rfl ?_
    refine wnt ?_
    refine wc_ret ?_
    refine wq_then_ret ?_
    obtain rfl := Option.some.inj t0
    exact wq_ret1 rfl rfl fun w hw => ⟨(⟨some ⟨b2, 0, none⟩, 0, 0⟩ : Hd), rfl, hw.weak (some_cons (pick_box_own pick0 (n := 0) (xs := ([] : List Int)) rfl rfl (by unfold maxLen; omega)) some_nil)⟩
  refine wc_skip ?_
  refine wq_then ?_
  refine wcr ?_
  refine wl_eff (eo_buildSlice rfl sb_27_0) rfl fun b3 => ?_
  refine asg rfl rfl ?_
  refine wnt ?_
  refine wc_seq ?_
  refine wcr ?_
  refine asg rfl rfl ?_
  refine wnt ?_
  refine lpO_inv t0 fun y1 l1 t0 => ?_
  refine wj (J := List Int) (X := Hd) (fun z => y1 = z) (fun _ x => [(1, ptr b1 0), (3, (sl x))]) (fun z x => [box b1 [.int .i64 a_b.Size, (sl v0a)], ownF (sl x) z]) ?_ ?_
  · skip
    refine wc_block ?_
    refine wc_forO (X := Hd) l1 (fun k1 s1 x1l => [(1, ptr b1 0), (3, (sl x1l)), (4, .int .i64 ((k1 : Nat) : Int))]) (fun k1 s1 x1l => [box b1 [.int .i64 a_b.Size, (sl v0a)], ownF (sl x1l) s1]) (⟨some ⟨b3, 0, none⟩, 0, 0⟩ : Hd) (sub_cons rfl (sub_cons rfl (sub_cons rfl sub_nil))) (some_cons (pickS pick0) (some_cons (pick_box_own pick0 (n := 0) (xs := ([] : List Int)) rfl rfl (by unfold maxLen; omega)) some_nil)) fun k1 s1 x1l hN1 l1 => ?_
    by_cases hk1 : k1 < 6
    · skip
      refine forO_step l1 hk1 fun _ t1 l1 => ?_
      unfold spec_FirstUse_L1 at t1
      have c1 : (decide (((k1 : Nat) : Int) < 6)) = true := decide_eq_true (by omega)
      refine wc_seq ?_
      refine wcr ?_
      refine mv rfl rfl ?_
      refine wl_pure (po_lss rfl rfl) rfl ?_
      refine wnt ?_
      refine wc_cond_t rfl c1 ?_
      refine wc_skip ?_
      refine wq_then ?_
      refine wc_seq ?_
      refine wc_block ?_
      refine wc_region ?_
      refine mv rfl rfl ?_
      refine wl_eff (eo_buildSlice rfl (sb_27_1 (-1))) rfl fun b4 => ?_
      refine gdO t1 fun g1 t1 => ?_
      refine wl_eff (eo_append (xs := s1) (ys := ([(-1)] : List Int)) ak_27 (pickS (pickS pick0)) rfl rfl (slin_rd fun _ g => Rg.on (rds_own (pick_box_own pick0 (n := 1) (xs := ([(-1)] : List Int)) rfl rfl (by unfold maxLen; omega))) g) g1) rfl fun x2 => ?_
      refine asg rfl rfl ?_
      refine wl_nil ?_
      refine wq_block ?_
      refine wq_then ?_
      refine wc_region ?_
      refine mv rfl rfl ?_
      refine wl_pure (po_inc rfl rfl (by omega)) rfl ?_
      refine asg rfl rfl ?_
      refine wl_nil ?_
      exact wq_rnd hk1 (stpN l1 t1) x2 (sub_cons rfl (sub_cons rfl (sub_cons rfl sub_nil))) (some_cons (pickS (pickS pick0)) (some_cons pick0 some_nil))
    have c1 : (decide (((k1 : Nat) : Int) < 6)) = false := decide_eq_false (by omega)
    have en1 := forO_end l1 hk1
    refine wc_seq ?_
    refine wcr ?_
    refine mv rfl rfl ?_
    refine wl_pure (po_lss rfl rfl) rfl ?_
    refine wnt ?_
    refine wc_cond_f rfl c1 ?_
    refine wc_exit ?_
    refine wq_then_exit ?_
    refine wq_then_exit ?_
    refine wq_block_exit ?_
    exact wj_meet _ x1l (Sum.inl.inj en1) (sub_cons rfl (sub_cons rfl sub_nil)) (some_cons pick0 (some_cons pick0 some_nil))
  intro e1 x1 hp
  obtain rfl : e1 = y1 := hp.symm
  refine wq_then ?_
  refine wcr ?_
  refine asg rfl rfl ?_
  refine wnt ?_
  refine wc_seq ?_
  refine wcr ?_
  refine asg rfl rfl ?_
  refine wnt ?_
  refine gdO t0 fun g2 t0 => ?_
  refine lpO_inv t0 fun y1 l1 t0 => ?_
  refine wj (J := (List Int) × Int) (X := Unit) (fun z => y1 = z) (fun z _ => [(3, (sl x1)), (5, .int .i64 z.2)]) (fun z _ => [ownF (sl x1) z.1]) ?_ ?_
  · skip
    refine wc_block ?_
    refine wc_forO (X := Unit) l1 (fun k2 s2 x2l => [(1, ptr b1 0), (3, (sl x1)), (5, .int .i64 s2.2), (6, .int .i64 ((k2 : Nat) : Int))]) (fun k2 s2 x2l => [box b1 [.int .i64 a_b.Size, (sl v0a)], ownF (sl x1) s2.1]) () (sub_cons rfl (sub_cons rfl (sub_cons rfl (sub_cons rfl sub_nil)))) (some_cons pick0 (some_cons pick0 some_nil)) fun k2 s2 x2l hN2 l1 => ?_
    by_cases hk2 : k2 < ((wr (2 * ((a_b.Cells.length : Nat) : Int)))).toNat
    · skip
      refine forO_step l1 hk2 fun _ t1 l1 => ?_
      unfold spec_FirstUse_L2 at t1
      have c2 : (decide (((k2 : Nat) : Int) < (wr (2 * ((a_b.Cells.length : Nat) : Int))))) = true := decide_eq_true (by omega)
      refine wc_seq ?_
      refine wcr ?_
      refine mv rfl rfl ?_
      refine wl_pure (po_fld fo_26_1 rfl) rfl ?_
      refine wl_pure (v := (sl v0a)) (po_load_box tk_24 pick0 rfl rfl) rfl ?_
      refine wl_pure (po_lenr (rds_arg r0) el_24 rfl) rfl ?_
      refine wl_pure (po_mul rfl rfl) rfl ?_
      refine wl_pure (po_lss rfl rfl) rfl ?_
      refine wnt ?_
      refine wc_cond_t rfl c2 ?_
      refine wc_skip ?_
      refine wq_then ?_
      refine wc_seq ?_
      refine wc_block ?_
      refine wcr ?_
      refine wl_pure (po_fld fo_26_1 rfl) rfl ?_
      refine wl_pure (v := (sl v0a)) (po_load_box tk_24 pick0 rfl rfl) rfl ?_
      refine mv rfl rfl ?_
      refine wl_pure (po_quo rfl rfl (by decide)) rfl ?_
      refine gdO t1 fun g3 t1 => ?_
      refine wl_pure (po_ixr (rds_arg r0) el_24 rfl rfl g3.1 g3.2) rfl ?_
      refine wl_pure (po_sfldr (rds_arg r0) (ix_lt g3) fo_41_1 rfl) rfl ?_
      refine wl_pure (v := .int .i64 ((gx a_b.Cells (((wr (((k2 : Nat) : Int).tdiv 2))).toNat)).A)) (po_ldf (rds_arg r0) tk_3 rfl (ix_lt g3) rfl) rfl ?_
      refine asg rfl rfl ?_
      refine wnt ?_
      refine wc_seq ?_
      refine wcr ?_
      refine mv rfl rfl ?_
      refine wl_pure (po_rem rfl rfl (by decide)) rfl ?_
      refine wl_pure (po_eql rfl rfl) rfl ?_
      refine wnt ?_
      refine wc_join (X := Unit) (fun _ => True) (fun _ => [(1, ptr b1 0), (3, (sl x1)), (5, .int .i64 s2.2), (6, .int .i64 ((k2 : Nat) : Int)), (7, .int .i64 (bif ((((k2 : Nat) : Int).tmod 2) == 1) then (gx a_b.Cells (((wr (((k2 : Nat) : Int).tdiv 2))).toNat)).B else (gx a_b.Cells (((wr (((k2 : Nat) : Int).tdiv 2))).toNat)).A))]) (fun _ => [box b1 [.int .i64 a_b.Size, (sl v0a)], ownF (sl x1) s2.1]) ?_ ?_
      · skip
        refine wc_cond rfl (fun h2 => ?_) fun h2 => ?_
        · skip
          refine wc_region ?_
          refine wl_pure (po_fld fo_26_1 rfl) rfl ?_
          refine wl_pure (v := (sl v0a)) (po_load_box tk_24 pick0 rfl rfl) rfl ?_
          refine mv rfl rfl ?_
          refine wl_pure (po_quo rfl rfl (by decide)) rfl ?_
          refine wl_pure (po_ixr (rds_arg r0) el_24 rfl rfl g3.1 g3.2) rfl ?_
          refine wl_pure (po_sfldr (rds_arg r0) (ix_lt g3) fo_41_2 rfl) rfl ?_
          refine wl_pure (v := .int .i64 ((gx a_b.Cells (((wr (((k2 : Nat) : Int).tdiv 2))).toNat)).B)) (po_ldf (rds_arg r0) tk_3 rfl (ix_lt g3) rfl) rfl ?_
          refine asg rfl rfl ?_
          refine wl_nil ?_
          exact wq_meet () trivial (sub_cons rfl (sub_cons rfl (sub_cons rfl (sub_cons rfl (sub_i rfl (by simp only [h2, cond_true]) sub_nil))))) (some_cons pick0 (some_cons pick0 some_nil))
        refine wc_skip ?_
        exact wq_meet () trivial (sub_cons rfl (sub_cons rfl (sub_cons rfl (sub_cons rfl (sub_i rfl (by simp only [h2, cond_false]) sub_nil))))) (some_cons pick0 (some_cons pick0 some_nil))
      intro _ _
      refine wq_then ?_
      refine wcr ?_
      refine mv rfl rfl ?_
      refine mv rfl rfl ?_
      refine gdO t1 fun g4 t1 => ?_
      refine wl_pure (po_ixr (rds_own (pickS pick0)) el_27 rfl rfl g4.1 g4.2) rfl ?_
      refine wl_pure (v := .int .i64 (gx s2.1 (((bif ((((k2 : Nat) : Int).tmod 2) == 1) then (gx a_b.Cells (((wr (((k2 : Nat) : Int).tdiv 2))).toNat)).B else (gx a_b.Cells (((wr (((k2 : Nat) : Int).tdiv 2))).toNat)).A)).toNat))) (po_ldf (rds_own (pickS pick0)) tk_3 rfl (ix_lt g4) rfl) rfl ?_
      refine wl_pure (po_lss rfl rfl) rfl ?_
      refine wnt ?_
      refine wc_join (X := Unit) (fun _ => True) (fun _ => [(1, ptr b1 0), (3, (sl x1)), (5, .int .i64 (bif (decide ((gx s2.1 (((bif ((((k2 : Nat) : Int).tmod 2) == 1) then (gx a_b.Cells (((wr (((k2 : Nat) : Int).tdiv 2))).toNat)).B else (gx a_b.Cells (((wr (((k2 : Nat) : Int).tdiv 2))).toNat)).A)).toNat)) < 0)) then (wr (s2.2 + 1)) else s2.2)), (6, .int .i64 ((k2 : Nat) : Int))]) (fun _ => [box b1 [.int .i64 a_b.Size, (sl v0a)], ownF (sl x1) (bif (decide ((gx s2.1 (((bif ((((k2 : Nat) : Int).tmod 2) == 1) then (gx a_b.Cells (((wr (((k2 : Nat) : Int).tdiv 2))).toNat)).B else (gx a_b.Cells (((wr (((k2 : Nat) : Int).tdiv 2))).toNat)).A)).toNat)) < 0)) then (s2.1.set (((bif ((((k2 : Nat) : Int).tmod 2) == 1) then (gx a_b.Cells (((wr (((k2 : Nat) : Int).tdiv 2))).toNat)).B else (gx a_b.Cells (((wr (((k2 : Nat) : Int).tdiv 2))).toNat)).A)).toNat) s2.2) else s2.1)]) ?_ ?_
      · skip
        refine wc_cond rfl (fun h3 => ?_) fun h3 => ?_
        · skip
          refine wcr ?_
          refine mv rfl rfl ?_
          refine mv rfl rfl ?_
          refine mv rfl rfl ?_
          refine wl_pure (po_ixr (rds_own (pickS pick0)) el_27 rfl rfl g4.1 g4.2) rfl ?_
          refine wl_skipop (so_own (x' := s2.2) tk_3 (pickS pick0) rfl rfl rfl rfl rfl rfl (ix_lt g4) rfl) ?_
          refine wnt ?_
          refine wc_region ?_
          refine mv rfl rfl ?_
          refine wl_pure (po_add rfl rfl) rfl ?_
          refine asg rfl rfl ?_
          refine wl_nil ?_
          exact wq_meet () trivial (sub_cons rfl (sub_cons rfl (sub_i rfl (by simp only [h3, cond_true]) (sub_cons rfl sub_nil)))) (some_cons (pickS pick0) (some_cons (by simp only [h3, cond_true]; exact pick0) some_nil))
        refine wc_skip ?_
        exact wq_meet () trivial (sub_cons rfl (sub_cons rfl (sub_i rfl (by simp only [h3, cond_false]) (sub_cons rfl sub_nil)))) (some_cons pick0 (some_cons (by simp only [h3, cond_false]; exact pick0) some_nil))
      intro _ _
      refine wq_block ?_
      refine wq_then ?_
      refine wc_region ?_
      refine mv rfl rfl ?_
      refine wl_pure (po_inc rfl rfl (by omega)) rfl ?_
      refine asg rfl rfl ?_
      refine wl_nil ?_
      exact wq_rnd hk2 (stpN l1 t1) () (sub_cons rfl (sub_cons rfl (sub_cons rfl (sub_cons rfl sub_nil)))) (some_cons pick0 (some_cons pick0 some_nil))
    have c2 : (decide (((k2 : Nat) : Int) < (wr (2 * ((a_b.Cells.length : Nat) : Int))))) = false := decide_eq_false (by omega)
    have en2 := forO_end l1 hk2
    refine wc_seq ?_
    refine wcr ?_
    refine mv rfl rfl ?_
    refine wl_pure (po_fld fo_26_1 rfl) rfl ?_
    refine wl_pure (v := (sl v0a)) (po_load_box tk_24 pick0 rfl rfl) rfl ?_
    refine wl_pure (po_lenr (rds_arg r0) el_24 rfl) rfl ?_
    refine wl_pure (po_mul rfl rfl) rfl ?_
    refine wl_pure (po_lss rfl rfl) rfl ?_
    refine wnt ?_
    refine wc_cond_f rfl c2 ?_
    refine wc_exit ?_
    refine wq_then_exit ?_
    refine wq_then_exit ?_
    refine wq_block_exit ?_
    exact wj_meet _ () (Sum.inl.inj en2) (sub_cons rfl (sub_cons rfl sub_nil)) (some_cons (pickS pick0) some_nil)
  intro e2 _ hp
  obtain rfl : e2 = y1 := hp.symm
  refine wq_then ?_
  refine wc_seq ?_
  refine wcr ?_
  refine asg rfl rfl ?_
  refine wnt ?_
  refine lpO_inv t0 fun y1 l1 t0 => ?_
  refine wj (J := (List Int) × Int) (X := Unit) (fun z => y1 = z) (fun _ _ => [(3, (sl x1))]) (fun z _ => [ownF (sl x1) z.1]) ?_ ?_
  · skip
    refine wc_block ?_
    refine wc_forO (X := Unit) l1 (fun k3 s3 x3l => [(3, (sl x1)), (5, .int .i64 s3.2), (8, .int .i64 ((k3 : Nat) : Int))]) (fun k3 s3 x3l => [ownF (sl x1) s3.1]) () (sub_cons rfl (sub_cons rfl (sub_cons rfl sub_nil))) (some_cons pick0 some_nil) fun k3 s3 x3l hN3 l1 => ?_
    by_cases hk3 : k3 < 6
    · skip
      refine forO_step l1 hk3 fun _ t1 l1 => ?_
      unfold spec_FirstUse_L3 at t1
      have c3 : (decide (((k3 : Nat) : Int) < 6)) = true := decide_eq_true (by omega)
      refine wc_seq ?_
      refine wcr ?_
      refine mv rfl rfl ?_
      refine wl_pure (po_lss rfl rfl) rfl ?_
      refine wnt ?_
      refine wc_cond_t rfl c3 ?_
      refine wc_skip ?_
      refine wq_then ?_
      refine wc_seq ?_
      refine wc_block ?_
      refine wcr ?_
      refine mv rfl rfl ?_
      refine mv rfl rfl ?_
      refine gdO t1 fun g5 t1 => ?_
      refine wl_pure (po_ixn (k := k3) (rds_own pick0) el_27 rfl rfl g5) rfl ?_
      refine wl_pure (v := .int .i64 (gx s3.1 k3)) (po_ldf (rds_own pick0) tk_3 rfl g5 rfl) rfl ?_
      refine wl_pure (po_lss rfl rfl) rfl ?_
      refine wnt ?_
      refine wc_join (X := Unit) (fun _ => True) (fun _ => [(3, (sl x1)), (5, .int .i64 (bif (decide ((gx s3.1 k3) < 0)) then (wr (s3.2 + 1)) else s3.2)), (8, .int .i64 ((k3 : Nat) : Int))]) (fun _ => [ownF (sl x1) (bif (decide ((gx s3.1 k3) < 0)) then (s3.1.set k3 s3.2) else s3.1)]) ?_ ?_
      · skip
        refine wc_cond rfl (fun h4 => ?_) fun h4 => ?_
        · skip
          refine wcr ?_
          refine mv rfl rfl ?_
          refine mv rfl rfl ?_
          refine mv rfl rfl ?_
          refine wl_pure (po_ixn (k := k3) (rds_own pick0) el_27 rfl rfl g5) rfl ?_
          refine wl_skipop (so_own (x' := s3.2) tk_3 pick0 rfl rfl rfl rfl rfl rfl g5 rfl) ?_
          refine wnt ?_
          refine wc_region ?_
          refine mv rfl rfl ?_
          refine wl_pure (po_add rfl rfl) rfl ?_
          refine asg rfl rfl ?_
          refine wl_nil ?_
          exact wq_meet () trivial (sub_cons rfl (sub_i rfl (by simp only [h4, cond_true]) (sub_cons rfl sub_nil))) (some_cons (by simp only [h4, cond_true]; exact pick0) some_nil)
        refine wc_skip ?_
        exact wq_meet () trivial (sub_cons rfl (sub_i rfl (by simp only [h4, cond_false]) (sub_cons rfl sub_nil))) (some_cons (by simp only [h4, cond_false]; exact pick0) some_nil)
      intro _ _
      refine wq_block ?_
      refine wq_then ?_
      refine wc_region ?_
      refine mv rfl rfl ?_
      refine wl_pure (po_inc rfl rfl (by omega)) rfl ?_
      refine asg rfl rfl ?_
      refine wl_nil ?_
      exact wq_rnd hk3 (stpN l1 t1) () (sub_cons rfl (sub_cons rfl (sub_cons rfl sub_nil))) (some_cons pick0 some_nil)
    have c3 : (decide (((k3 : Nat) : Int) < 6)) = false := decide_eq_false (by omega)
    have en3 := forO_end l1 hk3
    refine wc_seq ?_
    refine wcr ?_
    refine mv rfl rfl ?_
    refine wl_pure (po_lss rfl rfl) rfl ?_
    refine wnt ?_
    refine wc_cond_f rfl c3 ?_
    refine wc_exit ?_
    refine wq_then_exit ?_
    refine wq_then_exit ?_
    refine wq_block_exit ?_
    exact wj_meet _ () (Sum.inl.inj en3) (sub_cons rfl sub_nil) (some_cons pick0 some_nil)
  intro e3 _ hp
  obtain rfl : e3 = y1 := hp.symm
  refine wq_then ?_
  refine wcr ?_
  refine mv rfl rfl ?_
  refine asg rfl rfl ?_
  refine wnt ?_
  refine wc_ret ?_
  obtain rfl := Option.some.inj t0
  exact wq_ret1 rfl rfl fun w hw => ⟨x1, rfl, hw.weak (some_cons pick0 some_nil)⟩

theorem c_laws_FnExchanges (w : World) (a_code : List UInt8) (v0a : Hd) (r0 : rdF w (dm w []) (sl v0a) a_code) {r : Bool} (t0 : laws_FnExchanges a_code = some r) : Calls Try.prog 3 #[(sl v0a)] w fun e w' => e = .returned (.bool r) ∧ SH w [] [] w' := by
  refine calls_of_wc (args := [_]) Try.func3 rfl Try.ntmps3 rfl ?_
  unfold laws_FnExchanges at t0
  refine wcr ?_
  refine asg rfl rfl ?_
  refine wnt ?_
  refine wc_seq ?_
  refine wcr ?_
  refine mv rfl rfl ?_
  refine bdO t0 fun v1 hv1 t0 => ?_
  refine wl_call (co_c0 fa_4 rfl fun w hw => c_laws_big w a_code v0a (Rg.on (rds_arg r0) hw) hv1) rfl fun _ => ?_
  refine wnt ?_
  refine wcO t0 rfl (fun h1 t0 => ?_) fun h1 t0 => ?_
  · skip
    refine wcr ?_
    refine asg rfl rfl ?_
    refine wnt ?_
    refine wc_ret ?_
    refine wq_then_ret ?_
    obtain rfl := Option.some.inj t0
    exact wq_ret1 rfl rfl fun w hw => ⟨rfl, hw.weak some_nil⟩
  refine wc_skip ?_
  refine wq_then ?_
  refine wcr ?_
  refine mv rfl rfl ?_
  refine bdO t0 fun v2 hv2 t0 => ?_
  refine wl_call (co_c2 fa_5 rfl fun w hw => c_spec_DrawExchangeBlock w a_code v0a (Rg.on (rds_arg r0) hw) hv2) rfl fun x1 => ?_
  refine mv rfl rfl ?_
  refine wl_pure (po_extract rfl rfl) rfl ?_
  refine wl_pure (po_extract rfl rfl) rfl ?_
  refine wl_eff (eo_alloc (cs := [.int .i64 0, (sl (⟨none, 0, 0⟩ : Hd))]) za_26) rfl fun b1 => ?_
  refine wl_skipop (so_box (cs' := [.int .i64 v2.1.Size, (sl x1.1)]) tk_26 pick0 rfl rfl rfl rfl rfl rfl rfl) ?_
  refine asg rfl rfl ?_
  refine wnt ?_
  refine wcr ?_
  refine wl_pure (v := .agg #[.int .i64 v2.1.Size, (sl x1.1)]) (po_load_boxs tk_26 pick0 rfl rfl rfl) rfl ?_
  refine bdO t0 fun v3 hv3 t0 => ?_
  refine wl_call (co_c1 fa_6 rfl fun w hw => c_impl_FirstUse w v2.1 x1.1 (Rg.on (rds_own (pickS pick0)) hw) hv3) rfl fun x2 => ?_
  refine asg rfl rfl ?_
  refine wnt ?_
  refine wc_seq ?_
  refine wcr ?_
  refine wl_pure (v := .agg #[.int .i64 v2.1.Size, (sl x1.1)]) (po_load_boxs tk_26 (pickS pick0) rfl rfl rfl) rfl ?_
  refine bdO t0 fun v4 hv4 t0 => ?_
  refine wl_call (co_c0 fa_7 rfl fun w hw => c_spec_BlockOk w v2.1 x1.1 (Rg.on (rds_own (pickS (pickS pick0))) hw) hv4) rfl fun _ => ?_
  refine wl_pure (po_not rfl) rfl ?_
  refine wnt ?_
  refine wcO t0 rfl (fun h2 t0 => ?_) fun h2 t0 => ?_
  · skip
    refine wcr ?_
    refine wl_pure (v := .agg #[.int .i64 v2.1.Size, (sl x1.1)]) (po_load_boxs tk_26 (pickS pick0) rfl rfl rfl) rfl ?_
    refine mv rfl rfl ?_
    refine bdO t0 fun v5 hv5 t0 => ?_
    refine wl_call (co_c1 fa_8 rfl fun w hw => c_impl_ExchangeBlock w v2.1 x1.1 (Rg.on (rds_own (pickS (pickS pick0))) hw) v2.2 x1.2 (Rg.on (rds_own (pickS (pickS (pickS pick0)))) hw) hv5) rfl fun x3 => ?_
    refine mv rfl rfl ?_
    refine wl_pure (po_extract rfl rfl) rfl ?_
    refine wl_pure (po_extract rfl rfl) rfl ?_
    refine wl_eff (eo_alloc (cs := [.int .i64 0, (sl (⟨none, 0, 0⟩ : Hd))]) za_26) rfl fun b2 => ?_
    refine wl_skipop (so_box (cs' := [.int .i64 v5.1.Size, (sl x3)]) tk_26 pick0 rfl rfl rfl rfl rfl rfl rfl) ?_
    refine asg rfl rfl ?_
    refine wnt ?_
    refine wc_seq ?_
    refine bdO t0 fun y1 t1 t0 => ?_
    refine wj (J := Bool) (X := Unit) (fun z => y1 = z) (fun z _ => [(2, .bool z)]) (fun _ _ => []) ?_ ?_
    · skip
      refine wc_region ?_
      refine mv rfl rfl ?_
      refine wl_pure (po_not rfl) rfl ?_
      refine mv rfl rfl ?_
      refine wlO_ (t := 45) t1 rfl (fun h3 t1 => ?_) fun h3 t1 => ?_
      · skip
        refine wl_guard_on (j := 2) rfl rfl rfl (mv rfl rfl ?_)
        refine wl_guard_on (j := 2) rfl rfl rfl (wl_pure (po_lenr (rds_own (pickS (pickS pick0))) el_27 rfl) rfl ?_)
        refine wl_guard_on (j := 2) rfl rfl rfl (wl_pure (po_eql rfl rfl) rfl ?_)
        refine wl_pure (po_pick_t rfl rfl) rfl ?_
        refine mv rfl rfl ?_
        refine wlO_ (t := 50) t1 rfl (fun h4 t1 => ?_) fun h4 t1 => ?_
        · skip
          refine wl_guard_on (j := 7) rfl rfl rfl (wl_eff (eo_buildSlice (qs := [(0, .int .i64 1), (1, .int .i64 0), (2, .int .i64 2), (3, .int .i64 3), (4, .int .i64 4), (5, .int .i64 5)]) rfl (sb_27_6 1 0 2 3 4 5)) rfl (fun b3 => ?_))
          refine bdO t1 fun v6 hv6 t1 => ?_
          refine wl_guard_on (j := 7) rfl rfl rfl (wl_call (co_c0 fa_9 rfl fun w hw => c_impl_IsExchange w ([1, 0, 2, 3, 4, 5] : List Int) (⟨some ⟨b3, 0, none⟩, 6, 6⟩ : Hd) (Rg.on (rds_own (pick_box_own pick0 (n := 6) (xs := ([1, 0, 2, 3, 4, 5] : List Int)) rfl rfl (by unfold maxLen; omega))) hw) hv6) rfl (fun _ => ?_))
          refine wl_pure (po_pick_t rfl rfl) rfl ?_
          refine asg rfl rfl ?_
          refine wl_nil ?_
          exact wj_meet _ () (mtE t1) (sub_cons rfl sub_nil) some_nil
        refine wl_guard_off (j := 7) rfl rfl rfl rfl rfl ?_
        refine wl_guard_off (j := 7) rfl rfl rfl rfl rfl ?_
        refine wl_pure (po_pick_f rfl rfl) rfl ?_
        refine asg rfl rfl ?_
        refine wl_nil ?_
        exact wj_meet _ () (mtE t1) (sub_cons rfl sub_nil) some_nil
      refine wl_guard_off (j := 2) rfl rfl rfl rfl rfl ?_
      refine wl_guard_off (j := 2) rfl rfl rfl rfl rfl ?_
      refine wl_guard_off (j := 2) rfl rfl rfl rfl rfl ?_
      refine wl_pure (po_pick_f rfl rfl) rfl ?_
      refine mv rfl rfl ?_
      refine wl_guard_off (j := 7) rfl rfl rfl rfl rfl ?_
      refine wl_guard_off (j := 7) rfl rfl rfl rfl rfl ?_
      refine wl_pure (po_pick_f rfl rfl) rfl ?_
      refine asg rfl rfl ?_
      refine wl_nil ?_
      exact wj_meet _ () (mtE t1) (sub_cons rfl sub_nil) some_nil
    intro j1 _ hp
    obtain rfl : j1 = y1 := hp.symm
    refine wq_then ?_
    refine wc_ret ?_
    refine wq_then_ret ?_
    obtain rfl := Option.some.inj t0
    exact wq_ret1 rfl rfl fun w hw => ⟨rfl, hw.weak some_nil⟩
  refine wc_skip ?_
  refine wq_then ?_
  refine wcr ?_
  refine wl_pure (v := .agg #[.int .i64 v2.1.Size, (sl x1.1)]) (po_load_boxs tk_26 (pickS pick0) rfl rfl rfl) rfl ?_
  refine mv rfl rfl ?_
  refine bdO t0 fun v7 hv7 t0 => ?_
  refine wl_call (co_c1 fa_8 rfl fun w hw => c_impl_ExchangeBlock w v2.1 x1.1 (Rg.on (rds_own (pickS (pickS pick0))) hw) v3 x2 (Rg.on (rds_own pick0) hw) hv7) rfl fun x5 => ?_
  refine mv rfl rfl ?_
  refine wl_pure (po_extract rfl rfl) rfl ?_
  refine wl_pure (po_extract rfl rfl) rfl ?_
  refine wl_eff (eo_alloc (cs := [.int .i64 0, (sl (⟨none, 0, 0⟩ : Hd))]) za_26) rfl fun b4 => ?_
  refine wl_skipop (so_box (cs' := [.int .i64 v7.1.Size, (sl x5)]) tk_26 pick0 rfl rfl rfl rfl rfl rfl rfl) ?_
  refine asg rfl rfl ?_
  refine wnt ?_
  refine wcr ?_
  refine wl_pure (v := .agg #[.int .i64 v7.1.Size, (sl x5)]) (po_load_boxs tk_26 pick0 rfl rfl rfl) rfl ?_
  refine bdO t0 fun v8 hv8 t0 => ?_
  refine wl_call (co_c1 fa_6 rfl fun w hw => c_impl_FirstUse w v7.1 x5 (Rg.on (rds_own (pickS pick0)) hw) hv8) rfl fun x6 => ?_
  refine asg rfl rfl ?_
  refine wnt ?_
  refine wc_seq ?_
  refine wc_seq ?_
  refine bdO t0 fun y1 t1 t0 => ?_
  refine wj (J := Bool) (X := Unit) (fun z => y1 = z) (fun z _ => [(0, (sl v0a)), (3, ptr b1 0), (4, (sl x1.2)), (8, ptr b4 0), (74, .bool z)]) (fun _ _ => [box b4 [.int .i64 v7.1.Size, (sl x5)], box b1 [.int .i64 v2.1.Size, (sl x1.1)], ownF (sl x1.2) v2.2, ownF (sl x5) v7.1.Cells, ownF (sl x1.1) v2.1.Cells]) ?_ ?_
  · skip
    refine wc_region ?_
    refine mv rfl rfl ?_
    refine bdO t1 fun v9 hv9 t1 => ?_
    refine wl_call (co_c0 fa_9 rfl fun w hw => c_impl_IsExchange w v3 x2 (Rg.on (rds_own (pickS (pickS (pickS pick0)))) hw) hv9) rfl fun _ => ?_
    refine wl_pure (po_not rfl) rfl ?_
    refine mv rfl rfl ?_
    refine wlO_ (t := 65) t1 rfl (fun h5 t1 => ?_) fun h5 t1 => ?_
    · skip
      refine wl_guard_off (j := 3) rfl rfl rfl rfl rfl ?_
      refine wl_guard_off (j := 3) rfl rfl rfl rfl rfl ?_
      refine wl_pure (po_pick_t rfl rfl) rfl ?_
      refine mv rfl rfl ?_
      refine wl_guard_off (j := 7) rfl rfl rfl rfl rfl ?_
      refine wl_guard_off (j := 7) rfl rfl rfl rfl rfl ?_
      refine wl_guard_off (j := 7) rfl rfl rfl rfl rfl ?_
      refine wl_guard_off (j := 7) rfl rfl rfl rfl rfl ?_
      refine wl_pure (po_pick_t rfl rfl) rfl ?_
      refine wl_nil ?_
      exact wj_meet _ () (mtE t1) (sub_cons rfl (sub_cons rfl (sub_cons rfl (sub_cons rfl (sub_cons rfl sub_nil))))) (some_cons (pickS pick0) (some_cons (pickS (pickS (pickS pick0))) (some_cons (pickS (pickS (pickS (pickS pick0)))) (some_cons (pickS pick0) (some_cons (pickS (pickS pick0)) some_nil)))))
    refine wl_guard_on (j := 3) rfl rfl rfl (mv rfl rfl ?_)
    refine wl_guard_on (j := 3) rfl rfl rfl (wl_pure (po_not rfl) rfl ?_)
    refine wl_pure (po_pick_f rfl rfl) rfl ?_
    refine mv rfl rfl ?_
    refine wlO_ (t := 69) t1 rfl (fun h6 t1 => ?_) fun h6 t1 => ?_
    · skip
      refine wl_guard_off (j := 7) rfl rfl rfl rfl rfl ?_
      refine wl_guard_off (j := 7) rfl rfl rfl rfl rfl ?_
      refine wl_guard_off (j := 7) rfl rfl rfl rfl rfl ?_
      refine wl_guard_off (j := 7) rfl rfl rfl rfl rfl ?_
      refine wl_pure (po_pick_t rfl rfl) rfl ?_
      refine wl_nil ?_
      exact wj_meet _ () (mtE t1) (sub_cons rfl (sub_cons rfl (sub_cons rfl (sub_cons rfl (sub_cons rfl sub_nil))))) (some_cons (pickS pick0) (some_cons (pickS (pickS (pickS pick0))) (some_cons (pickS (pickS (pickS (pickS pick0)))) (some_cons (pickS pick0) (some_cons (pickS (pickS pick0)) some_nil)))))
    refine wl_guard_on (j := 7) rfl rfl rfl (mv rfl rfl ?_)
    refine wl_guard_on (j := 7) rfl rfl rfl (wl_eff (eo_buildSlice (qs := [(0, .int .i64 0), (1, .int .i64 1), (2, .int .i64 2), (3, .int .i64 3), (4, .int .i64 4), (5, .int .i64 5)]) rfl (sb_27_6 0 1 2 3 4 5)) rfl (fun b5 => ?_))
    refine bdO t1 fun v10 hv10 t1 => ?_
    refine wl_guard_on (j := 7) rfl rfl rfl (wl_call (co_c0 fa_10 rfl fun w hw => c_laws_sameInts w v8 x6 (Rg.on (rds_own (pickS pick0)) hw) ([0, 1, 2, 3, 4, 5] : List Int) (⟨some ⟨b5, 0, none⟩, 6, 6⟩ : Hd) (Rg.on (rds_own (pick_box_own pick0 (n := 6) (xs := ([0, 1, 2, 3, 4, 5] : List Int)) rfl rfl (by unfold maxLen; omega))) hw) hv10) rfl (fun _ => ?_))
    refine wl_guard_on (j := 7) rfl rfl rfl (wl_pure (po_not rfl) rfl ?_)
    refine wl_pure (po_pick_f rfl rfl) rfl ?_
    refine wl_nil ?_
    exact wj_meet _ () (mtE t1) (sub_cons rfl (sub_cons rfl (sub_cons rfl (sub_cons rfl (sub_cons rfl sub_nil))))) (some_cons (pickS (pickS pick0)) (some_cons (pickS (pickS (pickS (pickS pick0)))) (some_cons (pickS (pickS (pickS (pickS (pickS pick0))))) (some_cons (pickS (pickS pick0)) (some_cons (pickS (pickS (pickS pick0))) some_nil)))))
  intro j2 _ hp
  obtain rfl : j2 = y1 := hp.symm
  refine wq_then ?_
  refine wcO t0 rfl (fun h7 t0 => ?_) fun h7 t0 => ?_
  · skip
    refine wcr ?_
    refine asg rfl rfl ?_
    refine wnt ?_
    refine wc_ret ?_
    refine wq_then_ret ?_
    obtain rfl := Option.some.inj t0
    exact wq_ret1 rfl rfl fun w hw => ⟨rfl, hw.weak some_nil⟩
  refine wc_skip ?_
  refine wq_then ?_
  refine wcr ?_
  refine mv rfl rfl ?_
  refine bdO t0 fun v11 hv11 t0 => ?_
  refine wl_call (co_c0 fa_11 rfl fun w hw => c_laws_at w a_code v0a (Rg.on (rds_arg r0) hw) 0 hv11) rfl fun _ => ?_
  refine wl_pure (po_rem rfl rfl (by decide)) rfl ?_
  refine asg rfl rfl ?_
  refine wnt ?_
  refine wcr ?_
  refine mv rfl rfl ?_
  refine bdO t0 fun v12 hv12 t0 => ?_
  refine wl_call (co_c0 fa_11 rfl fun w hw => c_laws_at w a_code v0a (Rg.on (rds_arg r0) hw) 1 hv12) rfl fun _ => ?_
  refine wl_pure (po_rem rfl rfl (by decide)) rfl ?_
  refine asg rfl rfl ?_
  refine wnt ?_
  refine wcr ?_
  refine mv rfl rfl ?_
  refine mv rfl rfl ?_
  refine bdO t0 fun v13 hv13 t0 => ?_
  refine wl_call (co_c1 fa_12 rfl fun w hw => c_impl_SwapList w (v11.tmod 6) (v12.tmod 6) hv13) rfl fun x8 => ?_
  refine asg rfl rfl ?_
  refine wnt ?_
  refine wcr ?_
  refine wl_pure (v := .agg #[.int .i64 v2.1.Size, (sl x1.1)]) (po_load_boxs tk_26 (pickS (pickS pick0)) rfl rfl rfl) rfl ?_
  refine mv rfl rfl ?_
  refine bdO t0 fun v14 hv14 t0 => ?_
  refine wl_call (co_c1 fa_8 rfl fun w hw => c_impl_ExchangeBlock w v2.1 x1.1 (Rg.on (rds_own (pickS (pickS (pickS (pickS (pickS pick0)))))) hw) v13 x8 (Rg.on (rds_own pick0) hw) hv14) rfl fun x9 => ?_
  refine mv rfl rfl ?_
  refine wl_pure (po_extract rfl rfl) rfl ?_
  refine wl_pure (po_extract rfl rfl) rfl ?_
  refine wl_eff (eo_alloc (cs := [.int .i64 0, (sl (⟨none, 0, 0⟩ : Hd))]) za_26) rfl fun b6 => ?_
  refine wl_skipop (so_box (cs' := [.int .i64 v14.1.Size, (sl x9)]) tk_26 pick0 rfl rfl rfl rfl rfl rfl rfl) ?_
  refine asg rfl rfl ?_
  refine wnt ?_
  refine wcr ?_
  refine wl_pure (v := .agg #[.int .i64 v14.1.Size, (sl x9)]) (po_load_boxs tk_26 pick0 rfl rfl rfl) rfl ?_
  refine mv rfl rfl ?_
  refine bdO t0 fun v15 hv15 t0 => ?_
  refine wl_call (co_c1 fa_8 rfl fun w hw => c_impl_ExchangeBlock w v14.1 x9 (Rg.on (rds_own (pickS pick0)) hw) v13 x8 (Rg.on (rds_own (pickS (pickS pick0))) hw) hv15) rfl fun x10 => ?_
  refine mv rfl rfl ?_
  refine wl_pure (po_extract rfl rfl) rfl ?_
  refine wl_pure (po_extract rfl rfl) rfl ?_
  refine wl_eff (eo_alloc (cs := [.int .i64 0, (sl (⟨none, 0, 0⟩ : Hd))]) za_26) rfl fun b7 => ?_
  refine wl_skipop (so_box (cs' := [.int .i64 v15.1.Size, (sl x10)]) tk_26 pick0 rfl rfl rfl rfl rfl rfl rfl) ?_
  refine asg rfl rfl ?_
  refine wnt ?_
  refine wc_seq ?_
  refine wc_seq ?_
  refine bdO t0 fun y1 t1 t0 => ?_
  refine wj (J := Bool) (X := Unit) (fun z => y1 = z) (fun z _ => [(3, ptr b1 0), (4, (sl x1.2)), (8, ptr b4 0), (13, (sl x8)), (116, .bool z)]) (fun _ _ => [box b4 [.int .i64 v7.1.Size, (sl x5)], box b1 [.int .i64 v2.1.Size, (sl x1.1)], ownF (sl x1.2) v2.2, ownF (sl x8) v13, ownF (sl x5) v7.1.Cells, ownF (sl x1.1) v2.1.Cells]) ?_ ?_
  · skip
    refine wc_draw [box b7 [.int .i64 v15.1.Size, (sl x10)], ownF (sl x10) v15.1.Cells, box b6 [.int .i64 v14.1.Size, (sl x9)], ownF (sl x9) v14.1.Cells, ownF (sl x8) v13, box b4 [.int .i64 v7.1.Size, (sl x5)], box b1 [.int .i64 v2.1.Size, (sl x1.1)], ownF (sl x1.2) v2.2, ownF (sl x5) v7.1.Cells, ownF (sl x1.1) v2.1.Cells] 21 mixed ?_
    refine wa_pure 0 rfl (po_move rfl) (some_cons pick0 (some_cons pick0 (some_cons pick0 (some_cons pick0 (some_cons pick0 (some_cons pick0 (some_cons pick0 (some_cons pick0 (some_cons pick0 (some_cons pick0 some_nil)))))))))) rfl (by kernel_rfl) (fun _ _ _ h => h) ?_
    refine wa_pure 1 rfl (po_not rfl) (some_cons pick0 (some_cons pick0 (some_cons pick0 (some_cons pick0 (some_cons pick0 (some_cons pick0 (some_cons pick0 (some_cons pick0 (some_cons pick0 (some_cons pick0 some_nil)))))))))) rfl (by kernel_rfl) (fun _ _ _ h => h) ?_
    refine wa_pure 2 rfl (po_move rfl) (some_cons pick0 (some_cons pick0 (some_cons pick0 (some_cons pick0 (some_cons pick0 (some_cons pick0 (some_cons pick0 (some_cons pick0 (some_cons pick0 (some_cons pick0 some_nil)))))))))) rfl (by kernel_rfl) (fun _ _ _ h => h) ?_
    refine waO_ (t := 98) t1 rfl (fun h8 t1 => ?_) fun h8 t1 => ?_
    · skip
      refine wa_off 3 (j := 2) rfl rfl rfl rfl rfl (some_cons pick0 (some_cons pick0 (some_cons pick0 (some_cons pick0 (some_cons pick0 (some_cons pick0 (some_cons pick0 (some_cons pick0 (some_cons pick0 (some_cons pick0 some_nil)))))))))) rfl (by kernel_rfl) (fun _ _ _ h => h) ?_
      refine wa_off 4 (j := 2) rfl rfl rfl rfl rfl (some_cons pick0 (some_cons pick0 (some_cons pick0 (some_cons pick0 (some_cons pick0 (some_cons pick0 (some_cons pick0 (some_cons pick0 (some_cons pick0 (some_cons pick0 some_nil)))))))))) rfl (by kernel_rfl) (fun _ _ _ h => h) ?_
      refine wa_pure 5 rfl (po_pick_t rfl rfl) (some_cons pick0 (some_cons pick0 (some_cons pick0 (some_cons pick0 (some_cons pick0 (some_cons pick0 (some_cons pick0 (some_cons pick0 (some_cons pick0 (some_cons pick0 some_nil)))))))))) rfl (by kernel_rfl) (fun _ _ _ h => h) ?_
      refine wa_pure 6 rfl (po_move rfl) (some_cons pick0 (some_cons pick0 (some_cons pick0 (some_cons pick0 (some_cons pick0 (some_cons pick0 (some_cons pick0 (some_cons pick0 (some_cons pick0 (some_cons pick0 some_nil)))))))))) rfl (by kernel_rfl) (fun _ _ _ h => h) ?_
      refine wa_off 7 (j := 6) rfl rfl rfl rfl rfl (some_cons pick0 (some_cons pick0 (some_cons pick0 (some_cons pick0 (some_cons pick0 (some_cons pick0 (some_cons pick0 (some_cons pick0 (some_cons pick0 (some_cons pick0 some_nil)))))))))) rfl (by kernel_rfl) (fun _ _ _ h => h) ?_
      refine wa_off 8 (j := 6) rfl rfl rfl rfl rfl (some_cons pick0 (some_cons pick0 (some_cons pick0 (some_cons pick0 (some_cons pick0 (some_cons pick0 (some_cons pick0 (some_cons pick0 (some_cons pick0 (some_cons pick0 some_nil)))))))))) rfl (by kernel_rfl) (fun _ _ _ h => h) ?_
      refine wa_off 9 (j := 6) rfl rfl rfl rfl rfl (some_cons pick0 (some_cons pick0 (some_cons pick0 (some_cons pick0 (some_cons pick0 (some_cons pick0 (some_cons pick0 (some_cons pick0 (some_cons pick0 (some_cons pick0 some_nil)))))))))) rfl (by kernel_rfl) (fun _ _ _ h => h) ?_
      refine wa_off 10 (j := 6) rfl rfl rfl rfl rfl (some_cons pick0 (some_cons pick0 (some_cons pick0 (some_cons pick0 (some_cons pick0 (some_cons pick0 (some_cons pick0 (some_cons pick0 (some_cons pick0 (some_cons pick0 some_nil)))))))))) rfl (by kernel_rfl) (fun _ _ _ h => h) ?_
      refine wa_pure 11 rfl (po_pick_t rfl rfl) (some_cons pick0 (some_cons pick0 (some_cons pick0 (some_cons pick0 (some_cons pick0 (some_cons pick0 (some_cons pick0 (some_cons pick0 (some_cons pick0 (some_cons pick0 some_nil)))))))))) rfl (by kernel_rfl) (fun _ _ _ h => h) ?_
      refine wa_pure 12 rfl (po_move rfl) (some_cons pick0 (some_cons pick0 (some_cons pick0 (some_cons pick0 (some_cons pick0 (some_cons pick0 (some_cons pick0 (some_cons pick0 (some_cons pick0 (some_cons pick0 some_nil)))))))))) rfl (by kernel_rfl) (fun _ _ _ h => h) ?_
      refine wa_off 13 (j := 12) rfl rfl rfl rfl rfl (some_cons pick0 (some_cons pick0 (some_cons pick0 (some_cons pick0 (some_cons pick0 (some_cons pick0 (some_cons pick0 (some_cons pick0 (some_cons pick0 (some_cons pick0 some_nil)))))))))) rfl (by kernel_rfl) (fun _ _ _ h => h) ?_
      refine wa_off 14 (j := 12) rfl rfl rfl rfl rfl (some_cons pick0 (some_cons pick0 (some_cons pick0 (some_cons pick0 (some_cons pick0 (some_cons pick0 (some_cons pick0 (some_cons pick0 (some_cons pick0 (some_cons pick0 some_nil)))))))))) rfl (by kernel_rfl) (fun _ _ _ h => h) ?_
      refine wa_off 15 (j := 12) rfl rfl rfl rfl rfl (some_cons pick0 (some_cons pick0 (some_cons pick0 (some_cons pick0 (some_cons pick0 (some_cons pick0 (some_cons pick0 (some_cons pick0 (some_cons pick0 (some_cons pick0 some_nil)))))))))) rfl (by kernel_rfl) (fun _ _ _ h => h) ?_
      refine wa_off 16 (j := 12) rfl rfl rfl rfl rfl (some_cons pick0 (some_cons pick0 (some_cons pick0 (some_cons pick0 (some_cons pick0 (some_cons pick0 (some_cons pick0 (some_cons pick0 (some_cons pick0 (some_cons pick0 some_nil)))))))))) rfl (by kernel_rfl) (fun _ _ _ h => h) ?_
      refine wa_off 17 (j := 12) rfl rfl rfl rfl rfl (some_cons pick0 (some_cons pick0 (some_cons pick0 (some_cons pick0 (some_cons pick0 (some_cons pick0 (some_cons pick0 (some_cons pick0 (some_cons pick0 (some_cons pick0 some_nil)))))))))) rfl (by kernel_rfl) (fun _ _ _ h => h) ?_
      refine wa_off 18 (j := 12) rfl rfl rfl rfl rfl (some_cons pick0 (some_cons pick0 (some_cons pick0 (some_cons pick0 (some_cons pick0 (some_cons pick0 (some_cons pick0 (some_cons pick0 (some_cons pick0 (some_cons pick0 some_nil)))))))))) rfl (by kernel_rfl) (fun _ _ _ h => h) ?_
      refine wa_off 19 (j := 12) rfl rfl rfl rfl rfl (some_cons pick0 (some_cons pick0 (some_cons pick0 (some_cons pick0 (some_cons pick0 (some_cons pick0 (some_cons pick0 (some_cons pick0 (some_cons pick0 (some_cons pick0 some_nil)))))))))) rfl (by kernel_rfl) (fun _ _ _ h => h) ?_
      refine wa_pure 20 rfl (po_pick_t rfl rfl) (some_cons pick0 (some_cons pick0 (some_cons pick0 (some_cons pick0 (some_cons pick0 (some_cons pick0 (some_cons pick0 (some_cons pick0 (some_cons pick0 (some_cons pick0 some_nil)))))))))) rfl (by kernel_rfl) (fun _ _ _ h => h) ?_
      refine wa_done (by kernel_rfl) ?_
      exact wj_meet _ () (mtE t1) (sub_cons rfl (sub_cons rfl (sub_cons rfl (sub_cons rfl (sub_cons rfl sub_nil))))) (some_cons (pickS (pickS (pickS (pickS (pickS pick0))))) (some_cons (pickS (pickS (pickS (pickS (pickS pick0))))) (some_cons (pickS (pickS (pickS (pickS (pickS pick0))))) (some_cons (pickS (pickS (pickS (pickS pick0)))) (some_cons (pickS (pickS (pickS (pickS pick0)))) (some_cons (pickS (pickS (pickS (pickS pick0)))) some_nil))))))
    refine wa_pure_on 3 (j := 2) rfl rfl rfl rfl (po_move rfl) (some_cons pick0 (some_cons pick0 (some_cons pick0 (some_cons pick0 (some_cons pick0 (some_cons pick0 (some_cons pick0 (some_cons pick0 (some_cons pick0 (some_cons pick0 some_nil)))))))))) rfl (by kernel_rfl) (fun _ _ _ h => h) ?_
    refine wa_pure_on 4 (j := 2) rfl rfl rfl rfl (po_not rfl) (some_cons pick0 (some_cons pick0 (some_cons pick0 (some_cons pick0 (some_cons pick0 (some_cons pick0 (some_cons pick0 (some_cons pick0 (some_cons pick0 (some_cons pick0 some_nil)))))))))) rfl (by kernel_rfl) (fun _ _ _ h => h) ?_
    refine wa_pure 5 rfl (po_pick_f rfl rfl) (some_cons pick0 (some_cons pick0 (some_cons pick0 (some_cons pick0 (some_cons pick0 (some_cons pick0 (some_cons pick0 (some_cons pick0 (some_cons pick0 (some_cons pick0 some_nil)))))))))) rfl (by kernel_rfl) (fun _ _ _ h => h) ?_
    refine wa_pure 6 rfl (po_move rfl) (some_cons pick0 (some_cons pick0 (some_cons pick0 (some_cons pick0 (some_cons pick0 (some_cons pick0 (some_cons pick0 (some_cons pick0 (some_cons pick0 (some_cons pick0 some_nil)))))))))) rfl (by kernel_rfl) (fun _ _ _ h => h) ?_
    refine waO_ (t := 102) t1 rfl (fun h9 t1 => ?_) fun h9 t1 => ?_
    · skip
      refine wa_off 7 (j := 6) rfl rfl rfl rfl rfl (some_cons pick0 (some_cons pick0 (some_cons pick0 (some_cons pick0 (some_cons pick0 (some_cons pick0 (some_cons pick0 (some_cons pick0 (some_cons pick0 (some_cons pick0 some_nil)))))))))) rfl (by kernel_rfl) (fun _ _ _ h => h) ?_
      refine wa_off 8 (j := 6) rfl rfl rfl rfl rfl (some_cons pick0 (some_cons pick0 (some_cons pick0 (some_cons pick0 (some_cons pick0 (some_cons pick0 (some_cons pick0 (some_cons pick0 (some_cons pick0 (some_cons pick0 some_nil)))))))))) rfl (by kernel_rfl) (fun _ _ _ h => h) ?_
      refine wa_off 9 (j := 6) rfl rfl rfl rfl rfl (some_cons pick0 (some_cons pick0 (some_cons pick0 (some_cons pick0 (some_cons pick0 (some_cons pick0 (some_cons pick0 (some_cons pick0 (some_cons pick0 (some_cons pick0 some_nil)))))))))) rfl (by kernel_rfl) (fun _ _ _ h => h) ?_
      refine wa_off 10 (j := 6) rfl rfl rfl rfl rfl (some_cons pick0 (some_cons pick0 (some_cons pick0 (some_cons pick0 (some_cons pick0 (some_cons pick0 (some_cons pick0 (some_cons pick0 (some_cons pick0 (some_cons pick0 some_nil)))))))))) rfl (by kernel_rfl) (fun _ _ _ h => h) ?_
      refine wa_pure 11 rfl (po_pick_t rfl rfl) (some_cons pick0 (some_cons pick0 (some_cons pick0 (some_cons pick0 (some_cons pick0 (some_cons pick0 (some_cons pick0 (some_cons pick0 (some_cons pick0 (some_cons pick0 some_nil)))))))))) rfl (by kernel_rfl) (fun _ _ _ h => h) ?_
      refine wa_pure 12 rfl (po_move rfl) (some_cons pick0 (some_cons pick0 (some_cons pick0 (some_cons pick0 (some_cons pick0 (some_cons pick0 (some_cons pick0 (some_cons pick0 (some_cons pick0 (some_cons pick0 some_nil)))))))))) rfl (by kernel_rfl) (fun _ _ _ h => h) ?_
      refine wa_off 13 (j := 12) rfl rfl rfl rfl rfl (some_cons pick0 (some_cons pick0 (some_cons pick0 (some_cons pick0 (some_cons pick0 (some_cons pick0 (some_cons pick0 (some_cons pick0 (some_cons pick0 (some_cons pick0 some_nil)))))))))) rfl (by kernel_rfl) (fun _ _ _ h => h) ?_
      refine wa_off 14 (j := 12) rfl rfl rfl rfl rfl (some_cons pick0 (some_cons pick0 (some_cons pick0 (some_cons pick0 (some_cons pick0 (some_cons pick0 (some_cons pick0 (some_cons pick0 (some_cons pick0 (some_cons pick0 some_nil)))))))))) rfl (by kernel_rfl) (fun _ _ _ h => h) ?_
      refine wa_off 15 (j := 12) rfl rfl rfl rfl rfl (some_cons pick0 (some_cons pick0 (some_cons pick0 (some_cons pick0 (some_cons pick0 (some_cons pick0 (some_cons pick0 (some_cons pick0 (some_cons pick0 (some_cons pick0 some_nil)))))))))) rfl (by kernel_rfl) (fun _ _ _ h => h) ?_
      refine wa_off 16 (j := 12) rfl rfl rfl rfl rfl (some_cons pick0 (some_cons pick0 (some_cons pick0 (some_cons pick0 (some_cons pick0 (some_cons pick0 (some_cons pick0 (some_cons pick0 (some_cons pick0 (some_cons pick0 some_nil)))))))))) rfl (by kernel_rfl) (fun _ _ _ h => h) ?_
      refine wa_off 17 (j := 12) rfl rfl rfl rfl rfl (some_cons pick0 (some_cons pick0 (some_cons pick0 (some_cons pick0 (some_cons pick0 (some_cons pick0 (some_cons pick0 (some_cons pick0 (some_cons pick0 (some_cons pick0 some_nil)))))))))) rfl (by kernel_rfl) (fun _ _ _ h => h) ?_
      refine wa_off 18 (j := 12) rfl rfl rfl rfl rfl (some_cons pick0 (some_cons pick0 (some_cons pick0 (some_cons pick0 (some_cons pick0 (some_cons pick0 (some_cons pick0 (some_cons pick0 (some_cons pick0 (some_cons pick0 some_nil)))))))))) rfl (by kernel_rfl) (fun _ _ _ h => h) ?_
      refine wa_off 19 (j := 12) rfl rfl rfl rfl rfl (some_cons pick0 (some_cons pick0 (some_cons pick0 (some_cons pick0 (some_cons pick0 (some_cons pick0 (some_cons pick0 (some_cons pick0 (some_cons pick0 (some_cons pick0 some_nil)))))))))) rfl (by kernel_rfl) (fun _ _ _ h => h) ?_
      refine wa_pure 20 rfl (po_pick_t rfl rfl) (some_cons pick0 (some_cons pick0 (some_cons pick0 (some_cons pick0 (some_cons pick0 (some_cons pick0 (some_cons pick0 (some_cons pick0 (some_cons pick0 (some_cons pick0 some_nil)))))))))) rfl (by kernel_rfl) (fun _ _ _ h => h) ?_
      refine wa_done (by kernel_rfl) ?_
      exact wj_meet _ () (mtE t1) (sub_cons rfl (sub_cons rfl (sub_cons rfl (sub_cons rfl (sub_cons rfl sub_nil))))) (some_cons (pickS (pickS (pickS (pickS (pickS pick0))))) (some_cons (pickS (pickS (pickS (pickS (pickS pick0))))) (some_cons (pickS (pickS (pickS (pickS (pickS pick0))))) (some_cons (pickS (pickS (pickS (pickS pick0)))) (some_cons (pickS (pickS (pickS (pickS pick0)))) (some_cons (pickS (pickS (pickS (pickS pick0)))) some_nil))))))
    refine wa_pure_on (v := .agg #[.int .i64 v15.1.Size, (sl x10)]) 7 (j := 6) rfl rfl rfl rfl (po_load_boxs tk_26 pick0 rfl rfl rfl) (some_cons pick0 (some_cons pick0 (some_cons pick0 (some_cons pick0 (some_cons pick0 (some_cons pick0 (some_cons pick0 (some_cons pick0 (some_cons pick0 (some_cons pick0 some_nil)))))))))) rfl (by kernel_rfl) (fun _ _ _ h => h) ?_
    refine wa_pure_on (v := .agg #[.int .i64 v2.1.Size, (sl x1.1)]) 8 (j := 6) rfl rfl rfl rfl (po_load_boxs tk_26 (pickS (pickS (pickS (pickS (pickS (pickS pick0)))))) rfl rfl rfl) (some_cons pick0 (some_cons pick0 (some_cons pick0 (some_cons pick0 (some_cons pick0 (some_cons pick0 (some_cons pick0 (some_cons pick0 (some_cons pick0 (some_cons pick0 some_nil)))))))))) rfl (by kernel_rfl) (fun _ _ _ h => h) ?_
    refine wa_1 (i := 9) (by kernel_rfl) ?_
    refine bdO t1 fun v16 hv16 t1 => ?_
    refine ws_call_on (j := 6) rfl rfl rfl rfl (co_c0 fa_13 rfl fun w hw => c_impl_SameBlock w v15.1 x10 (Rg.on (rds_own (pickS pick0)) hw) v2.1 x1.1 (Rg.on (rds_own (pickS (pickS (pickS (pickS (pickS (pickS (pickS (pickS (pickS pick0)))))))))) hw) hv16) (fun _ => (sts_some (some_cons pick0 (some_cons pick0 (some_cons pick0 (some_cons pick0 (some_cons pick0 (some_cons pick0 (some_cons pick0 (some_cons pick0 (some_cons pick0 (some_cons pick0 some_nil)))))))))))) rfl fun _ => ?_
    refine wa_pure_on 10 (j := 6) rfl rfl rfl rfl (po_not rfl) (some_cons pick0 (some_cons pick0 (some_cons pick0 (some_cons pick0 (some_cons pick0 (some_cons pick0 (some_cons pick0 (some_cons pick0 (some_cons pick0 (some_cons pick0 some_nil)))))))))) rfl (by kernel_rfl) (fun _ _ _ h => h) ?_
    refine wa_pure 11 rfl (po_pick_f rfl rfl) (some_cons pick0 (some_cons pick0 (some_cons pick0 (some_cons pick0 (some_cons pick0 (some_cons pick0 (some_cons pick0 (some_cons pick0 (some_cons pick0 (some_cons pick0 some_nil)))))))))) rfl (by kernel_rfl) (fun _ _ _ h => h) ?_
    refine wa_pure 12 rfl (po_move rfl) (some_cons pick0 (some_cons pick0 (some_cons pick0 (some_cons pick0 (some_cons pick0 (some_cons pick0 (some_cons pick0 (some_cons pick0 (some_cons pick0 (some_cons pick0 some_nil)))))))))) rfl (by kernel_rfl) (fun _ _ _ h => h) ?_
    refine waO_ (t := 108) t1 rfl (fun h10 t1 => ?_) fun h10 t1 => ?_
    · skip
      refine wa_off 13 (j := 12) rfl rfl rfl rfl rfl (some_cons pick0 (some_cons pick0 (some_cons pick0 (some_cons pick0 (some_cons pick0 (some_cons pick0 (some_cons pick0 (some_cons pick0 (some_cons pick0 (some_cons pick0 some_nil)))))))))) rfl (by kernel_rfl) (fun _ _ _ h => h) ?_
      refine wa_off 14 (j := 12) rfl rfl rfl rfl rfl (some_cons pick0 (some_cons pick0 (some_cons pick0 (some_cons pick0 (some_cons pick0 (some_cons pick0 (some_cons pick0 (some_cons pick0 (some_cons pick0 (some_cons pick0 some_nil)))))))))) rfl (by kernel_rfl) (fun _ _ _ h => h) ?_
      refine wa_off 15 (j := 12) rfl rfl rfl rfl rfl (some_cons pick0 (some_cons pick0 (some_cons pick0 (some_cons pick0 (some_cons pick0 (some_cons pick0 (some_cons pick0 (some_cons pick0 (some_cons pick0 (some_cons pick0 some_nil)))))))))) rfl (by kernel_rfl) (fun _ _ _ h => h) ?_
      refine wa_off 16 (j := 12) rfl rfl rfl rfl rfl (some_cons pick0 (some_cons pick0 (some_cons pick0 (some_cons pick0 (some_cons pick0 (some_cons pick0 (some_cons pick0 (some_cons pick0 (some_cons pick0 (some_cons pick0 some_nil)))))))))) rfl (by kernel_rfl) (fun _ _ _ h => h) ?_
      refine wa_off 17 (j := 12) rfl rfl rfl rfl rfl (some_cons pick0 (some_cons pick0 (some_cons pick0 (some_cons pick0 (some_cons pick0 (some_cons pick0 (some_cons pick0 (some_cons pick0 (some_cons pick0 (some_cons pick0 some_nil)))))))))) rfl (by kernel_rfl) (fun _ _ _ h => h) ?_
      refine wa_off 18 (j := 12) rfl rfl rfl rfl rfl (some_cons pick0 (some_cons pick0 (some_cons pick0 (some_cons pick0 (some_cons pick0 (some_cons pick0 (some_cons pick0 (some_cons pick0 (some_cons pick0 (some_cons pick0 some_nil)))))))))) rfl (by kernel_rfl) (fun _ _ _ h => h) ?_
      refine wa_off 19 (j := 12) rfl rfl rfl rfl rfl (some_cons pick0 (some_cons pick0 (some_cons pick0 (some_cons pick0 (some_cons pick0 (some_cons pick0 (some_cons pick0 (some_cons pick0 (some_cons pick0 (some_cons pick0 some_nil)))))))))) rfl (by kernel_rfl) (fun _ _ _ h => h) ?_
      refine wa_pure 20 rfl (po_pick_t rfl rfl) (some_cons pick0 (some_cons pick0 (some_cons pick0 (some_cons pick0 (some_cons pick0 (some_cons pick0 (some_cons pick0 (some_cons pick0 (some_cons pick0 (some_cons pick0 some_nil)))))))))) rfl (by kernel_rfl) (fun _ _ _ h => h) ?_
      refine wa_done (by kernel_rfl) ?_
      exact wj_meet _ () (mtE t1) (sub_cons rfl (sub_cons rfl (sub_cons rfl (sub_cons rfl (sub_cons rfl sub_nil))))) (some_cons (pickS (pickS (pickS (pickS (pickS pick0))))) (some_cons (pickS (pickS (pickS (pickS (pickS pick0))))) (some_cons (pickS (pickS (pickS (pickS (pickS pick0))))) (some_cons (pickS (pickS (pickS (pickS pick0)))) (some_cons (pickS (pickS (pickS (pickS pick0)))) (some_cons (pickS (pickS (pickS (pickS pick0)))) some_nil))))))
    refine wa_pure_on (v := .agg #[.int .i64 v14.1.Size, (sl x9)]) 13 (j := 12) rfl rfl rfl rfl (po_load_boxs tk_26 (pickS (pickS pick0)) rfl rfl rfl) (some_cons pick0 (some_cons pick0 (some_cons pick0 (some_cons pick0 (some_cons pick0 (some_cons pick0 (some_cons pick0 (some_cons pick0 (some_cons pick0 (some_cons pick0 some_nil)))))))))) rfl (by kernel_rfl) (fun _ _ _ h => h) ?_
    refine wa_pure_on 14 (j := 12) rfl rfl rfl rfl (po_move rfl) (some_cons pick0 (some_cons pick0 (some_cons pick0 (some_cons pick0 (some_cons pick0 (some_cons pick0 (some_cons pick0 (some_cons pick0 (some_cons pick0 (some_cons pick0 some_nil)))))))))) rfl (by kernel_rfl) (fun _ _ _ h => h) ?_
    refine wa_pure_on (v := .agg #[.int .i64 v2.1.Size, (sl x1.1)]) 16 (j := 12) rfl rfl rfl rfl (po_load_boxs tk_26 (pickS (pickS (pickS (pickS (pickS (pickS pick0)))))) rfl rfl rfl) (some_cons pick0 (some_cons pick0 (some_cons pick0 (some_cons pick0 (some_cons pick0 (some_cons pick0 (some_cons pick0 (some_cons pick0 (some_cons pick0 (some_cons pick0 some_nil)))))))))) rfl (by kernel_rfl) (fun _ _ _ h => h) ?_
    refine wa_pure_on 17 (j := 12) rfl rfl rfl rfl (po_move rfl) (some_cons pick0 (some_cons pick0 (some_cons pick0 (some_cons pick0 (some_cons pick0 (some_cons pick0 (some_cons pick0 (some_cons pick0 (some_cons pick0 (some_cons pick0 some_nil)))))))))) rfl (by kernel_rfl) (fun _ _ _ h => h) ?_
    refine wa_1 (i := 15) (by kernel_rfl) ?_
    refine bdO t1 fun v17 hv17 t1 => ?_
    refine ws_call_on (j := 12) rfl rfl rfl rfl (co_c0 fa_14 rfl fun w hw => c_spec_AreaOf w v14.1 x9 (Rg.on (rds_own (pickS (pickS (pickS pick0)))) hw) (v11.tmod 6) hv17) (fun _ => (sts_some (some_cons pick0 (some_cons pick0 (some_cons pick0 (some_cons pick0 (some_cons pick0 (some_cons pick0 (some_cons pick0 (some_cons pick0 (some_cons pick0 (some_cons pick0 some_nil)))))))))))) rfl fun _ => ?_
    refine wa_1 (i := 18) (by kernel_rfl) ?_
    refine bdO t1 fun v18 hv18 t1 => ?_
    refine ws_call_on (j := 12) rfl rfl rfl rfl (co_c0 fa_14 rfl fun w hw => c_spec_AreaOf w v2.1 x1.1 (Rg.on (rds_own (pickS (pickS (pickS (pickS (pickS (pickS (pickS (pickS (pickS pick0)))))))))) hw) (v12.tmod 6) hv18) (fun _ => (sts_some (some_cons pick0 (some_cons pick0 (some_cons pick0 (some_cons pick0 (some_cons pick0 (some_cons pick0 (some_cons pick0 (some_cons pick0 (some_cons pick0 (some_cons pick0 some_nil)))))))))))) rfl fun _ => ?_
    refine wa_pure_on 19 (j := 12) rfl rfl rfl rfl (po_neq rfl rfl) (some_cons pick0 (some_cons pick0 (some_cons pick0 (some_cons pick0 (some_cons pick0 (some_cons pick0 (some_cons pick0 (some_cons pick0 (some_cons pick0 (some_cons pick0 some_nil)))))))))) rfl (by kernel_rfl) (fun _ _ _ h => h) ?_
    refine wa_pure 20 rfl (po_pick_f rfl rfl) (some_cons pick0 (some_cons pick0 (some_cons pick0 (some_cons pick0 (some_cons pick0 (some_cons pick0 (some_cons pick0 (some_cons pick0 (some_cons pick0 (some_cons pick0 some_nil)))))))))) rfl (by kernel_rfl) (fun _ _ _ h => h) ?_
    refine wa_done (by kernel_rfl) ?_
    exact wj_meet _ () (mtE t1) (sub_cons rfl (sub_cons rfl (sub_cons rfl (sub_cons rfl (sub_cons rfl sub_nil))))) (some_cons (pickS (pickS (pickS (pickS (pickS pick0))))) (some_cons (pickS (pickS (pickS (pickS (pickS pick0))))) (some_cons (pickS (pickS (pickS (pickS (pickS pick0))))) (some_cons (pickS (pickS (pickS (pickS pick0)))) (some_cons (pickS (pickS (pickS (pickS pick0)))) (some_cons (pickS (pickS (pickS (pickS pick0)))) some_nil))))))
  intro j3 _ hp
  obtain rfl : j3 = y1 := hp.symm
  refine wq_then ?_
  refine wcO t0 rfl (fun h11 t0 => ?_) fun h11 t0 => ?_
  · skip
    refine wcr ?_
    refine asg rfl rfl ?_
    refine wnt ?_
    refine wc_ret ?_
    refine wq_then_ret ?_
    obtain rfl := Option.some.inj t0
    exact wq_ret1 rfl rfl fun w hw => ⟨rfl, hw.weak some_nil⟩
  refine wc_skip ?_
  refine wq_then ?_
  refine wc_seq ?_
  refine wc_seq ?_
  refine wc_draw [box b4 [.int .i64 v7.1.Size, (sl x5)], box b1 [.int .i64 v2.1.Size, (sl x1.1)], ownF (sl x1.2) v2.2, ownF (sl x8) v13, ownF (sl x5) v7.1.Cells, ownF (sl x1.1) v2.1.Cells] 13 mixed ?_
  refine wa_pure 0 rfl (po_fld fo_26_1 rfl) (some_cons pick0 (some_cons pick0 (some_cons pick0 (some_cons pick0 (some_cons pick0 (some_cons pick0 some_nil)))))) rfl (by kernel_rfl) (fun _ _ _ h => h) ?_
  refine wa_pure (v := (sl x1.1)) 1 rfl (po_load_box tk_24 (pickS pick0) rfl rfl) (some_cons pick0 (some_cons pick0 (some_cons pick0 (some_cons pick0 (some_cons pick0 (some_cons pick0 some_nil)))))) rfl (by kernel_rfl) (fun _ _ _ h => h) ?_
  refine gdO t0 fun g1 t0 => ?_
  refine wa_pure 2 rfl (po_ixn (k := 0) (rds_own (pickS (pickS (pickS (pickS (pickS pick0)))))) el_24 rfl rfl g1) (some_cons pick0 (some_cons pick0 (some_cons pick0 (some_cons pick0 (some_cons pick0 (some_cons pick0 some_nil)))))) rfl (by kernel_rfl) (fun _ _ _ h => h) ?_
  refine wa_pure (v := .agg #[.int .i64 ((gx v2.1.Cells 0).Split), .int .i64 ((gx v2.1.Cells 0).A), .int .i64 ((gx v2.1.Cells 0).B)]) 3 rfl (po_ldfs (rds_own (pickS (pickS (pickS (pickS (pickS pick0)))))) tk_41 rfl g1 rfl rfl rfl) (some_cons pick0 (some_cons pick0 (some_cons pick0 (some_cons pick0 (some_cons pick0 (some_cons pick0 some_nil)))))) rfl (by kernel_rfl) (fun _ _ _ h => h) ?_
  refine wa_pure 4 rfl (po_move rfl) (some_cons pick0 (some_cons pick0 (some_cons pick0 (some_cons pick0 (some_cons pick0 (some_cons pick0 some_nil)))))) rfl (by kernel_rfl) (fun _ _ _ h => h) ?_
  refine wa_pure 6 rfl (po_fld fo_26_1 rfl) (some_cons pick0 (some_cons pick0 (some_cons pick0 (some_cons pick0 (some_cons pick0 (some_cons pick0 some_nil)))))) rfl (by kernel_rfl) (fun _ _ _ h => h) ?_
  refine wa_pure (v := (sl x1.1)) 7 rfl (po_load_box tk_24 (pickS pick0) rfl rfl) (some_cons pick0 (some_cons pick0 (some_cons pick0 (some_cons pick0 (some_cons pick0 (some_cons pick0 some_nil)))))) rfl (by kernel_rfl) (fun _ _ _ h => h) ?_
  refine wa_pure 8 rfl (po_ixn (k := 0) (rds_own (pickS (pickS (pickS (pickS (pickS pick0)))))) el_24 rfl rfl g1) (some_cons pick0 (some_cons pick0 (some_cons pick0 (some_cons pick0 (some_cons pick0 (some_cons pick0 some_nil)))))) rfl (by kernel_rfl) (fun _ _ _ h => h) ?_
  refine wa_pure (v := .agg #[.int .i64 ((gx v2.1.Cells 0).Split), .int .i64 ((gx v2.1.Cells 0).A), .int .i64 ((gx v2.1.Cells 0).B)]) 9 rfl (po_ldfs (rds_own (pickS (pickS (pickS (pickS (pickS pick0)))))) tk_41 rfl g1 rfl rfl rfl) (some_cons pick0 (some_cons pick0 (some_cons pick0 (some_cons pick0 (some_cons pick0 (some_cons pick0 some_nil)))))) rfl (by kernel_rfl) (fun _ _ _ h => h) ?_
  refine wa_pure 10 rfl (po_move rfl) (some_cons pick0 (some_cons pick0 (some_cons pick0 (some_cons pick0 (some_cons pick0 (some_cons pick0 some_nil)))))) rfl (by kernel_rfl) (fun _ _ _ h => h) ?_
  refine wa_1 (i := 5) (by kernel_rfl) ?_
  refine bdO t0 fun v19 hv19 t0 => ?_
  refine ws_call rfl (co_c0 fa_15 rfl fun w hw => c_impl_ExchangeCell w (gx v2.1.Cells 0) v13 x8 (Rg.on (rds_own (pickS (pickS (pickS pick0)))) hw) hv19) (fun _ => (sts_some (some_cons pick0 (some_cons pick0 (some_cons pick0 (some_cons pick0 (some_cons pick0 (some_cons pick0 some_nil)))))))) rfl fun _ => ?_
  refine wa_1 (i := 11) (by kernel_rfl) ?_
  refine bdO t0 fun v20 hv20 t0 => ?_
  refine ws_call rfl (co_c0 fa_16 rfl fun w hw => c_spec_ExchangeCell w (gx v2.1.Cells 0) v13 x8 (Rg.on (rds_own (pickS (pickS (pickS pick0)))) hw) hv20) (fun _ => (sts_some (some_cons pick0 (some_cons pick0 (some_cons pick0 (some_cons pick0 (some_cons pick0 (some_cons pick0 some_nil)))))))) rfl fun _ => ?_
  refine wa_pure 12 rfl (po_neq_struct (ps := [v19.Split, v19.A, v19.B]) (qs := [v20.Split, v20.A, v20.B]) sq_41 rfl rfl rfl rfl) (some_cons pick0 (some_cons pick0 (some_cons pick0 (some_cons pick0 (some_cons pick0 (some_cons pick0 some_nil)))))) rfl (by kernel_rfl) (fun _ _ _ h => h) ?_
  refine wa_done (by kernel_rfl) ?_
  refine wq_then ?_
  refine wcO t0 rfl (fun h12 t0 => ?_) fun h12 t0 => ?_
  · skip
    refine wcr ?_
    refine asg rfl rfl ?_
    refine wnt ?_
    refine wc_ret ?_
    refine wq_then_ret ?_
    obtain rfl := Option.some.inj t0
    exact wq_ret1 rfl rfl fun w hw => ⟨rfl, hw.weak some_nil⟩
  refine wc_skip ?_
  refine wq_then ?_
  refine wc_seq ?_
  refine wcr ?_
  refine mv rfl rfl ?_
  refine bdO t0 fun v21 hv21 t0 => ?_
  refine wl_call (co_c0 fa_17 rfl fun w hw => c_spec_IsExchange w v2.2 x1.2 (Rg.on (rds_own (pickS (pickS pick0))) hw) hv21) rfl fun _ => ?_
  refine wnt ?_
  refine wcO t0 rfl (fun h13 t0 => ?_) fun h13 t0 => ?_
  · skip
    refine wcr ?_
    refine mv rfl rfl ?_
    refine bdO t0 fun v22 hv22 t0 => ?_
    refine wl_call (co_c1 fa_18 rfl fun w hw => c_impl_UndoList w v2.2 x1.2 (Rg.on (rds_own (pickS (pickS pick0))) hw) hv22) rfl fun x12 => ?_
    refine asg rfl rfl ?_
    refine wnt ?_
    refine wcr ?_
    refine wl_pure (v := .agg #[.int .i64 v2.1.Size, (sl x1.1)]) (po_load_boxs tk_26 (pickS (pickS pick0)) rfl rfl rfl) rfl ?_
    refine mv rfl rfl ?_
    refine bdO t0 fun v23 hv23 t0 => ?_
    refine wl_call (co_c1 fa_8 rfl fun w hw => c_impl_ExchangeBlock w v2.1 x1.1 (Rg.on (rds_own (pickS (pickS (pickS (pickS (pickS (pickS pick0))))))) hw) v2.2 x1.2 (Rg.on (rds_own (pickS (pickS (pickS pick0)))) hw) hv23) rfl fun x13 => ?_
    refine mv rfl rfl ?_
    refine wl_pure (po_extract rfl rfl) rfl ?_
    refine wl_pure (po_extract rfl rfl) rfl ?_
    refine wl_eff (eo_alloc (cs := [.int .i64 0, (sl (⟨none, 0, 0⟩ : Hd))]) za_26) rfl fun b8 => ?_
    refine wl_skipop (so_box (cs' := [.int .i64 v23.1.Size, (sl x13)]) tk_26 pick0 rfl rfl rfl rfl rfl rfl rfl) ?_
    refine asg rfl rfl ?_
    refine wnt ?_
    refine wcr ?_
    refine wl_pure (v := .agg #[.int .i64 v23.1.Size, (sl x13)]) (po_load_boxs tk_26 pick0 rfl rfl rfl) rfl ?_
    refine mv rfl rfl ?_
    refine bdO t0 fun v24 hv24 t0 => ?_
    refine wl_call (co_c1 fa_8 rfl fun w hw => c_impl_ExchangeBlock w v23.1 x13 (Rg.on (rds_own (pickS pick0)) hw) v22 x12 (Rg.on (rds_own (pickS (pickS pick0))) hw) hv24) rfl fun x14 => ?_
    refine mv rfl rfl ?_
    refine wl_pure (po_extract rfl rfl) rfl ?_
    refine wl_pure (po_extract rfl rfl) rfl ?_
    refine wl_eff (eo_alloc (cs := [.int .i64 0, (sl (⟨none, 0, 0⟩ : Hd))]) za_26) rfl fun b9 => ?_
    refine wl_skipop (so_box (cs' := [.int .i64 v24.1.Size, (sl x14)]) tk_26 pick0 rfl rfl rfl rfl rfl rfl rfl) ?_
    refine asg rfl rfl ?_
    refine wnt ?_
    refine wc_seq ?_
    refine bdO t0 fun v25 hv25 t0 => ?_
    refine bdO t0 fun v26 hv26 t0 => ?_
    refine wc_join (X := Nat × Hd) (fun _ => True) (fun z => [(3, ptr b1 0), (4, (sl x1.2)), (8, ptr b4 0), (20, .bool v23.2), (21, ptr b9 0), (22, .bool v24.2), (23, ptr z.1 0), (24, .bool v26.2)]) (fun z => [box z.1 [.int .i64 v26.1.Size, (sl z.2)], ownF (sl z.2) v26.1.Cells, box b9 [.int .i64 v24.1.Size, (sl x14)], ownF (sl x14) v24.1.Cells, box b4 [.int .i64 v7.1.Size, (sl x5)], box b1 [.int .i64 v2.1.Size, (sl x1.1)], ownF (sl x1.2) v2.2, ownF (sl x5) v7.1.Cells, ownF (sl x1.1) v2.1.Cells]) ?_ ?_
    · skip
      refine wc_draw [box b9 [.int .i64 v24.1.Size, (sl x14)], ownF (sl x14) v24.1.Cells, box b8 [.int .i64 v23.1.Size, (sl x13)], ownF (sl x13) v23.1.Cells, ownF (sl x12) v22, box b4 [.int .i64 v7.1.Size, (sl x5)], box b1 [.int .i64 v2.1.Size, (sl x1.1)], ownF (sl x1.2) v2.2, ownF (sl x8) v13, ownF (sl x5) v7.1.Cells, ownF (sl x1.1) v2.1.Cells] 10 mixed ?_
      refine wa_pure (v := .agg #[.int .i64 v23.1.Size, (sl x13)]) 0 rfl (po_load_boxs tk_26 (pickS (pickS pick0)) rfl rfl rfl) (some_cons pick0 (some_cons pick0 (some_cons pick0 (some_cons pick0 (some_cons pick0 (some_cons pick0 (some_cons pick0 (some_cons pick0 (some_cons pick0 (some_cons pick0 (some_cons pick0 some_nil))))))))))) rfl (by kernel_rfl) (fun _ _ _ h => h) ?_
      refine wa_pure (v := .agg #[.int .i64 v23.1.Size, (sl x13)]) 1 rfl (po_load_boxs tk_26 (pickS (pickS pick0)) rfl rfl rfl) (some_cons pick0 (some_cons pick0 (some_cons pick0 (some_cons pick0 (some_cons pick0 (some_cons pick0 (some_cons pick0 (some_cons pick0 (some_cons pick0 (some_cons pick0 (some_cons pick0 some_nil))))))))))) rfl (by kernel_rfl) (fun _ _ _ h => h) ?_
      refine wa_2 (i := 2) (j := 7) (by kernel_rfl) ?_ ?_
      · skip
        refine ws_call rfl (co_c1 fa_19 rfl fun w hw => c_spec_FirstUse w v23.1 x13 (Rg.on (rds_own (pickS (pickS (pickS pick0)))) hw) hv25) (fun _ => (sts_some (some_cons (pickS pick0) (some_cons (pickS pick0) (some_cons (pickS pick0) (some_cons (pickS pick0) (some_cons (pickS pick0) (some_cons (pickS pick0) (some_cons (pickS pick0) (some_cons (pickS pick0) (some_cons (pickS pick0) (some_cons (pickS pick0) (some_cons (pickS pick0) some_nil))))))))))))) rfl fun x15 => ?_
        refine wa_2 (i := 3) (j := 7) (by kernel_rfl) ?_ ?_
        · skip
          refine ws_call rfl (co_c1 fa_8 rfl fun w hw => c_impl_ExchangeBlock w v23.1 x13 (Rg.on (rds_own (pickS (pickS (pickS (pickS pick0))))) hw) v25 x15 (Rg.on (rds_own pick0) hw) hv26) (fun _ => (sts_some (some_cons (pickS (pickS pick0)) (some_cons (pickS (pickS pick0)) (some_cons (pickS (pickS pick0)) (some_cons (pickS (pickS pick0)) (some_cons (pickS (pickS pick0)) (some_cons (pickS (pickS pick0)) (some_cons (pickS (pickS pick0)) (some_cons (pickS (pickS pick0)) (some_cons (pickS (pickS pick0)) (some_cons (pickS (pickS pick0)) (some_cons (pickS (pickS pick0)) some_nil))))))))))))) rfl fun x16 => ?_
          refine wa_pure 4 rfl (po_move rfl) (some_cons (pickS (pickS pick0)) (some_cons (pickS (pickS pick0)) (some_cons (pickS (pickS pick0)) (some_cons (pickS (pickS pick0)) (some_cons (pickS (pickS pick0)) (some_cons (pickS (pickS pick0)) (some_cons (pickS (pickS pick0)) (some_cons (pickS (pickS pick0)) (some_cons (pickS (pickS pick0)) (some_cons (pickS (pickS pick0)) (some_cons (pickS (pickS pick0)) some_nil))))))))))) rfl (by kernel_rfl) (fun _ _ _ h => h) ?_
          refine wa_pure 5 rfl (po_extract rfl rfl) (some_cons (pickS (pickS pick0)) (some_cons (pickS (pickS pick0)) (some_cons (pickS (pickS pick0)) (some_cons (pickS (pickS pick0)) (some_cons (pickS (pickS pick0)) (some_cons (pickS (pickS pick0)) (some_cons (pickS (pickS pick0)) (some_cons (pickS (pickS pick0)) (some_cons (pickS (pickS pick0)) (some_cons (pickS (pickS pick0)) (some_cons (pickS (pickS pick0)) some_nil))))))))))) rfl (by kernel_rfl) (fun _ _ _ h => h) ?_
          refine wa_pure 6 rfl (po_extract rfl rfl) (some_cons (pickS (pickS pick0)) (some_cons (pickS (pickS pick0)) (some_cons (pickS (pickS pick0)) (some_cons (pickS (pickS pick0)) (some_cons (pickS (pickS pick0)) (some_cons (pickS (pickS pick0)) (some_cons (pickS (pickS pick0)) (some_cons (pickS (pickS pick0)) (some_cons (pickS (pickS pick0)) (some_cons (pickS (pickS pick0)) (some_cons (pickS (pickS pick0)) some_nil))))))))))) rfl (by kernel_rfl) (fun _ _ _ h => h) ?_
          refine wa_1 (i := 7) (by kernel_rfl) ?_
          refine ws_eff rfl (eo_alloc (cs := [.int .i64 0, (sl (⟨none, 0, 0⟩ : Hd))]) za_26) (fun _ => (sts_some (some_cons (pickS (pickS (pickS pick0))) (some_cons (pickS (pickS (pickS pick0))) (some_cons (pickS (pickS (pickS pick0))) (some_cons (pickS (pickS (pickS pick0))) (some_cons (pickS (pickS (pickS pick0))) (some_cons (pickS (pickS (pickS pick0))) (some_cons (pickS (pickS (pickS pick0))) (some_cons (pickS (pickS (pickS pick0))) (some_cons (pickS (pickS (pickS pick0))) (some_cons (pickS (pickS (pickS pick0))) (some_cons (pickS (pickS (pickS pick0))) some_nil))))))))))))) rfl fun b10 => ?_
          refine wa_1 (i := 8) (by kernel_rfl) ?_
          refine ws_skipop rfl (so_box (cs' := [.int .i64 v26.1.Size, (sl x16)]) tk_26 pick0 rfl rfl rfl rfl rfl rfl rfl) (sts_some (some_cons (pickS (pickS (pickS pick0))) (some_cons (pickS (pickS (pickS pick0))) (some_cons (pickS (pickS (pickS pick0))) (some_cons (pickS (pickS (pickS pick0))) (some_cons (pickS (pickS (pickS pick0))) (some_cons (pickS (pickS (pickS pick0))) (some_cons (pickS (pickS (pickS pick0))) (some_cons (pickS (pickS (pickS pick0))) (some_cons (pickS (pickS (pickS pick0))) (some_cons (pickS (pickS (pickS pick0))) (some_cons (pickS (pickS (pickS pick0))) some_nil)))))))))))) ?_
          refine wa_pure 9 rfl (po_assign rfl) (some_cons (pickS (pickS (pickS pick0))) (some_cons (pickS (pickS (pickS pick0))) (some_cons (pickS (pickS (pickS pick0))) (some_cons (pickS (pickS (pickS pick0))) (some_cons (pickS (pickS (pickS pick0))) (some_cons (pickS (pickS (pickS pick0))) (some_cons (pickS (pickS (pickS pick0))) (some_cons (pickS (pickS (pickS pick0))) (some_cons (pickS (pickS (pickS pick0))) (some_cons (pickS (pickS (pickS pick0))) (some_cons (pickS (pickS (pickS pick0))) some_nil))))))))))) rfl (by kernel_rfl) (fun _ _ _ h => h) ?_
          refine wa_done (by kernel_rfl) ?_
          exact wq_meet (b10, x16) trivial (sub_cons rfl (sub_cons rfl (sub_cons rfl (sub_cons rfl (sub_cons rfl (sub_cons rfl (sub_cons rfl (sub_cons rfl sub_nil)))))))) (some_cons pick0 (some_cons pick0 (some_cons (pickS pick0) (some_cons (pickS pick0) (some_cons (pickS (pickS (pickS (pickS pick0)))) (some_cons (pickS (pickS (pickS (pickS pick0)))) (some_cons (pickS (pickS (pickS (pickS pick0)))) (some_cons (pickS (pickS (pickS (pickS (pickS pick0))))) (some_cons (pickS (pickS (pickS (pickS (pickS pick0))))) some_nil)))))))))
        refine ws_eff rfl (eo_alloc (cs := [.int .i64 0, (sl (⟨none, 0, 0⟩ : Hd))]) za_26) (fun _ => (sts_some (some_cons (pickS (pickS pick0)) (some_cons (pickS (pickS pick0)) (some_cons (pickS (pickS pick0)) (some_cons (pickS (pickS pick0)) (some_cons (pickS (pickS pick0)) (some_cons (pickS (pickS pick0)) (some_cons (pickS (pickS pick0)) (some_cons (pickS (pickS pick0)) (some_cons (pickS (pickS pick0)) (some_cons (pickS (pickS pick0)) (some_cons (pickS (pickS pick0)) some_nil))))))))))))) rfl fun b11 => ?_
        refine wa_1 (i := 3) (by kernel_rfl) ?_
        refine ws_call rfl (co_c1 fa_8 rfl fun w hw => c_impl_ExchangeBlock w v23.1 x13 (Rg.on (rds_own (pickS (pickS (pickS (pickS (pickS pick0)))))) hw) v25 x15 (Rg.on (rds_own (pickS pick0)) hw) hv26) (fun _ => (sts_some (some_cons (pickS (pickS (pickS pick0))) (some_cons (pickS (pickS (pickS pick0))) (some_cons (pickS (pickS (pickS pick0))) (some_cons (pickS (pickS (pickS pick0))) (some_cons (pickS (pickS (pickS pick0))) (some_cons (pickS (pickS (pickS pick0))) (some_cons (pickS (pickS (pickS pick0))) (some_cons (pickS (pickS (pickS pick0))) (some_cons (pickS (pickS (pickS pick0))) (some_cons (pickS (pickS (pickS pick0))) (some_cons (pickS (pickS (pickS pick0))) some_nil))))))))))))) rfl fun x17 => ?_
        refine wa_pure 4 rfl (po_move rfl) (some_cons (pickS (pickS (pickS pick0))) (some_cons (pickS (pickS (pickS pick0))) (some_cons (pickS (pickS (pickS pick0))) (some_cons (pickS (pickS (pickS pick0))) (some_cons (pickS (pickS (pickS pick0))) (some_cons (pickS (pickS (pickS pick0))) (some_cons (pickS (pickS (pickS pick0))) (some_cons (pickS (pickS (pickS pick0))) (some_cons (pickS (pickS (pickS pick0))) (some_cons (pickS (pickS (pickS pick0))) (some_cons (pickS (pickS (pickS pick0))) some_nil))))))))))) rfl (by kernel_rfl) (fun _ _ _ h => h) ?_
        refine wa_pure 5 rfl (po_extract rfl rfl) (some_cons (pickS (pickS (pickS pick0))) (some_cons (pickS (pickS (pickS pick0))) (some_cons (pickS (pickS (pickS pick0))) (some_cons (pickS (pickS (pickS pick0))) (some_cons (pickS (pickS (pickS pick0))) (some_cons (pickS (pickS (pickS pick0))) (some_cons (pickS (pickS (pickS pick0))) (some_cons (pickS (pickS (pickS pick0))) (some_cons (pickS (pickS (pickS pick0))) (some_cons (pickS (pickS (pickS pick0))) (some_cons (pickS (pickS (pickS pick0))) some_nil))))))))))) rfl (by kernel_rfl) (fun _ _ _ h => h) ?_
        refine wa_pure 6 rfl (po_extract rfl rfl) (some_cons (pickS (pickS (pickS pick0))) (some_cons (pickS (pickS (pickS pick0))) (some_cons (pickS (pickS (pickS pick0))) (some_cons (pickS (pickS (pickS pick0))) (some_cons (pickS (pickS (pickS pick0))) (some_cons (pickS (pickS (pickS pick0))) (some_cons (pickS (pickS (pickS pick0))) (some_cons (pickS (pickS (pickS pick0))) (some_cons (pickS (pickS (pickS pick0))) (some_cons (pickS (pickS (pickS pick0))) (some_cons (pickS (pickS (pickS pick0))) some_nil))))))))))) rfl (by kernel_rfl) (fun _ _ _ h => h) ?_
        refine wa_1 (i := 8) (by kernel_rfl) ?_
        refine ws_skipop rfl (so_box (cs' := [.int .i64 v26.1.Size, (sl x17)]) tk_26 (pickS pick0) rfl rfl rfl rfl rfl rfl rfl) (sts_some (some_cons (pickS (pickS (pickS pick0))) (some_cons (pickS (pickS (pickS pick0))) (some_cons (pickS (pickS (pickS pick0))) (some_cons (pickS (pickS (pickS pick0))) (some_cons (pickS (pickS (pickS pick0))) (some_cons (pickS (pickS (pickS pick0))) (some_cons (pickS (pickS (pickS pick0))) (some_cons (pickS (pickS (pickS pick0))) (some_cons (pickS (pickS (pickS pick0))) (some_cons (pickS (pickS (pickS pick0))) (some_cons (pickS (pickS (pickS pick0))) some_nil)))))))))))) ?_
        refine wa_pure 9 rfl (po_assign rfl) (some_cons (pickS (pickS (pickS pick0))) (some_cons (pickS (pickS (pickS pick0))) (some_cons (pickS (pickS (pickS pick0))) (some_cons (pickS (pickS (pickS pick0))) (some_cons (pickS (pickS (pickS pick0))) (some_cons (pickS (pickS (pickS pick0))) (some_cons (pickS (pickS (pickS pick0))) (some_cons (pickS (pickS (pickS pick0))) (some_cons (pickS (pickS (pickS pick0))) (some_cons (pickS (pickS (pickS pick0))) (some_cons (pickS (pickS (pickS pick0))) some_nil))))))))))) rfl (by kernel_rfl) (fun _ _ _ h => h) ?_
        refine wa_done (by kernel_rfl) ?_
        exact wq_meet (b11, x17) trivial (sub_cons rfl (sub_cons rfl (sub_cons rfl (sub_cons rfl (sub_cons rfl (sub_cons rfl (sub_cons rfl (sub_cons rfl sub_nil)))))))) (some_cons pick0 (some_cons pick0 (some_cons (pickS pick0) (some_cons (pickS pick0) (some_cons (pickS (pickS (pickS (pickS pick0)))) (some_cons (pickS (pickS (pickS (pickS pick0)))) (some_cons (pickS (pickS (pickS (pickS pick0)))) (some_cons (pickS (pickS (pickS (pickS (pickS pick0))))) (some_cons (pickS (pickS (pickS (pickS (pickS pick0))))) some_nil)))))))))
      refine ws_eff rfl (eo_alloc (cs := [.int .i64 0, (sl (⟨none, 0, 0⟩ : Hd))]) za_26) (fun _ => (sts_some (some_cons (pickS pick0) (some_cons (pickS pick0) (some_cons (pickS pick0) (some_cons (pickS pick0) (some_cons (pickS pick0) (some_cons (pickS pick0) (some_cons (pickS pick0) (some_cons (pickS pick0) (some_cons (pickS pick0) (some_cons (pickS pick0) (some_cons (pickS pick0) some_nil))))))))))))) rfl fun b12 => ?_
      refine wa_1 (i := 2) (by kernel_rfl) ?_
      refine ws_call rfl (co_c1 fa_19 rfl fun w hw => c_spec_FirstUse w v23.1 x13 (Rg.on (rds_own (pickS (pickS (pickS (pickS pick0))))) hw) hv25) (fun _ => (sts_some (some_cons (pickS (pickS pick0)) (some_cons (pickS (pickS pick0)) (some_cons (pickS (pickS pick0)) (some_cons (pickS (pickS pick0)) (some_cons (pickS (pickS pick0)) (some_cons (pickS (pickS pick0)) (some_cons (pickS (pickS pick0)) (some_cons (pickS (pickS pick0)) (some_cons (pickS (pickS pick0)) (some_cons (pickS (pickS pick0)) (some_cons (pickS (pickS pick0)) some_nil))))))))))))) rfl fun x18 => ?_
      refine wa_1 (i := 3) (by kernel_rfl) ?_
      refine ws_call rfl (co_c1 fa_8 rfl fun w hw => c_impl_ExchangeBlock w v23.1 x13 (Rg.on (rds_own (pickS (pickS (pickS (pickS (pickS pick0)))))) hw) v25 x18 (Rg.on (rds_own pick0) hw) hv26) (fun _ => (sts_some (some_cons (pickS (pickS (pickS pick0))) (some_cons (pickS (pickS (pickS pick0))) (some_cons (pickS (pickS (pickS pick0))) (some_cons (pickS (pickS (pickS pick0))) (some_cons (pickS (pickS (pickS pick0))) (some_cons (pickS (pickS (pickS pick0))) (some_cons (pickS (pickS (pickS pick0))) (some_cons (pickS (pickS (pickS pick0))) (some_cons (pickS (pickS (pickS pick0))) (some_cons (pickS (pickS (pickS pick0))) (some_cons (pickS (pickS (pickS pick0))) some_nil))))))))))))) rfl fun x19 => ?_
      refine wa_pure 4 rfl (po_move rfl) (some_cons (pickS (pickS (pickS pick0))) (some_cons (pickS (pickS (pickS pick0))) (some_cons (pickS (pickS (pickS pick0))) (some_cons (pickS (pickS (pickS pick0))) (some_cons (pickS (pickS (pickS pick0))) (some_cons (pickS (pickS (pickS pick0))) (some_cons (pickS (pickS (pickS pick0))) (some_cons (pickS (pickS (pickS pick0))) (some_cons (pickS (pickS (pickS pick0))) (some_cons (pickS (pickS (pickS pick0))) (some_cons (pickS (pickS (pickS pick0))) some_nil))))))))))) rfl (by kernel_rfl) (fun _ _ _ h => h) ?_
      refine wa_pure 5 rfl (po_extract rfl rfl) (some_cons (pickS (pickS (pickS pick0))) (some_cons (pickS (pickS (pickS pick0))) (some_cons (pickS (pickS (pickS pick0))) (some_cons (pickS (pickS (pickS pick0))) (some_cons (pickS (pickS (pickS pick0))) (some_cons (pickS (pickS (pickS pick0))) (some_cons (pickS (pickS (pickS pick0))) (some_cons (pickS (pickS (pickS pick0))) (some_cons (pickS (pickS (pickS pick0))) (some_cons (pickS (pickS (pickS pick0))) (some_cons (pickS (pickS (pickS pick0))) some_nil))))))))))) rfl (by kernel_rfl) (fun _ _ _ h => h) ?_
      refine wa_pure 6 rfl (po_extract rfl rfl) (some_cons (pickS (pickS (pickS pick0))) (some_cons (pickS (pickS (pickS pick0))) (some_cons (pickS (pickS (pickS pick0))) (some_cons (pickS (pickS (pickS pick0))) (some_cons (pickS (pickS (pickS pick0))) (some_cons (pickS (pickS (pickS pick0))) (some_cons (pickS (pickS (pickS pick0))) (some_cons (pickS (pickS (pickS pick0))) (some_cons (pickS (pickS (pickS pick0))) (some_cons (pickS (pickS (pickS pick0))) (some_cons (pickS (pickS (pickS pick0))) some_nil))))))))))) rfl (by kernel_rfl) (fun _ _ _ h => h) ?_
      refine wa_1 (i := 8) (by kernel_rfl) ?_
      refine ws_skipop rfl (so_box (cs' := [.int .i64 v26.1.Size, (sl x19)]) tk_26 (pickS (pickS pick0)) rfl rfl rfl rfl rfl rfl rfl) (sts_some (some_cons (pickS (pickS (pickS pick0))) (some_cons (pickS (pickS (pickS pick0))) (some_cons (pickS (pickS (pickS pick0))) (some_cons (pickS (pickS (pickS pick0))) (some_cons (pickS (pickS (pickS pick0))) (some_cons (pickS (pickS (pickS pick0))) (some_cons (pickS (pickS (pickS pick0))) (some_cons (pickS (pickS (pickS pick0))) (some_cons (pickS (pickS (pickS pick0))) (some_cons (pickS (pickS (pickS pick0))) (some_cons (pickS (pickS (pickS pick0))) some_nil)))))))))))) ?_
      refine wa_pure 9 rfl (po_assign rfl) (some_cons (pickS (pickS (pickS pick0))) (some_cons (pickS (pickS (pickS pick0))) (some_cons (pickS (pickS (pickS pick0))) (some_cons (pickS (pickS (pickS pick0))) (some_cons (pickS (pickS (pickS pick0))) (some_cons (pickS (pickS (pickS pick0))) (some_cons (pickS (pickS (pickS pick0))) (some_cons (pickS (pickS (pickS pick0))) (some_cons (pickS (pickS (pickS pick0))) (some_cons (pickS (pickS (pickS pick0))) (some_cons (pickS (pickS (pickS pick0))) some_nil))))))))))) rfl (by kernel_rfl) (fun _ _ _ h => h) ?_
      refine wa_done (by kernel_rfl) ?_
      exact wq_meet (b12, x19) trivial (sub_cons rfl (sub_cons rfl (sub_cons rfl (sub_cons rfl (sub_cons rfl (sub_cons rfl (sub_cons rfl (sub_cons rfl sub_nil)))))))) (some_cons pick0 (some_cons pick0 (some_cons (pickS pick0) (some_cons (pickS pick0) (some_cons (pickS (pickS (pickS (pickS pick0)))) (some_cons (pickS (pickS (pickS (pickS pick0)))) (some_cons (pickS (pickS (pickS (pickS pick0)))) (some_cons (pickS (pickS (pickS (pickS (pickS pick0))))) (some_cons (pickS (pickS (pickS (pickS (pickS pick0))))) some_nil)))))))))
    intro x20 _
    refine wq_then ?_
    refine wc_seq ?_
    refine bdO t0 fun y1 t1 t0 => ?_
    refine wj (J := Bool) (X := Unit) (fun z => y1 = z) (fun z _ => [(2, .bool z)]) (fun _ _ => []) ?_ ?_
    · skip
      refine wc_region ?_
      refine mv rfl rfl ?_
      refine mv rfl rfl ?_
      refine wlO_ (t := 154) t1 rfl (fun h14 t1 => ?_) fun h14 t1 => ?_
      · skip
        refine wl_guard_on (j := 1) rfl rfl rfl (mv rfl rfl ?_)
        refine wl_pure (po_pick_t rfl rfl) rfl ?_
        refine mv rfl rfl ?_
        refine wlO_ (t := 157) t1 rfl (fun h15 t1 => ?_) fun h15 t1 => ?_
        · skip
          refine wl_guard_on (j := 4) rfl rfl rfl (mv rfl rfl ?_)
          refine wl_pure (po_pick_t rfl rfl) rfl ?_
          refine mv rfl rfl ?_
          refine wlO_ (t := 160) t1 rfl (fun h16 t1 => ?_) fun h16 t1 => ?_
          · skip
            refine wl_guard_on (j := 7) rfl rfl rfl (wl_pure (v := .agg #[.int .i64 v24.1.Size, (sl x14)]) (po_load_boxs tk_26 (pickS (pickS pick0)) rfl rfl rfl) rfl ?_)
            refine wl_guard_on (j := 7) rfl rfl rfl (wl_pure (v := .agg #[.int .i64 v2.1.Size, (sl x1.1)]) (po_load_boxs tk_26 (pickS (pickS (pickS (pickS (pickS pick0))))) rfl rfl rfl) rfl ?_)
            refine bdO t1 fun v27 hv27 t1 => ?_
            refine wl_guard_on (j := 7) rfl rfl rfl (wl_call (co_c0 fa_13 rfl fun w hw => c_impl_SameBlock w v24.1 x14 (Rg.on (rds_own (pickS (pickS (pickS pick0)))) hw) v2.1 x1.1 (Rg.on (rds_own (pickS (pickS (pickS (pickS (pickS (pickS (pickS (pickS pick0))))))))) hw) hv27) rfl (fun _ => ?_))
            refine wl_pure (po_pick_t rfl rfl) rfl ?_
            refine mv rfl rfl ?_
            refine wlO_ (t := 165) t1 rfl (fun h17 t1 => ?_) fun h17 t1 => ?_
            · skip
              refine wl_guard_on (j := 12) rfl rfl rfl (wl_pure (v := .agg #[.int .i64 v26.1.Size, (sl x20.2)]) (po_load_boxs tk_26 pick0 rfl rfl rfl) rfl ?_)
              refine wl_guard_on (j := 12) rfl rfl rfl (wl_pure (v := .agg #[.int .i64 v7.1.Size, (sl x5)]) (po_load_boxs tk_26 (pickS (pickS (pickS (pickS pick0)))) rfl rfl rfl) rfl ?_)
              refine bdO t1 fun v28 hv28 t1 => ?_
              refine wl_guard_on (j := 12) rfl rfl rfl (wl_call (co_c0 fa_13 rfl fun w hw => c_impl_SameBlock w v26.1 x20.2 (Rg.on (rds_own (pickS pick0)) hw) v7.1 x5 (Rg.on (rds_own (pickS (pickS (pickS (pickS (pickS (pickS (pickS pick0)))))))) hw) hv28) rfl (fun _ => ?_))
              refine wl_pure (po_pick_t rfl rfl) rfl ?_
              refine mv rfl rfl ?_
              refine wlO_ (t := 170) t1 rfl (fun h18 t1 => ?_) fun h18 t1 => ?_
              · skip
                refine wl_guard_on (j := 17) rfl rfl rfl (mv rfl rfl ?_)
                refine bdO t1 fun v29 hv29 t1 => ?_
                refine wl_guard_on (j := 17) rfl rfl rfl (wl_call (co_c0 fa_20 rfl fun w hw => c_impl_ListOk w v2.2 x1.2 (Rg.on (rds_own (pickS (pickS (pickS (pickS (pickS (pickS pick0))))))) hw) hv29) rfl (fun _ => ?_))
                refine wl_pure (po_pick_t rfl rfl) rfl ?_
                refine asg rfl rfl ?_
                refine wl_nil ?_
                exact wj_meet _ () (mtE t1) (sub_cons rfl sub_nil) some_nil
              refine wl_guard_off (j := 17) rfl rfl rfl rfl rfl ?_
              refine wl_guard_off (j := 17) rfl rfl rfl rfl rfl ?_
              refine wl_pure (po_pick_f rfl rfl) rfl ?_
              refine asg rfl rfl ?_
              refine wl_nil ?_
              exact wj_meet _ () (mtE t1) (sub_cons rfl sub_nil) some_nil
            refine wl_guard_off (j := 12) rfl rfl rfl rfl rfl ?_
            refine wl_guard_off (j := 12) rfl rfl rfl rfl rfl ?_
            refine wl_guard_off (j := 12) rfl rfl rfl rfl rfl ?_
            refine wl_pure (po_pick_f rfl rfl) rfl ?_
            refine mv rfl rfl ?_
            refine wl_guard_off (j := 17) rfl rfl rfl rfl rfl ?_
            refine wl_guard_off (j := 17) rfl rfl rfl rfl rfl ?_
            refine wl_pure (po_pick_f rfl rfl) rfl ?_
            refine asg rfl rfl ?_
            refine wl_nil ?_
            exact wj_meet _ () (mtE t1) (sub_cons rfl sub_nil) some_nil
          refine wl_guard_off (j := 7) rfl rfl rfl rfl rfl ?_
          refine wl_guard_off (j := 7) rfl rfl rfl rfl rfl ?_
          refine wl_guard_off (j := 7) rfl rfl rfl rfl rfl ?_
          refine wl_pure (po_pick_f rfl rfl) rfl ?_
          refine mv rfl rfl ?_
          refine wl_guard_off (j := 12) rfl rfl rfl rfl rfl ?_
          refine wl_guard_off (j := 12) rfl rfl rfl rfl rfl ?_
          refine wl_guard_off (j := 12) rfl rfl rfl rfl rfl ?_
          refine wl_pure (po_pick_f rfl rfl) rfl ?_
          refine mv rfl rfl ?_
          refine wl_guard_off (j := 17) rfl rfl rfl rfl rfl ?_
          refine wl_guard_off (j := 17) rfl rfl rfl rfl rfl ?_
          refine wl_pure (po_pick_f rfl rfl) rfl ?_
          refine asg rfl rfl ?_
          refine wl_nil ?_
          exact wj_meet _ () (mtE t1) (sub_cons rfl sub_nil) some_nil
        refine wl_guard_off (j := 4) rfl rfl rfl rfl rfl ?_
        refine wl_pure (po_pick_f rfl rfl) rfl ?_
        refine mv rfl rfl ?_
        refine wl_guard_off (j := 7) rfl rfl rfl rfl rfl ?_
        refine wl_guard_off (j := 7) rfl rfl rfl rfl rfl ?_
        refine wl_guard_off (j := 7) rfl rfl rfl rfl rfl ?_
        refine wl_pure (po_pick_f rfl rfl) rfl ?_
        refine mv rfl rfl ?_
        refine wl_guard_off (j := 12) rfl rfl rfl rfl rfl ?_
        refine wl_guard_off (j := 12) rfl rfl rfl rfl rfl ?_
        refine wl_guard_off (j := 12) rfl rfl rfl rfl rfl ?_
        refine wl_pure (po_pick_f rfl rfl) rfl ?_
        refine mv rfl rfl ?_
        refine wl_guard_off (j := 17) rfl rfl rfl rfl rfl ?_
        refine wl_guard_off (j := 17) rfl rfl rfl rfl rfl ?_
        refine wl_pure (po_pick_f rfl rfl) rfl ?_
        refine asg rfl rfl ?_
        refine wl_nil ?_
        exact wj_meet _ () (mtE t1) (sub_cons rfl sub_nil) some_nil
      refine wl_guard_off (j := 1) rfl rfl rfl rfl rfl ?_
      refine wl_pure (po_pick_f rfl rfl) rfl ?_
      refine mv rfl rfl ?_
      refine wl_guard_off (j := 4) rfl rfl rfl rfl rfl ?_
      refine wl_pure (po_pick_f rfl rfl) rfl ?_
      refine mv rfl rfl ?_
      refine wl_guard_off (j := 7) rfl rfl rfl rfl rfl ?_
      refine wl_guard_off (j := 7) rfl rfl rfl rfl rfl ?_
      refine wl_guard_off (j := 7) rfl rfl rfl rfl rfl ?_
      refine wl_pure (po_pick_f rfl rfl) rfl ?_
      refine mv rfl rfl ?_
      refine wl_guard_off (j := 12) rfl rfl rfl rfl rfl ?_
      refine wl_guard_off (j := 12) rfl rfl rfl rfl rfl ?_
      refine wl_guard_off (j := 12) rfl rfl rfl rfl rfl ?_
      refine wl_pure (po_pick_f rfl rfl) rfl ?_
      refine mv rfl rfl ?_
      refine wl_guard_off (j := 17) rfl rfl rfl rfl rfl ?_
      refine wl_guard_off (j := 17) rfl rfl rfl rfl rfl ?_
      refine wl_pure (po_pick_f rfl rfl) rfl ?_
      refine asg rfl rfl ?_
      refine wl_nil ?_
      exact wj_meet _ () (mtE t1) (sub_cons rfl sub_nil) some_nil
    intro j4 _ hp
    obtain rfl : j4 = y1 := hp.symm
    refine wq_then ?_
    refine wc_ret ?_
    refine wq_then_ret ?_
    obtain rfl := Option.some.inj t0
    exact wq_ret1 rfl rfl fun w hw => ⟨rfl, hw.weak some_nil⟩
  refine wc_skip ?_
  refine wq_then ?_
  refine wc_seq ?_
  refine bdO t0 fun y1 t1 t0 => ?_
  refine wj (J := Bool) (X := Unit) (fun z => y1 = z) (fun z _ => [(2, .bool z)]) (fun _ _ => []) ?_ ?_
  · skip
    refine wc_region ?_
    refine mv rfl rfl ?_
    refine bdO t1 fun v30 hv30 t1 => ?_
    refine wl_call (co_c1 fa_18 rfl fun w hw => c_impl_UndoList w v2.2 x1.2 (Rg.on (rds_own (pickS (pickS pick0))) hw) hv30) rfl fun x23 => ?_
    refine wl_pure (po_lenr (rds_own pick0) el_27 rfl) rfl ?_
    refine wl_pure (po_eql rfl rfl) rfl ?_
    refine mv rfl rfl ?_
    refine wlO_ (t := 178) t1 rfl (fun h19 t1 => ?_) fun h19 t1 => ?_
    · skip
      refine wl_guard_on (j := 4) rfl rfl rfl (mv rfl rfl ?_)
      refine bdO t1 fun v31 hv31 t1 => ?_
      refine wl_guard_on (j := 4) rfl rfl rfl (wl_call (co_c0 fa_9 rfl fun w hw => c_impl_IsExchange w v2.2 x1.2 (Rg.on (rds_own (pickS (pickS (pickS pick0)))) hw) hv31) rfl (fun _ => ?_))
      refine wl_guard_on (j := 4) rfl rfl rfl (wl_pure (po_not rfl) rfl ?_)
      refine wl_pure (po_pick_t rfl rfl) rfl ?_
      refine asg rfl rfl ?_
      refine wl_nil ?_
      exact wj_meet _ () (mtE t1) (sub_cons rfl sub_nil) some_nil
    refine wl_guard_off (j := 4) rfl rfl rfl rfl rfl ?_
    refine wl_guard_off (j := 4) rfl rfl rfl rfl rfl ?_
    refine wl_guard_off (j := 4) rfl rfl rfl rfl rfl ?_
    refine wl_pure (po_pick_f rfl rfl) rfl ?_
    refine asg rfl rfl ?_
    refine wl_nil ?_
    exact wj_meet _ () (mtE t1) (sub_cons rfl sub_nil) some_nil
  intro j5 _ hp
  obtain rfl : j5 = y1 := hp.symm
  refine wq_then ?_
  refine wc_ret ?_
  obtain rfl := Option.some.inj t0
  exact wq_ret1 rfl rfl fun w hw => ⟨rfl, hw.weak some_nil⟩

end Go.Proofs.Ytmkmlnfkokfmaaa
