/-
  Each Go function computes its Lean function (part 1).
-/
import Derived.Test.YtgimnmlcdidcdaaFacts
namespace Go.Proofs.Ytgimnmlcdidcdaa
open Go Go.RowKit Go.Proofs
set_option maxRecDepth 100000

theorem c_spec_l01In (w : World) (a_x : Int) (a_least : Int) (a_most : Int) {r : Bool} (t0 : spec_l01In a_x a_least a_most = some r) : Calls Try.prog 10 #[.int .i64 a_x, .int .i64 a_least, .int .i64 a_most] w fun e w' => e = .returned (.bool r) ∧ SH w [] [] w' := by
  refine calls_of_wc (args := [_, _, _]) Try.func10 rfl Try.ntmps10 rfl ?_
  unfold spec_l01In at t0
  refine wcr ?_
  refine asg rfl rfl ?_
  refine wnt ?_
  refine wc_seq ?_
  refine wc_join (X := Unit) (fun _ => True) (fun _ => [(6, .bool ((decide (a_x ≥ a_least)) && (decide (a_x ≤ a_most))))]) (fun _ => []) ?_ ?_
  · skip
    refine wc_region ?_
    refine mv rfl rfl ?_
    refine mv rfl rfl ?_
    refine wl_pure (po_geq rfl rfl) rfl ?_
    refine mv rfl rfl ?_
    refine wl_fork (t := 10) rfl (fun h1 => ?_) fun h1 => ?_
    · skip
      refine wl_guard_on (j := 3) rfl rfl rfl (mv rfl rfl ?_)
      refine wl_guard_on (j := 3) rfl rfl rfl (mv rfl rfl ?_)
      refine wl_guard_on (j := 3) rfl rfl rfl (wl_pure (po_leq rfl rfl) rfl ?_)
      refine wl_pure (po_pick_t rfl rfl) rfl ?_
      refine asg rfl rfl ?_
      refine wl_nil ?_
      exact wq_meet () trivial (sub_b rfl (by rw [h1]; rfl) sub_nil) some_nil
    refine wl_guard_off (j := 3) rfl rfl rfl rfl rfl ?_
    refine wl_guard_off (j := 3) rfl rfl rfl rfl rfl ?_
    refine wl_guard_off (j := 3) rfl rfl rfl rfl rfl ?_
    refine wl_pure (po_pick_f rfl rfl) rfl ?_
    refine asg rfl rfl ?_
    refine wl_nil ?_
    exact wq_meet () trivial (sub_b rfl (by rw [h1]; rfl) sub_nil) some_nil
  intro _ _
  refine wq_then ?_
  refine wc_ret ?_
  obtain rfl := Option.some.inj t0
  exact wq_ret1 rfl rfl fun w hw => ⟨rfl, hw.weak some_nil⟩

theorem c_spec_WholeCell (w : World) (a_a : Int) {r : GCell} (t0 : spec_WholeCell a_a = some r) : Calls Try.prog 11 #[.int .i64 a_a] w fun e w' => e = .returned (.agg #[.int .i64 r.Split, .int .i64 r.A, .int .i64 r.B]) ∧ SH w [] [] w' := by
  refine calls_of_wc (args := [_]) Try.func11 rfl Try.ntmps11 rfl ?_
  unfold spec_WholeCell at t0
  refine wcr ?_
  refine wl_eff (eo_alloc (cs := [.int .i64 0, .int .i64 0, .int .i64 0]) za_32) rfl fun b1 => ?_
  refine wnt ?_
  refine wc_seq ?_
  refine wcr ?_
  refine mv rfl rfl ?_
  refine bdO t0 fun v1 hv1 t0 => ?_
  refine wl_call (co_c0 fa_10 rfl fun w hw => c_spec_l01In w a_a 0 5 hv1) rfl fun _ => ?_
  refine wl_pure (po_not rfl) rfl ?_
  refine wnt ?_
  refine wcO t0 rfl (fun h1 t0 => ?_) fun h1 t0 => ?_
  · skip
    refine wcr ?_
    refine wl_pure (po_build rfl bd_32) rfl ?_
    refine wl_skipop (so_box (cs' := [.int .i64 0, .int .i64 0, .int .i64 0]) tk_32 pick0 rfl rfl rfl rfl rfl rfl rfl) ?_
    refine wnt ?_
    refine wc_ret ?_
    refine wq_then_ret ?_
    obtain rfl := Option.some.inj t0
    exact wq_retc rfl tk_32 rfl pick0 rfl fun w hw => ⟨rfl, hw.weak some_nil⟩
  refine wc_skip ?_
  refine wq_then ?_
  refine wcr ?_
  refine mv rfl rfl ?_
  refine mv rfl rfl ?_
  refine wl_pure (po_build rfl (bd_32_1_2 a_a a_a)) rfl ?_
  refine wl_skipop (so_box (cs' := [.int .i64 0, .int .i64 a_a, .int .i64 a_a]) tk_32 pick0 rfl rfl rfl rfl rfl rfl rfl) ?_
  refine wnt ?_
  refine wc_ret ?_
  obtain rfl := Option.some.inj t0
  exact wq_retc rfl tk_32 rfl pick0 rfl fun w hw => ⟨rfl, hw.weak some_nil⟩

theorem c_spec_StarBlock (w : World)  {r : GBlock} (t0 : spec_StarBlock = some r) : Calls Try.prog 9 #[] w fun e w' => ∃ x : Hd, e = .returned (.agg #[.int .i64 r.Size, (sl x)]) ∧ SH w [] [ownF (sl x) r.Cells] w' := by
  refine calls_of_wc (args := []) Try.func9 rfl Try.ntmps9 rfl ?_
  unfold spec_StarBlock at t0
  refine wcr ?_
  refine wl_eff (eo_alloc (cs := [.int .i64 0, (sl (⟨none, 0, 0⟩ : Hd))]) za_24) rfl fun b1 => ?_
  refine wnt ?_
  refine wcr ?_
  refine bdO t0 fun v1 hv1 t0 => ?_
  refine wl_call (co_c0 fa_11 rfl fun w hw => c_spec_WholeCell w 1 hv1) rfl fun _ => ?_
  refine wl_eff (eo_alloc (cs := [.int .i64 0, .int .i64 0, .int .i64 0]) za_32) rfl fun b2 => ?_
  refine wl_skipop (so_box (cs' := [.int .i64 v1.Split, .int .i64 v1.A, .int .i64 v1.B]) tk_32 pick0 rfl rfl rfl rfl rfl rfl rfl) ?_
  refine wnt ?_
  refine wcr ?_
  refine wl_pure (po_build rfl (bd_32_0_1_2 1 0 1)) rfl ?_
  refine wl_pure (v := .agg #[.int .i64 v1.Split, .int .i64 v1.A, .int .i64 v1.B]) (po_load_boxs tk_32 pick0 rfl rfl rfl) rfl ?_
  refine wl_pure (po_build rfl (bd_32_0_1_2 2 1 0)) rfl ?_
  refine wl_pure (v := .agg #[.int .i64 v1.Split, .int .i64 v1.A, .int .i64 v1.B]) (po_load_boxs tk_32 pick0 rfl rfl rfl) rfl ?_
  refine wl_pure (v := .agg #[.int .i64 v1.Split, .int .i64 v1.A, .int .i64 v1.B]) (po_load_boxs tk_32 pick0 rfl rfl rfl) rfl ?_
  refine wl_pure (v := .agg #[.int .i64 v1.Split, .int .i64 v1.A, .int .i64 v1.B]) (po_load_boxs tk_32 pick0 rfl rfl rfl) rfl ?_
  refine wl_pure (po_build rfl (bd_32_0_1_2 2 0 1)) rfl ?_
  refine wl_pure (v := .agg #[.int .i64 v1.Split, .int .i64 v1.A, .int .i64 v1.B]) (po_load_boxs tk_32 pick0 rfl rfl rfl) rfl ?_
  refine wl_pure (po_build rfl (bd_32_0_1_2 1 1 0)) rfl ?_
  refine wl_eff (eo_buildSlice (qs := [(0, .agg #[.int .i64 1, .int .i64 0, .int .i64 1]), (1, .agg #[.int .i64 v1.Split, .int .i64 v1.A, .int .i64 v1.B]), (2, .agg #[.int .i64 2, .int .i64 1, .int .i64 0]), (3, .agg #[.int .i64 v1.Split, .int .i64 v1.A, .int .i64 v1.B]), (4, .agg #[.int .i64 v1.Split, .int .i64 v1.A, .int .i64 v1.B]), (5, .agg #[.int .i64 v1.Split, .int .i64 v1.A, .int .i64 v1.B]), (6, .agg #[.int .i64 2, .int .i64 0, .int .i64 1]), (7, .agg #[.int .i64 v1.Split, .int .i64 v1.A, .int .i64 v1.B]), (8, .agg #[.int .i64 1, .int .i64 1, .int .i64 0])]) rfl (sb_22_9 1 0 1 v1.Split v1.A v1.B 2 1 0 v1.Split v1.A v1.B v1.Split v1.A v1.B v1.Split v1.A v1.B 2 0 1 v1.Split v1.A v1.B 1 1 0)) rfl fun b3 => ?_
  refine wl_pure (po_build rfl (bd_24_0_1 3 (⟨some ⟨b3, 0, none⟩, 9, 9⟩ : Hd))) rfl ?_
  refine wl_skipop (so_box (cs' := [.int .i64 3, (sl (⟨some ⟨b3, 0, none⟩, 9, 9⟩ : Hd))]) tk_24 (pickS (pickS pick0)) rfl rfl rfl rfl rfl rfl rfl) ?_
  refine wnt ?_
  refine wc_ret ?_
  obtain rfl := Option.some.inj t0
  exact wq_retc rfl tk_24 rfl pick0 rfl fun w hw => ⟨(⟨some ⟨b3, 0, none⟩, 9, 9⟩ : Hd), rfl, hw.weak (some_cons (pick_box_own (pickS pick0) (n := 9) (xs := ([(GCell.mk 1 0 1), v1, (GCell.mk 2 1 0), v1, v1, v1, (GCell.mk 2 0 1), v1, (GCell.mk 1 1 0)] : List GCell)) rfl rfl (by unfold maxLen; omega)) some_nil)⟩

theorem c_spec_CellOk (w : World) (a_c : GCell) {r : Bool} (t0 : spec_CellOk a_c = some r) : Calls Try.prog 22 #[.agg #[.int .i64 a_c.Split, .int .i64 a_c.A, .int .i64 a_c.B]] w fun e w' => e = .returned (.bool r) ∧ SH w [] [] w' := by
  refine calls_of_wc (args := [_]) Try.func22 rfl Try.ntmps22 rfl ?_
  unfold spec_CellOk at t0
  refine wcr ?_
  refine wl_eff (eo_box rfl rfl) rfl fun b1 => ?_
  refine asg rfl rfl ?_
  refine wnt ?_
  refine wc_seq ?_
  refine wc_seq ?_
  refine bdO t0 fun y1 t1 t0 => ?_
  refine wj (J := Bool) (X := Unit) (fun z => y1 = z) (fun z _ => [(1, ptr b1 0), (18, .bool z)]) (fun _ _ => [box b1 [.int .i64 a_c.Split, .int .i64 a_c.A, .int .i64 a_c.B]]) ?_ ?_
  · skip
    refine wc_region ?_
    refine wl_pure (po_fld fo_32_0 rfl) rfl ?_
    refine wl_pure (v := .int .i64 a_c.Split) (po_load_box tk_3 pick0 rfl rfl) rfl ?_
    refine bdO t1 fun v1 hv1 t1 => ?_
    refine wl_call (co_c0 fa_10 rfl fun w hw => c_spec_l01In w a_c.Split 0 2 hv1) rfl fun _ => ?_
    refine wl_pure (po_not rfl) rfl ?_
    refine mv rfl rfl ?_
    refine wlO_ (t := 7) t1 rfl (fun h1 t1 => ?_) fun h1 t1 => ?_
    · skip
      refine wl_guard_off (j := 4) rfl rfl rfl rfl rfl ?_
      refine wl_guard_off (j := 4) rfl rfl rfl rfl rfl ?_
      refine wl_guard_off (j := 4) rfl rfl rfl rfl rfl ?_
      refine wl_guard_off (j := 4) rfl rfl rfl rfl rfl ?_
      refine wl_pure (po_pick_t rfl rfl) rfl ?_
      refine mv rfl rfl ?_
      refine wl_guard_off (j := 10) rfl rfl rfl rfl rfl ?_
      refine wl_guard_off (j := 10) rfl rfl rfl rfl rfl ?_
      refine wl_guard_off (j := 10) rfl rfl rfl rfl rfl ?_
      refine wl_guard_off (j := 10) rfl rfl rfl rfl rfl ?_
      refine wl_pure (po_pick_t rfl rfl) rfl ?_
      refine wl_nil ?_
      exact wj_meet _ () (mtE t1) (sub_cons rfl (sub_cons rfl sub_nil)) (some_cons pick0 some_nil)
    refine wl_guard_on (j := 4) rfl rfl rfl (wl_pure (po_fld fo_32_1 rfl) rfl ?_)
    refine wl_guard_on (j := 4) rfl rfl rfl (wl_pure (v := .int .i64 a_c.A) (po_load_box tk_3 pick0 rfl rfl) rfl ?_)
    refine bdO t1 fun v2 hv2 t1 => ?_
    refine wl_guard_on (j := 4) rfl rfl rfl (wl_call (co_c0 fa_10 rfl fun w hw => c_spec_l01In w a_c.A 0 5 hv2) rfl (fun _ => ?_))
    refine wl_guard_on (j := 4) rfl rfl rfl (wl_pure (po_not rfl) rfl ?_)
    refine wl_pure (po_pick_f rfl rfl) rfl ?_
    refine mv rfl rfl ?_
    refine wlO_ (t := 13) t1 rfl (fun h2 t1 => ?_) fun h2 t1 => ?_
    · skip
      refine wl_guard_off (j := 10) rfl rfl rfl rfl rfl ?_
      refine wl_guard_off (j := 10) rfl rfl rfl rfl rfl ?_
      refine wl_guard_off (j := 10) rfl rfl rfl rfl rfl ?_
      refine wl_guard_off (j := 10) rfl rfl rfl rfl rfl ?_
      refine wl_pure (po_pick_t rfl rfl) rfl ?_
      refine wl_nil ?_
      exact wj_meet _ () (mtE t1) (sub_cons rfl (sub_cons rfl sub_nil)) (some_cons pick0 some_nil)
    refine wl_guard_on (j := 10) rfl rfl rfl (wl_pure (po_fld fo_32_2 rfl) rfl ?_)
    refine wl_guard_on (j := 10) rfl rfl rfl (wl_pure (v := .int .i64 a_c.B) (po_load_box tk_3 pick0 rfl rfl) rfl ?_)
    refine bdO t1 fun v3 hv3 t1 => ?_
    refine wl_guard_on (j := 10) rfl rfl rfl (wl_call (co_c0 fa_10 rfl fun w hw => c_spec_l01In w a_c.B 0 5 hv3) rfl (fun _ => ?_))
    refine wl_guard_on (j := 10) rfl rfl rfl (wl_pure (po_not rfl) rfl ?_)
    refine wl_pure (po_pick_f rfl rfl) rfl ?_
    refine wl_nil ?_
    exact wj_meet _ () (mtE t1) (sub_cons rfl (sub_cons rfl sub_nil)) (some_cons pick0 some_nil)
  intro j1 _ hp
  obtain rfl : j1 = y1 := hp.symm
  refine wq_then ?_
  refine wcO t0 rfl (fun h3 t0 => ?_) fun h3 t0 => ?_
  · skip
    refine wcr ?_
    refine asg rfl rfl ?_
    refine wnt ?_
    refine wc_ret ?_
    refine wq_then_ret ?_
    obtain rfl := Option.some.inj t0
    exact wq_ret1 rfl rfl fun w hw => ⟨rfl, hw.weak some_nil⟩
  refine wc_skip ?_
  refine wq_then ?_
  refine wcr ?_
  refine wl_pure (po_fld fo_32_0 rfl) rfl ?_
  refine wl_pure (v := .int .i64 a_c.Split) (po_load_box tk_3 pick0 rfl rfl) rfl ?_
  refine wl_pure (po_eql rfl rfl) rfl ?_
  refine wl_pure (po_fld fo_32_1 rfl) rfl ?_
  refine wl_pure (v := .int .i64 a_c.A) (po_load_box tk_3 pick0 rfl rfl) rfl ?_
  refine wl_pure (po_fld fo_32_2 rfl) rfl ?_
  refine wl_pure (v := .int .i64 a_c.B) (po_load_box tk_3 pick0 rfl rfl) rfl ?_
  refine wl_pure (po_eql rfl rfl) rfl ?_
  refine wl_pure (po_eql_bool ub_4 rfl rfl) rfl ?_
  refine asg rfl rfl ?_
  refine wnt ?_
  refine wc_ret ?_
  obtain rfl := Option.some.inj t0
  exact wq_ret1 rfl rfl fun w hw => ⟨rfl, hw.weak some_nil⟩

theorem c_spec_SplitCell (w : World) (a_split : Int) (a_a : Int) (a_b : Int) {r : GCell} (t0 : spec_SplitCell a_split a_a a_b = some r) : Calls Try.prog 12 #[.int .i64 a_split, .int .i64 a_a, .int .i64 a_b] w fun e w' => e = .returned (.agg #[.int .i64 r.Split, .int .i64 r.A, .int .i64 r.B]) ∧ SH w [] [] w' := by
  refine calls_of_wc (args := [_, _, _]) Try.func12 rfl Try.ntmps12 rfl ?_
  unfold spec_SplitCell at t0
  refine wcr ?_
  refine wl_eff (eo_alloc (cs := [.int .i64 0, .int .i64 0, .int .i64 0]) za_32) rfl fun b1 => ?_
  refine wnt ?_
  refine wc_seq ?_
  refine wcr ?_
  refine mv rfl rfl ?_
  refine mv rfl rfl ?_
  refine wl_pure (po_eql rfl rfl) rfl ?_
  refine wnt ?_
  refine wcO t0 rfl (fun h1 t0 => ?_) fun h1 t0 => ?_
  · skip
    refine wcr ?_
    refine mv rfl rfl ?_
    refine bdO t0 fun v1 hv1 t0 => ?_
    refine wl_call (co_c0 fa_11 rfl fun w hw => c_spec_WholeCell w a_a hv1) rfl fun _ => ?_
    refine wl_skipop (so_box (cs' := [.int .i64 v1.Split, .int .i64 v1.A, .int .i64 v1.B]) tk_32 pick0 rfl rfl rfl rfl rfl rfl rfl) ?_
    refine wnt ?_
    refine wc_ret ?_
    refine wq_then_ret ?_
    obtain rfl := Option.some.inj t0
    exact wq_retc rfl tk_32 rfl pick0 rfl fun w hw => ⟨rfl, hw.weak some_nil⟩
  refine wc_skip ?_
  refine wq_then ?_
  refine wcr ?_
  refine mv rfl rfl ?_
  refine mv rfl rfl ?_
  refine mv rfl rfl ?_
  refine wl_pure (po_build rfl (bd_32_0_1_2 a_split a_a a_b)) rfl ?_
  refine wl_eff (eo_alloc (cs := [.int .i64 0, .int .i64 0, .int .i64 0]) za_32) rfl fun b2 => ?_
  refine wl_skipop (so_box (cs' := [.int .i64 a_split, .int .i64 a_a, .int .i64 a_b]) tk_32 pick0 rfl rfl rfl rfl rfl rfl rfl) ?_
  refine wnt ?_
  refine wc_seq ?_
  refine wcr ?_
  refine wl_pure (v := .agg #[.int .i64 a_split, .int .i64 a_a, .int .i64 a_b]) (po_load_boxs tk_32 pick0 rfl rfl rfl) rfl ?_
  refine bdO t0 fun v2 hv2 t0 => ?_
  refine wl_call (co_c0 fa_22 rfl fun w hw => c_spec_CellOk w (GCell.mk a_split a_a a_b) hv2) rfl fun _ => ?_
  refine wl_pure (po_not rfl) rfl ?_
  refine wnt ?_
  refine wcO t0 rfl (fun h2 t0 => ?_) fun h2 t0 => ?_
  · skip
    refine wcr ?_
    refine wl_pure (po_build rfl bd_32) rfl ?_
    refine wl_skipop (so_box (cs' := [.int .i64 0, .int .i64 0, .int .i64 0]) tk_32 (pickS pick0) rfl rfl rfl rfl rfl rfl rfl) ?_
    refine wnt ?_
    refine wc_ret ?_
    refine wq_then_ret ?_
    obtain rfl := Option.some.inj t0
    exact wq_retc rfl tk_32 rfl pick0 rfl fun w hw => ⟨rfl, hw.weak some_nil⟩
  refine wc_skip ?_
  refine wq_then ?_
  refine wcr ?_
  refine wl_pure (v := .agg #[.int .i64 a_split, .int .i64 a_a, .int .i64 a_b]) (po_load_boxs tk_32 pick0 rfl rfl rfl) rfl ?_
  refine wl_skipop (so_box (cs' := [.int .i64 a_split, .int .i64 a_a, .int .i64 a_b]) tk_32 (pickS pick0) rfl rfl rfl rfl rfl rfl rfl) ?_
  refine wnt ?_
  refine wc_ret ?_
  obtain rfl := Option.some.inj t0
  exact wq_retc rfl tk_32 rfl pick0 rfl fun w hw => ⟨rfl, hw.weak some_nil⟩

theorem c_spec_SampleBlock (w : World) (a_n : Int) {r : GBlock} (t0 : spec_SampleBlock a_n = some r) : Calls Try.prog 4 #[.int .i64 a_n] w fun e w' => ∃ x : Hd, e = .returned (.agg #[.int .i64 r.Size, (sl x)]) ∧ SH w [] [ownF (sl x) r.Cells] w' := by
  refine calls_of_wc (args := [_]) Try.func4 rfl Try.ntmps4 rfl ?_
  unfold spec_SampleBlock at t0
  refine wcr ?_
  refine wl_eff (eo_alloc (cs := [.int .i64 0, (sl (⟨none, 0, 0⟩ : Hd))]) za_24) rfl fun b1 => ?_
  refine wnt ?_
  refine wc_seq ?_
  refine wcr ?_
  refine mv rfl rfl ?_
  refine wl_pure (po_eql rfl rfl) rfl ?_
  refine wnt ?_
  refine wcO t0 rfl (fun h1 t0 => ?_) fun h1 t0 => ?_
  · skip
    refine wcr ?_
    refine bdO t0 fun v1 hv1 t0 => ?_
    refine wl_call (co_c1 fa_9 rfl fun w hw => c_spec_StarBlock w hv1) rfl fun x1 => ?_
    refine wl_skipop (so_box (cs' := [.int .i64 v1.Size, (sl x1)]) tk_24 (pickS pick0) rfl rfl rfl rfl rfl rfl rfl) ?_
    refine wnt ?_
    refine wc_ret ?_
    refine wq_then_ret ?_
    obtain rfl := Option.some.inj t0
    exact wq_retc rfl tk_24 rfl pick0 rfl fun w hw => ⟨x1, rfl, hw.weak (some_cons (pickS pick0) some_nil)⟩
  refine wc_skip ?_
  refine wq_then ?_
  refine wc_seq ?_
  refine wcr ?_
  refine mv rfl rfl ?_
  refine bdO t0 fun v2 hv2 t0 => ?_
  refine wl_call (co_c0 fa_10 rfl fun w hw => c_spec_l01In w a_n 1 9 hv2) rfl fun _ => ?_
  refine wl_pure (po_not rfl) rfl ?_
  refine wnt ?_
  refine wcO t0 rfl (fun h2 t0 => ?_) fun h2 t0 => ?_
  · skip
    refine wcr ?_
    refine wl_pure (po_build rfl bd_24) rfl ?_
    refine wl_skipop (so_box (cs' := [.int .i64 0, (sl (⟨none, 0, 0⟩ : Hd))]) tk_24 pick0 rfl rfl rfl rfl rfl rfl rfl) ?_
    refine wnt ?_
    refine wc_ret ?_
    refine wq_then_ret ?_
    obtain rfl := Option.some.inj t0
    exact wq_retc rfl tk_24 rfl pick0 rfl fun w hw => ⟨(⟨none, 0, 0⟩ : Hd), rfl, hw.weak (some_cons pick_nil some_nil)⟩
  refine wc_skip ?_
  refine wq_then ?_
  refine wcr ?_
  refine wl_pure (po_build rfl (bd_24_0 2)) rfl ?_
  refine wl_eff (eo_alloc (cs := [.int .i64 0, (sl (⟨none, 0, 0⟩ : Hd))]) za_24) rfl fun b2 => ?_
  refine wl_skipop (so_box (cs' := [.int .i64 2, (sl (⟨none, 0, 0⟩ : Hd))]) tk_24 pick0 rfl rfl rfl rfl rfl rfl rfl) ?_
  refine wnt ?_
  refine wc_seq ?_
  refine wcr ?_
  refine asg rfl rfl ?_
  refine wnt ?_
  refine lpO_inv t0 fun y1 l1 t0 => ?_
  refine wj (J := List GCell) (X := Hd) (fun z => y1 = z) (fun _ _ => [(2, ptr b1 0), (3, ptr b2 0)]) (fun z x => [box b2 [.int .i64 2, (sl x)], box b1 [.int .i64 0, (sl (⟨none, 0, 0⟩ : Hd))], ownF (sl x) z]) ?_ ?_
  · skip
    refine wc_block ?_
    refine wc_forO (X := Hd) l1 (fun k1 s1 x1l => [(0, .int .i64 a_n), (2, ptr b1 0), (3, ptr b2 0), (4, .int .i64 ((k1 : Nat) : Int))]) (fun k1 s1 x1l => [box b2 [.int .i64 2, (sl x1l)], box b1 [.int .i64 0, (sl (⟨none, 0, 0⟩ : Hd))], ownF (sl x1l) s1]) (⟨none, 0, 0⟩ : Hd) (sub_cons rfl (sub_cons rfl (sub_cons rfl (sub_cons rfl sub_nil)))) (some_cons pick0 (some_cons pick0 (some_cons pick_nil some_nil))) fun k1 s1 x1l hN1 l1 => ?_
    by_cases hk1 : k1 < 4
    · skip
      refine forO_step l1 hk1 fun _ t1 l1 => ?_
      unfold spec_SampleBlock_L1 at t1
      have c1 : (decide (((k1 : Nat) : Int) < 4)) = true := decide_eq_true (by omega)
      refine wc_seq ?_
      refine wcr ?_
      refine mv rfl rfl ?_
      refine wl_pure (po_lss rfl rfl) rfl ?_
      refine wnt ?_
      refine wc_cond_t rfl c1 ?_
      refine wc_skip ?_
      refine wq_then ?_
      refine wc_seq ?_
      refine wc_block ?_
      refine wcr ?_
      refine mv rfl rfl ?_
      refine wl_pure (po_quo rfl rfl (by decide)) rfl ?_
      refine wl_pure (po_add rfl rfl) rfl ?_
      refine bdO t1 fun v3 hv3 t1 => ?_
      refine wl_call (co_c0 fa_11 rfl fun w hw => c_spec_WholeCell w (wr ((wr (a_n.tdiv 5)) + 1)) hv3) rfl fun _ => ?_
      refine wl_eff (eo_alloc (cs := [.int .i64 0, .int .i64 0, .int .i64 0]) za_32) rfl fun b3 => ?_
      refine wl_skipop (so_box (cs' := [.int .i64 v3.Split, .int .i64 v3.A, .int .i64 v3.B]) tk_32 pick0 rfl rfl rfl rfl rfl rfl rfl) ?_
      refine wnt ?_
      refine wc_seq ?_
      refine wcr ?_
      refine mv rfl rfl ?_
      refine mv rfl rfl ?_
      refine wl_pure (po_rem rfl rfl (by decide)) rfl ?_
      refine wl_pure (po_lss rfl rfl) rfl ?_
      refine wnt ?_
      refine bdO t1 fun y2 t2 t1 => ?_
      refine wj (J := GCell) (X := Unit) (fun z => y2 = z) (fun _ _ => [(0, .int .i64 a_n), (2, ptr b1 0), (3, ptr b2 0), (4, .int .i64 ((k1 : Nat) : Int)), (5, ptr b3 0)]) (fun z _ => [box b3 [.int .i64 ((z).Split), .int .i64 ((z).A), .int .i64 ((z).B)], box b2 [.int .i64 2, (sl x1l)], box b1 [.int .i64 0, (sl (⟨none, 0, 0⟩ : Hd))], ownF (sl x1l) s1]) ?_ ?_
      · skip
        refine wcO t2 rfl (fun h3 t2 => ?_) fun h3 t2 => ?_
        · skip
          refine wc_region ?_
          refine bdO t2 fun v4 hv4 t2 => ?_
          refine wl_call (co_c0 fa_12 rfl fun w hw => c_spec_SplitCell w 1 0 1 hv4) rfl fun _ => ?_
          refine wl_skipop (so_box (cs' := [.int .i64 v4.Split, .int .i64 v4.A, .int .i64 v4.B]) tk_32 pick0 rfl rfl rfl rfl rfl rfl rfl) ?_
          refine wl_nil ?_
          exact wj_meet _ () (mtE t2) (sub_cons rfl (sub_cons rfl (sub_cons rfl (sub_cons rfl (sub_cons rfl sub_nil))))) (some_cons pick0 (some_cons pick0 (some_cons pick0 (some_cons pick0 some_nil))))
        refine wc_skip ?_
        exact wj_meet _ () (mtE t2) (sub_cons rfl (sub_cons rfl (sub_cons rfl (sub_cons rfl (sub_cons rfl sub_nil))))) (some_cons pick0 (some_cons pick0 (some_cons pick0 (some_cons pick0 some_nil))))
      intro j1 _ hp
      obtain rfl : j1 = y2 := hp.symm
      refine wq_then ?_
      refine wc_region ?_
      refine wl_pure (po_fld fo_24_1 rfl) rfl ?_
      refine wl_pure (v := (sl x1l)) (po_load_box tk_22 (pickS pick0) rfl rfl) rfl ?_
      refine wl_pure (v := .agg #[.int .i64 ((j1).Split), .int .i64 ((j1).A), .int .i64 ((j1).B)]) (po_load_boxs tk_32 pick0 rfl rfl rfl) rfl ?_
      refine wl_eff (eo_buildSlice rfl (sb_22_1 ((j1).Split) ((j1).A) ((j1).B))) rfl fun b4 => ?_
      refine gdO t1 fun g1 t1 => ?_
      refine wl_eff (eo_append (xs := s1) (ys := ([(j1)] : List GCell)) ak_22 (pickS (pickS (pickS (pickS pick0)))) rfl rfl (slin_rd fun _ g => Rg.on (rds_own (pick_box_own pick0 (n := 1) (xs := ([(j1)] : List GCell)) rfl rfl (by unfold maxLen; omega))) g) g1) rfl fun x4 => ?_
      refine wl_pure (po_fld fo_24_1 rfl) rfl ?_
      refine wl_skipop (so_box (cs' := [.int .i64 2, (sl x4)]) tk_22 (pickS (pickS (pickS pick0))) rfl rfl rfl rfl rfl rfl rfl) ?_
      refine wl_nil ?_
      refine wq_block ?_
      refine wq_then ?_
      refine wc_region ?_
      refine mv rfl rfl ?_
      refine wl_pure (po_inc rfl rfl (by omega)) rfl ?_
      refine asg rfl rfl ?_
      refine wl_nil ?_
      exact wq_rnd hk1 (stpN l1 t1) x4 (sub_cons rfl (sub_cons rfl (sub_cons rfl (sub_cons rfl sub_nil)))) (some_cons pick0 (some_cons (pickS (pickS (pickS pick0))) (some_cons pick0 some_nil)))
    have c1 : (decide (((k1 : Nat) : Int) < 4)) = false := decide_eq_false (by omega)
    have en1 := forO_end l1 hk1
    refine wc_seq ?_
    refine wcr ?_
    refine mv rfl rfl ?_
    refine wl_pure (po_lss rfl rfl) rfl ?_
    refine wnt ?_
    refine wc_cond_f rfl c1 ?_
    refine wc_exit ?_
    refine wq_then_exit ?_
    refine wq_then_exit ?_
    refine wq_block_exit ?_
    exact wj_meet _ x1l (Sum.inl.inj en1) (sub_cons rfl (sub_cons rfl sub_nil)) (some_cons pick0 (some_cons pick0 (some_cons pick0 some_nil)))
  intro e1 x2 hp
  obtain rfl : e1 = y1 := hp.symm
  refine wq_then ?_
  refine wcr ?_
  refine wl_pure (v := .agg #[.int .i64 2, (sl x2)]) (po_load_boxs tk_24 pick0 rfl rfl rfl) rfl ?_
  refine wl_skipop (so_box (cs' := [.int .i64 2, (sl x2)]) tk_24 (pickS pick0) rfl rfl rfl rfl rfl rfl rfl) ?_
  refine wnt ?_
  refine wc_ret ?_
  obtain rfl := Option.some.inj t0
  exact wq_retc rfl tk_24 rfl pick0 rfl fun w hw => ⟨x2, rfl, hw.weak (some_cons (pickS (pickS pick0)) some_nil)⟩

theorem c_impl_within (w : World) (a_n : Int) (a_a : Int) (a_b : Int) {r : Bool} (t0 : impl_within a_n a_a a_b = some r) : Calls Try.prog 14 #[.int .i64 a_n, .int .i64 a_a, .int .i64 a_b] w fun e w' => e = .returned (.bool r) ∧ SH w [] [] w' := by
  refine calls_of_wc (args := [_, _, _]) Try.func14 rfl Try.ntmps14 rfl ?_
  unfold impl_within at t0
  refine wcr ?_
  refine asg rfl rfl ?_
  refine wnt ?_
  refine wc_seq ?_
  refine wc_join (X := Unit) (fun _ => True) (fun _ => [(6, .bool ((decide (a_n ≥ a_a)) && (decide (a_n ≤ a_b))))]) (fun _ => []) ?_ ?_
  · skip
    refine wc_region ?_
    refine mv rfl rfl ?_
    refine mv rfl rfl ?_
    refine wl_pure (po_geq rfl rfl) rfl ?_
    refine mv rfl rfl ?_
    refine wl_fork (t := 10) rfl (fun h1 => ?_) fun h1 => ?_
    · skip
      refine wl_guard_on (j := 3) rfl rfl rfl (mv rfl rfl ?_)
      refine wl_guard_on (j := 3) rfl rfl rfl (mv rfl rfl ?_)
      refine wl_guard_on (j := 3) rfl rfl rfl (wl_pure (po_leq rfl rfl) rfl ?_)
      refine wl_pure (po_pick_t rfl rfl) rfl ?_
      refine asg rfl rfl ?_
      refine wl_nil ?_
      exact wq_meet () trivial (sub_b rfl (by rw [h1]; rfl) sub_nil) some_nil
    refine wl_guard_off (j := 3) rfl rfl rfl rfl rfl ?_
    refine wl_guard_off (j := 3) rfl rfl rfl rfl rfl ?_
    refine wl_guard_off (j := 3) rfl rfl rfl rfl rfl ?_
    refine wl_pure (po_pick_f rfl rfl) rfl ?_
    refine asg rfl rfl ?_
    refine wl_nil ?_
    exact wq_meet () trivial (sub_b rfl (by rw [h1]; rfl) sub_nil) some_nil
  intro _ _
  refine wq_then ?_
  refine wc_ret ?_
  obtain rfl := Option.some.inj t0
  exact wq_ret1 rfl rfl fun w hw => ⟨rfl, hw.weak some_nil⟩

theorem c_impl_isColor (w : World) (a_a : Int) {r : Bool} (t0 : impl_isColor a_a = some r) : Calls Try.prog 24 #[.int .i64 a_a] w fun e w' => e = .returned (.bool r) ∧ SH w [] [] w' := by
  refine calls_of_wc (args := [_]) Try.func24 rfl Try.ntmps24 rfl ?_
  unfold impl_isColor at t0
  refine wcr ?_
  refine asg rfl rfl ?_
  refine wnt ?_
  refine wcr ?_
  refine mv rfl rfl ?_
  refine bdO t0 fun v1 hv1 t0 => ?_
  refine wl_call (co_c0 fa_14 rfl fun w hw => c_impl_within w a_a 0 5 hv1) rfl fun _ => ?_
  refine asg rfl rfl ?_
  refine wnt ?_
  refine wc_ret ?_
  obtain rfl := Option.some.inj t0
  exact wq_ret1 rfl rfl fun w hw => ⟨rfl, hw.weak some_nil⟩

theorem c_impl_WholeCell (w : World) (a_a : Int) {r : GCell} (t0 : impl_WholeCell a_a = some r) : Calls Try.prog 18 #[.int .i64 a_a] w fun e w' => e = .returned (.agg #[.int .i64 r.Split, .int .i64 r.A, .int .i64 r.B]) ∧ SH w [] [] w' := by
  refine calls_of_wc (args := [_]) Try.func18 rfl Try.ntmps18 rfl ?_
  unfold impl_WholeCell at t0
  refine wcr ?_
  refine wl_eff (eo_alloc (cs := [.int .i64 0, .int .i64 0, .int .i64 0]) za_32) rfl fun b1 => ?_
  refine wnt ?_
  refine wc_seq ?_
  refine wcr ?_
  refine mv rfl rfl ?_
  refine bdO t0 fun v1 hv1 t0 => ?_
  refine wl_call (co_c0 fa_24 rfl fun w hw => c_impl_isColor w a_a hv1) rfl fun _ => ?_
  refine wl_pure (po_not rfl) rfl ?_
  refine wnt ?_
  refine wcO t0 rfl (fun h1 t0 => ?_) fun h1 t0 => ?_
  · skip
    refine wcr ?_
    refine wl_pure (po_build rfl bd_32) rfl ?_
    refine wl_skipop (so_box (cs' := [.int .i64 0, .int .i64 0, .int .i64 0]) tk_32 pick0 rfl rfl rfl rfl rfl rfl rfl) ?_
    refine wnt ?_
    refine wc_ret ?_
    refine wq_then_ret ?_
    obtain rfl := Option.some.inj t0
    exact wq_retc rfl tk_32 rfl pick0 rfl fun w hw => ⟨rfl, hw.weak some_nil⟩
  refine wc_skip ?_
  refine wq_then ?_
  refine wcr ?_
  refine mv rfl rfl ?_
  refine mv rfl rfl ?_
  refine wl_pure (po_build rfl (bd_32_1_2 a_a a_a)) rfl ?_
  refine wl_skipop (so_box (cs' := [.int .i64 0, .int .i64 a_a, .int .i64 a_a]) tk_32 pick0 rfl rfl rfl rfl rfl rfl rfl) ?_
  refine wnt ?_
  refine wc_ret ?_
  obtain rfl := Option.some.inj t0
  exact wq_retc rfl tk_32 rfl pick0 rfl fun w hw => ⟨rfl, hw.weak some_nil⟩

theorem c_impl_CellOk (w : World) (a_c : GCell) {r : Bool} (t0 : impl_CellOk a_c = some r) : Calls Try.prog 23 #[.agg #[.int .i64 a_c.Split, .int .i64 a_c.A, .int .i64 a_c.B]] w fun e w' => e = .returned (.bool r) ∧ SH w [] [] w' := by
  refine calls_of_wc (args := [_]) Try.func23 rfl Try.ntmps23 rfl ?_
  unfold impl_CellOk at t0
  refine wcr ?_
  refine wl_eff (eo_box rfl rfl) rfl fun b1 => ?_
  refine asg rfl rfl ?_
  refine wnt ?_
  refine wc_seq ?_
  refine bdO t0 fun y1 t1 t0 => ?_
  refine wj (J := Bool) (X := Unit) (fun z => y1 = z) (fun z _ => [(2, .bool z)]) (fun _ _ => []) ?_ ?_
  · skip
    refine wc_region ?_
    refine wl_pure (po_fld fo_32_0 rfl) rfl ?_
    refine wl_pure (v := .int .i64 a_c.Split) (po_load_box tk_3 pick0 rfl rfl) rfl ?_
    refine bdO t1 fun v1 hv1 t1 => ?_
    refine wl_call (co_c0 fa_14 rfl fun w hw => c_impl_within w a_c.Split 0 2 hv1) rfl fun _ => ?_
    refine mv rfl rfl ?_
    refine wlO_ (t := 6) t1 rfl (fun h1 t1 => ?_) fun h1 t1 => ?_
    · skip
      refine wl_guard_on (j := 3) rfl rfl rfl (wl_pure (po_fld fo_32_1 rfl) rfl ?_)
      refine wl_guard_on (j := 3) rfl rfl rfl (wl_pure (v := .int .i64 a_c.A) (po_load_box tk_3 pick0 rfl rfl) rfl ?_)
      refine bdO t1 fun v2 hv2 t1 => ?_
      refine wl_guard_on (j := 3) rfl rfl rfl (wl_call (co_c0 fa_24 rfl fun w hw => c_impl_isColor w a_c.A hv2) rfl (fun _ => ?_))
      refine wl_pure (po_pick_t rfl rfl) rfl ?_
      refine mv rfl rfl ?_
      refine wlO_ (t := 11) t1 rfl (fun h2 t1 => ?_) fun h2 t1 => ?_
      · skip
        refine wl_guard_on (j := 8) rfl rfl rfl (wl_pure (po_fld fo_32_2 rfl) rfl ?_)
        refine wl_guard_on (j := 8) rfl rfl rfl (wl_pure (v := .int .i64 a_c.B) (po_load_box tk_3 pick0 rfl rfl) rfl ?_)
        refine bdO t1 fun v3 hv3 t1 => ?_
        refine wl_guard_on (j := 8) rfl rfl rfl (wl_call (co_c0 fa_24 rfl fun w hw => c_impl_isColor w a_c.B hv3) rfl (fun _ => ?_))
        refine wl_pure (po_pick_t rfl rfl) rfl ?_
        refine mv rfl rfl ?_
        refine wlO_ (t := 16) t1 rfl (fun h3 t1 => ?_) fun h3 t1 => ?_
        · skip
          refine wl_guard_on (j := 13) rfl rfl rfl (wl_pure (po_fld fo_32_0 rfl) rfl ?_)
          refine wl_guard_on (j := 13) rfl rfl rfl (wl_pure (v := .int .i64 a_c.Split) (po_load_box tk_3 pick0 rfl rfl) rfl ?_)
          refine wl_guard_on (j := 13) rfl rfl rfl (wl_pure (po_eql rfl rfl) rfl ?_)
          refine wl_guard_on (j := 13) rfl rfl rfl (wl_pure (po_fld fo_32_1 rfl) rfl ?_)
          refine wl_guard_on (j := 13) rfl rfl rfl (wl_pure (v := .int .i64 a_c.A) (po_load_box tk_3 pick0 rfl rfl) rfl ?_)
          refine wl_guard_on (j := 13) rfl rfl rfl (wl_pure (po_fld fo_32_2 rfl) rfl ?_)
          refine wl_guard_on (j := 13) rfl rfl rfl (wl_pure (v := .int .i64 a_c.B) (po_load_box tk_3 pick0 rfl rfl) rfl ?_)
          refine wl_guard_on (j := 13) rfl rfl rfl (wl_pure (po_eql rfl rfl) rfl ?_)
          refine wl_guard_on (j := 13) rfl rfl rfl (wl_pure (po_eql_bool ub_4 rfl rfl) rfl ?_)
          refine wl_pure (po_pick_t rfl rfl) rfl ?_
          refine asg rfl rfl ?_
          refine wl_nil ?_
          exact wj_meet _ () (mtE t1) (sub_cons rfl sub_nil) some_nil
        refine wl_guard_off (j := 13) rfl rfl rfl rfl rfl ?_
        refine wl_guard_off (j := 13) rfl rfl rfl rfl rfl ?_
        refine wl_guard_off (j := 13) rfl rfl rfl rfl rfl ?_
        refine wl_guard_off (j := 13) rfl rfl rfl rfl rfl ?_
        refine wl_guard_off (j := 13) rfl rfl rfl rfl rfl ?_
        refine wl_guard_off (j := 13) rfl rfl rfl rfl rfl ?_
        refine wl_guard_off (j := 13) rfl rfl rfl rfl rfl ?_
        refine wl_guard_off (j := 13) rfl rfl rfl rfl rfl ?_
        refine wl_guard_off (j := 13) rfl rfl rfl rfl rfl ?_
        refine wl_pure (po_pick_f rfl rfl) rfl ?_
        refine asg rfl rfl ?_
        refine wl_nil ?_
        exact wj_meet _ () (mtE t1) (sub_cons rfl sub_nil) some_nil
      refine wl_guard_off (j := 8) rfl rfl rfl rfl rfl ?_
      refine wl_guard_off (j := 8) rfl rfl rfl rfl rfl ?_
      refine wl_guard_off (j := 8) rfl rfl rfl rfl rfl ?_
      refine wl_pure (po_pick_f rfl rfl) rfl ?_
      refine mv rfl rfl ?_
      refine wl_guard_off (j := 13) rfl rfl rfl rfl rfl ?_
      refine wl_guard_off (j := 13) rfl rfl rfl rfl rfl ?_
      refine wl_guard_off (j := 13) rfl rfl rfl rfl rfl ?_
      refine wl_guard_off (j := 13) rfl rfl rfl rfl rfl ?_
      refine wl_guard_off (j := 13) rfl rfl rfl rfl rfl ?_
      refine wl_guard_off (j := 13) rfl rfl rfl rfl rfl ?_
      refine wl_guard_off (j := 13) rfl rfl rfl rfl rfl ?_
      refine wl_guard_off (j := 13) rfl rfl rfl rfl rfl ?_
      refine wl_guard_off (j := 13) rfl rfl rfl rfl rfl ?_
      refine wl_pure (po_pick_f rfl rfl) rfl ?_
      refine asg rfl rfl ?_
      refine wl_nil ?_
      exact wj_meet _ () (mtE t1) (sub_cons rfl sub_nil) some_nil
    refine wl_guard_off (j := 3) rfl rfl rfl rfl rfl ?_
    refine wl_guard_off (j := 3) rfl rfl rfl rfl rfl ?_
    refine wl_guard_off (j := 3) rfl rfl rfl rfl rfl ?_
    refine wl_pure (po_pick_f rfl rfl) rfl ?_
    refine mv rfl rfl ?_
    refine wl_guard_off (j := 8) rfl rfl rfl rfl rfl ?_
    refine wl_guard_off (j := 8) rfl rfl rfl rfl rfl ?_
    refine wl_guard_off (j := 8) rfl rfl rfl rfl rfl ?_
    refine wl_pure (po_pick_f rfl rfl) rfl ?_
    refine mv rfl rfl ?_
    refine wl_guard_off (j := 13) rfl rfl rfl rfl rfl ?_
    refine wl_guard_off (j := 13) rfl rfl rfl rfl rfl ?_
    refine wl_guard_off (j := 13) rfl rfl rfl rfl rfl ?_
    refine wl_guard_off (j := 13) rfl rfl rfl rfl rfl ?_
    refine wl_guard_off (j := 13) rfl rfl rfl rfl rfl ?_
    refine wl_guard_off (j := 13) rfl rfl rfl rfl rfl ?_
    refine wl_guard_off (j := 13) rfl rfl rfl rfl rfl ?_
    refine wl_guard_off (j := 13) rfl rfl rfl rfl rfl ?_
    refine wl_guard_off (j := 13) rfl rfl rfl rfl rfl ?_
    refine wl_pure (po_pick_f rfl rfl) rfl ?_
    refine asg rfl rfl ?_
    refine wl_nil ?_
    exact wj_meet _ () (mtE t1) (sub_cons rfl sub_nil) some_nil
  intro j1 _ hp
  obtain rfl : j1 = y1 := hp.symm
  refine wq_then ?_
  refine wc_ret ?_
  obtain rfl := Option.some.inj t0
  exact wq_ret1 rfl rfl fun w hw => ⟨rfl, hw.weak some_nil⟩

theorem c_impl_SplitCell (w : World) (a_split : Int) (a_a : Int) (a_b : Int) {r : GCell} (t0 : impl_SplitCell a_split a_a a_b = some r) : Calls Try.prog 17 #[.int .i64 a_split, .int .i64 a_a, .int .i64 a_b] w fun e w' => e = .returned (.agg #[.int .i64 r.Split, .int .i64 r.A, .int .i64 r.B]) ∧ SH w [] [] w' := by
  refine calls_of_wc (args := [_, _, _]) Try.func17 rfl Try.ntmps17 rfl ?_
  unfold impl_SplitCell at t0
  refine wcr ?_
  refine wl_eff (eo_alloc (cs := [.int .i64 0, .int .i64 0, .int .i64 0]) za_32) rfl fun b1 => ?_
  refine wnt ?_
  refine wc_seq ?_
  refine wcr ?_
  refine mv rfl rfl ?_
  refine mv rfl rfl ?_
  refine wl_pure (po_eql rfl rfl) rfl ?_
  refine wnt ?_
  refine wcO t0 rfl (fun h1 t0 => ?_) fun h1 t0 => ?_
  · skip
    refine wcr ?_
    refine mv rfl rfl ?_
    refine bdO t0 fun v1 hv1 t0 => ?_
    refine wl_call (co_c0 fa_18 rfl fun w hw => c_impl_WholeCell w a_a hv1) rfl fun _ => ?_
    refine wl_skipop (so_box (cs' := [.int .i64 v1.Split, .int .i64 v1.A, .int .i64 v1.B]) tk_32 pick0 rfl rfl rfl rfl rfl rfl rfl) ?_
    refine wnt ?_
    refine wc_ret ?_
    refine wq_then_ret ?_
    obtain rfl := Option.some.inj t0
    exact wq_retc rfl tk_32 rfl pick0 rfl fun w hw => ⟨rfl, hw.weak some_nil⟩
  refine wc_skip ?_
  refine wq_then ?_
  refine wcr ?_
  refine mv rfl rfl ?_
  refine mv rfl rfl ?_
  refine mv rfl rfl ?_
  refine wl_pure (po_build rfl (bd_32_0_1_2 a_split a_a a_b)) rfl ?_
  refine wl_eff (eo_alloc (cs := [.int .i64 0, .int .i64 0, .int .i64 0]) za_32) rfl fun b2 => ?_
  refine wl_skipop (so_box (cs' := [.int .i64 a_split, .int .i64 a_a, .int .i64 a_b]) tk_32 pick0 rfl rfl rfl rfl rfl rfl rfl) ?_
  refine wnt ?_
  refine wc_seq ?_
  refine wcr ?_
  refine wl_pure (v := .agg #[.int .i64 a_split, .int .i64 a_a, .int .i64 a_b]) (po_load_boxs tk_32 pick0 rfl rfl rfl) rfl ?_
  refine bdO t0 fun v2 hv2 t0 => ?_
  refine wl_call (co_c0 fa_23 rfl fun w hw => c_impl_CellOk w (GCell.mk a_split a_a a_b) hv2) rfl fun _ => ?_
  refine wl_pure (po_not rfl) rfl ?_
  refine wnt ?_
  refine wcO t0 rfl (fun h2 t0 => ?_) fun h2 t0 => ?_
  · skip
    refine wcr ?_
    refine wl_pure (po_build rfl bd_32) rfl ?_
    refine wl_skipop (so_box (cs' := [.int .i64 0, .int .i64 0, .int .i64 0]) tk_32 (pickS pick0) rfl rfl rfl rfl rfl rfl rfl) ?_
    refine wnt ?_
    refine wc_ret ?_
    refine wq_then_ret ?_
    obtain rfl := Option.some.inj t0
    exact wq_retc rfl tk_32 rfl pick0 rfl fun w hw => ⟨rfl, hw.weak some_nil⟩
  refine wc_skip ?_
  refine wq_then ?_
  refine wcr ?_
  refine wl_pure (v := .agg #[.int .i64 a_split, .int .i64 a_a, .int .i64 a_b]) (po_load_boxs tk_32 pick0 rfl rfl rfl) rfl ?_
  refine wl_skipop (so_box (cs' := [.int .i64 a_split, .int .i64 a_a, .int .i64 a_b]) tk_32 (pickS pick0) rfl rfl rfl rfl rfl rfl rfl) ?_
  refine wnt ?_
  refine wc_ret ?_
  obtain rfl := Option.some.inj t0
  exact wq_retc rfl tk_32 rfl pick0 rfl fun w hw => ⟨rfl, hw.weak some_nil⟩

theorem c_impl_StarBlock (w : World)  {r : GBlock} (t0 : impl_StarBlock = some r) : Calls Try.prog 13 #[] w fun e w' => ∃ x : Hd, e = .returned (.agg #[.int .i64 r.Size, (sl x)]) ∧ SH w [] [ownF (sl x) r.Cells] w' := by
  refine calls_of_wc (args := []) Try.func13 rfl Try.ntmps13 rfl ?_
  unfold impl_StarBlock at t0
  refine wcr ?_
  refine wl_eff (eo_alloc (cs := [.int .i64 0, (sl (⟨none, 0, 0⟩ : Hd))]) za_24) rfl fun b1 => ?_
  refine wnt ?_
  refine wcr ?_
  refine bdO t0 fun v1 hv1 t0 => ?_
  refine wl_call (co_c0 fa_18 rfl fun w hw => c_impl_WholeCell w 1 hv1) rfl fun _ => ?_
  refine wl_eff (eo_alloc (cs := [.int .i64 0, .int .i64 0, .int .i64 0]) za_32) rfl fun b2 => ?_
  refine wl_skipop (so_box (cs' := [.int .i64 v1.Split, .int .i64 v1.A, .int .i64 v1.B]) tk_32 pick0 rfl rfl rfl rfl rfl rfl rfl) ?_
  refine wnt ?_
  refine wc_seq ?_
  refine wc_draw [box b2 [.int .i64 v1.Split, .int .i64 v1.A, .int .i64 v1.B], box b1 [.int .i64 0, (sl (⟨none, 0, 0⟩ : Hd))]] 11 mixed ?_
  refine wa_pure (v := .agg #[.int .i64 v1.Split, .int .i64 v1.A, .int .i64 v1.B]) 1 rfl (po_load_boxs tk_32 pick0 rfl rfl rfl) (some_cons pick0 (some_cons pick0 some_nil)) rfl (by kernel_rfl) (fun _ _ _ h => h) ?_
  refine wa_pure (v := .agg #[.int .i64 v1.Split, .int .i64 v1.A, .int .i64 v1.B]) 3 rfl (po_load_boxs tk_32 pick0 rfl rfl rfl) (some_cons pick0 (some_cons pick0 some_nil)) rfl (by kernel_rfl) (fun _ _ _ h => h) ?_
  refine wa_pure (v := .agg #[.int .i64 v1.Split, .int .i64 v1.A, .int .i64 v1.B]) 4 rfl (po_load_boxs tk_32 pick0 rfl rfl rfl) (some_cons pick0 (some_cons pick0 some_nil)) rfl (by kernel_rfl) (fun _ _ _ h => h) ?_
  refine wa_pure (v := .agg #[.int .i64 v1.Split, .int .i64 v1.A, .int .i64 v1.B]) 5 rfl (po_load_boxs tk_32 pick0 rfl rfl rfl) (some_cons pick0 (some_cons pick0 some_nil)) rfl (by kernel_rfl) (fun _ _ _ h => h) ?_
  refine wa_pure (v := .agg #[.int .i64 v1.Split, .int .i64 v1.A, .int .i64 v1.B]) 7 rfl (po_load_boxs tk_32 pick0 rfl rfl rfl) (some_cons pick0 (some_cons pick0 some_nil)) rfl (by kernel_rfl) (fun _ _ _ h => h) ?_
  refine wa_1 (i := 0) (by kernel_rfl) ?_
  refine bdO t0 fun v2 hv2 t0 => ?_
  refine ws_call rfl (co_c0 fa_17 rfl fun w hw => c_impl_SplitCell w 1 0 1 hv2) (fun _ => (sts_some (some_cons pick0 (some_cons pick0 some_nil)))) rfl fun _ => ?_
  refine wa_1 (i := 2) (by kernel_rfl) ?_
  refine bdO t0 fun v3 hv3 t0 => ?_
  refine ws_call rfl (co_c0 fa_17 rfl fun w hw => c_impl_SplitCell w 2 1 0 hv3) (fun _ => (sts_some (some_cons pick0 (some_cons pick0 some_nil)))) rfl fun _ => ?_
  refine wa_1 (i := 6) (by kernel_rfl) ?_
  refine bdO t0 fun v4 hv4 t0 => ?_
  refine ws_call rfl (co_c0 fa_17 rfl fun w hw => c_impl_SplitCell w 2 0 1 hv4) (fun _ => (sts_some (some_cons pick0 (some_cons pick0 some_nil)))) rfl fun _ => ?_
  refine wa_1 (i := 8) (by kernel_rfl) ?_
  refine bdO t0 fun v5 hv5 t0 => ?_
  refine ws_call rfl (co_c0 fa_17 rfl fun w hw => c_impl_SplitCell w 1 1 0 hv5) (fun _ => (sts_some (some_cons pick0 (some_cons pick0 some_nil)))) rfl fun _ => ?_
  refine wa_1 (i := 9) (by kernel_rfl) ?_
  refine ws_eff rfl (eo_buildSlice (qs := [(0, .agg #[.int .i64 v2.Split, .int .i64 v2.A, .int .i64 v2.B]), (1, .agg #[.int .i64 v1.Split, .int .i64 v1.A, .int .i64 v1.B]), (2, .agg #[.int .i64 v3.Split, .int .i64 v3.A, .int .i64 v3.B]), (3, .agg #[.int .i64 v1.Split, .int .i64 v1.A, .int .i64 v1.B]), (4, .agg #[.int .i64 v1.Split, .int .i64 v1.A, .int .i64 v1.B]), (5, .agg #[.int .i64 v1.Split, .int .i64 v1.A, .int .i64 v1.B]), (6, .agg #[.int .i64 v4.Split, .int .i64 v4.A, .int .i64 v4.B]), (7, .agg #[.int .i64 v1.Split, .int .i64 v1.A, .int .i64 v1.B]), (8, .agg #[.int .i64 v5.Split, .int .i64 v5.A, .int .i64 v5.B])]) rfl (sb_22_9 v2.Split v2.A v2.B v1.Split v1.A v1.B v3.Split v3.A v3.B v1.Split v1.A v1.B v1.Split v1.A v1.B v1.Split v1.A v1.B v4.Split v4.A v4.B v1.Split v1.A v1.B v5.Split v5.A v5.B)) (fun _ => (sts_some (some_cons (pickS pick0) (some_cons (pickS pick0) some_nil)))) rfl fun b3 => ?_
  refine wa_pure 10 rfl (po_build rfl (bd_24_0_1 3 (⟨some ⟨b3, 0, none⟩, 9, 9⟩ : Hd))) (some_cons (pickS pick0) (some_cons (pickS pick0) some_nil)) rfl (by kernel_rfl) (fun _ _ _ h => h) ?_
  refine wa_1 (i := 11) (by kernel_rfl) ?_
  refine ws_skipop rfl (so_box (cs' := [.int .i64 3, (sl (⟨some ⟨b3, 0, none⟩, 9, 9⟩ : Hd))]) tk_24 (pickS (pickS pick0)) rfl rfl rfl rfl rfl rfl rfl) (sts_past (by kernel_rfl)) ?_
  refine wa_done (by kernel_rfl) ?_
  refine wq_then ?_
  refine wc_ret ?_
  obtain rfl := Option.some.inj t0
  exact wq_retc rfl tk_24 rfl pick0 rfl fun w hw => ⟨(⟨some ⟨b3, 0, none⟩, 9, 9⟩ : Hd), rfl, hw.weak (some_cons (pick_box_own (pickS pick0) (n := 9) (xs := ([v2, v1, v3, v1, v1, v1, v4, v1, v5] : List GCell)) rfl rfl (by unfold maxLen; omega)) some_nil)⟩

theorem c_impl_SampleBlock_c1 (w : World) (a_x : Int) (a_y : Int) (c_p2 : Int) (b2c : Nat) (q2 : Bx w b2c [.int .i64 c_p2]) {r : GCell} (t0 : impl_SampleBlock_c1 a_x a_y c_p2 = some r) : Calls Try.prog 16 #[.int .i64 a_x, .int .i64 a_y, ptr b2c 0] w fun e w' => e = .returned (.agg #[.int .i64 r.Split, .int .i64 r.A, .int .i64 r.B]) ∧ SH w [] [] w' := by
  refine calls_of_wc (args := [_, _, _]) Try.func16 rfl Try.ntmps16 rfl ?_
  unfold impl_SampleBlock_c1 at t0
  refine wcr ?_
  refine wl_eff (eo_alloc (cs := [.int .i64 0, .int .i64 0, .int .i64 0]) za_32) rfl fun b1 => ?_
  refine wnt ?_
  refine wc_seq ?_
  refine wcr ?_
  refine mv rfl rfl ?_
  refine wl_pure (po_mul rfl rfl) rfl ?_
  refine mv rfl rfl ?_
  refine wl_pure (po_add rfl rfl) rfl ?_
  refine wl_pure (v := .int .i64 c_p2) (po_load_abox q2 tk_3 rfl rfl) rfl ?_
  refine wl_pure (po_rem rfl rfl (by decide)) rfl ?_
  refine wl_pure (po_lss rfl rfl) rfl ?_
  refine wnt ?_
  refine wcO t0 rfl (fun h1 t0 => ?_) fun h1 t0 => ?_
  · skip
    refine wcr ?_
    refine bdO t0 fun v1 hv1 t0 => ?_
    refine wl_call (co_c0 fa_17 rfl fun w hw => c_impl_SplitCell w 1 0 1 hv1) rfl fun _ => ?_
    refine wl_skipop (so_box (cs' := [.int .i64 v1.Split, .int .i64 v1.A, .int .i64 v1.B]) tk_32 pick0 rfl rfl rfl rfl rfl rfl rfl) ?_
    refine wnt ?_
    refine wc_ret ?_
    refine wq_then_ret ?_
    obtain rfl := Option.some.inj t0
    exact wq_retc rfl tk_32 rfl pick0 rfl fun w hw => ⟨rfl, hw.weak some_nil⟩
  refine wc_skip ?_
  refine wq_then ?_
  refine wcr ?_
  refine wl_pure (v := .int .i64 c_p2) (po_load_abox q2 tk_3 rfl rfl) rfl ?_
  refine wl_pure (po_quo rfl rfl (by decide)) rfl ?_
  refine wl_pure (po_add rfl rfl) rfl ?_
  refine bdO t0 fun v2 hv2 t0 => ?_
  refine wl_call (co_c0 fa_18 rfl fun w hw => c_impl_WholeCell w (wr ((wr (c_p2.tdiv 5)) + 1)) hv2) rfl fun _ => ?_
  refine wl_skipop (so_box (cs' := [.int .i64 v2.Split, .int .i64 v2.A, .int .i64 v2.B]) tk_32 pick0 rfl rfl rfl rfl rfl rfl rfl) ?_
  refine wnt ?_
  refine wc_ret ?_
  obtain rfl := Option.some.inj t0
  exact wq_retc rfl tk_32 rfl pick0 rfl fun w hw => ⟨rfl, hw.weak some_nil⟩

theorem c_impl_made (w : World) (a_size : Int) (a_one : Int → Int → Option GCell) (f1 : Nat) (us1 : List Value) (fn1 : FnAt Try.prog f1) (hg1 : ∀ (w' : World) (z0 : Int) (z1 : Int) (hk : Keep [] w w') (z : GCell) (hz : a_one z0 z1 = some z), Calls Try.prog f1 (([.int .i64 z0, .int .i64 z1] : List Value) ++ us1).toArray w' fun e w'' => e = .returned (.agg #[.int .i64 z.Split, .int .i64 z.A, .int .i64 z.B]) ∧ SH w' [] [] w'') {r : GBlock} (t0 : impl_made a_size a_one = some r) : Calls Try.prog 15 #[.int .i64 a_size, .func (.func f1) #[] us1.toArray] w fun e w' => ∃ x : Hd, e = .returned (.agg #[.int .i64 r.Size, (sl x)]) ∧ SH w [] [ownF (sl x) r.Cells] w' := by
  refine calls_of_wc (args := [_, _]) Try.func15 rfl Try.ntmps15 rfl ?_
  unfold impl_made at t0
  refine wcr ?_
  refine wl_eff (eo_alloc (cs := [.int .i64 0, (sl (⟨none, 0, 0⟩ : Hd))]) za_24) rfl fun b1 => ?_
  refine wnt ?_
  refine wcr ?_
  refine mv rfl rfl ?_
  refine wl_pure (po_build rfl (bd_24_0 a_size)) rfl ?_
  refine wl_eff (eo_alloc (cs := [.int .i64 0, (sl (⟨none, 0, 0⟩ : Hd))]) za_24) rfl fun b2 => ?_
  refine wl_skipop (so_box (cs' := [.int .i64 a_size, (sl (⟨none, 0, 0⟩ : Hd))]) tk_24 pick0 rfl rfl rfl rfl rfl rfl rfl) ?_
  refine wnt ?_
  refine wc_seq ?_
  refine wcr ?_
  refine mv rfl rfl ?_
  refine mv rfl rfl ?_
  refine wnt ?_
  refine gdO t0 fun g1 t0 => ?_
  refine lpO_inv t0 fun y1 l1 t0 => ?_
  refine wj (J := List GCell) (X := Hd) (fun z => y1 = z) (fun _ _ => [(4, ptr b1 0), (5, ptr b2 0)]) (fun z x => [box b2 [.int .i64 a_size, (sl x)], box b1 [.int .i64 0, (sl (⟨none, 0, 0⟩ : Hd))], ownF (sl x) z]) ?_ ?_
  · skip
    refine wc_block ?_
    refine wc_forO (X := Hd) l1 (fun k1 s1 x1l => [(0, .int .i64 a_size), (1, .func (.func f1) #[] us1.toArray), (4, ptr b1 0), (5, ptr b2 0), (10, .int .i64 a_size), (11, .int .i64 ((k1 : Nat) : Int))]) (fun k1 s1 x1l => [box b2 [.int .i64 a_size, (sl x1l)], box b1 [.int .i64 0, (sl (⟨none, 0, 0⟩ : Hd))], ownF (sl x1l) s1]) (⟨none, 0, 0⟩ : Hd) (sub_cons rfl (sub_cons rfl (sub_cons rfl (sub_cons rfl (sub_cons rfl (sub_cons rfl sub_nil)))))) (some_cons pick0 (some_cons pick0 (some_cons pick_nil some_nil))) fun k1 s1 x1l hN1 l1 => ?_
    by_cases hk1 : k1 < (a_size).toNat
    · skip
      refine forO_step l1 hk1 fun _ t1 l1 => ?_
      unfold impl_made_L1 at t1
      have c1 : (decide (((k1 : Nat) : Int) < a_size)) = true := decide_eq_true (by omega)
      refine wcr ?_
      refine wl_pure (po_lss rfl rfl) rfl ?_
      refine wnt ?_
      refine wc_seq ?_
      refine wc_cond_t rfl c1 ?_
      refine wc_skip ?_
      refine wq_then ?_
      refine wc_seq ?_
      refine wc_block ?_
      refine wcr ?_
      refine mv rfl rfl ?_
      refine asg rfl rfl ?_
      refine wnt ?_
      refine wcr ?_
      refine mv rfl rfl ?_
      refine mv rfl rfl ?_
      refine wnt ?_
      refine lpO_inv t1 fun y2 l2 t1 => ?_
      refine wj (J := List GCell) (X := Hd) (fun z => y2 = z) (fun _ _ => [(0, .int .i64 a_size), (1, .func (.func f1) #[] us1.toArray), (4, ptr b1 0), (5, ptr b2 0), (10, .int .i64 a_size), (11, .int .i64 ((k1 : Nat) : Int))]) (fun z x => [box b2 [.int .i64 a_size, (sl x)], box b1 [.int .i64 0, (sl (⟨none, 0, 0⟩ : Hd))], ownF (sl x) z]) ?_ ?_
      · skip
        refine wc_block ?_
        refine wc_forO (X := Hd) l2 (fun k2 s2 x2l => [(0, .int .i64 a_size), (1, .func (.func f1) #[] us1.toArray), (4, ptr b1 0), (5, ptr b2 0), (6, .int .i64 ((k1 : Nat) : Int)), (10, .int .i64 a_size), (11, .int .i64 ((k1 : Nat) : Int)), (14, .int .i64 a_size), (15, .int .i64 ((k2 : Nat) : Int))]) (fun k2 s2 x2l => [box b2 [.int .i64 a_size, (sl x2l)], box b1 [.int .i64 0, (sl (⟨none, 0, 0⟩ : Hd))], ownF (sl x2l) s2]) x1l (sub_cons rfl (sub_cons rfl (sub_cons rfl (sub_cons rfl (sub_cons rfl (sub_cons rfl (sub_cons rfl (sub_cons rfl (sub_cons rfl sub_nil))))))))) (some_cons pick0 (some_cons pick0 (some_cons pick0 some_nil))) fun k2 s2 x2l hN2 l2 => ?_
        by_cases hk2 : k2 < (a_size).toNat
        · skip
          refine forO_step l2 hk2 fun _ t2 l2 => ?_
          unfold impl_made_L2 at t2
          have c2 : (decide (((k2 : Nat) : Int) < a_size)) = true := decide_eq_true (by omega)
          refine wcr ?_
          refine wl_pure (po_lss rfl rfl) rfl ?_
          refine wnt ?_
          refine wc_seq ?_
          refine wc_cond_t rfl c2 ?_
          refine wc_skip ?_
          refine wq_then ?_
          refine wc_seq ?_
          refine wc_block ?_
          refine wcr ?_
          refine mv rfl rfl ?_
          refine asg rfl rfl ?_
          refine wnt ?_
          refine wc_draw [box b2 [.int .i64 a_size, (sl x2l)], box b1 [.int .i64 0, (sl (⟨none, 0, 0⟩ : Hd))]] 9 mixed ?_
          refine wa_pure 0 rfl (po_fld fo_24_1 rfl) (some_cons pick0 (some_cons pick0 some_nil)) rfl (by kernel_rfl) (fun _ _ _ h => h) ?_
          refine wa_pure (v := (sl x2l)) 1 rfl (po_load_box tk_22 pick0 rfl rfl) (some_cons pick0 (some_cons pick0 some_nil)) rfl (by kernel_rfl) (fun _ _ _ h => h) ?_
          refine wa_pure 2 rfl (po_move rfl) (some_cons pick0 (some_cons pick0 some_nil)) rfl (by kernel_rfl) (fun _ _ _ h => h) ?_
          refine wa_pure 3 rfl (po_move rfl) (some_cons pick0 (some_cons pick0 some_nil)) rfl (by kernel_rfl) (fun _ _ _ h => h) ?_
          refine wa_pure 4 rfl (po_move rfl) (some_cons pick0 (some_cons pick0 some_nil)) rfl (by kernel_rfl) (fun _ _ _ h => h) ?_
          refine wa_1 (i := 5) (by kernel_rfl) ?_
          refine bdO t2 fun v1 hv1 t2 => ?_
          refine ws_call rfl (co_d fn1 rfl rfl fun w hw => hg1 w ((k2 : Nat) : Int) ((k1 : Nat) : Int) hw.keep _ hv1) (fun _ => (sts_some (some_cons pick0 (some_cons pick0 some_nil)))) rfl fun _ => ?_
          refine wa_1 (i := 6) (by kernel_rfl) ?_
          refine ws_eff rfl (eo_buildSlice rfl (sb_22_1 v1.Split v1.A v1.B)) (fun _ => (sts_some (some_cons (pickS pick0) (some_cons (pickS pick0) some_nil)))) rfl fun b3 => ?_
          refine wa_1 (i := 7) (by kernel_rfl) ?_
          refine gdO t2 fun g2 t2 => ?_
          refine ws_eff rfl (eo_append (xs := s2) (ys := ([v1] : List GCell)) ak_22 (pickS (pickS (pickS pick0))) rfl rfl (slin_rd fun _ g => Rg.on (rds_own (pick_box_own pick0 (n := 1) (xs := ([v1] : List GCell)) rfl rfl (by unfold maxLen; omega))) g) g2) (fun _ => (sts_some (some_cons (pickS (pickS pick0)) (some_cons (pickS (pickS pick0)) some_nil)))) rfl fun x3 => ?_
          refine wa_pure 8 rfl (po_fld fo_24_1 rfl) (some_cons (pickS (pickS pick0)) (some_cons (pickS (pickS pick0)) some_nil)) rfl (by kernel_rfl) (fun _ _ _ h => h) ?_
          refine wa_1 (i := 9) (by kernel_rfl) ?_
          refine ws_skipop rfl (so_box (cs' := [.int .i64 a_size, (sl x3)]) tk_22 (pickS (pickS pick0)) rfl rfl rfl rfl rfl rfl rfl) (sts_past (by kernel_rfl)) ?_
          refine wa_done (by kernel_rfl) ?_
          refine wq_block ?_
          refine wq_then ?_
          refine wc_region ?_
          refine wl_pure (po_inc rfl rfl (by omega)) rfl ?_
          refine mv rfl rfl ?_
          refine wl_nil ?_
          exact wq_rnd hk2 (stpN l2 t2) x3 (sub_cons rfl (sub_cons rfl (sub_cons rfl (sub_cons rfl (sub_cons rfl (sub_cons rfl (sub_cons rfl (sub_cons rfl (sub_cons rfl sub_nil))))))))) (some_cons pick0 (some_cons (pickS (pickS pick0)) (some_cons pick0 some_nil)))
        have c2 : (decide (((k2 : Nat) : Int) < a_size)) = false := decide_eq_false (by omega)
        have en1 := forO_end l2 hk2
        refine wcr ?_
        refine wl_pure (po_lss rfl rfl) rfl ?_
        refine wnt ?_
        refine wc_seq ?_
        refine wc_cond_f rfl c2 ?_
        refine wc_exit ?_
        refine wq_then_exit ?_
        refine wq_then_exit ?_
        refine wq_block_exit ?_
        exact wj_meet _ x2l (Sum.inl.inj en1) (sub_cons rfl (sub_cons rfl (sub_cons rfl (sub_cons rfl (sub_cons rfl (sub_cons rfl sub_nil)))))) (some_cons pick0 (some_cons pick0 (some_cons pick0 some_nil)))
      intro e2 x2 hp
      obtain rfl : e2 = y2 := hp.symm
      refine wq_block ?_
      refine wq_then ?_
      refine wc_region ?_
      refine wl_pure (po_inc rfl rfl (by omega)) rfl ?_
      refine mv rfl rfl ?_
      refine wl_nil ?_
      exact wq_rnd hk1 (stpN l1 t1) x2 (sub_cons rfl (sub_cons rfl (sub_cons rfl (sub_cons rfl (sub_cons rfl (sub_cons rfl sub_nil)))))) (some_cons pick0 (some_cons pick0 (some_cons pick0 some_nil)))
    have c1 : (decide (((k1 : Nat) : Int) < a_size)) = false := decide_eq_false (by omega)
    have en2 := forO_end l1 hk1
    refine wcr ?_
    refine wl_pure (po_lss rfl rfl) rfl ?_
    refine wnt ?_
    refine wc_seq ?_
    refine wc_cond_f rfl c1 ?_
    refine wc_exit ?_
    refine wq_then_exit ?_
    refine wq_then_exit ?_
    refine wq_block_exit ?_
    exact wj_meet _ x1l (Sum.inl.inj en2) (sub_cons rfl (sub_cons rfl sub_nil)) (some_cons pick0 (some_cons pick0 (some_cons pick0 some_nil)))
  intro e1 x1 hp
  obtain rfl : e1 = y1 := hp.symm
  refine wq_then ?_
  refine wcr ?_
  refine wl_pure (v := .agg #[.int .i64 a_size, (sl x1)]) (po_load_boxs tk_24 pick0 rfl rfl rfl) rfl ?_
  refine wl_skipop (so_box (cs' := [.int .i64 a_size, (sl x1)]) tk_24 (pickS pick0) rfl rfl rfl rfl rfl rfl rfl) ?_
  refine wnt ?_
  refine wc_ret ?_
  obtain rfl := Option.some.inj t0
  exact wq_retc rfl tk_24 rfl pick0 rfl fun w hw => ⟨x1, rfl, hw.weak (some_cons (pickS (pickS pick0)) some_nil)⟩

theorem c_impl_SampleBlock (w : World) (a_n : Int) {r : GBlock} (t0 : impl_SampleBlock a_n = some r) : Calls Try.prog 5 #[.int .i64 a_n] w fun e w' => ∃ x : Hd, e = .returned (.agg #[.int .i64 r.Size, (sl x)]) ∧ SH w [] [ownF (sl x) r.Cells] w' := by
  refine calls_of_wc (args := [_]) Try.func5 rfl Try.ntmps5 rfl ?_
  unfold impl_SampleBlock at t0
  refine wcr ?_
  refine wl_eff (eo_box rfl rfl) rfl fun b1 => ?_
  refine wl_eff (eo_alloc (cs := [.int .i64 0, (sl (⟨none, 0, 0⟩ : Hd))]) za_24) rfl fun b2 => ?_
  refine wnt ?_
  refine wc_seq ?_
  refine wc_block ?_
  refine wcr ?_
  refine wl_pure (v := .int .i64 a_n) (po_load_box tk_3 (pickS pick0) rfl rfl) rfl ?_
  refine wl_pure (po_eql rfl rfl) rfl ?_
  refine asg rfl rfl ?_
  refine wnt ?_
  refine wcO t0 rfl (fun h1 t0 => ?_) fun h1 t0 => ?_
  · skip
    refine wcr ?_
    refine bdO t0 fun v1 hv1 t0 => ?_
    refine wl_call (co_c1 fa_13 rfl fun w hw => c_impl_StarBlock w hv1) rfl fun x1 => ?_
    refine wl_skipop (so_box (cs' := [.int .i64 v1.Size, (sl x1)]) tk_24 (pickS pick0) rfl rfl rfl rfl rfl rfl rfl) ?_
    refine wnt ?_
    refine wc_ret ?_
    refine wq_block_ret ?_
    refine wq_then_ret ?_
    obtain rfl := Option.some.inj t0
    exact wq_retc rfl tk_24 rfl pick0 rfl fun w hw => ⟨x1, rfl, hw.weak (some_cons (pickS pick0) some_nil)⟩
  refine wcr ?_
  refine wl_pure (v := .int .i64 a_n) (po_load_box tk_3 (pickS pick0) rfl rfl) rfl ?_
  refine bdO t0 fun v2 hv2 t0 => ?_
  refine wl_call (co_c0 fa_14 rfl fun w hw => c_impl_within w a_n 1 9 hv2) rfl fun _ => ?_
  refine wl_pure (po_not rfl) rfl ?_
  refine asg rfl rfl ?_
  refine wnt ?_
  refine wcO t0 rfl (fun h2 t0 => ?_) fun h2 t0 => ?_
  · skip
    refine wcr ?_
    refine wl_pure (po_build rfl bd_24) rfl ?_
    refine wl_skipop (so_box (cs' := [.int .i64 0, (sl (⟨none, 0, 0⟩ : Hd))]) tk_24 pick0 rfl rfl rfl rfl rfl rfl rfl) ?_
    refine wnt ?_
    refine wc_ret ?_
    refine wq_block_ret ?_
    refine wq_then_ret ?_
    obtain rfl := Option.some.inj t0
    exact wq_retc rfl tk_24 rfl pick0 rfl fun w hw => ⟨(⟨none, 0, 0⟩ : Hd), rfl, hw.weak (some_cons pick_nil some_nil)⟩
  refine wc_skip ?_
  refine wq_block ?_
  refine wq_then ?_
  refine wcr ?_
  refine wl_pure (po_makeFunc rfl) rfl ?_
  refine bdO t0 fun v3 hv3 t0 => ?_
  refine wl_call (co_c1 fa_15 rfl fun w hw => c_impl_made w 2 (fun z0 z1 => impl_SampleBlock_c1 z0 z1 a_n) 16 [ptr b1 0] fa_16 (fun w2 z0 z1  hk _ hz => c_impl_SampleBlock_c1 w2 z0 z1 a_n b1 (Bx.keep (hw.at_box (pickS pick0)) hk) hz) hv3) rfl fun x2 => ?_
  refine wl_skipop (so_box (cs' := [.int .i64 v3.Size, (sl x2)]) tk_24 (pickS pick0) rfl rfl rfl rfl rfl rfl rfl) ?_
  refine wnt ?_
  refine wc_ret ?_
  obtain rfl := Option.some.inj t0
  exact wq_retc rfl tk_24 rfl pick0 rfl fun w hw => ⟨x2, rfl, hw.weak (some_cons (pickS pick0) some_nil)⟩

theorem c_laws_eqCell (w : World) (a_a : GCell) (a_b : GCell) {r : Bool} (t0 : laws_eqCell a_a a_b = some r) : Calls Try.prog 25 #[.agg #[.int .i64 a_a.Split, .int .i64 a_a.A, .int .i64 a_a.B], .agg #[.int .i64 a_b.Split, .int .i64 a_b.A, .int .i64 a_b.B]] w fun e w' => e = .returned (.bool r) ∧ SH w [] [] w' := by
  refine calls_of_wc (args := [_, _]) Try.func25 rfl Try.ntmps25 rfl ?_
  unfold laws_eqCell at t0
  refine wcr ?_
  refine wl_eff (eo_box rfl rfl) rfl fun b1 => ?_
  refine wl_eff (eo_box rfl rfl) rfl fun b2 => ?_
  refine asg rfl rfl ?_
  refine wnt ?_
  refine wc_seq ?_
  refine wcr ?_
  refine wl_pure (po_fld fo_32_0 rfl) rfl ?_
  refine wl_pure (v := .int .i64 a_a.Split) (po_load_box tk_3 (pickS pick0) rfl rfl) rfl ?_
  refine wl_pure (po_fld fo_32_0 rfl) rfl ?_
  refine wl_pure (v := .int .i64 a_b.Split) (po_load_box tk_3 pick0 rfl rfl) rfl ?_
  refine wl_pure (po_neq rfl rfl) rfl ?_
  refine wnt ?_
  refine wcO t0 rfl (fun h1 t0 => ?_) fun h1 t0 => ?_
  · skip
    refine wcr ?_
    refine asg rfl rfl ?_
    refine wnt ?_
    refine wc_ret ?_
    refine wq_then_ret ?_
    obtain rfl := Option.some.inj t0
    exact wq_ret1 rfl rfl fun w hw => ⟨rfl, hw.weak some_nil⟩
  refine wc_skip ?_
  refine wq_then ?_
  refine wc_seq ?_
  refine wcr ?_
  refine wl_pure (po_fld fo_32_1 rfl) rfl ?_
  refine wl_pure (v := .int .i64 a_a.A) (po_load_box tk_3 (pickS pick0) rfl rfl) rfl ?_
  refine wl_pure (po_fld fo_32_1 rfl) rfl ?_
  refine wl_pure (v := .int .i64 a_b.A) (po_load_box tk_3 pick0 rfl rfl) rfl ?_
  refine wl_pure (po_neq rfl rfl) rfl ?_
  refine wnt ?_
  refine wcO t0 rfl (fun h2 t0 => ?_) fun h2 t0 => ?_
  · skip
    refine wcr ?_
    refine asg rfl rfl ?_
    refine wnt ?_
    refine wc_ret ?_
    refine wq_then_ret ?_
    obtain rfl := Option.some.inj t0
    exact wq_ret1 rfl rfl fun w hw => ⟨rfl, hw.weak some_nil⟩
  refine wc_skip ?_
  refine wq_then ?_
  refine wc_seq ?_
  refine wcr ?_
  refine wl_pure (po_fld fo_32_2 rfl) rfl ?_
  refine wl_pure (v := .int .i64 a_a.B) (po_load_box tk_3 (pickS pick0) rfl rfl) rfl ?_
  refine wl_pure (po_fld fo_32_2 rfl) rfl ?_
  refine wl_pure (v := .int .i64 a_b.B) (po_load_box tk_3 pick0 rfl rfl) rfl ?_
  refine wl_pure (po_neq rfl rfl) rfl ?_
  refine wnt ?_
  refine wcO t0 rfl (fun h3 t0 => ?_) fun h3 t0 => ?_
  · skip
    refine wcr ?_
    refine asg rfl rfl ?_
    refine wnt ?_
    refine wc_ret ?_
    refine wq_then_ret ?_
    obtain rfl := Option.some.inj t0
    exact wq_ret1 rfl rfl fun w hw => ⟨rfl, hw.weak some_nil⟩
  refine wc_skip ?_
  refine wq_then ?_
  refine wcr ?_
  refine asg rfl rfl ?_
  refine wnt ?_
  refine wc_ret ?_
  obtain rfl := Option.some.inj t0
  exact wq_ret1 rfl rfl fun w hw => ⟨rfl, hw.weak some_nil⟩

theorem c_laws_eqCellS (w : World) (a_a : List GCell) (v0a : Hd) (r0 : rdF w (dm w []) (sl v0a) a_a) (a_b : List GCell) (v1a : Hd) (r1 : rdF w (dm w []) (sl v1a) a_b) {r : Bool} (t0 : laws_eqCellS a_a a_b = some r) : Calls Try.prog 19 #[(sl v0a), (sl v1a)] w fun e w' => e = .returned (.bool r) ∧ SH w [] [] w' := by
  refine calls_of_wc (args := [_, _]) Try.func19 rfl Try.ntmps19 rfl ?_
  unfold laws_eqCellS at t0
  refine wcr ?_
  refine asg rfl rfl ?_
  refine wnt ?_
  refine wc_seq ?_
  refine wcr ?_
  refine mv rfl rfl ?_
  refine wl_pure (po_lenr (rds_arg r0) el_22 rfl) rfl ?_
  refine mv rfl rfl ?_
  refine wl_pure (po_lenr (rds_arg r1) el_22 rfl) rfl ?_
  refine wl_pure (po_neq rfl rfl) rfl ?_
  refine wnt ?_
  refine wcO t0 rfl (fun h1 t0 => ?_) fun h1 t0 => ?_
  · skip
    refine wcr ?_
    refine asg rfl rfl ?_
    refine wnt ?_
    refine wc_ret ?_
    refine wq_then_ret ?_
    obtain rfl := Option.some.inj t0
    exact wq_ret1 rfl rfl fun w hw => ⟨rfl, hw.weak some_nil⟩
  refine wc_skip ?_
  refine wq_then ?_
  refine wc_seq ?_
  refine wcr ?_
  refine asg rfl rfl ?_
  refine wnt ?_
  refine gdO t0 fun g1 t0 => ?_
  refine sqO t0 fun y1 l1 t0 => ?_
  refine wj (J := Unit) (X := Unit) (fun z => y1 = .inl z) (fun _ _ => []) (fun _ _ => []) ?_ ?_
  · skip
    refine wc_block ?_
    refine wc_forO (X := Unit) l1 (fun k1 s1 x1l => [(0, (sl v0a)), (1, (sl v1a)), (5, .int .i64 ((k1 : Nat) : Int))]) (fun k1 s1 x1l => []) () (sub_cons rfl (sub_cons rfl (sub_cons rfl sub_nil))) some_nil fun k1 s1 x1l hN1 l1 => ?_
    by_cases hk1 : k1 < a_a.length
    · skip
      refine forO_step l1 hk1 fun _ t1 l1 => ?_
      unfold laws_eqCellS_L1 at t1
      have c1 : (decide (((k1 : Nat) : Int) < ((a_a.length : Nat) : Int))) = true := decide_eq_true (by omega)
      refine wc_seq ?_
      refine wcr ?_
      refine mv rfl rfl ?_
      refine mv rfl rfl ?_
      refine wl_pure (po_lenr (rds_arg r0) el_22 rfl) rfl ?_
      refine wl_pure (po_lss rfl rfl) rfl ?_
      refine wnt ?_
      refine wc_cond_t rfl c1 ?_
      refine wc_skip ?_
      refine wq_then ?_
      refine wc_seq ?_
      refine wc_block ?_
      refine wc_seq ?_
      refine wc_draw [] 10 mixed ?_
      refine wa_pure 0 rfl (po_move rfl) some_nil rfl (by kernel_rfl) (fun _ _ _ h => h) ?_
      refine wa_pure 1 rfl (po_move rfl) some_nil rfl (by kernel_rfl) (fun _ _ _ h => h) ?_
      refine wa_pure 2 rfl (po_ixn (k := k1) (rds_arg r0) el_22 rfl rfl hk1) some_nil rfl (by kernel_rfl) (fun _ _ _ h => h) ?_
      refine wa_pure (v := .agg #[.int .i64 ((gx a_a k1).Split), .int .i64 ((gx a_a k1).A), .int .i64 ((gx a_a k1).B)]) 3 rfl (po_ldfs (rds_arg r0) tk_32 rfl hk1 rfl rfl rfl) some_nil rfl (by kernel_rfl) (fun _ _ _ h => h) ?_
      refine wa_pure 4 rfl (po_move rfl) some_nil rfl (by kernel_rfl) (fun _ _ _ h => h) ?_
      refine wa_pure 5 rfl (po_move rfl) some_nil rfl (by kernel_rfl) (fun _ _ _ h => h) ?_
      refine gdO t1 fun g2 t1 => ?_
      refine wa_pure 6 rfl (po_ixn (k := k1) (rds_arg r1) el_22 rfl rfl g2) some_nil rfl (by kernel_rfl) (fun _ _ _ h => h) ?_
      refine wa_pure (v := .agg #[.int .i64 ((gx a_b k1).Split), .int .i64 ((gx a_b k1).A), .int .i64 ((gx a_b k1).B)]) 7 rfl (po_ldfs (rds_arg r1) tk_32 rfl g2 rfl rfl rfl) some_nil rfl (by kernel_rfl) (fun _ _ _ h => h) ?_
      refine wa_1 (i := 8) (by kernel_rfl) ?_
      refine bdO t1 fun v1 hv1 t1 => ?_
      refine ws_call rfl (co_c0 fa_25 rfl fun w hw => c_laws_eqCell w (gx a_a k1) (gx a_b k1) hv1) (fun _ => (sts_some some_nil)) rfl fun _ => ?_
      refine wa_pure 9 rfl (po_not rfl) some_nil rfl (by kernel_rfl) (fun _ _ _ h => h) ?_
      refine wa_done (by kernel_rfl) ?_
      refine wq_then ?_
      refine wcO t1 rfl (fun h2 t1 => ?_) fun h2 t1 => ?_
      · skip
        refine wcr ?_
        refine asg rfl rfl ?_
        refine wnt ?_
        refine wc_ret ?_
        refine wq_block_ret ?_
        refine wq_then_ret ?_
        refine wq_then_ret ?_
        refine wq_block_ret ?_
        refine wq_then_ret ?_
        refine wq_then_ret ?_
        replace t0 := lpR t0 l1 t1
        obtain rfl := Option.some.inj t0
        exact wq_ret1 rfl rfl fun w hw => ⟨rfl, hw.weak some_nil⟩
      refine wc_skip ?_
      refine wq_block ?_
      refine wq_then ?_
      refine wc_region ?_
      refine mv rfl rfl ?_
      refine wl_pure (po_inc rfl rfl (by omega)) rfl ?_
      refine asg rfl rfl ?_
      refine wl_nil ?_
      exact wq_rnd hk1 (stpN l1 t1) () (sub_cons rfl (sub_cons rfl (sub_cons rfl sub_nil))) some_nil
    have c1 : (decide (((k1 : Nat) : Int) < ((a_a.length : Nat) : Int))) = false := decide_eq_false (by omega)
    have en1 := forO_end l1 hk1
    refine wc_seq ?_
    refine wcr ?_
    refine mv rfl rfl ?_
    refine mv rfl rfl ?_
    refine wl_pure (po_lenr (rds_arg r0) el_22 rfl) rfl ?_
    refine wl_pure (po_lss rfl rfl) rfl ?_
    refine wnt ?_
    refine wc_cond_f rfl c1 ?_
    refine wc_exit ?_
    refine wq_then_exit ?_
    refine wq_then_exit ?_
    refine wq_block_exit ?_
    exact wj_meet _ () en1 sub_nil some_nil
  intro e1 _ hp
  replace t0 := sqE (j := e1) t0 hp
  refine wq_then ?_
  refine wcr ?_
  refine asg rfl rfl ?_
  refine wnt ?_
  refine wc_ret ?_
  obtain rfl := Option.some.inj t0
  exact wq_ret1 rfl rfl fun w hw => ⟨rfl, hw.weak some_nil⟩

theorem c_laws_eqBlock (w : World) (a_a : GBlock) (v0a : Hd) (r0 : rdF w (dm w []) (sl v0a) a_a.Cells) (a_b : GBlock) (v1a : Hd) (r1 : rdF w (dm w []) (sl v1a) a_b.Cells) {r : Bool} (t0 : laws_eqBlock a_a a_b = some r) : Calls Try.prog 6 #[.agg #[.int .i64 a_a.Size, (sl v0a)], .agg #[.int .i64 a_b.Size, (sl v1a)]] w fun e w' => e = .returned (.bool r) ∧ SH w [] [] w' := by
  refine calls_of_wc (args := [_, _]) Try.func6 rfl Try.ntmps6 rfl ?_
  unfold laws_eqBlock at t0
  refine wcr ?_
  refine wl_eff (eo_box rfl rfl) rfl fun b1 => ?_
  refine wl_eff (eo_box rfl rfl) rfl fun b2 => ?_
  refine asg rfl rfl ?_
  refine wnt ?_
  refine wc_seq ?_
  refine wcr ?_
  refine wl_pure (po_fld fo_24_0 rfl) rfl ?_
  refine wl_pure (v := .int .i64 a_a.Size) (po_load_box tk_3 (pickS pick0) rfl rfl) rfl ?_
  refine wl_pure (po_fld fo_24_0 rfl) rfl ?_
  refine wl_pure (v := .int .i64 a_b.Size) (po_load_box tk_3 pick0 rfl rfl) rfl ?_
  refine wl_pure (po_neq rfl rfl) rfl ?_
  refine wnt ?_
  refine wcO t0 rfl (fun h1 t0 => ?_) fun h1 t0 => ?_
  · skip
    refine wcr ?_
    refine asg rfl rfl ?_
    refine wnt ?_
    refine wc_ret ?_
    refine wq_then_ret ?_
    obtain rfl := Option.some.inj t0
    exact wq_ret1 rfl rfl fun w hw => ⟨rfl, hw.weak some_nil⟩
  refine wc_skip ?_
  refine wq_then ?_
  refine wc_seq ?_
  refine wcr ?_
  refine wl_pure (po_fld fo_24_1 rfl) rfl ?_
  refine wl_pure (v := (sl v0a)) (po_load_box tk_22 (pickS pick0) rfl rfl) rfl ?_
  refine wl_pure (po_fld fo_24_1 rfl) rfl ?_
  refine wl_pure (v := (sl v1a)) (po_load_box tk_22 pick0 rfl rfl) rfl ?_
  refine bdO t0 fun v1 hv1 t0 => ?_
  refine wl_call (co_c0 fa_19 rfl fun w hw => c_laws_eqCellS w a_a.Cells v0a (Rg.on (rds_arg r0) hw) a_b.Cells v1a (Rg.on (rds_arg r1) hw) hv1) rfl fun _ => ?_
  refine wl_pure (po_not rfl) rfl ?_
  refine wnt ?_
  refine wcO t0 rfl (fun h2 t0 => ?_) fun h2 t0 => ?_
  · skip
    refine wcr ?_
    refine asg rfl rfl ?_
    refine wnt ?_
    refine wc_ret ?_
    refine wq_then_ret ?_
    obtain rfl := Option.some.inj t0
    exact wq_ret1 rfl rfl fun w hw => ⟨rfl, hw.weak some_nil⟩
  refine wc_skip ?_
  refine wq_then ?_
  refine wcr ?_
  refine asg rfl rfl ?_
  refine wnt ?_
  refine wc_ret ?_
  obtain rfl := Option.some.inj t0
  exact wq_ret1 rfl rfl fun w hw => ⟨rfl, hw.weak some_nil⟩

theorem c_laws_markCellS (w : World) (fp : List Nat) (a_a : List GCell) (v0a : Hd) (a_k : Int) (o : Ow w [ownF (sl v0a) a_a] fp) {r : Int × (List GCell)} (t0 : laws_markCellS a_a a_k = some r) : Calls Try.prog 20 #[(sl v0a), .int .i64 a_k] w fun e w' => ∃ _x : Unit, e = .returned (.int .i64 r.1) ∧ SH w fp [ownF (sl v0a) r.2] w' := by
  refine calls_of_wc_own (args := [_, _]) o Try.func20 rfl Try.ntmps20 rfl ?_
  unfold laws_markCellS at t0
  refine wcr ?_
  refine asg rfl rfl ?_
  refine wnt ?_
  refine wc_seq ?_
  refine wcr ?_
  refine asg rfl rfl ?_
  refine wnt ?_
  refine gdO t0 fun g1 t0 => ?_
  refine wc_hl (rds_own pick0) fun hl1 => ?_
  refine lpO_inv t0 fun y1 l1 t0 => ?_
  refine wj (J := (List GCell) × Int) (X := Unit) (fun z => y1 = z) (fun z _ => [(0, (sl v0a)), (1, .int .i64 z.2)]) (fun z _ => [ownF (sl v0a) z.1]) ?_ ?_
  · skip
    refine wc_block ?_
    refine wc_forO (X := Unit) l1 (fun k1 s1 x1l => [(0, (sl v0a)), (1, .int .i64 s1.2), (5, .int .i64 ((k1 : Nat) : Int))]) (fun k1 s1 x1l => [ownF (sl v0a) s1.1]) () (sub_cons rfl (sub_cons rfl (sub_cons rfl sub_nil))) (some_cons pick0 some_nil) fun k1 s1 x1l hN1 l1 => ?_
    refine wc_hl (rds_own pick0) fun hl2 => ?_
    by_cases hk1 : k1 < a_a.length
    · skip
      refine forO_step l1 hk1 fun _ t1 l1 => ?_
      unfold laws_markCellS_L1 at t1
      have c1 : (decide (((k1 : Nat) : Int) < ((s1.1.length : Nat) : Int))) = true := decide_eq_true (by omega)
      have hq1 : k1 < s1.1.length := by omega
      refine wc_seq ?_
      refine wcr ?_
      refine mv rfl rfl ?_
      refine mv rfl rfl ?_
      refine wl_pure (po_lenr (rds_own pick0) el_22 rfl) rfl ?_
      refine wl_pure (po_lss rfl rfl) rfl ?_
      refine wnt ?_
      refine wc_cond_t rfl c1 ?_
      refine wc_skip ?_
      refine wq_then ?_
      refine wc_seq ?_
      refine wc_block ?_
      refine wcr ?_
      refine mv rfl rfl ?_
      refine mv rfl rfl ?_
      refine mv rfl rfl ?_
      refine wl_pure (po_ixn (k := k1) (rds_own pick0) el_22 rfl rfl hq1) rfl ?_
      refine wl_pure (po_sfldr (rds_own pick0) hq1 fo_32_0 rfl) rfl ?_
      refine wl_skipop (so_own (x' := (GCell.mk s1.2 ((gx s1.1 k1).A) ((gx s1.1 k1).B))) tk_3 pick0 rfl rfl rfl rfl rfl rfl hq1 rfl) ?_
      refine wnt ?_
      refine wcr ?_
      refine mv rfl rfl ?_
      refine wl_pure (po_add rfl rfl) rfl ?_
      refine asg rfl rfl ?_
      refine wnt ?_
      refine wcr ?_
      refine mv rfl rfl ?_
      refine mv rfl rfl ?_
      refine mv rfl rfl ?_
      refine wl_pure (po_ixn (k := k1) (rds_own pick0) el_22 rfl rfl (set_lt hq1)) rfl ?_
      refine wl_pure (po_sfldr (rds_own pick0) (set_lt hq1) fo_32_1 rfl) rfl ?_
      refine wl_skipop (so_own2 (X := s1.1) (e := (GCell.mk s1.2 ((gx s1.1 k1).A) ((gx s1.1 k1).B))) (x' := (GCell.mk s1.2 (wr (s1.2 + 1)) ((gx s1.1 k1).B))) tk_3 pick0 rfl rfl rfl rfl rfl rfl hq1 rfl) ?_
      refine wnt ?_
      refine wcr ?_
      refine mv rfl rfl ?_
      refine wl_pure (po_add rfl rfl) rfl ?_
      refine asg rfl rfl ?_
      refine wnt ?_
      refine wcr ?_
      refine mv rfl rfl ?_
      refine mv rfl rfl ?_
      refine mv rfl rfl ?_
      refine wl_pure (po_ixn (k := k1) (rds_own pick0) el_22 rfl rfl (set_lt hq1)) rfl ?_
      refine wl_pure (po_sfldr (rds_own pick0) (set_lt hq1) fo_32_2 rfl) rfl ?_
      refine wl_skipop (so_own2 (X := s1.1) (e := (GCell.mk s1.2 (wr (s1.2 + 1)) ((gx s1.1 k1).B))) (x' := (GCell.mk s1.2 (wr (s1.2 + 1)) (wr ((wr (s1.2 + 1)) + 1)))) tk_3 pick0 rfl rfl rfl rfl rfl rfl hq1 rfl) ?_
      refine wnt ?_
      refine wc_region ?_
      refine mv rfl rfl ?_
      refine wl_pure (po_add rfl rfl) rfl ?_
      refine asg rfl rfl ?_
      refine wl_nil ?_
      refine wq_block ?_
      refine wq_then ?_
      refine wc_region ?_
      refine mv rfl rfl ?_
      refine wl_pure (po_inc rfl rfl (by omega)) rfl ?_
      refine asg rfl rfl ?_
      refine wl_nil ?_
      exact wq_rnd hk1 (stpN l1 t1) () (sub_cons rfl (sub_cons rfl (sub_cons rfl sub_nil))) (some_cons pick0 some_nil)
    have c1 : (decide (((k1 : Nat) : Int) < ((s1.1.length : Nat) : Int))) = false := decide_eq_false (by omega)
    have en1 := forO_end l1 hk1
    refine wc_seq ?_
    refine wcr ?_
    refine mv rfl rfl ?_
    refine mv rfl rfl ?_
    refine wl_pure (po_lenr (rds_own pick0) el_22 rfl) rfl ?_
    refine wl_pure (po_lss rfl rfl) rfl ?_
    refine wnt ?_
    refine wc_cond_f rfl c1 ?_
    refine wc_exit ?_
    refine wq_then_exit ?_
    refine wq_then_exit ?_
    refine wq_block_exit ?_
    exact wj_meet _ () (Sum.inl.inj en1) (sub_cons rfl (sub_cons rfl sub_nil)) (some_cons pick0 some_nil)
  intro e1 _ hp
  obtain rfl : e1 = y1 := hp.symm
  refine wq_then ?_
  refine wcr ?_
  refine mv rfl rfl ?_
  refine asg rfl rfl ?_
  refine wnt ?_
  refine wc_ret ?_
  obtain rfl := Option.some.inj t0
  exact wq_ret1 rfl rfl fun w hw => ⟨(), rfl, hw.weak (some_cons pick0 some_nil)⟩

theorem c_laws_markBlock (w : World) (fp : List Nat) (a_a : GBlock) (v0a : Hd) (a_k : Int) (o : Ow w [ownF (sl v0a) a_a.Cells] fp) {r : Int × (List GCell)} (t0 : laws_markBlock a_a a_k = some r) : Calls Try.prog 7 #[.agg #[.int .i64 a_a.Size, (sl v0a)], .int .i64 a_k] w fun e w' => ∃ _x : Unit, e = .returned (.int .i64 r.1) ∧ SH w fp [ownF (sl v0a) r.2] w' := by
  refine calls_of_wc_own (args := [_, _]) o Try.func7 rfl Try.ntmps7 rfl ?_
  unfold laws_markBlock at t0
  refine wcr ?_
  refine wl_eff (eo_box rfl rfl) rfl fun b1 => ?_
  refine asg rfl rfl ?_
  refine wnt ?_
  refine wcr ?_
  refine wl_pure (po_fld fo_24_1 rfl) rfl ?_
  refine wl_pure (v := (sl v0a)) (po_load_box tk_22 pick0 rfl rfl) rfl ?_
  refine mv rfl rfl ?_
  refine bdO t0 fun v1 hv1 t0 => ?_
  refine wl_call (co_o1 [ownF (sl v0a) a_a.Cells] fa_20 (some_cons (pickS pick0) some_refl) rfl fun w fp hw => c_laws_markCellS w fp a_a.Cells v0a a_k hw.ow hv1) rfl fun _ => ?_
  refine asg rfl rfl ?_
  refine wnt ?_
  refine wcr ?_
  refine mv rfl rfl ?_
  refine asg rfl rfl ?_
  refine wnt ?_
  refine wc_ret ?_
  obtain rfl := Option.some.inj t0
  exact wq_ret1 rfl rfl fun w hw => ⟨(), rfl, hw.weak (some_cons pick0 some_nil)⟩

theorem c_laws_heldCellS (w : World) (a_a : List GCell) (v0a : Hd) (r0 : rdF w (dm w []) (sl v0a) a_a) (a_k : Int) {r : Int} (t0 : laws_heldCellS a_a a_k = some r) : Calls Try.prog 21 #[(sl v0a), .int .i64 a_k] w fun e w' => e = .returned (.int .i64 r) ∧ SH w [] [] w' := by
  refine calls_of_wc (args := [_, _]) Try.func21 rfl Try.ntmps21 rfl ?_
  unfold laws_heldCellS at t0
  refine wcr ?_
  refine asg rfl rfl ?_
  refine wnt ?_
  refine wc_seq ?_
  refine wcr ?_
  refine asg rfl rfl ?_
  refine wnt ?_
  refine gdO t0 fun g1 t0 => ?_
  refine sqO t0 fun y1 l1 t0 => ?_
  refine wj (J := Int) (X := Unit) (fun z => y1 = .inl z) (fun z _ => [(1, .int .i64 z)]) (fun _ _ => []) ?_ ?_
  · skip
    refine wc_block ?_
    refine wc_forO (X := Unit) l1 (fun k1 s1 x1l => [(0, (sl v0a)), (1, .int .i64 s1), (5, .int .i64 ((k1 : Nat) : Int))]) (fun k1 s1 x1l => []) () (sub_cons rfl (sub_cons rfl (sub_cons rfl sub_nil))) some_nil fun k1 s1 x1l hN1 l1 => ?_
    by_cases hk1 : k1 < a_a.length
    · skip
      refine forO_step l1 hk1 fun _ t1 l1 => ?_
      unfold laws_heldCellS_L1 at t1
      have c1 : (decide (((k1 : Nat) : Int) < ((a_a.length : Nat) : Int))) = true := decide_eq_true (by omega)
      refine wc_seq ?_
      refine wcr ?_
      refine mv rfl rfl ?_
      refine mv rfl rfl ?_
      refine wl_pure (po_lenr (rds_arg r0) el_22 rfl) rfl ?_
      refine wl_pure (po_lss rfl rfl) rfl ?_
      refine wnt ?_
      refine wc_cond_t rfl c1 ?_
      refine wc_skip ?_
      refine wq_then ?_
      refine wc_seq ?_
      refine wc_block ?_
      refine wc_seq ?_
      refine wcr ?_
      refine mv rfl rfl ?_
      refine mv rfl rfl ?_
      refine wl_pure (po_ixn (k := k1) (rds_arg r0) el_22 rfl rfl hk1) rfl ?_
      refine wl_pure (po_sfldr (rds_arg r0) hk1 fo_32_0 rfl) rfl ?_
      refine wl_pure (v := .int .i64 ((gx a_a k1).Split)) (po_ldf (rds_arg r0) tk_3 rfl hk1 rfl) rfl ?_
      refine mv rfl rfl ?_
      refine wl_pure (po_neq rfl rfl) rfl ?_
      refine wnt ?_
      refine wcO t1 rfl (fun h1 t1 => ?_) fun h1 t1 => ?_
      · skip
        refine wcr ?_
        refine asg rfl rfl ?_
        refine wnt ?_
        refine wc_ret ?_
        refine wq_then_ret ?_
        refine wq_block_ret ?_
        refine wq_then_ret ?_
        refine wq_then_ret ?_
        refine wq_block_ret ?_
        refine wq_then_ret ?_
        refine wq_then_ret ?_
        replace t0 := lpR t0 l1 t1
        obtain rfl := Option.some.inj t0
        exact wq_ret1 rfl rfl fun w hw => ⟨rfl, hw.weak some_nil⟩
      refine wc_skip ?_
      refine wq_then ?_
      refine wcr ?_
      refine mv rfl rfl ?_
      refine wl_pure (po_add rfl rfl) rfl ?_
      refine asg rfl rfl ?_
      refine wnt ?_
      refine wc_seq ?_
      refine wcr ?_
      refine mv rfl rfl ?_
      refine mv rfl rfl ?_
      refine wl_pure (po_ixn (k := k1) (rds_arg r0) el_22 rfl rfl hk1) rfl ?_
      refine wl_pure (po_sfldr (rds_arg r0) hk1 fo_32_1 rfl) rfl ?_
      refine wl_pure (v := .int .i64 ((gx a_a k1).A)) (po_ldf (rds_arg r0) tk_3 rfl hk1 rfl) rfl ?_
      refine mv rfl rfl ?_
      refine wl_pure (po_neq rfl rfl) rfl ?_
      refine wnt ?_
      refine wcO t1 rfl (fun h2 t1 => ?_) fun h2 t1 => ?_
      · skip
        refine wcr ?_
        refine asg rfl rfl ?_
        refine wnt ?_
        refine wc_ret ?_
        refine wq_then_ret ?_
        refine wq_block_ret ?_
        refine wq_then_ret ?_
        refine wq_then_ret ?_
        refine wq_block_ret ?_
        refine wq_then_ret ?_
        refine wq_then_ret ?_
        replace t0 := lpR t0 l1 t1
        obtain rfl := Option.some.inj t0
        exact wq_ret1 rfl rfl fun w hw => ⟨rfl, hw.weak some_nil⟩
      refine wc_skip ?_
      refine wq_then ?_
      refine wcr ?_
      refine mv rfl rfl ?_
      refine wl_pure (po_add rfl rfl) rfl ?_
      refine asg rfl rfl ?_
      refine wnt ?_
      refine wc_seq ?_
      refine wcr ?_
      refine mv rfl rfl ?_
      refine mv rfl rfl ?_
      refine wl_pure (po_ixn (k := k1) (rds_arg r0) el_22 rfl rfl hk1) rfl ?_
      refine wl_pure (po_sfldr (rds_arg r0) hk1 fo_32_2 rfl) rfl ?_
      refine wl_pure (v := .int .i64 ((gx a_a k1).B)) (po_ldf (rds_arg r0) tk_3 rfl hk1 rfl) rfl ?_
      refine mv rfl rfl ?_
      refine wl_pure (po_neq rfl rfl) rfl ?_
      refine wnt ?_
      refine wcO t1 rfl (fun h3 t1 => ?_) fun h3 t1 => ?_
      · skip
        refine wcr ?_
        refine asg rfl rfl ?_
        refine wnt ?_
        refine wc_ret ?_
        refine wq_then_ret ?_
        refine wq_block_ret ?_
        refine wq_then_ret ?_
        refine wq_then_ret ?_
        refine wq_block_ret ?_
        refine wq_then_ret ?_
        refine wq_then_ret ?_
        replace t0 := lpR t0 l1 t1
        obtain rfl := Option.some.inj t0
        exact wq_ret1 rfl rfl fun w hw => ⟨rfl, hw.weak some_nil⟩
      refine wc_skip ?_
      refine wq_then ?_
      refine wc_region ?_
      refine mv rfl rfl ?_
      refine wl_pure (po_add rfl rfl) rfl ?_
      refine asg rfl rfl ?_
      refine wl_nil ?_
      refine wq_block ?_
      refine wq_then ?_
      refine wc_region ?_
      refine mv rfl rfl ?_
      refine wl_pure (po_inc rfl rfl (by omega)) rfl ?_
      refine asg rfl rfl ?_
      refine wl_nil ?_
      exact wq_rnd hk1 (stpN l1 t1) () (sub_cons rfl (sub_cons rfl (sub_cons rfl sub_nil))) some_nil
    have c1 : (decide (((k1 : Nat) : Int) < ((a_a.length : Nat) : Int))) = false := decide_eq_false (by omega)
    have en1 := forO_end l1 hk1
    refine wc_seq ?_
    refine wcr ?_
    refine mv rfl rfl ?_
    refine mv rfl rfl ?_
    refine wl_pure (po_lenr (rds_arg r0) el_22 rfl) rfl ?_
    refine wl_pure (po_lss rfl rfl) rfl ?_
    refine wnt ?_
    refine wc_cond_f rfl c1 ?_
    refine wc_exit ?_
    refine wq_then_exit ?_
    refine wq_then_exit ?_
    refine wq_block_exit ?_
    exact wj_meet _ () en1 (sub_cons rfl sub_nil) some_nil
  intro e1 _ hp
  replace t0 := sqE (j := e1) t0 hp
  refine wq_then ?_
  refine wcr ?_
  refine mv rfl rfl ?_
  refine asg rfl rfl ?_
  refine wnt ?_
  refine wc_ret ?_
  obtain rfl := Option.some.inj t0
  exact wq_ret1 rfl rfl fun w hw => ⟨rfl, hw.weak some_nil⟩

theorem c_laws_heldBlock (w : World) (a_a : GBlock) (v0a : Hd) (r0 : rdF w (dm w []) (sl v0a) a_a.Cells) (a_k : Int) {r : Int} (t0 : laws_heldBlock a_a a_k = some r) : Calls Try.prog 8 #[.agg #[.int .i64 a_a.Size, (sl v0a)], .int .i64 a_k] w fun e w' => e = .returned (.int .i64 r) ∧ SH w [] [] w' := by
  refine calls_of_wc (args := [_, _]) Try.func8 rfl Try.ntmps8 rfl ?_
  unfold laws_heldBlock at t0
  refine wcr ?_
  refine wl_eff (eo_box rfl rfl) rfl fun b1 => ?_
  refine asg rfl rfl ?_
  refine wnt ?_
  refine wcr ?_
  refine wl_pure (po_fld fo_24_1 rfl) rfl ?_
  refine wl_pure (v := (sl v0a)) (po_load_box tk_22 pick0 rfl rfl) rfl ?_
  refine mv rfl rfl ?_
  refine bdO t0 fun v1 hv1 t0 => ?_
  refine wl_call (co_c0 fa_21 rfl fun w hw => c_laws_heldCellS w a_a.Cells v0a (Rg.on (rds_arg r0) hw) a_k hv1) rfl fun _ => ?_
  refine asg rfl rfl ?_
  refine wnt ?_
  refine wc_seq ?_
  refine wcr ?_
  refine mv rfl rfl ?_
  refine wl_pure (po_lss rfl rfl) rfl ?_
  refine wnt ?_
  refine wcO t0 rfl (fun h1 t0 => ?_) fun h1 t0 => ?_
  · skip
    refine wcr ?_
    refine asg rfl rfl ?_
    refine wnt ?_
    refine wc_ret ?_
    refine wq_then_ret ?_
    obtain rfl := Option.some.inj t0
    exact wq_ret1 rfl rfl fun w hw => ⟨rfl, hw.weak some_nil⟩
  refine wc_skip ?_
  refine wq_then ?_
  refine wcr ?_
  refine mv rfl rfl ?_
  refine asg rfl rfl ?_
  refine wnt ?_
  refine wc_ret ?_
  obtain rfl := Option.some.inj t0
  exact wq_ret1 rfl rfl fun w hw => ⟨rfl, hw.weak some_nil⟩

theorem c_laws_FnExactSampleBlock (w : World) (a_aN : Int) {r : Bool} (t0 : laws_FnExactSampleBlock a_aN = some r) : Calls Try.prog 3 #[.int .i64 a_aN] w fun e w' => e = .returned (.bool r) ∧ SH w [] [] w' := by
  refine calls_of_wc (args := [_]) Try.func3 rfl Try.ntmps3 rfl ?_
  unfold laws_FnExactSampleBlock at t0
  refine wcr ?_
  refine asg rfl rfl ?_
  refine wnt ?_
  refine wcr ?_
  refine mv rfl rfl ?_
  refine bdO t0 fun v1 hv1 t0 => ?_
  refine wl_call (co_c1 fa_4 rfl fun w hw => c_spec_SampleBlock w a_aN hv1) rfl fun x1 => ?_
  refine wl_eff (eo_alloc (cs := [.int .i64 0, (sl (⟨none, 0, 0⟩ : Hd))]) za_24) rfl fun b1 => ?_
  refine wl_skipop (so_box (cs' := [.int .i64 v1.Size, (sl x1)]) tk_24 pick0 rfl rfl rfl rfl rfl rfl rfl) ?_
  refine wnt ?_
  refine wcr ?_
  refine mv rfl rfl ?_
  refine bdO t0 fun v2 hv2 t0 => ?_
  refine wl_call (co_c1 fa_5 rfl fun w hw => c_impl_SampleBlock w a_aN hv2) rfl fun x2 => ?_
  refine wl_eff (eo_alloc (cs := [.int .i64 0, (sl (⟨none, 0, 0⟩ : Hd))]) za_24) rfl fun b2 => ?_
  refine wl_skipop (so_box (cs' := [.int .i64 v2.Size, (sl x2)]) tk_24 pick0 rfl rfl rfl rfl rfl rfl rfl) ?_
  refine wnt ?_
  refine wc_seq ?_
  refine wcr ?_
  refine wl_pure (v := .agg #[.int .i64 v2.Size, (sl x2)]) (po_load_boxs tk_24 pick0 rfl rfl rfl) rfl ?_
  refine wl_pure (v := .agg #[.int .i64 v1.Size, (sl x1)]) (po_load_boxs tk_24 (pickS (pickS pick0)) rfl rfl rfl) rfl ?_
  refine bdO t0 fun v3 hv3 t0 => ?_
  refine wl_call (co_c0 fa_6 rfl fun w hw => c_laws_eqBlock w v2 x2 (Rg.on (rds_own (pickS pick0)) hw) v1 x1 (Rg.on (rds_own (pickS (pickS (pickS pick0)))) hw) hv3) rfl fun _ => ?_
  refine wl_pure (po_not rfl) rfl ?_
  refine wnt ?_
  refine wcO t0 rfl (fun h1 t0 => ?_) fun h1 t0 => ?_
  · skip
    refine wcr ?_
    refine asg rfl rfl ?_
    refine wnt ?_
    refine wc_ret ?_
    refine wq_then_ret ?_
    obtain rfl := Option.some.inj t0
    exact wq_ret1 rfl rfl fun w hw => ⟨rfl, hw.weak some_nil⟩
  refine wc_skip ?_
  refine wq_then ?_
  refine wcr ?_
  refine asg rfl rfl ?_
  refine wnt ?_
  refine wcr ?_
  refine wl_pure (v := .agg #[.int .i64 v2.Size, (sl x2)]) (po_load_boxs tk_24 pick0 rfl rfl rfl) rfl ?_
  refine mv rfl rfl ?_
  refine bdO t0 fun v4 hv4 t0 => ?_
  refine wl_call (co_o1 [ownF (sl x2) v2.Cells] fa_7 (some_cons (pickS pick0) some_refl) rfl fun w fp hw => c_laws_markBlock w fp v2 x2 1 hw.ow hv4) rfl fun _ => ?_
  refine asg rfl rfl ?_
  refine wnt ?_
  refine wcr ?_
  refine asg rfl rfl ?_
  refine wnt ?_
  refine wcr ?_
  refine wl_pure (v := .agg #[.int .i64 v2.Size, (sl x2)]) (po_load_boxs tk_24 (pickS pick0) rfl rfl rfl) rfl ?_
  refine mv rfl rfl ?_
  refine bdO t0 fun v5 hv5 t0 => ?_
  refine wl_call (co_c0 fa_8 rfl fun w hw => c_laws_heldBlock w (GBlock.mk v2.Size v4.2) x2 (Rg.on (rds_own pick0) hw) 1 hv5) rfl fun _ => ?_
  refine asg rfl rfl ?_
  refine wnt ?_
  refine wc_seq ?_
  refine wcr ?_
  refine mv rfl rfl ?_
  refine wl_pure (po_lss rfl rfl) rfl ?_
  refine wnt ?_
  refine wcO t0 rfl (fun h2 t0 => ?_) fun h2 t0 => ?_
  · skip
    refine wcr ?_
    refine asg rfl rfl ?_
    refine wnt ?_
    refine wc_ret ?_
    refine wq_then_ret ?_
    obtain rfl := Option.some.inj t0
    exact wq_ret1 rfl rfl fun w hw => ⟨rfl, hw.weak some_nil⟩
  refine wc_skip ?_
  refine wq_then ?_
  refine wc_seq ?_
  refine wcr ?_
  refine mv rfl rfl ?_
  refine mv rfl rfl ?_
  refine wl_pure (po_neq rfl rfl) rfl ?_
  refine wnt ?_
  refine wcO t0 rfl (fun h3 t0 => ?_) fun h3 t0 => ?_
  · skip
    refine wcr ?_
    refine asg rfl rfl ?_
    refine wnt ?_
    refine wc_ret ?_
    refine wq_then_ret ?_
    obtain rfl := Option.some.inj t0
    exact wq_ret1 rfl rfl fun w hw => ⟨rfl, hw.weak some_nil⟩
  refine wc_skip ?_
  refine wq_then ?_
  refine wcr ?_
  refine mv rfl rfl ?_
  refine bdO t0 fun v6 hv6 t0 => ?_
  refine wl_call (co_c1 fa_5 rfl fun w hw => c_impl_SampleBlock w a_aN hv6) rfl fun x3 => ?_
  refine wl_eff (eo_alloc (cs := [.int .i64 0, (sl (⟨none, 0, 0⟩ : Hd))]) za_24) rfl fun b3 => ?_
  refine wl_skipop (so_box (cs' := [.int .i64 v6.Size, (sl x3)]) tk_24 pick0 rfl rfl rfl rfl rfl rfl rfl) ?_
  refine wnt ?_
  refine wc_seq ?_
  refine wcr ?_
  refine wl_pure (v := .agg #[.int .i64 v6.Size, (sl x3)]) (po_load_boxs tk_24 pick0 rfl rfl rfl) rfl ?_
  refine wl_pure (v := .agg #[.int .i64 v1.Size, (sl x1)]) (po_load_boxs tk_24 (pickS (pickS (pickS (pickS pick0)))) rfl rfl rfl) rfl ?_
  refine bdO t0 fun v7 hv7 t0 => ?_
  refine wl_call (co_c0 fa_6 rfl fun w hw => c_laws_eqBlock w v6 x3 (Rg.on (rds_own (pickS pick0)) hw) v1 x1 (Rg.on (rds_own (pickS (pickS (pickS (pickS (pickS pick0)))))) hw) hv7) rfl fun _ => ?_
  refine wl_pure (po_not rfl) rfl ?_
  refine wnt ?_
  refine wcO t0 rfl (fun h4 t0 => ?_) fun h4 t0 => ?_
  · skip
    refine wcr ?_
    refine asg rfl rfl ?_
    refine wnt ?_
    refine wc_ret ?_
    refine wq_then_ret ?_
    obtain rfl := Option.some.inj t0
    exact wq_ret1 rfl rfl fun w hw => ⟨rfl, hw.weak some_nil⟩
  refine wc_skip ?_
  refine wq_then ?_
  refine wcr ?_
  refine asg rfl rfl ?_
  refine wnt ?_
  refine wcr ?_
  refine wl_pure (v := .agg #[.int .i64 v2.Size, (sl x2)]) (po_load_boxs tk_24 (pickS (pickS (pickS pick0))) rfl rfl rfl) rfl ?_
  refine mv rfl rfl ?_
  refine bdO t0 fun v8 hv8 t0 => ?_
  refine wl_call (co_c0 fa_8 rfl fun w hw => c_laws_heldBlock w (GBlock.mk v2.Size v4.2) x2 (Rg.on (rds_own (pickS (pickS pick0))) hw) 1 hv8) rfl fun _ => ?_
  refine asg rfl rfl ?_
  refine wnt ?_
  refine wc_seq ?_
  refine wcr ?_
  refine mv rfl rfl ?_
  refine wl_pure (po_lss rfl rfl) rfl ?_
  refine wnt ?_
  refine wcO t0 rfl (fun h5 t0 => ?_) fun h5 t0 => ?_
  · skip
    refine wcr ?_
    refine asg rfl rfl ?_
    refine wnt ?_
    refine wc_ret ?_
    refine wq_then_ret ?_
    obtain rfl := Option.some.inj t0
    exact wq_ret1 rfl rfl fun w hw => ⟨rfl, hw.weak some_nil⟩
  refine wc_skip ?_
  refine wq_then ?_
  refine wc_seq ?_
  refine wcr ?_
  refine mv rfl rfl ?_
  refine mv rfl rfl ?_
  refine wl_pure (po_neq rfl rfl) rfl ?_
  refine wnt ?_
  refine wcO t0 rfl (fun h6 t0 => ?_) fun h6 t0 => ?_
  · skip
    refine wcr ?_
    refine asg rfl rfl ?_
    refine wnt ?_
    refine wc_ret ?_
    refine wq_then_ret ?_
    obtain rfl := Option.some.inj t0
    exact wq_ret1 rfl rfl fun w hw => ⟨rfl, hw.weak some_nil⟩
  refine wc_skip ?_
  refine wq_then ?_
  refine wcr ?_
  refine asg rfl rfl ?_
  refine wnt ?_
  refine wc_ret ?_
  obtain rfl := Option.some.inj t0
  exact wq_ret1 rfl rfl fun w hw => ⟨rfl, hw.weak some_nil⟩

end Go.Proofs.Ytgimnmlcdidcdaa
