/-
  Each Go function computes its Lean function.
-/
import Derived.Test.YtfchknndocooaaaFacts
namespace Go.Proofs.Ytfchknndocooaaa
open Go Go.RowKit Go.Proofs
set_option maxRecDepth 100000

theorem c_laws_toAct (w : World) (a_a : GAct) : Calls Try.prog 6 #[.agg #[.int .i64 a_a.Kind, .int .i64 a_a.A, .int .i64 a_a.B]] w fun e w' => e = .returned (.agg #[.int .i64 ((laws_toAct a_a).Kind), .int .i64 ((laws_toAct a_a).A), .int .i64 ((laws_toAct a_a).B)]) ∧ SH w [] [] w' := by
  refine calls_of_wc (args := [_]) Try.func6 rfl Try.ntmps6 rfl ?_
  refine wc_seq ?_
  refine wc_region ?_
  refine wl_eff (eo_box rfl rfl) rfl ?_
  intro b1
  refine wl_eff (eo_alloc za_25) rfl ?_
  intro b2
  refine wl_nil ?_
  refine wq_then ?_
  refine wc_seq ?_
  refine wc_region ?_
  refine wl_eff (eo_alloc za_25) rfl ?_
  intro b3
  refine wl_nil ?_
  refine wq_then ?_
  refine wc_seq ?_
  refine wc_region ?_
  refine wl_pure (po_fld fo_23_0 rfl) rfl ?_
  refine wl_pure (po_load_box tk_3 (pickS (pickS pick0)) rfl rfl) rfl ?_
  refine wl_pure (po_fld fo_25_0 rfl) rfl ?_
  refine wl_skipop (so_box tk_3 pick0 rfl rfl rfl rfl rfl rfl rfl) ?_
  refine wl_nil ?_
  refine wq_then ?_
  refine wc_seq ?_
  refine wc_region ?_
  refine wl_pure (po_fld fo_23_1 rfl) rfl ?_
  refine wl_pure (po_load_box tk_3 (pickS (pickS pick0)) rfl rfl) rfl ?_
  refine wl_pure (po_fld fo_25_1 rfl) rfl ?_
  refine wl_skipop (so_box tk_3 pick0 rfl rfl rfl rfl rfl rfl rfl) ?_
  refine wl_nil ?_
  refine wq_then ?_
  refine wc_seq ?_
  refine wc_region ?_
  refine wl_pure (po_fld fo_23_2 rfl) rfl ?_
  refine wl_pure (po_load_box tk_3 (pickS (pickS pick0)) rfl rfl) rfl ?_
  refine wl_pure (po_fld fo_25_2 rfl) rfl ?_
  refine wl_skipop (so_box tk_3 pick0 rfl rfl rfl rfl rfl rfl rfl) ?_
  refine wl_nil ?_
  refine wq_then ?_
  refine wc_seq ?_
  refine wc_region ?_
  refine wl_pure (po_load_boxs tk_25 pick0 rfl rfl rfl) rfl ?_
  refine wl_skipop (so_box tk_25 (pickS pick0) rfl rfl rfl rfl rfl rfl rfl) ?_
  refine wl_nil ?_
  refine wq_then ?_
  refine wc_ret ?_
  have hF1 : laws_toAct a_a = a_a := by simp only [laws_toAct, cond_true, cond_false]
  exact wq_retc rfl tk_25 rfl pick0 rfl (fun w hw => by rw [hF1]; exact ⟨rfl, hw.weak some_nil⟩)

theorem c_spec_l01In (w : World) (a_x : Int) (a_least : Int) (a_most : Int) : Calls Try.prog 13 #[.int .i64 a_x, .int .i64 a_least, .int .i64 a_most] w fun e w' => e = .returned (.bool (spec_l01In a_x a_least a_most)) ∧ SH w [] [] w' := by
  refine calls_of_wc (args := [_, _, _]) Try.func13 rfl Try.ntmps13 rfl ?_
  refine wc_seq ?_
  refine wc_region ?_
  refine wl_pure (po_assign rfl) rfl ?_
  refine wl_nil ?_
  refine wq_then ?_
  refine wc_seq ?_
  refine wc_join (X := Unit) (fun _ => True) (fun _ => [(0, .int .i64 a_x), (1, .int .i64 a_least), (2, .int .i64 a_most), (6, .bool ((decide (a_x ≥ a_least)) && (decide (a_x ≤ a_most))))]) (fun _ => []) ?_ ?_
  · skip
    refine wc_region ?_
    refine wl_pure (po_move rfl) rfl ?_
    refine wl_pure (po_move rfl) rfl ?_
    refine wl_pure (po_geq rfl rfl) rfl ?_
    refine wl_pure (po_move rfl) rfl ?_
    refine wl_fork (t := 10) rfl (fun h1 => ?_) (fun h1 => ?_)
    · skip
      refine wl_guard_on (j := 3) rfl rfl rfl (wl_pure (po_move rfl) rfl ?_)
      refine wl_guard_on (j := 3) rfl rfl rfl (wl_pure (po_move rfl) rfl ?_)
      refine wl_guard_on (j := 3) rfl rfl rfl (wl_pure (po_leq rfl rfl) rfl ?_)
      refine wl_pure (po_pick_t rfl rfl) rfl ?_
      refine wl_pure (po_assign rfl) rfl ?_
      refine wl_nil ?_
      exact wq_meet () trivial (sub_cons rfl (sub_cons rfl (sub_cons rfl (sub_b rfl (by rw [h1]; rfl) sub_nil)))) some_nil
    · skip
      refine wl_guard_off (j := 3) rfl rfl rfl rfl rfl ?_
      refine wl_guard_off (j := 3) rfl rfl rfl rfl rfl ?_
      refine wl_guard_off (j := 3) rfl rfl rfl rfl rfl ?_
      refine wl_pure (po_pick_f rfl rfl) rfl ?_
      refine wl_pure (po_assign rfl) rfl ?_
      refine wl_nil ?_
      exact wq_meet () trivial (sub_cons rfl (sub_cons rfl (sub_cons rfl (sub_b rfl (by rw [h1]; rfl) sub_nil)))) some_nil
  intro _ _
  refine wq_then ?_
  refine wc_ret ?_
  have hF1 : spec_l01In a_x a_least a_most = ((decide (a_x ≥ a_least)) && (decide (a_x ≤ a_most))) := by simp only [spec_l01In, cond_true, cond_false]
  exact wq_ret1 rfl rfl (fun w hw => by rw [hF1]; exact ⟨rfl, hw.weak some_nil⟩)

theorem c_spec_ActOk (w : World) (a_a : GAct) : Calls Try.prog 5 #[.agg #[.int .i64 a_a.Kind, .int .i64 a_a.A, .int .i64 a_a.B]] w fun e w' => e = .returned (.bool (spec_ActOk a_a)) ∧ SH w [] [] w' := by
  refine calls_of_wc (args := [_]) Try.func5 rfl Try.ntmps5 rfl ?_
  refine wc_seq ?_
  refine wc_region ?_
  refine wl_eff (eo_box rfl rfl) rfl ?_
  intro b1
  refine wl_pure (po_assign rfl) rfl ?_
  refine wl_nil ?_
  refine wq_then ?_
  refine wc_seq ?_
  refine wc_seq ?_
  refine wc_region ?_
  refine wl_pure (po_fld fo_25_0 rfl) rfl ?_
  refine wl_pure (po_load_box tk_3 pick0 rfl rfl) rfl ?_
  refine wl_nil ?_
  refine wq_then ?_
  refine wc_block ?_
  refine wc_seq ?_
  refine wc_region ?_
  refine wl_pure (po_eql rfl rfl) rfl ?_
  refine wl_pure (po_assign rfl) rfl ?_
  refine wl_nil ?_
  refine wq_then ?_
  refine wc_cond rfl (fun h1 => ?_) (fun h1 => ?_)
  · skip
    refine wc_seq ?_
    refine wc_join (X := Unit) (fun _ => True) (fun _ => [(0, .agg #[.int .i64 a_a.Kind, .int .i64 a_a.A, .int .i64 a_a.B]), (1, ptr b1 0), (2, .bool ((spec_l01In a_a.A 1 999) && (a_a.B == 0))), (4, .int .i64 a_a.Kind), (5, .bool (a_a.Kind == 1))]) (fun _ => [box b1 [.int .i64 a_a.Kind, .int .i64 a_a.A, .int .i64 a_a.B]]) ?_ ?_
    · skip
      refine wc_region ?_
      refine wl_pure (po_fld fo_25_1 rfl) rfl ?_
      refine wl_pure (po_load_box tk_3 pick0 rfl rfl) rfl ?_
      refine wl_call (co_call0 Try.func13 rfl nm_13 rfl (fun w hw => c_spec_l01In w a_a.A 1 999)) rfl ?_
      intro _
      refine wl_pure (po_move rfl) rfl ?_
      refine wl_fork (t := 10) rfl (fun h2 => ?_) (fun h2 => ?_)
      · skip
        refine wl_guard_on (j := 3) rfl rfl rfl (wl_pure (po_fld fo_25_2 rfl) rfl ?_)
        refine wl_guard_on (j := 3) rfl rfl rfl (wl_pure (po_load_box tk_3 pick0 rfl rfl) rfl ?_)
        refine wl_guard_on (j := 3) rfl rfl rfl (wl_pure (po_eql rfl rfl) rfl ?_)
        refine wl_pure (po_pick_t rfl rfl) rfl ?_
        refine wl_pure (po_assign rfl) rfl ?_
        refine wl_nil ?_
        exact wq_meet () trivial (sub_cons rfl (sub_cons rfl (sub_b rfl (by rw [h2]; rfl) (sub_cons rfl (sub_cons rfl sub_nil))))) (some_cons pick0 some_nil)
      · skip
        refine wl_guard_off (j := 3) rfl rfl rfl rfl rfl ?_
        refine wl_guard_off (j := 3) rfl rfl rfl rfl rfl ?_
        refine wl_guard_off (j := 3) rfl rfl rfl rfl rfl ?_
        refine wl_pure (po_pick_f rfl rfl) rfl ?_
        refine wl_pure (po_assign rfl) rfl ?_
        refine wl_nil ?_
        exact wq_meet () trivial (sub_cons rfl (sub_cons rfl (sub_b rfl (by rw [h2]; rfl) (sub_cons rfl (sub_cons rfl sub_nil))))) (some_cons pick0 some_nil)
    intro _ _
    refine wq_then ?_
    refine wc_ret ?_
    refine wq_block_ret ?_
    refine wq_then_ret ?_
    have hF1 : spec_ActOk a_a = ((spec_l01In a_a.A 1 999) && (a_a.B == 0)) := by simp only [spec_ActOk, h1, cond_true, cond_false]
    exact wq_ret1 rfl rfl (fun w hw => by rw [hF1]; exact ⟨rfl, hw.weak some_nil⟩)
  · skip
    refine wc_seq ?_
    refine wc_region ?_
    refine wl_pure (po_eql rfl rfl) rfl ?_
    refine wl_pure (po_assign rfl) rfl ?_
    refine wl_nil ?_
    refine wq_then ?_
    refine wc_cond rfl (fun h3 => ?_) (fun h3 => ?_)
    · skip
      refine wc_seq ?_
      refine wc_join (X := Unit) (fun _ => True) (fun _ => [(0, .agg #[.int .i64 a_a.Kind, .int .i64 a_a.A, .int .i64 a_a.B]), (1, ptr b1 0), (2, .bool ((spec_l01In a_a.A 1 999) && (spec_l01In a_a.B 0 9))), (4, .int .i64 a_a.Kind), (5, .bool (a_a.Kind == 1)), (15, .bool (a_a.Kind == 2))]) (fun _ => [box b1 [.int .i64 a_a.Kind, .int .i64 a_a.A, .int .i64 a_a.B]]) ?_ ?_
      · skip
        refine wc_region ?_
        refine wl_pure (po_fld fo_25_1 rfl) rfl ?_
        refine wl_pure (po_load_box tk_3 pick0 rfl rfl) rfl ?_
        refine wl_call (co_call0 Try.func13 rfl nm_13 rfl (fun w hw => c_spec_l01In w a_a.A 1 999)) rfl ?_
        intro _
        refine wl_pure (po_move rfl) rfl ?_
        refine wl_fork (t := 20) rfl (fun h4 => ?_) (fun h4 => ?_)
        · skip
          refine wl_guard_on (j := 3) rfl rfl rfl (wl_pure (po_fld fo_25_2 rfl) rfl ?_)
          refine wl_guard_on (j := 3) rfl rfl rfl (wl_pure (po_load_box tk_3 pick0 rfl rfl) rfl ?_)
          refine wl_guard_on (j := 3) rfl rfl rfl (wl_call (co_call0 Try.func13 rfl nm_13 rfl (fun w hw => c_spec_l01In w a_a.B 0 9)) rfl ?_)
          intro _
          refine wl_pure (po_pick_t rfl rfl) rfl ?_
          refine wl_pure (po_assign rfl) rfl ?_
          refine wl_nil ?_
          exact wq_meet () trivial (sub_cons rfl (sub_cons rfl (sub_b rfl (by rw [h4]; rfl) (sub_cons rfl (sub_cons rfl (sub_cons rfl sub_nil)))))) (some_cons pick0 some_nil)
        · skip
          refine wl_guard_off (j := 3) rfl rfl rfl rfl rfl ?_
          refine wl_guard_off (j := 3) rfl rfl rfl rfl rfl ?_
          refine wl_guard_off (j := 3) rfl rfl rfl rfl rfl ?_
          refine wl_pure (po_pick_f rfl rfl) rfl ?_
          refine wl_pure (po_assign rfl) rfl ?_
          refine wl_nil ?_
          exact wq_meet () trivial (sub_cons rfl (sub_cons rfl (sub_b rfl (by rw [h4]; rfl) (sub_cons rfl (sub_cons rfl (sub_cons rfl sub_nil)))))) (some_cons pick0 some_nil)
      intro _ _
      refine wq_then ?_
      refine wc_ret ?_
      refine wq_block_ret ?_
      refine wq_then_ret ?_
      have hF2 : spec_ActOk a_a = ((spec_l01In a_a.A 1 999) && (spec_l01In a_a.B 0 9)) := by simp only [spec_ActOk, h1, h3, cond_true, cond_false]
      exact wq_ret1 rfl rfl (fun w hw => by rw [hF2]; exact ⟨rfl, hw.weak some_nil⟩)
    · skip
      refine wc_seq ?_
      refine wc_seq ?_
      refine wc_region ?_
      refine wl_pure (po_eql rfl rfl) rfl ?_
      refine wl_pure (po_assign rfl) rfl ?_
      refine wl_nil ?_
      refine wq_then ?_
      refine wc_join (X := Unit) (fun _ => True) (fun _ => [(0, .agg #[.int .i64 a_a.Kind, .int .i64 a_a.A, .int .i64 a_a.B]), (1, ptr b1 0), (2, .bool false), (4, .int .i64 a_a.Kind), (5, .bool (a_a.Kind == 1)), (15, .bool (a_a.Kind == 2)), (25, .bool ((a_a.Kind == 3) || (a_a.Kind == 6)))]) (fun _ => [box b1 [.int .i64 a_a.Kind, .int .i64 a_a.A, .int .i64 a_a.B]]) ?_ ?_
      · skip
        refine wc_cond rfl (fun h5 => ?_) (fun h5 => ?_)
        · skip
          refine wc_skip ?_
          exact wq_meet () trivial (sub_cons rfl (sub_cons rfl (sub_cons rfl (sub_cons rfl (sub_cons rfl (sub_cons rfl (sub_b rfl (by rw [h5]; rfl) sub_nil))))))) (some_cons pick0 some_nil)
        · skip
          refine wc_region ?_
          refine wl_pure (po_eql rfl rfl) rfl ?_
          refine wl_pure (po_assign rfl) rfl ?_
          refine wl_nil ?_
          exact wq_meet () trivial (sub_cons rfl (sub_cons rfl (sub_cons rfl (sub_cons rfl (sub_cons rfl (sub_cons rfl (sub_b rfl (by rw [h5]; rfl) sub_nil))))))) (some_cons pick0 some_nil)
      intro _ _
      refine wq_then ?_
      refine wc_cond rfl (fun h6 => ?_) (fun h6 => ?_)
      · skip
        refine wc_seq ?_
        refine wc_join (X := Unit) (fun _ => True) (fun _ => [(0, .agg #[.int .i64 a_a.Kind, .int .i64 a_a.A, .int .i64 a_a.B]), (1, ptr b1 0), (2, .bool ((spec_l01In a_a.A 0 9) && (a_a.B == 0))), (4, .int .i64 a_a.Kind), (5, .bool (a_a.Kind == 1)), (15, .bool (a_a.Kind == 2)), (25, .bool ((a_a.Kind == 3) || (a_a.Kind == 6)))]) (fun _ => [box b1 [.int .i64 a_a.Kind, .int .i64 a_a.A, .int .i64 a_a.B]]) ?_ ?_
        · skip
          refine wc_region ?_
          refine wl_pure (po_fld fo_25_1 rfl) rfl ?_
          refine wl_pure (po_load_box tk_3 pick0 rfl rfl) rfl ?_
          refine wl_call (co_call0 Try.func13 rfl nm_13 rfl (fun w hw => c_spec_l01In w a_a.A 0 9)) rfl ?_
          intro _
          refine wl_pure (po_move rfl) rfl ?_
          refine wl_fork (t := 31) rfl (fun h7 => ?_) (fun h7 => ?_)
          · skip
            refine wl_guard_on (j := 3) rfl rfl rfl (wl_pure (po_fld fo_25_2 rfl) rfl ?_)
            refine wl_guard_on (j := 3) rfl rfl rfl (wl_pure (po_load_box tk_3 pick0 rfl rfl) rfl ?_)
            refine wl_guard_on (j := 3) rfl rfl rfl (wl_pure (po_eql rfl rfl) rfl ?_)
            refine wl_pure (po_pick_t rfl rfl) rfl ?_
            refine wl_pure (po_assign rfl) rfl ?_
            refine wl_nil ?_
            exact wq_meet () trivial (sub_cons rfl (sub_cons rfl (sub_b rfl (by rw [h7]; rfl) (sub_cons rfl (sub_cons rfl (sub_cons rfl (sub_cons rfl sub_nil))))))) (some_cons pick0 some_nil)
          · skip
            refine wl_guard_off (j := 3) rfl rfl rfl rfl rfl ?_
            refine wl_guard_off (j := 3) rfl rfl rfl rfl rfl ?_
            refine wl_guard_off (j := 3) rfl rfl rfl rfl rfl ?_
            refine wl_pure (po_pick_f rfl rfl) rfl ?_
            refine wl_pure (po_assign rfl) rfl ?_
            refine wl_nil ?_
            exact wq_meet () trivial (sub_cons rfl (sub_cons rfl (sub_b rfl (by rw [h7]; rfl) (sub_cons rfl (sub_cons rfl (sub_cons rfl (sub_cons rfl sub_nil))))))) (some_cons pick0 some_nil)
        intro _ _
        refine wq_then ?_
        refine wc_ret ?_
        refine wq_block_ret ?_
        refine wq_then_ret ?_
        have hF3 : spec_ActOk a_a = ((spec_l01In a_a.A 0 9) && (a_a.B == 0)) := by simp only [spec_ActOk, h1, h3, h6, cond_true, cond_false]
        exact wq_ret1 rfl rfl (fun w hw => by rw [hF3]; exact ⟨rfl, hw.weak some_nil⟩)
      · skip
        refine wc_seq ?_
        refine wc_seq ?_
        refine wc_region ?_
        refine wl_pure (po_eql rfl rfl) rfl ?_
        refine wl_pure (po_assign rfl) rfl ?_
        refine wl_nil ?_
        refine wq_then ?_
        refine wc_join (X := Unit) (fun _ => True) (fun _ => [(0, .agg #[.int .i64 a_a.Kind, .int .i64 a_a.A, .int .i64 a_a.B]), (1, ptr b1 0), (2, .bool false), (4, .int .i64 a_a.Kind), (5, .bool (a_a.Kind == 1)), (15, .bool (a_a.Kind == 2)), (25, .bool ((a_a.Kind == 3) || (a_a.Kind == 6))), (36, .bool ((a_a.Kind == 4) || (a_a.Kind == 5)))]) (fun _ => [box b1 [.int .i64 a_a.Kind, .int .i64 a_a.A, .int .i64 a_a.B]]) ?_ ?_
        · skip
          refine wc_cond rfl (fun h8 => ?_) (fun h8 => ?_)
          · skip
            refine wc_skip ?_
            exact wq_meet () trivial (sub_cons rfl (sub_cons rfl (sub_cons rfl (sub_cons rfl (sub_cons rfl (sub_cons rfl (sub_cons rfl (sub_b rfl (by rw [h8]; rfl) sub_nil)))))))) (some_cons pick0 some_nil)
          · skip
            refine wc_region ?_
            refine wl_pure (po_eql rfl rfl) rfl ?_
            refine wl_pure (po_assign rfl) rfl ?_
            refine wl_nil ?_
            exact wq_meet () trivial (sub_cons rfl (sub_cons rfl (sub_cons rfl (sub_cons rfl (sub_cons rfl (sub_cons rfl (sub_cons rfl (sub_b rfl (by rw [h8]; rfl) sub_nil)))))))) (some_cons pick0 some_nil)
        intro _ _
        refine wq_then ?_
        refine wc_cond rfl (fun h9 => ?_) (fun h9 => ?_)
        · skip
          refine wc_seq ?_
          refine wc_join (X := Unit) (fun _ => True) (fun _ => [(0, .agg #[.int .i64 a_a.Kind, .int .i64 a_a.A, .int .i64 a_a.B]), (1, ptr b1 0), (2, .bool ((a_a.A == 0) && (a_a.B == 0))), (4, .int .i64 a_a.Kind), (5, .bool (a_a.Kind == 1)), (15, .bool (a_a.Kind == 2)), (25, .bool ((a_a.Kind == 3) || (a_a.Kind == 6))), (36, .bool ((a_a.Kind == 4) || (a_a.Kind == 5)))]) (fun _ => [box b1 [.int .i64 a_a.Kind, .int .i64 a_a.A, .int .i64 a_a.B]]) ?_ ?_
          · skip
            refine wc_region ?_
            refine wl_pure (po_fld fo_25_1 rfl) rfl ?_
            refine wl_pure (po_load_box tk_3 pick0 rfl rfl) rfl ?_
            refine wl_pure (po_eql rfl rfl) rfl ?_
            refine wl_pure (po_move rfl) rfl ?_
            refine wl_fork (t := 42) rfl (fun h10 => ?_) (fun h10 => ?_)
            · skip
              refine wl_guard_on (j := 3) rfl rfl rfl (wl_pure (po_fld fo_25_2 rfl) rfl ?_)
              refine wl_guard_on (j := 3) rfl rfl rfl (wl_pure (po_load_box tk_3 pick0 rfl rfl) rfl ?_)
              refine wl_guard_on (j := 3) rfl rfl rfl (wl_pure (po_eql rfl rfl) rfl ?_)
              refine wl_pure (po_pick_t rfl rfl) rfl ?_
              refine wl_pure (po_assign rfl) rfl ?_
              refine wl_nil ?_
              exact wq_meet () trivial (sub_cons rfl (sub_cons rfl (sub_b rfl (by rw [h10]; rfl) (sub_cons rfl (sub_cons rfl (sub_cons rfl (sub_cons rfl (sub_cons rfl sub_nil)))))))) (some_cons pick0 some_nil)
            · skip
              refine wl_guard_off (j := 3) rfl rfl rfl rfl rfl ?_
              refine wl_guard_off (j := 3) rfl rfl rfl rfl rfl ?_
              refine wl_guard_off (j := 3) rfl rfl rfl rfl rfl ?_
              refine wl_pure (po_pick_f rfl rfl) rfl ?_
              refine wl_pure (po_assign rfl) rfl ?_
              refine wl_nil ?_
              exact wq_meet () trivial (sub_cons rfl (sub_cons rfl (sub_b rfl (by rw [h10]; rfl) (sub_cons rfl (sub_cons rfl (sub_cons rfl (sub_cons rfl (sub_cons rfl sub_nil)))))))) (some_cons pick0 some_nil)
          intro _ _
          refine wq_then ?_
          refine wc_ret ?_
          refine wq_block_ret ?_
          refine wq_then_ret ?_
          have hF4 : spec_ActOk a_a = ((a_a.A == 0) && (a_a.B == 0)) := by simp only [spec_ActOk, h1, h3, h6, h9, cond_true, cond_false]
          exact wq_ret1 rfl rfl (fun w hw => by rw [hF4]; exact ⟨rfl, hw.weak some_nil⟩)
        · skip
          refine wc_skip ?_
          refine wq_block ?_
          refine wq_then ?_
          refine wc_seq ?_
          refine wc_region ?_
          refine wl_pure (po_assign rfl) rfl ?_
          refine wl_nil ?_
          refine wq_then ?_
          refine wc_ret ?_
          have hF5 : spec_ActOk a_a = false := by simp only [spec_ActOk, h1, h3, h6, h9, cond_true, cond_false]
          exact wq_ret1 rfl rfl (fun w hw => by rw [hF5]; exact ⟨rfl, hw.weak some_nil⟩)

theorem c_impl_within (w : World) (a_n : Int) (a_a : Int) (a_b : Int) : Calls Try.prog 14 #[.int .i64 a_n, .int .i64 a_a, .int .i64 a_b] w fun e w' => e = .returned (.bool (impl_within a_n a_a a_b)) ∧ SH w [] [] w' := by
  refine calls_of_wc (args := [_, _, _]) Try.func14 rfl Try.ntmps14 rfl ?_
  refine wc_seq ?_
  refine wc_region ?_
  refine wl_pure (po_assign rfl) rfl ?_
  refine wl_nil ?_
  refine wq_then ?_
  refine wc_seq ?_
  refine wc_join (X := Unit) (fun _ => True) (fun _ => [(0, .int .i64 a_n), (1, .int .i64 a_a), (2, .int .i64 a_b), (6, .bool ((decide (a_n ≥ a_a)) && (decide (a_n ≤ a_b))))]) (fun _ => []) ?_ ?_
  · skip
    refine wc_region ?_
    refine wl_pure (po_move rfl) rfl ?_
    refine wl_pure (po_move rfl) rfl ?_
    refine wl_pure (po_geq rfl rfl) rfl ?_
    refine wl_pure (po_move rfl) rfl ?_
    refine wl_fork (t := 10) rfl (fun h1 => ?_) (fun h1 => ?_)
    · skip
      refine wl_guard_on (j := 3) rfl rfl rfl (wl_pure (po_move rfl) rfl ?_)
      refine wl_guard_on (j := 3) rfl rfl rfl (wl_pure (po_move rfl) rfl ?_)
      refine wl_guard_on (j := 3) rfl rfl rfl (wl_pure (po_leq rfl rfl) rfl ?_)
      refine wl_pure (po_pick_t rfl rfl) rfl ?_
      refine wl_pure (po_assign rfl) rfl ?_
      refine wl_nil ?_
      exact wq_meet () trivial (sub_cons rfl (sub_cons rfl (sub_cons rfl (sub_b rfl (by rw [h1]; rfl) sub_nil)))) some_nil
    · skip
      refine wl_guard_off (j := 3) rfl rfl rfl rfl rfl ?_
      refine wl_guard_off (j := 3) rfl rfl rfl rfl rfl ?_
      refine wl_guard_off (j := 3) rfl rfl rfl rfl rfl ?_
      refine wl_pure (po_pick_f rfl rfl) rfl ?_
      refine wl_pure (po_assign rfl) rfl ?_
      refine wl_nil ?_
      exact wq_meet () trivial (sub_cons rfl (sub_cons rfl (sub_cons rfl (sub_b rfl (by rw [h1]; rfl) sub_nil)))) some_nil
  intro _ _
  refine wq_then ?_
  refine wc_ret ?_
  have hF1 : impl_within a_n a_a a_b = ((decide (a_n ≥ a_a)) && (decide (a_n ≤ a_b))) := by simp only [impl_within, cond_true, cond_false]
  exact wq_ret1 rfl rfl (fun w hw => by rw [hF1]; exact ⟨rfl, hw.weak some_nil⟩)

theorem c_impl_ActOk (w : World) (a_a : GAct) : Calls Try.prog 7 #[.agg #[.int .i64 a_a.Kind, .int .i64 a_a.A, .int .i64 a_a.B]] w fun e w' => e = .returned (.bool (impl_ActOk a_a)) ∧ SH w [] [] w' := by
  refine calls_of_wc (args := [_]) Try.func7 rfl Try.ntmps7 rfl ?_
  refine wc_seq ?_
  refine wc_region ?_
  refine wl_eff (eo_box rfl rfl) rfl ?_
  intro b1
  refine wl_pure (po_assign rfl) rfl ?_
  refine wl_nil ?_
  refine wq_then ?_
  refine wc_seq ?_
  refine wc_seq ?_
  refine wc_region ?_
  refine wl_pure (po_fld fo_25_0 rfl) rfl ?_
  refine wl_pure (po_load_box tk_3 pick0 rfl rfl) rfl ?_
  refine wl_nil ?_
  refine wq_then ?_
  refine wc_block ?_
  refine wc_seq ?_
  refine wc_region ?_
  refine wl_pure (po_eql rfl rfl) rfl ?_
  refine wl_pure (po_assign rfl) rfl ?_
  refine wl_nil ?_
  refine wq_then ?_
  refine wc_cond rfl (fun h1 => ?_) (fun h1 => ?_)
  · skip
    refine wc_seq ?_
    refine wc_join (X := Unit) (fun _ => True) (fun _ => [(0, .agg #[.int .i64 a_a.Kind, .int .i64 a_a.A, .int .i64 a_a.B]), (1, ptr b1 0), (2, .bool ((impl_within a_a.A 1 999) && (a_a.B == 0))), (4, .int .i64 a_a.Kind), (5, .bool (a_a.Kind == 1))]) (fun _ => [box b1 [.int .i64 a_a.Kind, .int .i64 a_a.A, .int .i64 a_a.B]]) ?_ ?_
    · skip
      refine wc_region ?_
      refine wl_pure (po_fld fo_25_1 rfl) rfl ?_
      refine wl_pure (po_load_box tk_3 pick0 rfl rfl) rfl ?_
      refine wl_call (co_call0 Try.func14 rfl nm_14 rfl (fun w hw => c_impl_within w a_a.A 1 999)) rfl ?_
      intro _
      refine wl_pure (po_move rfl) rfl ?_
      refine wl_fork (t := 10) rfl (fun h2 => ?_) (fun h2 => ?_)
      · skip
        refine wl_guard_on (j := 3) rfl rfl rfl (wl_pure (po_fld fo_25_2 rfl) rfl ?_)
        refine wl_guard_on (j := 3) rfl rfl rfl (wl_pure (po_load_box tk_3 pick0 rfl rfl) rfl ?_)
        refine wl_guard_on (j := 3) rfl rfl rfl (wl_pure (po_eql rfl rfl) rfl ?_)
        refine wl_pure (po_pick_t rfl rfl) rfl ?_
        refine wl_pure (po_assign rfl) rfl ?_
        refine wl_nil ?_
        exact wq_meet () trivial (sub_cons rfl (sub_cons rfl (sub_b rfl (by rw [h2]; rfl) (sub_cons rfl (sub_cons rfl sub_nil))))) (some_cons pick0 some_nil)
      · skip
        refine wl_guard_off (j := 3) rfl rfl rfl rfl rfl ?_
        refine wl_guard_off (j := 3) rfl rfl rfl rfl rfl ?_
        refine wl_guard_off (j := 3) rfl rfl rfl rfl rfl ?_
        refine wl_pure (po_pick_f rfl rfl) rfl ?_
        refine wl_pure (po_assign rfl) rfl ?_
        refine wl_nil ?_
        exact wq_meet () trivial (sub_cons rfl (sub_cons rfl (sub_b rfl (by rw [h2]; rfl) (sub_cons rfl (sub_cons rfl sub_nil))))) (some_cons pick0 some_nil)
    intro _ _
    refine wq_then ?_
    refine wc_ret ?_
    refine wq_block_ret ?_
    refine wq_then_ret ?_
    have hF1 : impl_ActOk a_a = ((impl_within a_a.A 1 999) && (a_a.B == 0)) := by simp only [impl_ActOk, h1, cond_true, cond_false]
    exact wq_ret1 rfl rfl (fun w hw => by rw [hF1]; exact ⟨rfl, hw.weak some_nil⟩)
  · skip
    refine wc_seq ?_
    refine wc_region ?_
    refine wl_pure (po_eql rfl rfl) rfl ?_
    refine wl_pure (po_assign rfl) rfl ?_
    refine wl_nil ?_
    refine wq_then ?_
    refine wc_cond rfl (fun h3 => ?_) (fun h3 => ?_)
    · skip
      refine wc_seq ?_
      refine wc_join (X := Unit) (fun _ => True) (fun _ => [(0, .agg #[.int .i64 a_a.Kind, .int .i64 a_a.A, .int .i64 a_a.B]), (1, ptr b1 0), (2, .bool ((impl_within a_a.A 1 999) && (impl_within a_a.B 0 9))), (4, .int .i64 a_a.Kind), (5, .bool (a_a.Kind == 1)), (15, .bool (a_a.Kind == 2))]) (fun _ => [box b1 [.int .i64 a_a.Kind, .int .i64 a_a.A, .int .i64 a_a.B]]) ?_ ?_
      · skip
        refine wc_region ?_
        refine wl_pure (po_fld fo_25_1 rfl) rfl ?_
        refine wl_pure (po_load_box tk_3 pick0 rfl rfl) rfl ?_
        refine wl_call (co_call0 Try.func14 rfl nm_14 rfl (fun w hw => c_impl_within w a_a.A 1 999)) rfl ?_
        intro _
        refine wl_pure (po_move rfl) rfl ?_
        refine wl_fork (t := 20) rfl (fun h4 => ?_) (fun h4 => ?_)
        · skip
          refine wl_guard_on (j := 3) rfl rfl rfl (wl_pure (po_fld fo_25_2 rfl) rfl ?_)
          refine wl_guard_on (j := 3) rfl rfl rfl (wl_pure (po_load_box tk_3 pick0 rfl rfl) rfl ?_)
          refine wl_guard_on (j := 3) rfl rfl rfl (wl_call (co_call0 Try.func14 rfl nm_14 rfl (fun w hw => c_impl_within w a_a.B 0 9)) rfl ?_)
          intro _
          refine wl_pure (po_pick_t rfl rfl) rfl ?_
          refine wl_pure (po_assign rfl) rfl ?_
          refine wl_nil ?_
          exact wq_meet () trivial (sub_cons rfl (sub_cons rfl (sub_b rfl (by rw [h4]; rfl) (sub_cons rfl (sub_cons rfl (sub_cons rfl sub_nil)))))) (some_cons pick0 some_nil)
        · skip
          refine wl_guard_off (j := 3) rfl rfl rfl rfl rfl ?_
          refine wl_guard_off (j := 3) rfl rfl rfl rfl rfl ?_
          refine wl_guard_off (j := 3) rfl rfl rfl rfl rfl ?_
          refine wl_pure (po_pick_f rfl rfl) rfl ?_
          refine wl_pure (po_assign rfl) rfl ?_
          refine wl_nil ?_
          exact wq_meet () trivial (sub_cons rfl (sub_cons rfl (sub_b rfl (by rw [h4]; rfl) (sub_cons rfl (sub_cons rfl (sub_cons rfl sub_nil)))))) (some_cons pick0 some_nil)
      intro _ _
      refine wq_then ?_
      refine wc_ret ?_
      refine wq_block_ret ?_
      refine wq_then_ret ?_
      have hF2 : impl_ActOk a_a = ((impl_within a_a.A 1 999) && (impl_within a_a.B 0 9)) := by simp only [impl_ActOk, h1, h3, cond_true, cond_false]
      exact wq_ret1 rfl rfl (fun w hw => by rw [hF2]; exact ⟨rfl, hw.weak some_nil⟩)
    · skip
      refine wc_seq ?_
      refine wc_seq ?_
      refine wc_region ?_
      refine wl_pure (po_eql rfl rfl) rfl ?_
      refine wl_pure (po_assign rfl) rfl ?_
      refine wl_nil ?_
      refine wq_then ?_
      refine wc_join (X := Unit) (fun _ => True) (fun _ => [(0, .agg #[.int .i64 a_a.Kind, .int .i64 a_a.A, .int .i64 a_a.B]), (1, ptr b1 0), (2, .bool false), (4, .int .i64 a_a.Kind), (5, .bool (a_a.Kind == 1)), (15, .bool (a_a.Kind == 2)), (25, .bool ((a_a.Kind == 3) || (a_a.Kind == 6)))]) (fun _ => [box b1 [.int .i64 a_a.Kind, .int .i64 a_a.A, .int .i64 a_a.B]]) ?_ ?_
      · skip
        refine wc_cond rfl (fun h5 => ?_) (fun h5 => ?_)
        · skip
          refine wc_skip ?_
          exact wq_meet () trivial (sub_cons rfl (sub_cons rfl (sub_cons rfl (sub_cons rfl (sub_cons rfl (sub_cons rfl (sub_b rfl (by rw [h5]; rfl) sub_nil))))))) (some_cons pick0 some_nil)
        · skip
          refine wc_region ?_
          refine wl_pure (po_eql rfl rfl) rfl ?_
          refine wl_pure (po_assign rfl) rfl ?_
          refine wl_nil ?_
          exact wq_meet () trivial (sub_cons rfl (sub_cons rfl (sub_cons rfl (sub_cons rfl (sub_cons rfl (sub_cons rfl (sub_b rfl (by rw [h5]; rfl) sub_nil))))))) (some_cons pick0 some_nil)
      intro _ _
      refine wq_then ?_
      refine wc_cond rfl (fun h6 => ?_) (fun h6 => ?_)
      · skip
        refine wc_seq ?_
        refine wc_join (X := Unit) (fun _ => True) (fun _ => [(0, .agg #[.int .i64 a_a.Kind, .int .i64 a_a.A, .int .i64 a_a.B]), (1, ptr b1 0), (2, .bool ((impl_within a_a.A 0 9) && (a_a.B == 0))), (4, .int .i64 a_a.Kind), (5, .bool (a_a.Kind == 1)), (15, .bool (a_a.Kind == 2)), (25, .bool ((a_a.Kind == 3) || (a_a.Kind == 6)))]) (fun _ => [box b1 [.int .i64 a_a.Kind, .int .i64 a_a.A, .int .i64 a_a.B]]) ?_ ?_
        · skip
          refine wc_region ?_
          refine wl_pure (po_fld fo_25_1 rfl) rfl ?_
          refine wl_pure (po_load_box tk_3 pick0 rfl rfl) rfl ?_
          refine wl_call (co_call0 Try.func14 rfl nm_14 rfl (fun w hw => c_impl_within w a_a.A 0 9)) rfl ?_
          intro _
          refine wl_pure (po_move rfl) rfl ?_
          refine wl_fork (t := 31) rfl (fun h7 => ?_) (fun h7 => ?_)
          · skip
            refine wl_guard_on (j := 3) rfl rfl rfl (wl_pure (po_fld fo_25_2 rfl) rfl ?_)
            refine wl_guard_on (j := 3) rfl rfl rfl (wl_pure (po_load_box tk_3 pick0 rfl rfl) rfl ?_)
            refine wl_guard_on (j := 3) rfl rfl rfl (wl_pure (po_eql rfl rfl) rfl ?_)
            refine wl_pure (po_pick_t rfl rfl) rfl ?_
            refine wl_pure (po_assign rfl) rfl ?_
            refine wl_nil ?_
            exact wq_meet () trivial (sub_cons rfl (sub_cons rfl (sub_b rfl (by rw [h7]; rfl) (sub_cons rfl (sub_cons rfl (sub_cons rfl (sub_cons rfl sub_nil))))))) (some_cons pick0 some_nil)
          · skip
            refine wl_guard_off (j := 3) rfl rfl rfl rfl rfl ?_
            refine wl_guard_off (j := 3) rfl rfl rfl rfl rfl ?_
            refine wl_guard_off (j := 3) rfl rfl rfl rfl rfl ?_
            refine wl_pure (po_pick_f rfl rfl) rfl ?_
            refine wl_pure (po_assign rfl) rfl ?_
            refine wl_nil ?_
            exact wq_meet () trivial (sub_cons rfl (sub_cons rfl (sub_b rfl (by rw [h7]; rfl) (sub_cons rfl (sub_cons rfl (sub_cons rfl (sub_cons rfl sub_nil))))))) (some_cons pick0 some_nil)
        intro _ _
        refine wq_then ?_
        refine wc_ret ?_
        refine wq_block_ret ?_
        refine wq_then_ret ?_
        have hF3 : impl_ActOk a_a = ((impl_within a_a.A 0 9) && (a_a.B == 0)) := by simp only [impl_ActOk, h1, h3, h6, cond_true, cond_false]
        exact wq_ret1 rfl rfl (fun w hw => by rw [hF3]; exact ⟨rfl, hw.weak some_nil⟩)
      · skip
        refine wc_skip ?_
        refine wq_block ?_
        refine wq_then ?_
        refine wc_seq ?_
        refine wc_join (X := Unit) (fun _ => True) (fun _ => [(0, .agg #[.int .i64 a_a.Kind, .int .i64 a_a.A, .int .i64 a_a.B]), (1, ptr b1 0), (2, .bool (bif (a_a.Kind == 4) then ((a_a.A == 0) && (a_a.B == 0)) else ((a_a.Kind == 5) && ((a_a.A == 0) && (a_a.B == 0))))), (4, .int .i64 a_a.Kind), (5, .bool (a_a.Kind == 1)), (15, .bool (a_a.Kind == 2)), (25, .bool ((a_a.Kind == 3) || (a_a.Kind == 6)))]) (fun _ => [box b1 [.int .i64 a_a.Kind, .int .i64 a_a.A, .int .i64 a_a.B]]) ?_ ?_
        · skip
          refine wc_region ?_
          refine wl_pure (po_fld fo_25_0 rfl) rfl ?_
          refine wl_pure (po_load_box tk_3 pick0 rfl rfl) rfl ?_
          refine wl_pure (po_eql rfl rfl) rfl ?_
          refine wl_pure (po_move rfl) rfl ?_
          refine wl_fork (t := 39) rfl (fun h8 => ?_) (fun h8 => ?_)
          · skip
            refine wl_guard_off (j := 3) rfl rfl rfl rfl rfl ?_
            refine wl_guard_off (j := 3) rfl rfl rfl rfl rfl ?_
            refine wl_guard_off (j := 3) rfl rfl rfl rfl rfl ?_
            refine wl_pure (po_pick_t rfl rfl) rfl ?_
            refine wl_pure (po_move rfl) rfl ?_
            refine wl_guard_on (j := 8) rfl rfl rfl (wl_pure (po_fld fo_25_1 rfl) rfl ?_)
            refine wl_guard_on (j := 8) rfl rfl rfl (wl_pure (po_load_box tk_3 pick0 rfl rfl) rfl ?_)
            refine wl_guard_on (j := 8) rfl rfl rfl (wl_pure (po_eql rfl rfl) rfl ?_)
            refine wl_pure (po_pick_t rfl rfl) rfl ?_
            refine wl_pure (po_move rfl) rfl ?_
            refine wl_fork (t := 49) rfl (fun h9 => ?_) (fun h9 => ?_)
            · skip
              refine wl_guard_on (j := 13) rfl rfl rfl (wl_pure (po_fld fo_25_2 rfl) rfl ?_)
              refine wl_guard_on (j := 13) rfl rfl rfl (wl_pure (po_load_box tk_3 pick0 rfl rfl) rfl ?_)
              refine wl_guard_on (j := 13) rfl rfl rfl (wl_pure (po_eql rfl rfl) rfl ?_)
              refine wl_pure (po_pick_t rfl rfl) rfl ?_
              refine wl_pure (po_assign rfl) rfl ?_
              refine wl_nil ?_
              exact wq_meet () trivial (sub_cons rfl (sub_cons rfl (sub_b rfl (by rw [h8, h9]; rfl) (sub_cons rfl (sub_cons rfl (sub_cons rfl (sub_cons rfl sub_nil))))))) (some_cons pick0 some_nil)
            · skip
              refine wl_guard_off (j := 13) rfl rfl rfl rfl rfl ?_
              refine wl_guard_off (j := 13) rfl rfl rfl rfl rfl ?_
              refine wl_guard_off (j := 13) rfl rfl rfl rfl rfl ?_
              refine wl_pure (po_pick_f rfl rfl) rfl ?_
              refine wl_pure (po_assign rfl) rfl ?_
              refine wl_nil ?_
              exact wq_meet () trivial (sub_cons rfl (sub_cons rfl (sub_b rfl (by rw [h8, h9]; rfl) (sub_cons rfl (sub_cons rfl (sub_cons rfl (sub_cons rfl sub_nil))))))) (some_cons pick0 some_nil)
          · skip
            refine wl_guard_on (j := 3) rfl rfl rfl (wl_pure (po_fld fo_25_0 rfl) rfl ?_)
            refine wl_guard_on (j := 3) rfl rfl rfl (wl_pure (po_load_box tk_3 pick0 rfl rfl) rfl ?_)
            refine wl_guard_on (j := 3) rfl rfl rfl (wl_pure (po_eql rfl rfl) rfl ?_)
            refine wl_pure (po_pick_f rfl rfl) rfl ?_
            refine wl_pure (po_move rfl) rfl ?_
            refine wl_fork (t := 44) rfl (fun h10 => ?_) (fun h10 => ?_)
            · skip
              refine wl_guard_on (j := 8) rfl rfl rfl (wl_pure (po_fld fo_25_1 rfl) rfl ?_)
              refine wl_guard_on (j := 8) rfl rfl rfl (wl_pure (po_load_box tk_3 pick0 rfl rfl) rfl ?_)
              refine wl_guard_on (j := 8) rfl rfl rfl (wl_pure (po_eql rfl rfl) rfl ?_)
              refine wl_pure (po_pick_t rfl rfl) rfl ?_
              refine wl_pure (po_move rfl) rfl ?_
              refine wl_fork (t := 49) rfl (fun h11 => ?_) (fun h11 => ?_)
              · skip
                refine wl_guard_on (j := 13) rfl rfl rfl (wl_pure (po_fld fo_25_2 rfl) rfl ?_)
                refine wl_guard_on (j := 13) rfl rfl rfl (wl_pure (po_load_box tk_3 pick0 rfl rfl) rfl ?_)
                refine wl_guard_on (j := 13) rfl rfl rfl (wl_pure (po_eql rfl rfl) rfl ?_)
                refine wl_pure (po_pick_t rfl rfl) rfl ?_
                refine wl_pure (po_assign rfl) rfl ?_
                refine wl_nil ?_
                exact wq_meet () trivial (sub_cons rfl (sub_cons rfl (sub_b rfl (by rw [h8, h10, h11]; rfl) (sub_cons rfl (sub_cons rfl (sub_cons rfl (sub_cons rfl sub_nil))))))) (some_cons pick0 some_nil)
              · skip
                refine wl_guard_off (j := 13) rfl rfl rfl rfl rfl ?_
                refine wl_guard_off (j := 13) rfl rfl rfl rfl rfl ?_
                refine wl_guard_off (j := 13) rfl rfl rfl rfl rfl ?_
                refine wl_pure (po_pick_f rfl rfl) rfl ?_
                refine wl_pure (po_assign rfl) rfl ?_
                refine wl_nil ?_
                exact wq_meet () trivial (sub_cons rfl (sub_cons rfl (sub_b rfl (by rw [h8, h10, h11]; rfl) (sub_cons rfl (sub_cons rfl (sub_cons rfl (sub_cons rfl sub_nil))))))) (some_cons pick0 some_nil)
            · skip
              refine wl_guard_off (j := 8) rfl rfl rfl rfl rfl ?_
              refine wl_guard_off (j := 8) rfl rfl rfl rfl rfl ?_
              refine wl_guard_off (j := 8) rfl rfl rfl rfl rfl ?_
              refine wl_pure (po_pick_f rfl rfl) rfl ?_
              refine wl_pure (po_move rfl) rfl ?_
              refine wl_guard_off (j := 13) rfl rfl rfl rfl rfl ?_
              refine wl_guard_off (j := 13) rfl rfl rfl rfl rfl ?_
              refine wl_guard_off (j := 13) rfl rfl rfl rfl rfl ?_
              refine wl_pure (po_pick_f rfl rfl) rfl ?_
              refine wl_pure (po_assign rfl) rfl ?_
              refine wl_nil ?_
              exact wq_meet () trivial (sub_cons rfl (sub_cons rfl (sub_b rfl (by rw [h8, h10]; rfl) (sub_cons rfl (sub_cons rfl (sub_cons rfl (sub_cons rfl sub_nil))))))) (some_cons pick0 some_nil)
        intro _ _
        refine wq_then ?_
        refine wc_ret ?_
        have hF4 : impl_ActOk a_a = (bif (a_a.Kind == 4) then ((a_a.A == 0) && (a_a.B == 0)) else ((a_a.Kind == 5) && ((a_a.A == 0) && (a_a.B == 0)))) := by simp only [impl_ActOk, h1, h3, h6, cond_true, cond_false]
        exact wq_ret1 rfl rfl (fun w hw => by rw [hF4]; exact ⟨rfl, hw.weak some_nil⟩)

theorem c_laws_FnExactActOk (w : World) (a_aA : GAct) : Calls Try.prog 3 #[.agg #[.int .i64 a_aA.Kind, .int .i64 a_aA.A, .int .i64 a_aA.B]] w fun e w' => e = .returned (.bool (laws_FnExactActOk a_aA)) ∧ SH w [] [] w' := by
  refine calls_of_wc (args := [_]) Try.func3 rfl Try.ntmps3 rfl ?_
  refine wc_seq ?_
  refine wc_region ?_
  refine wl_eff (eo_box rfl rfl) rfl ?_
  intro b1
  refine wl_pure (po_assign rfl) rfl ?_
  refine wl_nil ?_
  refine wq_then ?_
  refine wc_seq ?_
  refine wc_region ?_
  refine wl_pure (po_load_boxs tk_23 pick0 rfl rfl rfl) rfl ?_
  refine wl_call (co_call0 Try.func6 rfl nm_6 rfl (fun w hw => c_laws_toAct w a_aA)) rfl ?_
  intro _
  refine wl_call (co_call0 Try.func5 rfl nm_5 rfl (fun w hw => c_spec_ActOk w (laws_toAct a_aA))) rfl ?_
  intro _
  refine wl_pure (po_assign rfl) rfl ?_
  refine wl_nil ?_
  refine wq_then ?_
  refine wc_seq ?_
  refine wc_region ?_
  refine wl_pure (po_load_boxs tk_23 pick0 rfl rfl rfl) rfl ?_
  refine wl_call (co_call0 Try.func6 rfl nm_6 rfl (fun w hw => c_laws_toAct w a_aA)) rfl ?_
  intro _
  refine wl_call (co_call0 Try.func7 rfl nm_7 rfl (fun w hw => c_impl_ActOk w (laws_toAct a_aA))) rfl ?_
  intro _
  refine wl_pure (po_assign rfl) rfl ?_
  refine wl_nil ?_
  refine wq_then ?_
  refine wc_seq ?_
  refine wc_seq ?_
  refine wc_region ?_
  refine wl_pure (po_move rfl) rfl ?_
  refine wl_pure (po_move rfl) rfl ?_
  refine wl_pure (po_neq_bool ub_4 rfl rfl) rfl ?_
  refine wl_nil ?_
  refine wq_then ?_
  refine wc_cond rfl (fun h1 => ?_) (fun h1 => ?_)
  · skip
    refine wc_seq ?_
    refine wc_region ?_
    refine wl_pure (po_assign rfl) rfl ?_
    refine wl_nil ?_
    refine wq_then ?_
    refine wc_ret ?_
    refine wq_then_ret ?_
    have hF1 : laws_FnExactActOk a_aA = false := by simp only [laws_FnExactActOk, h1, cond_true, cond_false]
    exact wq_ret1 rfl rfl (fun w hw => by rw [hF1]; exact ⟨rfl, hw.weak some_nil⟩)
  · skip
    refine wc_skip ?_
    refine wq_then ?_
    refine wc_seq ?_
    refine wc_region ?_
    refine wl_pure (po_assign rfl) rfl ?_
    refine wl_nil ?_
    refine wq_then ?_
    refine wc_ret ?_
    have hF2 : laws_FnExactActOk a_aA = true := by simp only [laws_FnExactActOk, h1, cond_true, cond_false]
    exact wq_ret1 rfl rfl (fun w hw => by rw [hF2]; exact ⟨rfl, hw.weak some_nil⟩)

end Go.Proofs.Ytfchknndocooaaa
