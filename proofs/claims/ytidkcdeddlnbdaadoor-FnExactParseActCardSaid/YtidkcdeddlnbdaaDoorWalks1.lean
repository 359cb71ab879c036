/-
  Each Go function computes its Lean function (part 1).
-/
import Derived.Test.YtidkcdeddlnbdaaDoorLibs
namespace Go.Proofs.YtidkcdeddlnbdaaDoor
open Go Go.RowKit Go.Proofs
set_option maxRecDepth 100000

theorem c_spec_SplitFields (w : World) (a_line : Str) {r : (List Str) × Bool} (t0 : spec_SplitFields a_line = some r) : Calls Tryd.prog 7 #[bs a_line] w fun e w' => ∃ x : Hd, e = .returned (.tuple #[(sl x), .bool r.2]) ∧ SH w [] [ownF (sl x) r.1] w' := by
  refine calls_of_wc (args := [_]) Tryd.func7 rfl Tryd.ntmps7 rfl ?_
  unfold spec_SplitFields at t0
  refine wcr ?_
  refine asg rfl rfl ?_
  refine asg rfl rfl ?_
  refine wnt ?_
  refine wcr ?_
  refine wl_eff (eo_buildSlice rfl sb_28_0) rfl fun b1 => ?_
  refine asg rfl rfl ?_
  refine wnt ?_
  refine wc_seq ?_
  refine wcr ?_
  refine mv rfl rfl ?_
  refine wl_pure (po_slen isStr_9 rfl) rfl ?_
  refine wl_pure (po_gtr rfl rfl) rfl ?_
  refine wnt ?_
  refine wcO t0 rfl (fun h1 t0 => ?_) fun h1 t0 => ?_
  · skip
    refine wcr ?_
    refine mv rfl rfl ?_
    refine asg rfl rfl ?_
    refine asg rfl rfl ?_
    refine wnt ?_
    refine wc_ret ?_
    refine wq_then_ret ?_
    obtain rfl := Option.some.inj t0
    exact wq_ret2 rfl rfl rfl fun w hw => ⟨(⟨some ⟨b1, 0, none⟩, 0, 0⟩ : Hd), rfl, hw.weak (some_cons (pick_box_own pick0 (n := 0) (xs := ([] : List Str)) rfl rfl (by unfold maxLen; omega)) some_nil)⟩
  refine wc_skip ?_
  refine wq_then ?_
  refine wcr ?_
  refine asg rfl rfl ?_
  refine wnt ?_
  refine wc_seq ?_
  refine wcr ?_
  refine asg rfl rfl ?_
  refine wnt ?_
  refine gdO t0 fun g1 t0 => ?_
  refine sqO t0 fun y1 l1 t0 => ?_
  refine wj (J := (List Str) × Int) (X := Hd) (fun z => y1 = .inl z) (fun _ x => [(4, (sl x))]) (fun z x => [ownF (sl x) z.1]) ?_ ?_
  · skip
    refine wc_block ?_
    refine wc_forO (X := Hd) l1 (fun k1 s1 x1l => [(0, bs a_line), (4, (sl x1l)), (5, .int .i64 s1.2), (6, .int .i64 ((k1 : Nat) : Int))]) (fun k1 s1 x1l => [ownF (sl x1l) s1.1]) (⟨some ⟨b1, 0, none⟩, 0, 0⟩ : Hd) (sub_cons rfl (sub_cons rfl (sub_cons rfl (sub_cons rfl sub_nil)))) (some_cons (pick_box_own pick0 (n := 0) (xs := ([] : List Str)) rfl rfl (by unfold maxLen; omega)) some_nil) fun k1 s1 x1l hN1 l1 => ?_
    by_cases hk1 : k1 < (a_line.b.length + 1)
    · skip
      refine forO_step l1 hk1 fun _ t1 l1 => ?_
      unfold spec_SplitFields_L1 at t1
      have c1 : (decide (((k1 : Nat) : Int) ≤ ((a_line.b.length : Nat) : Int))) = true := decide_eq_true (by omega)
      refine wc_seq ?_
      refine wcr ?_
      refine mv rfl rfl ?_
      refine mv rfl rfl ?_
      refine wl_pure (po_slen isStr_9 rfl) rfl ?_
      refine wl_pure (po_leq rfl rfl) rfl ?_
      refine wnt ?_
      refine wc_cond_t rfl c1 ?_
      refine wc_skip ?_
      refine wq_then ?_
      refine wc_seq ?_
      refine wc_block ?_
      refine wc_seq ?_
      refine wc_seq ?_
      refine bdO t1 fun y2 t2 t1 => ?_
      refine wj (J := Bool) (X := Unit) (fun z => y2 = z) (fun z _ => [(0, bs a_line), (4, (sl x1l)), (5, .int .i64 s1.2), (6, .int .i64 ((k1 : Nat) : Int)), (33, .bool z)]) (fun _ _ => [ownF (sl x1l) s1.1]) ?_ ?_
      · skip
        refine wc_region ?_
        refine mv rfl rfl ?_
        refine mv rfl rfl ?_
        refine wl_pure (po_slen isStr_9 rfl) rfl ?_
        refine wl_pure (po_lss rfl rfl) rfl ?_
        refine mv rfl rfl ?_
        refine wlO_ (t := 22) t2 rfl (fun h2 t2 => ?_) fun h2 t2 => ?_
        · skip
          refine wl_guard_on (j := 4) rfl rfl rfl (mv rfl rfl ?_)
          refine wl_guard_on (j := 4) rfl rfl rfl (mv rfl rfl ?_)
          refine gdO t2 fun g2 t2 => ?_
          refine wl_guard_on (j := 4) rfl rfl rfl (wl_pure (po_sixn (k := k1) isStr_9 rfl rfl g2) rfl ?_)
          refine wl_guard_on (j := 4) rfl rfl rfl (wl_pure (po_lss rfl rfl) rfl ?_)
          refine wl_guard_on (j := 4) rfl rfl rfl (mv rfl rfl ?_)
          refine wlO_ (t := 27) t2 rfl (fun h3 t2 => ?_) fun h3 t2 => ?_
          · skip
            refine wl_guard_off (j := 9) rfl rfl rfl rfl rfl ?_
            refine wl_guard_off (j := 9) rfl rfl rfl rfl rfl ?_
            refine wl_guard_off (j := 9) rfl rfl rfl rfl rfl ?_
            refine wl_guard_off (j := 9) rfl rfl rfl rfl rfl ?_
            refine wl_guard_on (j := 4) rfl rfl rfl (wl_pure (po_pick_t rfl rfl) rfl ?_)
            refine wl_pure (po_pick_t rfl rfl) rfl ?_
            refine wl_nil ?_
            exact wj_meet _ () (mtE t2) (sub_cons rfl (sub_cons rfl (sub_cons rfl (sub_cons rfl (sub_cons rfl sub_nil))))) (some_cons pick0 some_nil)
          refine wl_guard_on (j := 9) rfl rfl rfl (mv rfl rfl ?_)
          refine wl_guard_on (j := 9) rfl rfl rfl (mv rfl rfl ?_)
          refine wl_guard_on (j := 9) rfl rfl rfl (wl_pure (po_sixn (k := k1) isStr_9 rfl rfl g2) rfl ?_)
          refine wl_guard_on (j := 9) rfl rfl rfl (wl_pure (po_gtr rfl rfl) rfl ?_)
          refine wl_guard_on (j := 4) rfl rfl rfl (wl_pure (po_pick_f rfl rfl) rfl ?_)
          refine wl_pure (po_pick_t rfl rfl) rfl ?_
          refine wl_nil ?_
          exact wj_meet _ () (mtE t2) (sub_cons rfl (sub_cons rfl (sub_cons rfl (sub_cons rfl (sub_cons rfl sub_nil))))) (some_cons pick0 some_nil)
        refine wl_guard_off (j := 4) rfl rfl rfl rfl rfl ?_
        refine wl_guard_off (j := 4) rfl rfl rfl rfl rfl ?_
        refine wl_guard_off (j := 4) rfl rfl rfl rfl rfl ?_
        refine wl_guard_off (j := 4) rfl rfl rfl rfl rfl ?_
        refine wl_guard_off (j := 4) rfl rfl rfl rfl rfl ?_
        refine wl_guard_undef (j := 9) rfl rfl rfl rfl ?_
        refine wl_guard_undef (j := 9) rfl rfl rfl rfl ?_
        refine wl_guard_undef (j := 9) rfl rfl rfl rfl ?_
        refine wl_guard_undef (j := 9) rfl rfl rfl rfl ?_
        refine wl_guard_off (j := 4) rfl rfl rfl rfl rfl ?_
        refine wl_pure (po_pick_f rfl rfl) rfl ?_
        refine wl_nil ?_
        exact wj_meet _ () (mtE t2) (sub_cons rfl (sub_cons rfl (sub_cons rfl (sub_cons rfl (sub_cons rfl sub_nil))))) (some_cons pick0 some_nil)
      intro j1 _ hp
      obtain rfl : j1 = y2 := hp.symm
      refine wq_then ?_
      refine wcO t1 rfl (fun h4 t1 => ?_) fun h4 t1 => ?_
      · skip
        refine wcr ?_
        refine wl_eff (eo_buildSlice rfl sb_28_0) rfl fun b2 => ?_
        refine asg rfl rfl ?_
        refine asg rfl rfl ?_
        refine wnt ?_
        refine wc_ret ?_
        refine wq_then_ret ?_
        refine wq_block_ret ?_
        refine wq_then_ret ?_
        refine wq_then_ret ?_
        refine wq_block_ret ?_
        refine wq_then_ret ?_
        refine wq_then_ret ?_
        replace t0 := lpR t0 l1 t1
        obtain rfl := Option.some.inj t0
        exact wq_ret2 rfl rfl rfl fun w hw => ⟨(⟨some ⟨b2, 0, none⟩, 0, 0⟩ : Hd), rfl, hw.weak (some_cons (pick_box_own pick0 (n := 0) (xs := ([] : List Str)) rfl rfl (by unfold maxLen; omega)) some_nil)⟩
      refine wc_skip ?_
      refine wq_then ?_
      refine wc_seq ?_
      refine wc_seq ?_
      refine bdO t1 fun y2 t2 t1 => ?_
      refine wj (J := Bool) (X := Unit) (fun z => y2 = z) (fun z _ => [(0, bs a_line), (4, (sl x1l)), (5, .int .i64 s1.2), (6, .int .i64 ((k1 : Nat) : Int)), (44, .bool z)]) (fun _ _ => [ownF (sl x1l) s1.1]) ?_ ?_
      · skip
        refine wc_region ?_
        refine mv rfl rfl ?_
        refine mv rfl rfl ?_
        refine wl_pure (po_slen isStr_9 rfl) rfl ?_
        refine wl_pure (po_lss rfl rfl) rfl ?_
        refine mv rfl rfl ?_
        refine wlO_ (t := 39) t2 rfl (fun h5 t2 => ?_) fun h5 t2 => ?_
        · skip
          refine wl_guard_on (j := 4) rfl rfl rfl (mv rfl rfl ?_)
          refine wl_guard_on (j := 4) rfl rfl rfl (mv rfl rfl ?_)
          refine gdO t2 fun g3 t2 => ?_
          refine wl_guard_on (j := 4) rfl rfl rfl (wl_pure (po_sixn (k := k1) isStr_9 rfl rfl g3) rfl ?_)
          refine wl_guard_on (j := 4) rfl rfl rfl (wl_pure (po_neq rfl rfl) rfl ?_)
          refine wl_pure (po_pick_t rfl rfl) rfl ?_
          refine wl_nil ?_
          exact wj_meet _ () (mtE t2) (sub_cons rfl (sub_cons rfl (sub_cons rfl (sub_cons rfl (sub_cons rfl sub_nil))))) (some_cons pick0 some_nil)
        refine wl_guard_off (j := 4) rfl rfl rfl rfl rfl ?_
        refine wl_guard_off (j := 4) rfl rfl rfl rfl rfl ?_
        refine wl_guard_off (j := 4) rfl rfl rfl rfl rfl ?_
        refine wl_guard_off (j := 4) rfl rfl rfl rfl rfl ?_
        refine wl_pure (po_pick_f rfl rfl) rfl ?_
        refine wl_nil ?_
        exact wj_meet _ () (mtE t2) (sub_cons rfl (sub_cons rfl (sub_cons rfl (sub_cons rfl (sub_cons rfl sub_nil))))) (some_cons pick0 some_nil)
      intro j2 _ hp
      obtain rfl : j2 = y2 := hp.symm
      refine wq_then ?_
      refine wcO t1 rfl (fun h6 t1 => ?_) fun h6 t1 => ?_
      · skip
        refine wc_exit ?_
        refine wq_then_exit ?_
        refine wq_block_exit ?_
        refine wq_then ?_
        refine wc_region ?_
        refine mv rfl rfl ?_
        refine wl_pure (po_inc rfl rfl (by omega)) rfl ?_
        refine asg rfl rfl ?_
        refine wl_nil ?_
        exact wq_rnd hk1 (stpN l1 t1) x1l (sub_cons rfl (sub_cons rfl (sub_cons rfl (sub_cons rfl sub_nil)))) (some_cons pick0 some_nil)
      refine wc_skip ?_
      refine wq_then ?_
      refine wc_seq ?_
      refine wcr ?_
      refine mv rfl rfl ?_
      refine mv rfl rfl ?_
      refine wl_pure (po_lss rfl rfl) rfl ?_
      refine wnt ?_
      refine bdO t1 fun y2 t2 t1 => ?_
      refine wj (J := List Str) (X := Hd) (fun z => y2 = z) (fun _ x => [(0, bs a_line), (4, (sl x)), (6, .int .i64 ((k1 : Nat) : Int))]) (fun z x => [ownF (sl x) z]) ?_ ?_
      · skip
        refine wcO t2 rfl (fun h7 t2 => ?_) fun h7 t2 => ?_
        · skip
          refine wc_region ?_
          refine mv rfl rfl ?_
          refine mv rfl rfl ?_
          refine mv rfl rfl ?_
          refine mv rfl rfl ?_
          refine gdO t2 fun g4 t2 => ?_
          refine wl_pure (po_ssub (l := (s1.2).toNat) (h := k1) isStr_9 rfl (.inr ⟨_, rfl, ixn g4.1⟩) (.inr ⟨_, rfl, rfl⟩) g4.2.1 g4.2.2) rfl ?_
          refine wl_eff (eo_buildSlice rfl (sb_28_1 (ssub a_line ((s1.2).toNat) k1))) rfl fun b3 => ?_
          refine gdO t2 fun g5 t2 => ?_
          refine wl_eff (eo_append (xs := s1.1) (ys := ([(ssub a_line ((s1.2).toNat) k1)] : List Str)) ak_28 (pickS pick0) rfl rfl (slin_rd fun _ g => Rg.on (rds_own (pick_box_own pick0 (n := 1) (xs := ([(ssub a_line ((s1.2).toNat) k1)] : List Str)) rfl rfl (by unfold maxLen; omega))) g) g5) rfl fun x5 => ?_
          refine asg rfl rfl ?_
          refine wl_nil ?_
          exact wj_meet _ x5 (mtE t2) (sub_cons rfl (sub_cons rfl (sub_cons rfl sub_nil))) (some_cons pick0 some_nil)
        refine wc_skip ?_
        exact wj_meet _ x1l (mtE t2) (sub_cons rfl (sub_cons rfl (sub_cons rfl sub_nil))) (some_cons pick0 some_nil)
      intro j3 x4 hp
      obtain rfl : j3 = y2 := hp.symm
      refine wq_then ?_
      refine wc_region ?_
      refine mv rfl rfl ?_
      refine wl_pure (po_inc rfl rfl (by omega)) rfl ?_
      refine asg rfl rfl ?_
      refine wl_nil ?_
      refine wq_block ?_
      refine wq_then ?_
      refine wc_region ?_
      refine mv rfl rfl ?_
      refine wl_pure (po_inc rfl rfl (by omega)) rfl ?_
      refine asg rfl rfl ?_
      refine wl_nil ?_
      exact wq_rnd hk1 (stpN l1 t1) x4 (sub_cons rfl (sub_cons rfl (sub_cons rfl (sub_cons rfl sub_nil)))) (some_cons pick0 some_nil)
    have c1 : (decide (((k1 : Nat) : Int) ≤ ((a_line.b.length : Nat) : Int))) = false := decide_eq_false (by omega)
    have en1 := forO_end l1 hk1
    refine wc_seq ?_
    refine wcr ?_
    refine mv rfl rfl ?_
    refine mv rfl rfl ?_
    refine wl_pure (po_slen isStr_9 rfl) rfl ?_
    refine wl_pure (po_leq rfl rfl) rfl ?_
    refine wnt ?_
    refine wc_cond_f rfl c1 ?_
    refine wc_exit ?_
    refine wq_then_exit ?_
    refine wq_then_exit ?_
    refine wq_block_exit ?_
    exact wj_meet _ x1l en1 (sub_cons rfl sub_nil) (some_cons pick0 some_nil)
  intro e1 x1 hp
  replace t0 := sqE (j := e1) t0 hp
  refine wq_then ?_
  refine wc_seq ?_
  refine wcr ?_
  refine mv rfl rfl ?_
  refine wl_pure (po_lenr (rds_own pick0) el_28 rfl) rfl ?_
  refine wl_pure (po_gtr rfl rfl) rfl ?_
  refine wnt ?_
  refine wcO t0 rfl (fun h8 t0 => ?_) fun h8 t0 => ?_
  · skip
    refine wcr ?_
    refine wl_eff (eo_buildSlice rfl sb_28_0) rfl fun b4 => ?_
    refine asg rfl rfl ?_
    refine asg rfl rfl ?_
    refine wnt ?_
    refine wc_ret ?_
    refine wq_then_ret ?_
    obtain rfl := Option.some.inj t0
    exact wq_ret2 rfl rfl rfl fun w hw => ⟨(⟨some ⟨b4, 0, none⟩, 0, 0⟩ : Hd), rfl, hw.weak (some_cons (pick_box_own pick0 (n := 0) (xs := ([] : List Str)) rfl rfl (by unfold maxLen; omega)) some_nil)⟩
  refine wc_skip ?_
  refine wq_then ?_
  refine wcr ?_
  refine mv rfl rfl ?_
  refine asg rfl rfl ?_
  refine asg rfl rfl ?_
  refine wnt ?_
  refine wc_ret ?_
  obtain rfl := Option.some.inj t0
  exact wq_ret2 rfl rfl rfl fun w hw => ⟨x1, rfl, hw.weak (some_cons pick0 some_nil)⟩

theorem c_spec_l01In (w : World) (a_x : Int) (a_least : Int) (a_most : Int) {r : Bool} (t0 : spec_l01In a_x a_least a_most = some r) : Calls Tryd.prog 8 #[.int .i64 a_x, .int .i64 a_least, .int .i64 a_most] w fun e w' => e = .returned (.bool r) ∧ SH w [] [] w' := by
  refine calls_of_wc (args := [_, _, _]) Tryd.func8 rfl Tryd.ntmps8 rfl ?_
  unfold spec_l01In at t0
  refine wcr ?_
  refine asg rfl rfl ?_
  refine wnt ?_
  refine wc_seq ?_
  refine wc_join (X := Unit) (fun _ => True) (fun _ => [(6, .bool ((decide (a_x ≥ a_least)) && (decide (a_x ≤ a_most))))]) (fun _ => []) ?_ ?_
  · skip
    refine wc_region ?_
    refine mv rfl rfl ?_
    refine mv rfl rfl ?_
    refine wl_pure (po_geq rfl rfl) rfl ?_
    refine mv rfl rfl ?_
    refine wl_fork (t := 10) rfl (fun h1 => ?_) fun h1 => ?_
    · skip
      refine wl_guard_on (j := 3) rfl rfl rfl (mv rfl rfl ?_)
      refine wl_guard_on (j := 3) rfl rfl rfl (mv rfl rfl ?_)
      refine wl_guard_on (j := 3) rfl rfl rfl (wl_pure (po_leq rfl rfl) rfl ?_)
      refine wl_pure (po_pick_t rfl rfl) rfl ?_
      refine asg rfl rfl ?_
      refine wl_nil ?_
      exact wq_meet () trivial (sub_b rfl (by rw [h1]; rfl) sub_nil) some_nil
    refine wl_guard_off (j := 3) rfl rfl rfl rfl rfl ?_
    refine wl_guard_off (j := 3) rfl rfl rfl rfl rfl ?_
    refine wl_guard_off (j := 3) rfl rfl rfl rfl rfl ?_
    refine wl_pure (po_pick_f rfl rfl) rfl ?_
    refine asg rfl rfl ?_
    refine wl_nil ?_
    exact wq_meet () trivial (sub_b rfl (by rw [h1]; rfl) sub_nil) some_nil
  intro _ _
  refine wq_then ?_
  refine wc_ret ?_
  obtain rfl := Option.some.inj t0
  exact wq_ret1 rfl rfl fun w hw => ⟨rfl, hw.weak some_nil⟩

theorem c_spec_l01Figure (w : World) (a_x : Int) {r : UInt8} (t0 : spec_l01Figure a_x = some r) : Calls Tryd.prog 26 #[.int .i64 a_x] w fun e w' => e = .returned (.int .u8 (r.toNat : Int)) ∧ SH w [] [] w' := by
  refine calls_of_wc (args := [_]) Tryd.func26 rfl Tryd.ntmps26 rfl ?_
  unfold spec_l01Figure at t0
  refine wcr ?_
  refine asg rfl rfl ?_
  refine wnt ?_
  refine wc_seq ?_
  refine wcr ?_
  refine mv rfl rfl ?_
  refine wl_pure (po_lss rfl rfl) rfl ?_
  refine wnt ?_
  refine wcO t0 rfl (fun h1 t0 => ?_) fun h1 t0 => ?_
  · skip
    refine wcr ?_
    refine mv rfl rfl ?_
    refine wl_pure (po_add rfl rfl) rfl ?_
    refine wl_pure (po_intu8 isInt_3 isU8_5 rfl) rfl ?_
    refine asg rfl rfl ?_
    refine wnt ?_
    refine wc_ret ?_
    refine wq_then_ret ?_
    obtain rfl := Option.some.inj t0
    exact wq_ret1 rfl rfl fun w hw => ⟨rfl, hw.weak some_nil⟩
  refine wc_skip ?_
  refine wq_then ?_
  refine wcr ?_
  refine mv rfl rfl ?_
  refine wl_pure (po_add rfl rfl) rfl ?_
  refine wl_pure (po_sub rfl rfl) rfl ?_
  refine wl_pure (po_intu8 isInt_3 isU8_5 rfl) rfl ?_
  refine asg rfl rfl ?_
  refine wnt ?_
  refine wc_ret ?_
  obtain rfl := Option.some.inj t0
  exact wq_ret1 rfl rfl fun w hw => ⟨rfl, hw.weak some_nil⟩

theorem c_spec_FormatInt (w : World) (a_n : Int) {r : Str} (t0 : spec_FormatInt a_n = some r) : Calls Tryd.prog 18 #[.int .i64 a_n] w fun e w' => e = .returned (bs r) ∧ SH w [] [] w' := by
  refine calls_of_wc (args := [_]) Tryd.func18 rfl Tryd.ntmps18 rfl ?_
  unfold spec_FormatInt at t0
  refine wcr ?_
  refine asg rfl rfl ?_
  refine wnt ?_
  refine wc_seq ?_
  refine wcr ?_
  refine mv rfl rfl ?_
  refine wl_pure (po_eql rfl rfl) rfl ?_
  refine wnt ?_
  refine wcO t0 rfl (fun h1 t0 => ?_) fun h1 t0 => ?_
  · skip
    refine wcr ?_
    refine asg rfl rfl ?_
    refine wnt ?_
    refine wc_ret ?_
    refine wq_then_ret ?_
    obtain rfl := Option.some.inj t0
    exact wq_ret1 rfl rfl fun w hw => ⟨rfl, hw.weak some_nil⟩
  refine wc_skip ?_
  refine wq_then ?_
  refine wcr ?_
  refine mv rfl rfl ?_
  refine wl_pure (po_lss rfl rfl) rfl ?_
  refine asg rfl rfl ?_
  refine wnt ?_
  refine wcr ?_
  refine asg rfl rfl ?_
  refine wnt ?_
  refine wc_seq ?_
  refine wlO_inv t0 fun y1 l1 t0 => ?_
  refine wj (J := Int × Str) (X := Unit) (fun z => y1 = z) (fun z _ => [(3, .bool (decide (a_n < 0))), (4, bs z.2)]) (fun _ _ => []) ?_ ?_
  · skip
    refine wc_block ?_
    refine wc_whO (X := Unit) l1 (fun s1 x1l => [(0, .int .i64 s1.1), (3, .bool (decide (a_n < 0))), (4, bs s1.2)]) (fun s1 x1l => []) () (sub_cons rfl (sub_cons rfl (sub_cons rfl sub_nil))) some_nil fun m1 s1 x1l l1 => ?_
    refine whO_step l1 fun _ t1 l1 => ?_
    unfold spec_FormatInt_L1 at t1
    refine wc_seq ?_
    refine wcr ?_
    refine mv rfl rfl ?_
    refine wl_pure (po_neq rfl rfl) rfl ?_
    refine wnt ?_
    refine wcO t1 rfl (fun h2 t1 => ?_) fun h2 t1 => ?_
    · skip
      refine wc_skip ?_
      refine wq_then ?_
      refine wc_block ?_
      refine wcr ?_
      refine mv rfl rfl ?_
      refine wl_pure (po_rem rfl rfl (by decide)) rfl ?_
      refine asg rfl rfl ?_
      refine wnt ?_
      refine wc_seq ?_
      refine wcr ?_
      refine mv rfl rfl ?_
      refine wl_pure (po_lss rfl rfl) rfl ?_
      refine wnt ?_
      refine wc_join (X := Unit) (fun _ => True) (fun _ => [(0, .int .i64 s1.1), (3, .bool (decide (a_n < 0))), (4, bs s1.2), (5, .int .i64 (bif (decide ((s1.1.tmod 10) < 0)) then (wr (0 - (s1.1.tmod 10))) else (s1.1.tmod 10)))]) (fun _ => []) ?_ ?_
      · skip
        refine wc_cond rfl (fun h3 => ?_) fun h3 => ?_
        · skip
          refine wc_region ?_
          refine mv rfl rfl ?_
          refine wl_pure (po_neg rfl) rfl ?_
          refine asg rfl rfl ?_
          refine wl_nil ?_
          exact wq_meet () trivial (sub_cons rfl (sub_cons rfl (sub_cons rfl (sub_i rfl (by simp only [h3, cond_true]) sub_nil)))) some_nil
        refine wc_skip ?_
        exact wq_meet () trivial (sub_cons rfl (sub_cons rfl (sub_cons rfl (sub_i rfl (by simp only [h3, cond_false]) sub_nil)))) some_nil
      intro _ _
      refine wq_then ?_
      refine wcr ?_
      refine mv rfl rfl ?_
      refine bdO t1 fun v1 hv1 t1 => ?_
      refine wl_call (co_c0 fa_26 rfl fun w hw => c_spec_l01Figure w (bif (decide ((s1.1.tmod 10) < 0)) then (wr (0 - (s1.1.tmod 10))) else (s1.1.tmod 10)) hv1) rfl fun _ => ?_
      refine wl_eff (eo_buildSlice rfl (sb_47_1 v1)) rfl fun b1 => ?_
      refine wl_pure (po_b2s (rds_own (pick_box_own pick0 (n := 1) (xs := ([v1] : List UInt8)) rfl rfl (by unfold maxLen; omega))) isBytes_47 isStr_9 rfl) rfl ?_
      refine mv rfl rfl ?_
      refine gdO t1 fun g1 t1 => ?_
      refine wl_pure (po_sadd rfl rfl g1) rfl ?_
      refine asg rfl rfl ?_
      refine wnt ?_
      refine wc_region ?_
      refine mv rfl rfl ?_
      refine wl_pure (po_quo rfl rfl (by decide)) rfl ?_
      refine asg rfl rfl ?_
      refine wl_nil ?_
      refine wq_block ?_
      exact wq_rndw (stwN l1 t1) () (sub_cons rfl (sub_cons rfl (sub_cons rfl sub_nil))) some_nil
    refine wc_exit ?_
    refine wq_then_exit ?_
    refine wq_then_exit ?_
    refine wq_block_exit ?_
    exact wj_meet _ () (Sum.inl.inj (stwB l1 t1)) (sub_cons rfl (sub_cons rfl sub_nil)) some_nil
  intro e1 _ hp
  obtain rfl : e1 = y1 := hp.symm
  refine wq_then ?_
  refine wc_seq ?_
  refine wcr ?_
  refine mv rfl rfl ?_
  refine wnt ?_
  refine wcO t0 rfl (fun h4 t0 => ?_) fun h4 t0 => ?_
  · skip
    refine wcr ?_
    refine mv rfl rfl ?_
    refine gdO t0 fun g2 t0 => ?_
    refine wl_pure (po_sadd rfl rfl g2) rfl ?_
    refine asg rfl rfl ?_
    refine wnt ?_
    refine wc_ret ?_
    refine wq_then_ret ?_
    obtain rfl := Option.some.inj t0
    exact wq_ret1 rfl rfl fun w hw => ⟨rfl, hw.weak some_nil⟩
  refine wc_skip ?_
  refine wq_then ?_
  refine wcr ?_
  refine mv rfl rfl ?_
  refine asg rfl rfl ?_
  refine wnt ?_
  refine wc_ret ?_
  obtain rfl := Option.some.inj t0
  exact wq_ret1 rfl rfl fun w hw => ⟨rfl, hw.weak some_nil⟩

theorem c_spec_ParseUint (w : World) (a_text : Str) {r : Int × Bool} (t0 : spec_ParseUint a_text = some r) : Calls Tryd.prog 16 #[bs a_text] w fun e w' => e = .returned (.tuple #[.int .i64 r.1, .bool r.2]) ∧ SH w [] [] w' := by
  refine calls_of_wc (args := [_]) Tryd.func16 rfl Tryd.ntmps16 rfl ?_
  unfold spec_ParseUint at t0
  refine wcr ?_
  refine asg rfl rfl ?_
  refine asg rfl rfl ?_
  refine wnt ?_
  refine wc_seq ?_
  refine wcr ?_
  refine mv rfl rfl ?_
  refine wl_pure (po_slen isStr_9 rfl) rfl ?_
  refine wl_pure (po_gtr rfl rfl) rfl ?_
  refine wnt ?_
  refine wcO t0 rfl (fun h1 t0 => ?_) fun h1 t0 => ?_
  · skip
    refine wcr ?_
    refine asg rfl rfl ?_
    refine asg rfl rfl ?_
    refine wnt ?_
    refine wc_ret ?_
    refine wq_then_ret ?_
    obtain rfl := Option.some.inj t0
    exact wq_ret2 rfl rfl rfl fun w hw => ⟨rfl, hw.weak some_nil⟩
  refine wc_skip ?_
  refine wq_then ?_
  refine wcr ?_
  refine asg rfl rfl ?_
  refine wnt ?_
  refine wc_seq ?_
  refine wcr ?_
  refine asg rfl rfl ?_
  refine wnt ?_
  refine gdO t0 fun g1 t0 => ?_
  refine sqO t0 fun y1 l1 t0 => ?_
  refine wj (J := Int) (X := Unit) (fun z => y1 = .inl z) (fun z _ => [(0, bs a_text), (4, .int .i64 z)]) (fun _ _ => []) ?_ ?_
  · skip
    refine wc_block ?_
    refine wc_forO (X := Unit) l1 (fun k1 s1 x1l => [(0, bs a_text), (4, .int .i64 s1), (5, .int .i64 ((k1 : Nat) : Int))]) (fun k1 s1 x1l => []) () (sub_cons rfl (sub_cons rfl (sub_cons rfl sub_nil))) some_nil fun k1 s1 x1l hN1 l1 => ?_
    by_cases hk1 : k1 < a_text.b.length
    · skip
      refine forO_step l1 hk1 fun _ t1 l1 => ?_
      unfold spec_ParseUint_L1 at t1
      have c1 : (decide (((k1 : Nat) : Int) < ((a_text.b.length : Nat) : Int))) = true := decide_eq_true (by omega)
      refine wc_seq ?_
      refine wcr ?_
      refine mv rfl rfl ?_
      refine mv rfl rfl ?_
      refine wl_pure (po_slen isStr_9 rfl) rfl ?_
      refine wl_pure (po_lss rfl rfl) rfl ?_
      refine wnt ?_
      refine wc_cond_t rfl c1 ?_
      refine wc_skip ?_
      refine wq_then ?_
      refine wc_seq ?_
      refine wc_block ?_
      refine wc_seq ?_
      refine wc_seq ?_
      refine wc_join (X := Unit) (fun _ => True) (fun _ => [(0, bs a_text), (4, .int .i64 s1), (5, .int .i64 ((k1 : Nat) : Int)), (24, .bool ((decide ((((sat_ a_text k1)).toNat : Int) < 48)) || (decide ((((sat_ a_text k1)).toNat : Int) > 57))))]) (fun _ => []) ?_ ?_
      · skip
        refine wc_region ?_
        refine mv rfl rfl ?_
        refine mv rfl rfl ?_
        refine wl_pure (po_sixn (k := k1) isStr_9 rfl rfl hk1) rfl ?_
        refine wl_pure (po_lss rfl rfl) rfl ?_
        refine mv rfl rfl ?_
        refine wl_fork (t := 19) rfl (fun h2 => ?_) fun h2 => ?_
        · skip
          refine wl_guard_off (j := 4) rfl rfl rfl rfl rfl ?_
          refine wl_guard_off (j := 4) rfl rfl rfl rfl rfl ?_
          refine wl_guard_off (j := 4) rfl rfl rfl rfl rfl ?_
          refine wl_guard_off (j := 4) rfl rfl rfl rfl rfl ?_
          refine wl_pure (po_pick_t rfl rfl) rfl ?_
          refine wl_nil ?_
          exact wq_meet () trivial (sub_cons rfl (sub_cons rfl (sub_cons rfl (sub_b rfl (by rw [h2]; rfl) sub_nil)))) some_nil
        refine wl_guard_on (j := 4) rfl rfl rfl (mv rfl rfl ?_)
        refine wl_guard_on (j := 4) rfl rfl rfl (mv rfl rfl ?_)
        refine wl_guard_on (j := 4) rfl rfl rfl (wl_pure (po_sixn (k := k1) isStr_9 rfl rfl hk1) rfl ?_)
        refine wl_guard_on (j := 4) rfl rfl rfl (wl_pure (po_gtr rfl rfl) rfl ?_)
        refine wl_pure (po_pick_f rfl rfl) rfl ?_
        refine wl_nil ?_
        exact wq_meet () trivial (sub_cons rfl (sub_cons rfl (sub_cons rfl (sub_b rfl (by rw [h2]; rfl) sub_nil)))) some_nil
      intro _ _
      refine wq_then ?_
      refine wcO t1 rfl (fun h3 t1 => ?_) fun h3 t1 => ?_
      · skip
        refine wcr ?_
        refine asg rfl rfl ?_
        refine asg rfl rfl ?_
        refine wnt ?_
        refine wc_ret ?_
        refine wq_then_ret ?_
        refine wq_block_ret ?_
        refine wq_then_ret ?_
        refine wq_then_ret ?_
        refine wq_block_ret ?_
        refine wq_then_ret ?_
        refine wq_then_ret ?_
        replace t0 := lpR t0 l1 t1
        obtain rfl := Option.some.inj t0
        exact wq_ret2 rfl rfl rfl fun w hw => ⟨rfl, hw.weak some_nil⟩
      refine wc_skip ?_
      refine wq_then ?_
      refine wc_region ?_
      refine mv rfl rfl ?_
      refine wl_pure (po_mul rfl rfl) rfl ?_
      refine mv rfl rfl ?_
      refine mv rfl rfl ?_
      refine wl_pure (po_sixn (k := k1) isStr_9 rfl rfl hk1) rfl ?_
      refine wl_pure (po_u8int isU8_5 isInt_3 rfl) rfl ?_
      refine wl_pure (po_add rfl rfl) rfl ?_
      refine wl_pure (po_sub rfl rfl) rfl ?_
      refine asg rfl rfl ?_
      refine wl_nil ?_
      refine wq_block ?_
      refine wq_then ?_
      refine wc_region ?_
      refine mv rfl rfl ?_
      refine wl_pure (po_inc rfl rfl (by omega)) rfl ?_
      refine asg rfl rfl ?_
      refine wl_nil ?_
      exact wq_rnd hk1 (stpN l1 t1) () (sub_cons rfl (sub_cons rfl (sub_cons rfl sub_nil))) some_nil
    have c1 : (decide (((k1 : Nat) : Int) < ((a_text.b.length : Nat) : Int))) = false := decide_eq_false (by omega)
    have en1 := forO_end l1 hk1
    refine wc_seq ?_
    refine wcr ?_
    refine mv rfl rfl ?_
    refine mv rfl rfl ?_
    refine wl_pure (po_slen isStr_9 rfl) rfl ?_
    refine wl_pure (po_lss rfl rfl) rfl ?_
    refine wnt ?_
    refine wc_cond_f rfl c1 ?_
    refine wc_exit ?_
    refine wq_then_exit ?_
    refine wq_then_exit ?_
    refine wq_block_exit ?_
    exact wj_meet _ () en1 (sub_cons rfl (sub_cons rfl sub_nil)) some_nil
  intro e1 _ hp
  replace t0 := sqE (j := e1) t0 hp
  refine wq_then ?_
  refine wc_seq ?_
  refine wc_seq ?_
  refine bdO t0 fun y1 t1 t0 => ?_
  refine wj (J := Bool) (X := Unit) (fun z => y1 = z) (fun z _ => [(4, .int .i64 e1), (40, .bool z)]) (fun _ _ => []) ?_ ?_
  · skip
    refine wc_region ?_
    refine mv rfl rfl ?_
    refine wl_pure (po_gtr rfl rfl) rfl ?_
    refine mv rfl rfl ?_
    refine wlO_ (t := 35) t1 rfl (fun h4 t1 => ?_) fun h4 t1 => ?_
    · skip
      refine wl_guard_off (j := 2) rfl rfl rfl rfl rfl ?_
      refine wl_guard_off (j := 2) rfl rfl rfl rfl rfl ?_
      refine wl_guard_off (j := 2) rfl rfl rfl rfl rfl ?_
      refine wl_guard_off (j := 2) rfl rfl rfl rfl rfl ?_
      refine wl_pure (po_pick_t rfl rfl) rfl ?_
      refine wl_nil ?_
      exact wj_meet _ () (mtE t1) (sub_cons rfl (sub_cons rfl sub_nil)) some_nil
    refine wl_guard_on (j := 2) rfl rfl rfl (mv rfl rfl ?_)
    refine bdO t1 fun v1 hv1 t1 => ?_
    refine wl_guard_on (j := 2) rfl rfl rfl (wl_call (co_c0 fa_18 rfl fun w hw => c_spec_FormatInt w e1 hv1) rfl (fun _ => ?_))
    refine wl_guard_on (j := 2) rfl rfl rfl (mv rfl rfl ?_)
    refine wl_guard_on (j := 2) rfl rfl rfl (wl_pure (po_sneq rfl rfl) rfl ?_)
    refine wl_pure (po_pick_f rfl rfl) rfl ?_
    refine wl_nil ?_
    exact wj_meet _ () (mtE t1) (sub_cons rfl (sub_cons rfl sub_nil)) some_nil
  intro j2 _ hp
  obtain rfl : j2 = y1 := hp.symm
  refine wq_then ?_
  refine wcO t0 rfl (fun h5 t0 => ?_) fun h5 t0 => ?_
  · skip
    refine wcr ?_
    refine asg rfl rfl ?_
    refine asg rfl rfl ?_
    refine wnt ?_
    refine wc_ret ?_
    refine wq_then_ret ?_
    obtain rfl := Option.some.inj t0
    exact wq_ret2 rfl rfl rfl fun w hw => ⟨rfl, hw.weak some_nil⟩
  refine wc_skip ?_
  refine wq_then ?_
  refine wcr ?_
  refine mv rfl rfl ?_
  refine asg rfl rfl ?_
  refine asg rfl rfl ?_
  refine wnt ?_
  refine wc_ret ?_
  obtain rfl := Option.some.inj t0
  exact wq_ret2 rfl rfl rfl fun w hw => ⟨rfl, hw.weak some_nil⟩

theorem c_spec_l40Number (w : World) (a_s : Str) {r : Int} (t0 : spec_l40Number a_s = some r) : Calls Tryd.prog 9 #[bs a_s] w fun e w' => e = .returned (.int .i64 r) ∧ SH w [] [] w' := by
  refine calls_of_wc (args := [_]) Tryd.func9 rfl Tryd.ntmps9 rfl ?_
  unfold spec_l40Number at t0
  refine wcr ?_
  refine asg rfl rfl ?_
  refine wnt ?_
  refine wc_seq ?_
  refine wc_seq ?_
  refine bdO t0 fun y1 t1 t0 => ?_
  refine wj (J := Bool) (X := Unit) (fun z => y1 = z) (fun z _ => [(0, bs a_s), (14, .bool z)]) (fun _ _ => []) ?_ ?_
  · skip
    refine wc_region ?_
    refine mv rfl rfl ?_
    refine wl_pure (po_slen isStr_9 rfl) rfl ?_
    refine wl_pure (po_gtr rfl rfl) rfl ?_
    refine mv rfl rfl ?_
    refine wlO_ (t := 10) t1 rfl (fun h1 t1 => ?_) fun h1 t1 => ?_
    · skip
      refine wl_guard_on (j := 3) rfl rfl rfl (mv rfl rfl ?_)
      refine gdO t1 fun g1 t1 => ?_
      refine wl_guard_on (j := 3) rfl rfl rfl (wl_pure (po_sixn (k := 0) isStr_9 rfl rfl g1) rfl ?_)
      refine wl_guard_on (j := 3) rfl rfl rfl (wl_pure (po_eql rfl rfl) rfl ?_)
      refine wl_pure (po_pick_t rfl rfl) rfl ?_
      refine wl_nil ?_
      exact wj_meet _ () (mtE t1) (sub_cons rfl (sub_cons rfl sub_nil)) some_nil
    refine wl_guard_off (j := 3) rfl rfl rfl rfl rfl ?_
    refine wl_guard_off (j := 3) rfl rfl rfl rfl rfl ?_
    refine wl_guard_off (j := 3) rfl rfl rfl rfl rfl ?_
    refine wl_pure (po_pick_f rfl rfl) rfl ?_
    refine wl_nil ?_
    exact wj_meet _ () (mtE t1) (sub_cons rfl (sub_cons rfl sub_nil)) some_nil
  intro j1 _ hp
  obtain rfl : j1 = y1 := hp.symm
  refine wq_then ?_
  refine wcO t0 rfl (fun h2 t0 => ?_) fun h2 t0 => ?_
  · skip
    refine wcr ?_
    refine mv rfl rfl ?_
    refine gdO t0 fun g2 t0 => ?_
    refine wl_pure (po_ssub (l := 1) (h := a_s.b.length) isStr_9 rfl (.inr ⟨_, rfl, rfl⟩) (.inl ⟨rfl, rfl⟩) g2.1 g2.2) rfl ?_
    refine bdO t0 fun v1 hv1 t0 => ?_
    refine wl_call (co_c0 fa_16 rfl fun w hw => c_spec_ParseUint w (ssub a_s 1 a_s.b.length) hv1) rfl fun _ => ?_
    refine mv rfl rfl ?_
    refine wl_pure (po_extract rfl rfl) rfl ?_
    refine wl_pure (po_extract rfl rfl) rfl ?_
    refine asg rfl rfl ?_
    refine asg rfl rfl ?_
    refine wnt ?_
    refine wcr ?_
    refine mv rfl rfl ?_
    refine wl_pure (po_neg rfl) rfl ?_
    refine asg rfl rfl ?_
    refine wnt ?_
    refine wc_ret ?_
    refine wq_then_ret ?_
    obtain rfl := Option.some.inj t0
    exact wq_ret1 rfl rfl fun w hw => ⟨rfl, hw.weak some_nil⟩
  refine wc_skip ?_
  refine wq_then ?_
  refine wcr ?_
  refine mv rfl rfl ?_
  refine bdO t0 fun v2 hv2 t0 => ?_
  refine wl_call (co_c0 fa_16 rfl fun w hw => c_spec_ParseUint w a_s hv2) rfl fun _ => ?_
  refine mv rfl rfl ?_
  refine wl_pure (po_extract rfl rfl) rfl ?_
  refine wl_pure (po_extract rfl rfl) rfl ?_
  refine asg rfl rfl ?_
  refine asg rfl rfl ?_
  refine wnt ?_
  refine wcr ?_
  refine mv rfl rfl ?_
  refine asg rfl rfl ?_
  refine wnt ?_
  refine wc_ret ?_
  obtain rfl := Option.some.inj t0
  exact wq_ret1 rfl rfl fun w hw => ⟨rfl, hw.weak some_nil⟩

theorem c_spec_ActOk (w : World) (a_a : GAct) {r : Bool} (t0 : spec_ActOk a_a = some r) : Calls Tryd.prog 17 #[.agg #[.int .i64 a_a.Kind, .int .i64 a_a.A, .int .i64 a_a.B]] w fun e w' => e = .returned (.bool r) ∧ SH w [] [] w' := by
  refine calls_of_wc (args := [_]) Tryd.func17 rfl Tryd.ntmps17 rfl ?_
  unfold spec_ActOk at t0
  refine wcr ?_
  refine wl_eff (eo_box rfl rfl) rfl fun b1 => ?_
  refine asg rfl rfl ?_
  refine wnt ?_
  refine wc_seq ?_
  refine wcr ?_
  refine wl_pure (po_fld fo_23_0 rfl) rfl ?_
  refine wl_pure (v := .int .i64 a_a.Kind) (po_load_box tk_3 pick0 rfl rfl) rfl ?_
  refine wnt ?_
  refine wc_block ?_
  refine wcr ?_
  refine wl_pure (po_eql rfl rfl) rfl ?_
  refine asg rfl rfl ?_
  refine wnt ?_
  refine wcO t0 rfl (fun h1 t0 => ?_) fun h1 t0 => ?_
  · skip
    refine wc_seq ?_
    refine bdO t0 fun y1 t1 t0 => ?_
    refine wj (J := Bool) (X := Unit) (fun z => y1 = z) (fun z _ => [(2, .bool z)]) (fun _ _ => []) ?_ ?_
    · skip
      refine wc_region ?_
      refine wl_pure (po_fld fo_23_1 rfl) rfl ?_
      refine wl_pure (v := .int .i64 a_a.A) (po_load_box tk_3 pick0 rfl rfl) rfl ?_
      refine bdO t1 fun v1 hv1 t1 => ?_
      refine wl_call (co_c0 fa_8 rfl fun w hw => c_spec_l01In w a_a.A 1 999 hv1) rfl fun _ => ?_
      refine mv rfl rfl ?_
      refine wlO_ (t := 10) t1 rfl (fun h2 t1 => ?_) fun h2 t1 => ?_
      · skip
        refine wl_guard_on (j := 3) rfl rfl rfl (wl_pure (po_fld fo_23_2 rfl) rfl ?_)
        refine wl_guard_on (j := 3) rfl rfl rfl (wl_pure (v := .int .i64 a_a.B) (po_load_box tk_3 pick0 rfl rfl) rfl ?_)
        refine wl_guard_on (j := 3) rfl rfl rfl (wl_pure (po_eql rfl rfl) rfl ?_)
        refine wl_pure (po_pick_t rfl rfl) rfl ?_
        refine asg rfl rfl ?_
        refine wl_nil ?_
        exact wj_meet _ () (mtE t1) (sub_cons rfl sub_nil) some_nil
      refine wl_guard_off (j := 3) rfl rfl rfl rfl rfl ?_
      refine wl_guard_off (j := 3) rfl rfl rfl rfl rfl ?_
      refine wl_guard_off (j := 3) rfl rfl rfl rfl rfl ?_
      refine wl_pure (po_pick_f rfl rfl) rfl ?_
      refine asg rfl rfl ?_
      refine wl_nil ?_
      exact wj_meet _ () (mtE t1) (sub_cons rfl sub_nil) some_nil
    intro j1 _ hp
    obtain rfl : j1 = y1 := hp.symm
    refine wq_then ?_
    refine wc_ret ?_
    refine wq_block_ret ?_
    refine wq_then_ret ?_
    obtain rfl := Option.some.inj t0
    exact wq_ret1 rfl rfl fun w hw => ⟨rfl, hw.weak some_nil⟩
  refine wcr ?_
  refine wl_pure (po_eql rfl rfl) rfl ?_
  refine asg rfl rfl ?_
  refine wnt ?_
  refine wcO t0 rfl (fun h3 t0 => ?_) fun h3 t0 => ?_
  · skip
    refine wc_seq ?_
    refine bdO t0 fun y1 t1 t0 => ?_
    refine wj (J := Bool) (X := Unit) (fun z => y1 = z) (fun z _ => [(2, .bool z)]) (fun _ _ => []) ?_ ?_
    · skip
      refine wc_region ?_
      refine wl_pure (po_fld fo_23_1 rfl) rfl ?_
      refine wl_pure (v := .int .i64 a_a.A) (po_load_box tk_3 pick0 rfl rfl) rfl ?_
      refine bdO t1 fun v2 hv2 t1 => ?_
      refine wl_call (co_c0 fa_8 rfl fun w hw => c_spec_l01In w a_a.A 1 999 hv2) rfl fun _ => ?_
      refine mv rfl rfl ?_
      refine wlO_ (t := 20) t1 rfl (fun h4 t1 => ?_) fun h4 t1 => ?_
      · skip
        refine wl_guard_on (j := 3) rfl rfl rfl (wl_pure (po_fld fo_23_2 rfl) rfl ?_)
        refine wl_guard_on (j := 3) rfl rfl rfl (wl_pure (v := .int .i64 a_a.B) (po_load_box tk_3 pick0 rfl rfl) rfl ?_)
        refine bdO t1 fun v3 hv3 t1 => ?_
        refine wl_guard_on (j := 3) rfl rfl rfl (wl_call (co_c0 fa_8 rfl fun w hw => c_spec_l01In w a_a.B 0 9 hv3) rfl (fun _ => ?_))
        refine wl_pure (po_pick_t rfl rfl) rfl ?_
        refine asg rfl rfl ?_
        refine wl_nil ?_
        exact wj_meet _ () (mtE t1) (sub_cons rfl sub_nil) some_nil
      refine wl_guard_off (j := 3) rfl rfl rfl rfl rfl ?_
      refine wl_guard_off (j := 3) rfl rfl rfl rfl rfl ?_
      refine wl_guard_off (j := 3) rfl rfl rfl rfl rfl ?_
      refine wl_pure (po_pick_f rfl rfl) rfl ?_
      refine asg rfl rfl ?_
      refine wl_nil ?_
      exact wj_meet _ () (mtE t1) (sub_cons rfl sub_nil) some_nil
    intro j2 _ hp
    obtain rfl : j2 = y1 := hp.symm
    refine wq_then ?_
    refine wc_ret ?_
    refine wq_block_ret ?_
    refine wq_then_ret ?_
    obtain rfl := Option.some.inj t0
    exact wq_ret1 rfl rfl fun w hw => ⟨rfl, hw.weak some_nil⟩
  refine wc_seq ?_
  refine wcr ?_
  refine wl_pure (po_eql rfl rfl) rfl ?_
  refine asg rfl rfl ?_
  refine wnt ?_
  refine wc_join (X := Unit) (fun _ => True) (fun _ => [(1, ptr b1 0), (4, .int .i64 a_a.Kind), (25, .bool ((a_a.Kind == 3) || (a_a.Kind == 6)))]) (fun _ => [box b1 [.int .i64 a_a.Kind, .int .i64 a_a.A, .int .i64 a_a.B]]) ?_ ?_
  · skip
    refine wc_cond rfl (fun h5 => ?_) fun h5 => ?_
    · skip
      refine wc_skip ?_
      exact wq_meet () trivial (sub_cons rfl (sub_cons rfl (sub_b rfl (by rw [h5]; rfl) sub_nil))) (some_cons pick0 some_nil)
    refine wc_region ?_
    refine wl_pure (po_eql rfl rfl) rfl ?_
    refine asg rfl rfl ?_
    refine wl_nil ?_
    exact wq_meet () trivial (sub_cons rfl (sub_cons rfl (sub_b rfl (by rw [h5]; rfl) sub_nil))) (some_cons pick0 some_nil)
  intro _ _
  refine wq_then ?_
  refine wcO t0 rfl (fun h6 t0 => ?_) fun h6 t0 => ?_
  · skip
    refine wc_seq ?_
    refine bdO t0 fun y1 t1 t0 => ?_
    refine wj (J := Bool) (X := Unit) (fun z => y1 = z) (fun z _ => [(2, .bool z)]) (fun _ _ => []) ?_ ?_
    · skip
      refine wc_region ?_
      refine wl_pure (po_fld fo_23_1 rfl) rfl ?_
      refine wl_pure (v := .int .i64 a_a.A) (po_load_box tk_3 pick0 rfl rfl) rfl ?_
      refine bdO t1 fun v4 hv4 t1 => ?_
      refine wl_call (co_c0 fa_8 rfl fun w hw => c_spec_l01In w a_a.A 0 9 hv4) rfl fun _ => ?_
      refine mv rfl rfl ?_
      refine wlO_ (t := 31) t1 rfl (fun h7 t1 => ?_) fun h7 t1 => ?_
      · skip
        refine wl_guard_on (j := 3) rfl rfl rfl (wl_pure (po_fld fo_23_2 rfl) rfl ?_)
        refine wl_guard_on (j := 3) rfl rfl rfl (wl_pure (v := .int .i64 a_a.B) (po_load_box tk_3 pick0 rfl rfl) rfl ?_)
        refine wl_guard_on (j := 3) rfl rfl rfl (wl_pure (po_eql rfl rfl) rfl ?_)
        refine wl_pure (po_pick_t rfl rfl) rfl ?_
        refine asg rfl rfl ?_
        refine wl_nil ?_
        exact wj_meet _ () (mtE t1) (sub_cons rfl sub_nil) some_nil
      refine wl_guard_off (j := 3) rfl rfl rfl rfl rfl ?_
      refine wl_guard_off (j := 3) rfl rfl rfl rfl rfl ?_
      refine wl_guard_off (j := 3) rfl rfl rfl rfl rfl ?_
      refine wl_pure (po_pick_f rfl rfl) rfl ?_
      refine asg rfl rfl ?_
      refine wl_nil ?_
      exact wj_meet _ () (mtE t1) (sub_cons rfl sub_nil) some_nil
    intro j4 _ hp
    obtain rfl : j4 = y1 := hp.symm
    refine wq_then ?_
    refine wc_ret ?_
    refine wq_block_ret ?_
    refine wq_then_ret ?_
    obtain rfl := Option.some.inj t0
    exact wq_ret1 rfl rfl fun w hw => ⟨rfl, hw.weak some_nil⟩
  refine wc_seq ?_
  refine wcr ?_
  refine wl_pure (po_eql rfl rfl) rfl ?_
  refine asg rfl rfl ?_
  refine wnt ?_
  refine wc_join (X := Unit) (fun _ => True) (fun _ => [(1, ptr b1 0), (36, .bool ((a_a.Kind == 4) || (a_a.Kind == 5)))]) (fun _ => [box b1 [.int .i64 a_a.Kind, .int .i64 a_a.A, .int .i64 a_a.B]]) ?_ ?_
  · skip
    refine wc_cond rfl (fun h8 => ?_) fun h8 => ?_
    · skip
      refine wc_skip ?_
      exact wq_meet () trivial (sub_cons rfl (sub_b rfl (by rw [h8]; rfl) sub_nil)) (some_cons pick0 some_nil)
    refine wc_region ?_
    refine wl_pure (po_eql rfl rfl) rfl ?_
    refine asg rfl rfl ?_
    refine wl_nil ?_
    exact wq_meet () trivial (sub_cons rfl (sub_b rfl (by rw [h8]; rfl) sub_nil)) (some_cons pick0 some_nil)
  intro _ _
  refine wq_then ?_
  refine wcO t0 rfl (fun h9 t0 => ?_) fun h9 t0 => ?_
  · skip
    refine wc_seq ?_
    refine wc_join (X := Unit) (fun _ => True) (fun _ => [(2, .bool ((a_a.A == 0) && (a_a.B == 0)))]) (fun _ => []) ?_ ?_
    · skip
      refine wc_region ?_
      refine wl_pure (po_fld fo_23_1 rfl) rfl ?_
      refine wl_pure (v := .int .i64 a_a.A) (po_load_box tk_3 pick0 rfl rfl) rfl ?_
      refine wl_pure (po_eql rfl rfl) rfl ?_
      refine mv rfl rfl ?_
      refine wl_fork (t := 42) rfl (fun h10 => ?_) fun h10 => ?_
      · skip
        refine wl_guard_on (j := 3) rfl rfl rfl (wl_pure (po_fld fo_23_2 rfl) rfl ?_)
        refine wl_guard_on (j := 3) rfl rfl rfl (wl_pure (v := .int .i64 a_a.B) (po_load_box tk_3 pick0 rfl rfl) rfl ?_)
        refine wl_guard_on (j := 3) rfl rfl rfl (wl_pure (po_eql rfl rfl) rfl ?_)
        refine wl_pure (po_pick_t rfl rfl) rfl ?_
        refine asg rfl rfl ?_
        refine wl_nil ?_
        exact wq_meet () trivial (sub_b rfl (by rw [h10]; rfl) sub_nil) some_nil
      refine wl_guard_off (j := 3) rfl rfl rfl rfl rfl ?_
      refine wl_guard_off (j := 3) rfl rfl rfl rfl rfl ?_
      refine wl_guard_off (j := 3) rfl rfl rfl rfl rfl ?_
      refine wl_pure (po_pick_f rfl rfl) rfl ?_
      refine asg rfl rfl ?_
      refine wl_nil ?_
      exact wq_meet () trivial (sub_b rfl (by rw [h10]; rfl) sub_nil) some_nil
    intro _ _
    refine wq_then ?_
    refine wc_ret ?_
    refine wq_block_ret ?_
    refine wq_then_ret ?_
    obtain rfl := Option.some.inj t0
    exact wq_ret1 rfl rfl fun w hw => ⟨rfl, hw.weak some_nil⟩
  refine wc_skip ?_
  refine wq_block ?_
  refine wq_then ?_
  refine wcr ?_
  refine asg rfl rfl ?_
  refine wnt ?_
  refine wc_ret ?_
  obtain rfl := Option.some.inj t0
  exact wq_ret1 rfl rfl fun w hw => ⟨rfl, hw.weak some_nil⟩

theorem c_spec_FormatAct (w : World) (a_a : GAct) {r : Str × Bool} (t0 : spec_FormatAct a_a = some r) : Calls Tryd.prog 10 #[.agg #[.int .i64 a_a.Kind, .int .i64 a_a.A, .int .i64 a_a.B]] w fun e w' => e = .returned (.tuple #[bs r.1, .bool r.2]) ∧ SH w [] [] w' := by
  refine calls_of_wc (args := [_]) Tryd.func10 rfl Tryd.ntmps10 rfl ?_
  unfold spec_FormatAct at t0
  refine wcr ?_
  refine wl_eff (eo_box rfl rfl) rfl fun b1 => ?_
  refine asg rfl rfl ?_
  refine asg rfl rfl ?_
  refine wnt ?_
  refine wc_seq ?_
  refine wcr ?_
  refine wl_pure (v := .agg #[.int .i64 a_a.Kind, .int .i64 a_a.A, .int .i64 a_a.B]) (po_load_boxs tk_23 pick0 rfl rfl rfl) rfl ?_
  refine bdO t0 fun v1 hv1 t0 => ?_
  refine wl_call (co_c0 fa_17 rfl fun w hw => c_spec_ActOk w a_a hv1) rfl fun _ => ?_
  refine wl_pure (po_not rfl) rfl ?_
  refine wnt ?_
  refine wcO t0 rfl (fun h1 t0 => ?_) fun h1 t0 => ?_
  · skip
    refine wcr ?_
    refine asg rfl rfl ?_
    refine asg rfl rfl ?_
    refine wnt ?_
    refine wc_ret ?_
    refine wq_then_ret ?_
    obtain rfl := Option.some.inj t0
    exact wq_ret2 rfl rfl rfl fun w hw => ⟨rfl, hw.weak some_nil⟩
  refine wc_skip ?_
  refine wq_then ?_
  refine wcr ?_
  refine wl_eff (eo_buildSlice (qs := [(0, bs (⟨[]⟩ : Str)), (1, bs (⟨[97, 100, 109, 105, 116]⟩ : Str)), (2, bs (⟨[115, 117, 98, 109, 105, 116]⟩ : Str)), (3, bs (⟨[115, 101, 119]⟩ : Str)), (4, bs (⟨[114, 111, 117, 110, 100]⟩ : Str)), (5, bs (⟨[121, 101, 97, 114]⟩ : Str)), (6, bs (⟨[108, 97, 99, 107]⟩ : Str))]) rfl (sb_28_7 (⟨[]⟩ : Str) (⟨[97, 100, 109, 105, 116]⟩ : Str) (⟨[115, 117, 98, 109, 105, 116]⟩ : Str) (⟨[115, 101, 119]⟩ : Str) (⟨[114, 111, 117, 110, 100]⟩ : Str) (⟨[121, 101, 97, 114]⟩ : Str) (⟨[108, 97, 99, 107]⟩ : Str))) rfl fun b2 => ?_
  refine wl_pure (po_fld fo_23_0 rfl) rfl ?_
  refine wl_pure (v := .int .i64 a_a.Kind) (po_load_box tk_3 (pickS pick0) rfl rfl) rfl ?_
  refine gdO t0 fun g1 t0 => ?_
  refine wl_pure (po_ixr (rds_own (pick_box_own pick0 (n := 7) (xs := ([(⟨[]⟩ : Str), (⟨[97, 100, 109, 105, 116]⟩ : Str), (⟨[115, 117, 98, 109, 105, 116]⟩ : Str), (⟨[115, 101, 119]⟩ : Str), (⟨[114, 111, 117, 110, 100]⟩ : Str), (⟨[121, 101, 97, 114]⟩ : Str), (⟨[108, 97, 99, 107]⟩ : Str)] : List Str)) rfl rfl (by unfold maxLen; omega))) el_28 rfl rfl g1.1 g1.2) rfl ?_
  refine wl_pure (v := bs (gx ([(⟨[]⟩ : Str), (⟨[97, 100, 109, 105, 116]⟩ : Str), (⟨[115, 117, 98, 109, 105, 116]⟩ : Str), (⟨[115, 101, 119]⟩ : Str), (⟨[114, 111, 117, 110, 100]⟩ : Str), (⟨[121, 101, 97, 114]⟩ : Str), (⟨[108, 97, 99, 107]⟩ : Str)] : List Str) ((a_a.Kind).toNat))) (po_ldf (rds_own (pick_box_own pick0 (n := 7) (xs := ([(⟨[]⟩ : Str), (⟨[97, 100, 109, 105, 116]⟩ : Str), (⟨[115, 117, 98, 109, 105, 116]⟩ : Str), (⟨[115, 101, 119]⟩ : Str), (⟨[114, 111, 117, 110, 100]⟩ : Str), (⟨[121, 101, 97, 114]⟩ : Str), (⟨[108, 97, 99, 107]⟩ : Str)] : List Str)) rfl rfl (by unfold maxLen; omega))) tk_9 rfl (ix_lt g1) rfl) rfl ?_
  refine asg rfl rfl ?_
  refine wnt ?_
  refine wcr ?_
  refine wl_eff (eo_buildSlice (qs := [(0, .int .i64 0), (1, .int .i64 1), (2, .int .i64 2), (3, .int .i64 1), (4, .int .i64 0), (5, .int .i64 0), (6, .int .i64 1)]) rfl (sb_32_7 0 1 2 1 0 0 1)) rfl fun b3 => ?_
  refine wl_pure (po_fld fo_23_0 rfl) rfl ?_
  refine wl_pure (v := .int .i64 a_a.Kind) (po_load_box tk_3 (pickS (pickS pick0)) rfl rfl) rfl ?_
  refine gdO t0 fun g2 t0 => ?_
  refine wl_pure (po_ixr (rds_own (pick_box_own pick0 (n := 7) (xs := ([0, 1, 2, 1, 0, 0, 1] : List Int)) rfl rfl (by unfold maxLen; omega))) el_32 rfl rfl g2.1 g2.2) rfl ?_
  refine wl_pure (v := .int .i64 (gx ([0, 1, 2, 1, 0, 0, 1] : List Int) ((a_a.Kind).toNat))) (po_ldf (rds_own (pick_box_own pick0 (n := 7) (xs := ([0, 1, 2, 1, 0, 0, 1] : List Int)) rfl rfl (by unfold maxLen; omega))) tk_3 rfl (ix_lt g2) rfl) rfl ?_
  refine asg rfl rfl ?_
  refine wnt ?_
  refine wcr ?_
  refine wl_pure (po_fld fo_23_1 rfl) rfl ?_
  refine wl_pure (v := .int .i64 a_a.A) (po_load_box tk_3 (pickS (pickS pick0)) rfl rfl) rfl ?_
  refine wl_pure (po_fld fo_23_2 rfl) rfl ?_
  refine wl_pure (v := .int .i64 a_a.B) (po_load_box tk_3 (pickS (pickS pick0)) rfl rfl) rfl ?_
  refine wl_eff (eo_buildSlice rfl (sb_32_2 a_a.A a_a.B)) rfl fun b4 => ?_
  refine asg rfl rfl ?_
  refine wnt ?_
  refine wc_seq ?_
  refine wcr ?_
  refine asg rfl rfl ?_
  refine wnt ?_
  refine gdO t0 fun g3 t0 => ?_
  refine lpO_inv t0 fun y1 l1 t0 => ?_
  refine wj (J := Str) (X := Unit) (fun z => y1 = z) (fun z _ => [(4, bs z)]) (fun _ _ => []) ?_ ?_
  · skip
    refine wc_block ?_
    refine wc_forO (X := Unit) l1 (fun k1 s1 x1l => [(4, bs s1), (5, .int .i64 (gx ([0, 1, 2, 1, 0, 0, 1] : List Int) ((a_a.Kind).toNat))), (6, (sl (⟨some ⟨b4, 0, none⟩, 2, 2⟩ : Hd))), (7, .int .i64 ((k1 : Nat) : Int))]) (fun k1 s1 x1l => [box b4 [.int .i64 a_a.A, .int .i64 a_a.B]]) () (sub_cons rfl (sub_cons rfl (sub_cons rfl (sub_cons rfl sub_nil)))) (some_cons pick0 some_nil) fun k1 s1 x1l hN1 l1 => ?_
    by_cases hk1 : k1 < ((gx ([0, 1, 2, 1, 0, 0, 1] : List Int) ((a_a.Kind).toNat))).toNat
    · skip
      refine forO_step l1 hk1 fun _ t1 l1 => ?_
      unfold spec_FormatAct_L1 at t1
      have c1 : (decide (((k1 : Nat) : Int) < (gx ([0, 1, 2, 1, 0, 0, 1] : List Int) ((a_a.Kind).toNat)))) = true := decide_eq_true (by omega)
      refine wc_seq ?_
      refine wcr ?_
      refine mv rfl rfl ?_
      refine mv rfl rfl ?_
      refine wl_pure (po_lss rfl rfl) rfl ?_
      refine wnt ?_
      refine wc_cond_t rfl c1 ?_
      refine wc_skip ?_
      refine wq_then ?_
      refine wc_seq ?_
      refine wc_block ?_
      refine wc_region ?_
      refine mv rfl rfl ?_
      refine gdO t1 fun g4 t1 => ?_
      refine wl_pure (po_sadd rfl rfl g4) rfl ?_
      refine mv rfl rfl ?_
      refine mv rfl rfl ?_
      refine gdO t1 fun g5 t1 => ?_
      refine wl_pure (po_ixn (k := k1) (rds_own (pick_box_own pick0 (n := 2) (xs := ([a_a.A, a_a.B] : List Int)) rfl rfl (by unfold maxLen; omega))) el_32 rfl rfl g5) rfl ?_
      refine wl_pure (v := .int .i64 (gx ([a_a.A, a_a.B] : List Int) k1)) (po_ldf (rds_own (pick_box_own pick0 (n := 2) (xs := ([a_a.A, a_a.B] : List Int)) rfl rfl (by unfold maxLen; omega))) tk_3 rfl g5 rfl) rfl ?_
      refine bdO t1 fun v2 hv2 t1 => ?_
      refine wl_call (co_c0 fa_18 rfl fun w hw => c_spec_FormatInt w (gx ([a_a.A, a_a.B] : List Int) k1) hv2) rfl fun _ => ?_
      refine gdO t1 fun g6 t1 => ?_
      refine wl_pure (po_sadd rfl rfl g6) rfl ?_
      refine asg rfl rfl ?_
      refine wl_nil ?_
      refine wq_block ?_
      refine wq_then ?_
      refine wc_region ?_
      refine mv rfl rfl ?_
      refine wl_pure (po_inc rfl rfl (by omega)) rfl ?_
      refine asg rfl rfl ?_
      refine wl_nil ?_
      exact wq_rnd hk1 (stpN l1 t1) () (sub_cons rfl (sub_cons rfl (sub_cons rfl (sub_cons rfl sub_nil)))) (some_cons pick0 some_nil)
    have c1 : (decide (((k1 : Nat) : Int) < (gx ([0, 1, 2, 1, 0, 0, 1] : List Int) ((a_a.Kind).toNat)))) = false := decide_eq_false (by omega)
    have en1 := forO_end l1 hk1
    refine wc_seq ?_
    refine wcr ?_
    refine mv rfl rfl ?_
    refine mv rfl rfl ?_
    refine wl_pure (po_lss rfl rfl) rfl ?_
    refine wnt ?_
    refine wc_cond_f rfl c1 ?_
    refine wc_exit ?_
    refine wq_then_exit ?_
    refine wq_then_exit ?_
    refine wq_block_exit ?_
    exact wj_meet _ () (Sum.inl.inj en1) (sub_cons rfl sub_nil) some_nil
  intro e1 _ hp
  obtain rfl : e1 = y1 := hp.symm
  refine wq_then ?_
  refine wcr ?_
  refine mv rfl rfl ?_
  refine asg rfl rfl ?_
  refine asg rfl rfl ?_
  refine wnt ?_
  refine wc_ret ?_
  obtain rfl := Option.some.inj t0
  exact wq_ret2 rfl rfl rfl fun w hw => ⟨rfl, hw.weak some_nil⟩

theorem c_spec_ParseAct (w : World) (a_line : Str) {r : GAct × Bool} (t0 : spec_ParseAct a_line = some r) : Calls Tryd.prog 4 #[bs a_line] w fun e w' => e = .returned (.tuple #[.agg #[.int .i64 r.1.Kind, .int .i64 r.1.A, .int .i64 r.1.B], .bool r.2]) ∧ SH w [] [] w' := by
  refine calls_of_wc (args := [_]) Tryd.func4 rfl Tryd.ntmps4 rfl ?_
  unfold spec_ParseAct at t0
  refine wcr ?_
  refine wl_eff (eo_alloc (cs := [.int .i64 0, .int .i64 0, .int .i64 0]) za_23) rfl fun b1 => ?_
  refine asg rfl rfl ?_
  refine wnt ?_
  refine wcr ?_
  refine mv rfl rfl ?_
  refine bdO t0 fun v1 hv1 t0 => ?_
  refine wl_call (co_c1 fa_7 rfl fun w hw => c_spec_SplitFields w a_line hv1) rfl fun x1 => ?_
  refine mv rfl rfl ?_
  refine wl_pure (po_extract rfl rfl) rfl ?_
  refine wl_pure (po_extract rfl rfl) rfl ?_
  refine asg rfl rfl ?_
  refine asg rfl rfl ?_
  refine wnt ?_
  refine wc_seq ?_
  refine wc_seq ?_
  refine bdO t0 fun y1 t1 t0 => ?_
  refine wj (J := Bool) (X := Unit) (fun z => y1 = z) (fun z _ => [(2, ptr b1 0), (4, (sl x1)), (25, .bool z)]) (fun _ _ => [box b1 [.int .i64 0, .int .i64 0, .int .i64 0], ownF (sl x1) v1.1]) ?_ ?_
  · skip
    refine wc_region ?_
    refine mv rfl rfl ?_
    refine wl_pure (po_not rfl) rfl ?_
    refine mv rfl rfl ?_
    refine wlO_ (t := 20) t1 rfl (fun h1 t1 => ?_) fun h1 t1 => ?_
    · skip
      refine wl_guard_off (j := 2) rfl rfl rfl rfl rfl ?_
      refine wl_guard_off (j := 2) rfl rfl rfl rfl rfl ?_
      refine wl_guard_off (j := 2) rfl rfl rfl rfl rfl ?_
      refine wl_guard_off (j := 2) rfl rfl rfl rfl rfl ?_
      refine wl_pure (po_pick_t rfl rfl) rfl ?_
      refine wl_nil ?_
      exact wj_meet _ () (mtE t1) (sub_cons rfl (sub_cons rfl (sub_cons rfl sub_nil))) (some_cons (pickS pick0) (some_cons pick0 some_nil))
    refine wl_guard_on (j := 2) rfl rfl rfl (mv rfl rfl ?_)
    refine wl_guard_on (j := 2) rfl rfl rfl (wl_pure (po_lenr (rds_own pick0) el_28 rfl) rfl ?_)
    refine bdO t1 fun v2 hv2 t1 => ?_
    refine wl_guard_on (j := 2) rfl rfl rfl (wl_call (co_c0 fa_8 rfl fun w hw => c_spec_l01In w ((v1.1.length : Nat) : Int) 1 3 hv2) rfl (fun _ => ?_))
    refine wl_guard_on (j := 2) rfl rfl rfl (wl_pure (po_not rfl) rfl ?_)
    refine wl_pure (po_pick_f rfl rfl) rfl ?_
    refine wl_nil ?_
    exact wj_meet _ () (mtE t1) (sub_cons rfl (sub_cons rfl (sub_cons rfl sub_nil))) (some_cons (pickS pick0) (some_cons pick0 some_nil))
  intro j1 _ hp
  obtain rfl : j1 = y1 := hp.symm
  refine wq_then ?_
  refine wcO t0 rfl (fun h2 t0 => ?_) fun h2 t0 => ?_
  · skip
    refine wcr ?_
    refine wl_pure (po_build rfl bd_23) rfl ?_
    refine wl_skipop (so_box (cs' := [.int .i64 0, .int .i64 0, .int .i64 0]) tk_23 pick0 rfl rfl rfl rfl rfl rfl rfl) ?_
    refine asg rfl rfl ?_
    refine wnt ?_
    refine wc_ret ?_
    refine wq_then_ret ?_
    obtain rfl := Option.some.inj t0
    exact wq_retc1 rfl tk_23 rfl rfl pick0 rfl fun w hw => ⟨rfl, hw.weak some_nil⟩
  refine wc_skip ?_
  refine wq_then ?_
  refine wcr ?_
  refine mv rfl rfl ?_
  refine gdO t0 fun g1 t0 => ?_
  refine wl_pure (po_ixn (k := 0) (rds_own (pickS pick0)) el_28 rfl rfl g1) rfl ?_
  refine wl_pure (v := bs (gx v1.1 0)) (po_ldf (rds_own (pickS pick0)) tk_9 rfl g1 rfl) rfl ?_
  refine asg rfl rfl ?_
  refine wnt ?_
  refine wcr ?_
  refine wl_eff (eo_buildSlice rfl sb_32_0) rfl fun b2 => ?_
  refine asg rfl rfl ?_
  refine wnt ?_
  refine wc_seq ?_
  refine wcr ?_
  refine asg rfl rfl ?_
  refine wnt ?_
  refine gdO t0 fun g2 t0 => ?_
  refine lpO_inv t0 fun y1 l1 t0 => ?_
  refine wj (J := Str × (List Int)) (X := Hd) (fun z => y1 = z) (fun z x => [(2, ptr b1 0), (6, bs z.1), (7, (sl x))]) (fun z x => [box b1 [.int .i64 0, .int .i64 0, .int .i64 0], ownF (sl x) z.2]) ?_ ?_
  · skip
    refine wc_block ?_
    refine wc_forO (X := Hd) l1 (fun k1 s1 x1l => [(2, ptr b1 0), (4, (sl x1)), (6, bs s1.1), (7, (sl x1l)), (8, .int .i64 (((k1 + 1) : Nat) : Int))]) (fun k1 s1 x1l => [box b1 [.int .i64 0, .int .i64 0, .int .i64 0], ownF (sl x1) v1.1, ownF (sl x1l) s1.2]) (⟨some ⟨b2, 0, none⟩, 0, 0⟩ : Hd) (sub_cons rfl (sub_cons rfl (sub_cons rfl (sub_cons rfl (sub_cons rfl sub_nil))))) (some_cons (pickS pick0) (some_cons (pickS pick0) (some_cons (pick_box_own pick0 (n := 0) (xs := ([] : List Int)) rfl rfl (by unfold maxLen; omega)) some_nil))) fun k1 s1 x1l hN1 l1 => ?_
    by_cases hk1 : k1 < (v1.1.length - 1)
    · skip
      refine forO_step l1 hk1 fun _ t1 l1 => ?_
      unfold spec_ParseAct_L1 at t1
      have c1 : (decide ((((k1 + 1) : Nat) : Int) < ((v1.1.length : Nat) : Int))) = true := decide_eq_true (by omega)
      refine wc_seq ?_
      refine wcr ?_
      refine mv rfl rfl ?_
      refine mv rfl rfl ?_
      refine wl_pure (po_lenr (rds_own (pickS pick0)) el_28 rfl) rfl ?_
      refine wl_pure (po_lss rfl rfl) rfl ?_
      refine wnt ?_
      refine wc_cond_t rfl c1 ?_
      refine wc_skip ?_
      refine wq_then ?_
      refine wc_seq ?_
      refine wc_block ?_
      refine wcr ?_
      refine mv rfl rfl ?_
      refine gdO t1 fun g3 t1 => ?_
      refine wl_pure (po_sadd rfl rfl g3) rfl ?_
      refine mv rfl rfl ?_
      refine mv rfl rfl ?_
      refine gdO t1 fun g4 t1 => ?_
      refine wl_pure (po_ixn (k := (k1 + 1)) (rds_own (pickS pick0)) el_28 rfl rfl g4) rfl ?_
      refine wl_pure (v := bs (gx v1.1 (k1 + 1))) (po_ldf (rds_own (pickS pick0)) tk_9 rfl g4 rfl) rfl ?_
      refine gdO t1 fun g5 t1 => ?_
      refine wl_pure (po_sadd rfl rfl g5) rfl ?_
      refine asg rfl rfl ?_
      refine wnt ?_
      refine wc_region ?_
      refine mv rfl rfl ?_
      refine mv rfl rfl ?_
      refine mv rfl rfl ?_
      refine wl_pure (po_ixn (k := (k1 + 1)) (rds_own (pickS pick0)) el_28 rfl rfl g4) rfl ?_
      refine wl_pure (v := bs (gx v1.1 (k1 + 1))) (po_ldf (rds_own (pickS pick0)) tk_9 rfl g4 rfl) rfl ?_
      refine bdO t1 fun v3 hv3 t1 => ?_
      refine wl_call (co_c0 fa_9 rfl fun w hw => c_spec_l40Number w (gx v1.1 (k1 + 1)) hv3) rfl fun _ => ?_
      refine wl_eff (eo_buildSlice rfl (sb_32_1 v3)) rfl fun b3 => ?_
      refine gdO t1 fun g6 t1 => ?_
      refine wl_eff (eo_append (xs := s1.2) (ys := ([v3] : List Int)) ak_32 (pickS (pickS (pickS pick0))) rfl rfl (slin_rd fun _ g => Rg.on (rds_own (pick_box_own pick0 (n := 1) (xs := ([v3] : List Int)) rfl rfl (by unfold maxLen; omega))) g) g6) rfl fun x4 => ?_
      refine asg rfl rfl ?_
      refine wl_nil ?_
      refine wq_block ?_
      refine wq_then ?_
      refine wc_region ?_
      refine mv rfl rfl ?_
      refine wl_pure (po_inc rfl rfl (by omega)) rfl ?_
      refine asg rfl rfl ?_
      refine wl_nil ?_
      exact wq_rnd hk1 (stpN l1 t1) x4 (sub_cons rfl (sub_cons rfl (sub_cons rfl (sub_cons rfl (sub_cons rfl sub_nil))))) (some_cons (pickS (pickS pick0)) (some_cons (pickS (pickS pick0)) (some_cons pick0 some_nil)))
    have c1 : (decide ((((k1 + 1) : Nat) : Int) < ((v1.1.length : Nat) : Int))) = false := decide_eq_false (by omega)
    have en1 := forO_end l1 hk1
    refine wc_seq ?_
    refine wcr ?_
    refine mv rfl rfl ?_
    refine mv rfl rfl ?_
    refine wl_pure (po_lenr (rds_own (pickS pick0)) el_28 rfl) rfl ?_
    refine wl_pure (po_lss rfl rfl) rfl ?_
    refine wnt ?_
    refine wc_cond_f rfl c1 ?_
    refine wc_exit ?_
    refine wq_then_exit ?_
    refine wq_then_exit ?_
    refine wq_block_exit ?_
    exact wj_meet _ x1l (Sum.inl.inj en1) (sub_cons rfl (sub_cons rfl (sub_cons rfl sub_nil))) (some_cons pick0 (some_cons (pickS pick0) some_nil))
  intro e1 x3 hp
  obtain rfl : e1 = y1 := hp.symm
  refine wq_then ?_
  refine wcr ?_
  refine mv rfl rfl ?_
  refine wl_eff (eo_buildSlice rfl (sb_32_2 0 0)) rfl fun b4 => ?_
  refine gdO t0 fun g7 t0 => ?_
  refine wl_eff (eo_append (xs := e1.2) (ys := ([0, 0] : List Int)) ak_32 (pickS (pickS pick0)) rfl rfl (slin_rd fun _ g => Rg.on (rds_own (pick_box_own pick0 (n := 2) (xs := ([0, 0] : List Int)) rfl rfl (by unfold maxLen; omega))) g) g7) rfl fun x5 => ?_
  refine asg rfl rfl ?_
  refine wnt ?_
  refine wc_seq ?_
  refine wcr ?_
  refine asg rfl rfl ?_
  refine wnt ?_
  refine sqO t0 fun y1 l1 t0 => ?_
  refine wj (J := Unit) (X := Unit) (fun z => y1 = .inl z) (fun _ _ => [(2, ptr b1 0)]) (fun _ _ => [box b1 [.int .i64 0, .int .i64 0, .int .i64 0]]) ?_ ?_
  · skip
    refine wc_block ?_
    refine wc_forO (X := Unit) l1 (fun k2 s2 x2l => [(2, ptr b1 0), (6, bs e1.1), (7, (sl x5)), (9, .int .i64 (((k2 + 1) : Nat) : Int))]) (fun k2 s2 x2l => [ownF (sl x5) (e1.2 ++ [0, 0]), box b1 [.int .i64 0, .int .i64 0, .int .i64 0]]) () (sub_cons rfl (sub_cons rfl (sub_cons rfl (sub_cons rfl sub_nil)))) (some_cons pick0 (some_cons (pickS pick0) some_nil)) fun k2 s2 x2l hN2 l1 => ?_
    by_cases hk2 : k2 < 6
    · skip
      refine forO_step l1 hk2 fun _ t1 l1 => ?_
      unfold spec_ParseAct_L2 at t1
      have c2 : (decide ((((k2 + 1) : Nat) : Int) ≤ 6)) = true := decide_eq_true (by omega)
      refine wc_seq ?_
      refine wcr ?_
      refine mv rfl rfl ?_
      refine wl_pure (po_leq rfl rfl) rfl ?_
      refine wnt ?_
      refine wc_cond_t rfl c2 ?_
      refine wc_skip ?_
      refine wq_then ?_
      refine wc_seq ?_
      refine wc_block ?_
      refine wc_seq ?_
      refine wc_draw [ownF (sl x5) (e1.2 ++ [0, 0]), box b1 [.int .i64 0, .int .i64 0, .int .i64 0]] 9 mixed ?_
      refine wa_pure 0 rfl (po_move rfl) (some_cons pick0 (some_cons pick0 some_nil)) rfl (by kernel_rfl) (fun _ _ _ h => h) ?_
      refine wa_pure 1 rfl (po_move rfl) (some_cons pick0 (some_cons pick0 some_nil)) rfl (by kernel_rfl) (fun _ _ _ h => h) ?_
      refine gdO t1 fun g8 t1 => ?_
      refine wa_pure 2 rfl (po_ixn (k := 0) (rds_own pick0) el_32 rfl rfl g8) (some_cons pick0 (some_cons pick0 some_nil)) rfl (by kernel_rfl) (fun _ _ _ h => h) ?_
      refine wa_pure (v := .int .i64 (gx (e1.2 ++ [0, 0]) 0)) 3 rfl (po_ldf (rds_own pick0) tk_3 rfl g8 rfl) (some_cons pick0 (some_cons pick0 some_nil)) rfl (by kernel_rfl) (fun _ _ _ h => h) ?_
      refine wa_pure 4 rfl (po_move rfl) (some_cons pick0 (some_cons pick0 some_nil)) rfl (by kernel_rfl) (fun _ _ _ h => h) ?_
      refine gdO t1 fun g9 t1 => ?_
      refine wa_pure 5 rfl (po_ixn (k := 1) (rds_own pick0) el_32 rfl rfl g9) (some_cons pick0 (some_cons pick0 some_nil)) rfl (by kernel_rfl) (fun _ _ _ h => h) ?_
      refine wa_pure (v := .int .i64 (gx (e1.2 ++ [0, 0]) 1)) 6 rfl (po_ldf (rds_own pick0) tk_3 rfl g9 rfl) (some_cons pick0 (some_cons pick0 some_nil)) rfl (by kernel_rfl) (fun _ _ _ h => h) ?_
      refine wa_pure 7 rfl (po_build rfl (bd_23_0_1_2 (((k2 + 1) : Nat) : Int) (gx (e1.2 ++ [0, 0]) 0) (gx (e1.2 ++ [0, 0]) 1))) (some_cons pick0 (some_cons pick0 some_nil)) rfl (by kernel_rfl) (fun _ _ _ h => h) ?_
      refine wa_1 (i := 8) (by kernel_rfl) ?_
      refine ws_eff rfl (eo_alloc (cs := [.int .i64 0, .int .i64 0, .int .i64 0]) za_23) (fun _ => (sts_some (some_cons (pickS pick0) (some_cons (pickS pick0) some_nil)))) rfl fun b5 => ?_
      refine wa_1 (i := 9) (by kernel_rfl) ?_
      refine ws_skipop rfl (so_box (cs' := [.int .i64 (((k2 + 1) : Nat) : Int), .int .i64 (gx (e1.2 ++ [0, 0]) 0), .int .i64 (gx (e1.2 ++ [0, 0]) 1)]) tk_23 pick0 rfl rfl rfl rfl rfl rfl rfl) (sts_past (by kernel_rfl)) ?_
      refine wa_done (by kernel_rfl) ?_
      refine wq_then ?_
      refine wcr ?_
      refine wl_pure (v := .agg #[.int .i64 (((k2 + 1) : Nat) : Int), .int .i64 (gx (e1.2 ++ [0, 0]) 0), .int .i64 (gx (e1.2 ++ [0, 0]) 1)]) (po_load_boxs tk_23 pick0 rfl rfl rfl) rfl ?_
      refine bdO t1 fun v4 hv4 t1 => ?_
      refine wl_call (co_c0 fa_10 rfl fun w hw => c_spec_FormatAct w (GAct.mk (((k2 + 1) : Nat) : Int) (gx (e1.2 ++ [0, 0]) 0) (gx (e1.2 ++ [0, 0]) 1)) hv4) rfl fun _ => ?_
      refine mv rfl rfl ?_
      refine wl_pure (po_extract rfl rfl) rfl ?_
      refine wl_pure (po_extract rfl rfl) rfl ?_
      refine asg rfl rfl ?_
      refine asg rfl rfl ?_
      refine wnt ?_
      refine wc_seq ?_
      refine wc_join (X := Unit) (fun _ => True) (fun _ => [(2, ptr b1 0), (6, bs e1.1), (7, (sl x5)), (9, .int .i64 (((k2 + 1) : Nat) : Int)), (10, ptr b5 0), (77, .bool (v4.2 && (seq v4.1 e1.1)))]) (fun _ => [box b5 [.int .i64 (((k2 + 1) : Nat) : Int), .int .i64 (gx (e1.2 ++ [0, 0]) 0), .int .i64 (gx (e1.2 ++ [0, 0]) 1)], box b1 [.int .i64 0, .int .i64 0, .int .i64 0], ownF (sl x5) (e1.2 ++ [0, 0])]) ?_ ?_
      · skip
        refine wc_region ?_
        refine mv rfl rfl ?_
        refine mv rfl rfl ?_
        refine wl_fork (t := 73) rfl (fun h3 => ?_) fun h3 => ?_
        · skip
          refine wl_guard_on (j := 1) rfl rfl rfl (mv rfl rfl ?_)
          refine wl_guard_on (j := 1) rfl rfl rfl (mv rfl rfl ?_)
          refine wl_guard_on (j := 1) rfl rfl rfl (wl_pure (po_seql rfl rfl) rfl ?_)
          refine wl_pure (po_pick_t rfl rfl) rfl ?_
          refine wl_nil ?_
          exact wq_meet () trivial (sub_cons rfl (sub_cons rfl (sub_cons rfl (sub_cons rfl (sub_cons rfl (sub_b rfl (by rw [h3]; rfl) sub_nil)))))) (some_cons pick0 (some_cons (pickS pick0) (some_cons pick0 some_nil)))
        refine wl_guard_off (j := 1) rfl rfl rfl rfl rfl ?_
        refine wl_guard_off (j := 1) rfl rfl rfl rfl rfl ?_
        refine wl_guard_off (j := 1) rfl rfl rfl rfl rfl ?_
        refine wl_pure (po_pick_f rfl rfl) rfl ?_
        refine wl_nil ?_
        exact wq_meet () trivial (sub_cons rfl (sub_cons rfl (sub_cons rfl (sub_cons rfl (sub_cons rfl (sub_b rfl (by rw [h3]; rfl) sub_nil)))))) (some_cons pick0 (some_cons (pickS pick0) (some_cons pick0 some_nil)))
      intro _ _
      refine wq_then ?_
      refine wcO t1 rfl (fun h4 t1 => ?_) fun h4 t1 => ?_
      · skip
        refine wcr ?_
        refine wl_pure (v := .agg #[.int .i64 (((k2 + 1) : Nat) : Int), .int .i64 (gx (e1.2 ++ [0, 0]) 0), .int .i64 (gx (e1.2 ++ [0, 0]) 1)]) (po_load_boxs tk_23 pick0 rfl rfl rfl) rfl ?_
        refine wl_skipop (so_box (cs' := [.int .i64 (((k2 + 1) : Nat) : Int), .int .i64 (gx (e1.2 ++ [0, 0]) 0), .int .i64 (gx (e1.2 ++ [0, 0]) 1)]) tk_23 (pickS pick0) rfl rfl rfl rfl rfl rfl rfl) ?_
        refine asg rfl rfl ?_
        refine wnt ?_
        refine wc_ret ?_
        refine wq_block_ret ?_
        refine wq_then_ret ?_
        refine wq_then_ret ?_
        refine wq_block_ret ?_
        refine wq_then_ret ?_
        refine wq_then_ret ?_
        replace t0 := lpR t0 l1 t1
        obtain rfl := Option.some.inj t0
        exact wq_retc1 rfl tk_23 rfl rfl pick0 rfl fun w hw => ⟨rfl, hw.weak some_nil⟩
      refine wc_skip ?_
      refine wq_block ?_
      refine wq_then ?_
      refine wc_region ?_
      refine mv rfl rfl ?_
      refine wl_pure (po_inc rfl rfl (by omega)) rfl ?_
      refine asg rfl rfl ?_
      refine wl_nil ?_
      exact wq_rnd hk2 (stpN l1 t1) () (sub_cons rfl (sub_cons rfl (sub_cons rfl (sub_cons rfl sub_nil)))) (some_cons (pickS (pickS pick0)) (some_cons (pickS pick0) some_nil))
    have c2 : (decide ((((k2 + 1) : Nat) : Int) ≤ 6)) = false := decide_eq_false (by omega)
    have en2 := forO_end l1 hk2
    refine wc_seq ?_
    refine wcr ?_
    refine mv rfl rfl ?_
    refine wl_pure (po_leq rfl rfl) rfl ?_
    refine wnt ?_
    refine wc_cond_f rfl c2 ?_
    refine wc_exit ?_
    refine wq_then_exit ?_
    refine wq_then_exit ?_
    refine wq_block_exit ?_
    exact wj_meet _ () en2 (sub_cons rfl sub_nil) (some_cons (pickS pick0) some_nil)
  intro e2 _ hp
  replace t0 := sqE (j := e2) t0 hp
  refine wq_then ?_
  refine wcr ?_
  refine wl_pure (po_build rfl bd_23) rfl ?_
  refine wl_skipop (so_box (cs' := [.int .i64 0, .int .i64 0, .int .i64 0]) tk_23 pick0 rfl rfl rfl rfl rfl rfl rfl) ?_
  refine asg rfl rfl ?_
  refine wnt ?_
  refine wc_ret ?_
  obtain rfl := Option.some.inj t0
  exact wq_retc1 rfl tk_23 rfl rfl pick0 rfl fun w hw => ⟨rfl, hw.weak some_nil⟩

theorem c_impl_SplitFields (w : World) (a_line : Str) {r : (List Str) × Bool} (t0 : impl_SplitFields a_line = some r) : Calls Tryd.prog 11 #[bs a_line] w fun e w' => ∃ x : Hd, e = .returned (.tuple #[(sl x), .bool r.2]) ∧ SH w [] [ownF (sl x) r.1] w' := by
  refine calls_of_wc (args := [_]) Tryd.func11 rfl Tryd.ntmps11 rfl ?_
  unfold impl_SplitFields at t0
  refine wcr ?_
  refine asg rfl rfl ?_
  refine asg rfl rfl ?_
  refine wnt ?_
  refine wc_seq ?_
  refine wcr ?_
  refine mv rfl rfl ?_
  refine wl_pure (po_slen isStr_9 rfl) rfl ?_
  refine wl_pure (po_gtr rfl rfl) rfl ?_
  refine wnt ?_
  refine wcO t0 rfl (fun h1 t0 => ?_) fun h1 t0 => ?_
  · skip
    refine wcr ?_
    refine asg rfl rfl ?_
    refine asg rfl rfl ?_
    refine wnt ?_
    refine wc_ret ?_
    refine wq_then_ret ?_
    obtain rfl := Option.some.inj t0
    exact wq_ret2 rfl rfl rfl fun w hw => ⟨(⟨none, 0, 0⟩ : Hd), rfl, hw.weak (some_cons pick_nil some_nil)⟩
  refine wc_skip ?_
  refine wq_then ?_
  refine wcr ?_
  refine wl_eff (eo_buildSlice rfl sb_28_0) rfl fun b1 => ?_
  refine asg rfl rfl ?_
  refine asg rfl rfl ?_
  refine wnt ?_
  refine wc_seq ?_
  refine wcr ?_
  refine mv rfl rfl ?_
  refine wl_pure (po_slen isStr_9 rfl) rfl ?_
  refine mv rfl rfl ?_
  refine wnt ?_
  refine gdO t0 fun g1 t0 => ?_
  refine sqO t0 fun y1 l1 t0 => ?_
  refine wj (J := (List Str) × Int) (X := Hd) (fun z => y1 = .inl z) (fun z x => [(0, bs a_line), (4, (sl x)), (5, .int .i64 z.2)]) (fun z x => [ownF (sl x) z.1]) ?_ ?_
  · skip
    refine wc_block ?_
    refine wc_forO (X := Hd) l1 (fun k1 s1 x1l => [(0, bs a_line), (4, (sl x1l)), (5, .int .i64 s1.2), (12, .int .i64 ((a_line.b.length : Nat) : Int)), (13, .int .i64 ((k1 : Nat) : Int))]) (fun k1 s1 x1l => [ownF (sl x1l) s1.1]) (⟨some ⟨b1, 0, none⟩, 0, 0⟩ : Hd) (sub_cons rfl (sub_cons rfl (sub_cons rfl (sub_cons rfl (sub_cons rfl sub_nil))))) (some_cons (pick_box_own pick0 (n := 0) (xs := ([] : List Str)) rfl rfl (by unfold maxLen; omega)) some_nil) fun k1 s1 x1l hN1 l1 => ?_
    by_cases hk1 : k1 < a_line.b.length
    · skip
      refine forO_step l1 hk1 fun _ t1 l1 => ?_
      unfold impl_SplitFields_L1 at t1
      have c1 : (decide (((k1 : Nat) : Int) < ((a_line.b.length : Nat) : Int))) = true := decide_eq_true (by omega)
      refine wcr ?_
      refine wl_pure (po_lss rfl rfl) rfl ?_
      refine wnt ?_
      refine wc_seq ?_
      refine wc_cond_t rfl c1 ?_
      refine wc_skip ?_
      refine wq_then ?_
      refine wc_seq ?_
      refine wc_block ?_
      refine wcr ?_
      refine mv rfl rfl ?_
      refine asg rfl rfl ?_
      refine wnt ?_
      refine wc_seq ?_
      refine wc_seq ?_
      refine wc_join (X := Unit) (fun _ => True) (fun _ => [(0, bs a_line), (4, (sl x1l)), (5, .int .i64 s1.2), (6, .int .i64 ((k1 : Nat) : Int)), (12, .int .i64 ((a_line.b.length : Nat) : Int)), (13, .int .i64 ((k1 : Nat) : Int)), (25, .bool ((decide ((((sat_ a_line k1)).toNat : Int) < 32)) || (decide ((((sat_ a_line k1)).toNat : Int) > 126))))]) (fun _ => [ownF (sl x1l) s1.1]) ?_ ?_
      · skip
        refine wc_region ?_
        refine mv rfl rfl ?_
        refine mv rfl rfl ?_
        refine wl_pure (po_sixn (k := k1) isStr_9 rfl rfl hk1) rfl ?_
        refine wl_pure (po_lss rfl rfl) rfl ?_
        refine mv rfl rfl ?_
        refine wl_fork (t := 20) rfl (fun h2 => ?_) fun h2 => ?_
        · skip
          refine wl_guard_off (j := 4) rfl rfl rfl rfl rfl ?_
          refine wl_guard_off (j := 4) rfl rfl rfl rfl rfl ?_
          refine wl_guard_off (j := 4) rfl rfl rfl rfl rfl ?_
          refine wl_guard_off (j := 4) rfl rfl rfl rfl rfl ?_
          refine wl_pure (po_pick_t rfl rfl) rfl ?_
          refine wl_nil ?_
          exact wq_meet () trivial (sub_cons rfl (sub_cons rfl (sub_cons rfl (sub_cons rfl (sub_cons rfl (sub_cons rfl (sub_b rfl (by rw [h2]; rfl) sub_nil))))))) (some_cons pick0 some_nil)
        refine wl_guard_on (j := 4) rfl rfl rfl (mv rfl rfl ?_)
        refine wl_guard_on (j := 4) rfl rfl rfl (mv rfl rfl ?_)
        refine wl_guard_on (j := 4) rfl rfl rfl (wl_pure (po_sixn (k := k1) isStr_9 rfl rfl hk1) rfl ?_)
        refine wl_guard_on (j := 4) rfl rfl rfl (wl_pure (po_gtr rfl rfl) rfl ?_)
        refine wl_pure (po_pick_f rfl rfl) rfl ?_
        refine wl_nil ?_
        exact wq_meet () trivial (sub_cons rfl (sub_cons rfl (sub_cons rfl (sub_cons rfl (sub_cons rfl (sub_cons rfl (sub_b rfl (by rw [h2]; rfl) sub_nil))))))) (some_cons pick0 some_nil)
      intro _ _
      refine wq_then ?_
      refine wcO t1 rfl (fun h3 t1 => ?_) fun h3 t1 => ?_
      · skip
        refine wcr ?_
        refine asg rfl rfl ?_
        refine asg rfl rfl ?_
        refine wnt ?_
        refine wc_ret ?_
        refine wq_then_ret ?_
        refine wq_block_ret ?_
        refine wq_then_ret ?_
        refine wq_then_ret ?_
        refine wq_block_ret ?_
        refine wq_then_ret ?_
        refine wq_then_ret ?_
        replace t0 := lpR t0 l1 t1
        obtain rfl := Option.some.inj t0
        exact wq_ret2 rfl rfl rfl fun w hw => ⟨(⟨none, 0, 0⟩ : Hd), rfl, hw.weak (some_cons pick_nil some_nil)⟩
      refine wc_skip ?_
      refine wq_then ?_
      refine wcr ?_
      refine mv rfl rfl ?_
      refine mv rfl rfl ?_
      refine wl_pure (po_sixn (k := k1) isStr_9 rfl rfl hk1) rfl ?_
      refine wl_pure (po_eql rfl rfl) rfl ?_
      refine wnt ?_
      refine bdO t1 fun y2 t2 t1 => ?_
      refine wj (J := (List Str) × Int) (X := Hd) (fun z => y2 = z) (fun z x => [(0, bs a_line), (4, (sl x)), (5, .int .i64 z.2), (12, .int .i64 ((a_line.b.length : Nat) : Int)), (13, .int .i64 ((k1 : Nat) : Int))]) (fun z x => [ownF (sl x) z.1]) ?_ ?_
      · skip
        refine wcO t2 rfl (fun h4 t2 => ?_) fun h4 t2 => ?_
        · skip
          refine wc_seq ?_
          refine wcr ?_
          refine mv rfl rfl ?_
          refine wl_pure (po_geq rfl rfl) rfl ?_
          refine wnt ?_
          refine bdO t2 fun y3 t3 t2 => ?_
          refine wj (J := List Str) (X := Hd) (fun z => y3 = z) (fun _ x => [(0, bs a_line), (4, (sl x)), (12, .int .i64 ((a_line.b.length : Nat) : Int)), (13, .int .i64 ((k1 : Nat) : Int))]) (fun z x => [ownF (sl x) z]) ?_ ?_
          · skip
            refine wcO t3 rfl (fun h5 t3 => ?_) fun h5 t3 => ?_
            · skip
              refine wc_region ?_
              refine mv rfl rfl ?_
              refine mv rfl rfl ?_
              refine mv rfl rfl ?_
              refine mv rfl rfl ?_
              refine gdO t3 fun g2 t3 => ?_
              refine wl_pure (po_ssub (l := (s1.2).toNat) (h := k1) isStr_9 rfl (.inr ⟨_, rfl, ixn g2.1⟩) (.inr ⟨_, rfl, rfl⟩) g2.2.1 g2.2.2) rfl ?_
              refine wl_eff (eo_buildSlice rfl (sb_28_1 (ssub a_line ((s1.2).toNat) k1))) rfl fun b2 => ?_
              refine gdO t3 fun g3 t3 => ?_
              refine wl_eff (eo_append (xs := s1.1) (ys := ([(ssub a_line ((s1.2).toNat) k1)] : List Str)) ak_28 (pickS pick0) rfl rfl (slin_rd fun _ g => Rg.on (rds_own (pick_box_own pick0 (n := 1) (xs := ([(ssub a_line ((s1.2).toNat) k1)] : List Str)) rfl rfl (by unfold maxLen; omega))) g) g3) rfl fun x5 => ?_
              refine asg rfl rfl ?_
              refine wl_nil ?_
              exact wj_meet _ x5 (mtE t3) (sub_cons rfl (sub_cons rfl (sub_cons rfl (sub_cons rfl sub_nil)))) (some_cons pick0 some_nil)
            refine wc_skip ?_
            exact wj_meet _ x1l (mtE t3) (sub_cons rfl (sub_cons rfl (sub_cons rfl (sub_cons rfl sub_nil)))) (some_cons pick0 some_nil)
          intro j3 x4 hp
          obtain rfl : j3 = y3 := hp.symm
          refine wq_then ?_
          refine wc_region ?_
          refine asg rfl rfl ?_
          refine wl_nil ?_
          exact wj_meet _ x4 (mtE t2) (sub_cons rfl (sub_cons rfl (sub_cons rfl (sub_cons rfl (sub_cons rfl sub_nil))))) (some_cons pick0 some_nil)
        refine wcr ?_
        refine mv rfl rfl ?_
        refine wl_pure (po_lss rfl rfl) rfl ?_
        refine wnt ?_
        refine wcO t2 rfl (fun h6 t2 => ?_) fun h6 t2 => ?_
        · skip
          refine wc_region ?_
          refine mv rfl rfl ?_
          refine asg rfl rfl ?_
          refine wl_nil ?_
          exact wj_meet _ x1l (mtE t2) (sub_cons rfl (sub_cons rfl (sub_cons rfl (sub_cons rfl (sub_cons rfl sub_nil))))) (some_cons pick0 some_nil)
        refine wc_skip ?_
        exact wj_meet _ x1l (mtE t2) (sub_cons rfl (sub_cons rfl (sub_cons rfl (sub_cons rfl (sub_cons rfl sub_nil))))) (some_cons pick0 some_nil)
      intro j2 x3 hp
      obtain rfl : j2 = y2 := hp.symm
      refine wq_block ?_
      refine wq_then ?_
      refine wc_region ?_
      refine wl_pure (po_inc rfl rfl (by omega)) rfl ?_
      refine mv rfl rfl ?_
      refine wl_nil ?_
      exact wq_rnd hk1 (stpN l1 t1) x3 (sub_cons rfl (sub_cons rfl (sub_cons rfl (sub_cons rfl (sub_cons rfl sub_nil))))) (some_cons pick0 some_nil)
    have c1 : (decide (((k1 : Nat) : Int) < ((a_line.b.length : Nat) : Int))) = false := decide_eq_false (by omega)
    have en1 := forO_end l1 hk1
    refine wcr ?_
    refine wl_pure (po_lss rfl rfl) rfl ?_
    refine wnt ?_
    refine wc_seq ?_
    refine wc_cond_f rfl c1 ?_
    refine wc_exit ?_
    refine wq_then_exit ?_
    refine wq_then_exit ?_
    refine wq_block_exit ?_
    exact wj_meet _ x1l en1 (sub_cons rfl (sub_cons rfl (sub_cons rfl sub_nil))) (some_cons pick0 some_nil)
  intro e1 x1 hp
  replace t0 := sqE (j := e1) t0 hp
  refine wq_then ?_
  refine wc_seq ?_
  refine wcr ?_
  refine mv rfl rfl ?_
  refine wl_pure (po_geq rfl rfl) rfl ?_
  refine wnt ?_
  refine bdO t0 fun y1 t1 t0 => ?_
  refine wj (J := List Str) (X := Hd) (fun z => y1 = z) (fun _ x => [(4, (sl x))]) (fun z x => [ownF (sl x) z]) ?_ ?_
  · skip
    refine wcO t1 rfl (fun h7 t1 => ?_) fun h7 t1 => ?_
    · skip
      refine wc_region ?_
      refine mv rfl rfl ?_
      refine mv rfl rfl ?_
      refine mv rfl rfl ?_
      refine gdO t1 fun g4 t1 => ?_
      refine wl_pure (po_ssub (l := (e1.2).toNat) (h := a_line.b.length) isStr_9 rfl (.inr ⟨_, rfl, ixn g4.1⟩) (.inl ⟨rfl, rfl⟩) g4.2.1 g4.2.2) rfl ?_
      refine wl_eff (eo_buildSlice rfl (sb_28_1 (ssub a_line ((e1.2).toNat) a_line.b.length))) rfl fun b3 => ?_
      refine gdO t1 fun g5 t1 => ?_
      refine wl_eff (eo_append (xs := e1.1) (ys := ([(ssub a_line ((e1.2).toNat) a_line.b.length)] : List Str)) ak_28 (pickS pick0) rfl rfl (slin_rd fun _ g => Rg.on (rds_own (pick_box_own pick0 (n := 1) (xs := ([(ssub a_line ((e1.2).toNat) a_line.b.length)] : List Str)) rfl rfl (by unfold maxLen; omega))) g) g5) rfl fun x7 => ?_
      refine asg rfl rfl ?_
      refine wl_nil ?_
      exact wj_meet _ x7 (mtE t1) (sub_cons rfl sub_nil) (some_cons pick0 some_nil)
    refine wc_skip ?_
    exact wj_meet _ x1 (mtE t1) (sub_cons rfl sub_nil) (some_cons pick0 some_nil)
  intro j4 x6 hp
  obtain rfl : j4 = y1 := hp.symm
  refine wq_then ?_
  refine wc_seq ?_
  refine wcr ?_
  refine mv rfl rfl ?_
  refine wl_pure (po_lenr (rds_own pick0) el_28 rfl) rfl ?_
  refine wl_pure (po_gtr rfl rfl) rfl ?_
  refine wnt ?_
  refine wcO t0 rfl (fun h8 t0 => ?_) fun h8 t0 => ?_
  · skip
    refine wcr ?_
    refine asg rfl rfl ?_
    refine asg rfl rfl ?_
    refine wnt ?_
    refine wc_ret ?_
    refine wq_then_ret ?_
    obtain rfl := Option.some.inj t0
    exact wq_ret2 rfl rfl rfl fun w hw => ⟨(⟨none, 0, 0⟩ : Hd), rfl, hw.weak (some_cons pick_nil some_nil)⟩
  refine wc_skip ?_
  refine wq_then ?_
  refine wcr ?_
  refine mv rfl rfl ?_
  refine asg rfl rfl ?_
  refine asg rfl rfl ?_
  refine wnt ?_
  refine wc_ret ?_
  obtain rfl := Option.some.inj t0
  exact wq_ret2 rfl rfl rfl fun w hw => ⟨x6, rfl, hw.weak (some_cons pick0 some_nil)⟩

theorem c_impl_within (w : World) (a_n : Int) (a_a : Int) (a_b : Int) {r : Bool} (t0 : impl_within a_n a_a a_b = some r) : Calls Tryd.prog 12 #[.int .i64 a_n, .int .i64 a_a, .int .i64 a_b] w fun e w' => e = .returned (.bool r) ∧ SH w [] [] w' := by
  refine calls_of_wc (args := [_, _, _]) Tryd.func12 rfl Tryd.ntmps12 rfl ?_
  unfold impl_within at t0
  refine wcr ?_
  refine asg rfl rfl ?_
  refine wnt ?_
  refine wc_seq ?_
  refine wc_join (X := Unit) (fun _ => True) (fun _ => [(6, .bool ((decide (a_n ≥ a_a)) && (decide (a_n ≤ a_b))))]) (fun _ => []) ?_ ?_
  · skip
    refine wc_region ?_
    refine mv rfl rfl ?_
    refine mv rfl rfl ?_
    refine wl_pure (po_geq rfl rfl) rfl ?_
    refine mv rfl rfl ?_
    refine wl_fork (t := 10) rfl (fun h1 => ?_) fun h1 => ?_
    · skip
      refine wl_guard_on (j := 3) rfl rfl rfl (mv rfl rfl ?_)
      refine wl_guard_on (j := 3) rfl rfl rfl (mv rfl rfl ?_)
      refine wl_guard_on (j := 3) rfl rfl rfl (wl_pure (po_leq rfl rfl) rfl ?_)
      refine wl_pure (po_pick_t rfl rfl) rfl ?_
      refine asg rfl rfl ?_
      refine wl_nil ?_
      exact wq_meet () trivial (sub_b rfl (by rw [h1]; rfl) sub_nil) some_nil
    refine wl_guard_off (j := 3) rfl rfl rfl rfl rfl ?_
    refine wl_guard_off (j := 3) rfl rfl rfl rfl rfl ?_
    refine wl_guard_off (j := 3) rfl rfl rfl rfl rfl ?_
    refine wl_pure (po_pick_f rfl rfl) rfl ?_
    refine asg rfl rfl ?_
    refine wl_nil ?_
    exact wq_meet () trivial (sub_b rfl (by rw [h1]; rfl) sub_nil) some_nil
  intro _ _
  refine wq_then ?_
  refine wc_ret ?_
  obtain rfl := Option.some.inj t0
  exact wq_ret1 rfl rfl fun w hw => ⟨rfl, hw.weak some_nil⟩




theorem c_impl_FormatInt (w : World) (a_n : Int) {r : Str} (t0 : impl_FormatInt a_n = some r) : Calls Tryd.prog 20 #[.int .i64 a_n] w fun e w' => e = .returned (bs r) ∧ SH w [] [] w' := by
  refine calls_of_wc (args := [_]) Tryd.func20 rfl Tryd.ntmps20 rfl ?_
  unfold impl_FormatInt at t0
  refine wcr ?_
  refine asg rfl rfl ?_
  refine wnt ?_
  refine wcr ?_
  refine mv rfl rfl ?_
  refine bdO t0 fun v1 hv1 t0 => ?_
  refine wl_call (co_c0 fa_29 rfl fun w hw => c_strconv_Itoa w a_n hv1) rfl fun _ => ?_
  refine asg rfl rfl ?_
  refine wnt ?_
  refine wc_ret ?_
  obtain rfl := Option.some.inj t0
  exact wq_ret1 rfl rfl fun w hw => ⟨rfl, hw.weak some_nil⟩

theorem c_impl_FormatInt_b (w : World) (ht : Tb w) (a_n : Int) {r : Str} (t0 : impl_FormatInt_b a_n = some r) : Calls Tryd.prog 20 #[.int .i64 a_n] w fun e w' => e = .returned (bs r) ∧ SH w [] [] w' := by
  refine calls_of_wc (args := [_]) Tryd.func20 rfl Tryd.ntmps20 rfl ?_
  unfold impl_FormatInt_b at t0
  refine wcr ?_
  refine asg rfl rfl ?_
  refine wnt ?_
  refine wcr ?_
  refine mv rfl rfl ?_
  refine bdO t0 fun v1 hv1 t0 => ?_
  refine wl_call (co_c0 fa_29 rfl fun w hw => c_strconv_Itoa_b w (hw.tab ht) a_n hv1) rfl fun _ => ?_
  refine asg rfl rfl ?_
  refine wnt ?_
  refine wc_ret ?_
  obtain rfl := Option.some.inj t0
  exact wq_ret1 rfl rfl fun w hw => ⟨rfl, hw.weak some_nil⟩

theorem c_impl_ParseUint (w : World) (ht : Tb w) (a_s : Str) {r : Int × Bool} (t0 : impl_ParseUint a_s = some r) : Calls Tryd.prog 13 #[bs a_s] w fun e w' => e = .returned (.tuple #[.int .i64 r.1, .bool r.2]) ∧ SH w [] [] w' := by
  refine calls_of_wc (args := [_]) Tryd.func13 rfl Tryd.ntmps13 rfl ?_
  unfold impl_ParseUint at t0
  refine wcr ?_
  refine asg rfl rfl ?_
  refine asg rfl rfl ?_
  refine wnt ?_
  refine wc_seq ?_
  refine wcr ?_
  refine mv rfl rfl ?_
  refine wl_pure (po_slen isStr_9 rfl) rfl ?_
  refine wl_pure (po_gtr rfl rfl) rfl ?_
  refine wnt ?_
  refine wcO t0 rfl (fun h1 t0 => ?_) fun h1 t0 => ?_
  · skip
    refine wcr ?_
    refine asg rfl rfl ?_
    refine asg rfl rfl ?_
    refine wnt ?_
    refine wc_ret ?_
    refine wq_then_ret ?_
    obtain rfl := Option.some.inj t0
    exact wq_ret2 rfl rfl rfl fun w hw => ⟨rfl, hw.weak some_nil⟩
  refine wc_skip ?_
  refine wq_then ?_
  refine wcr ?_
  refine mv rfl rfl ?_
  refine bdO t0 fun v1 hv1 t0 => ?_
  refine wl_call (co_c0x fa_19 rfl fun w hw => c_strconv_Atoi w (hw.tab ht) a_s hv1) rfl fun x1 => ?_
  refine mv rfl rfl ?_
  refine wl_pure (po_extract rfl rfl) rfl ?_
  refine wl_pure (po_extract rfl rfl) rfl ?_
  refine asg rfl rfl ?_
  refine asg rfl rfl ?_
  refine wnt ?_
  refine wc_seq ?_
  refine wc_seq ?_
  refine bdO t0 fun y1 t1 t0 => ?_
  refine wj (J := Bool) (X := Unit) (fun z => y1 = z) (fun z _ => [(4, .int .i64 v1.1), (26, .bool z)]) (fun _ _ => []) ?_ ?_
  · skip
    refine wc_region ?_
    refine mv rfl rfl ?_
    refine wl_pure (po_errneq if_42 rfl) rfl ?_
    refine mv rfl rfl ?_
    refine wlO_ (t := 16) t1 rfl (fun h2 t1 => ?_) fun h2 t1 => ?_
    · skip
      refine wl_guard_off (j := 2) rfl rfl rfl rfl rfl ?_
      refine wl_guard_off (j := 2) rfl rfl rfl rfl rfl ?_
      refine wl_guard_off (j := 2) rfl rfl rfl rfl rfl ?_
      refine wl_pure (po_pick_t rfl rfl) rfl ?_
      refine mv rfl rfl ?_
      refine wl_guard_off (j := 7) rfl rfl rfl rfl rfl ?_
      refine wl_guard_off (j := 7) rfl rfl rfl rfl rfl ?_
      refine wl_guard_off (j := 7) rfl rfl rfl rfl rfl ?_
      refine wl_guard_off (j := 7) rfl rfl rfl rfl rfl ?_
      refine wl_pure (po_pick_t rfl rfl) rfl ?_
      refine wl_nil ?_
      exact wj_meet _ () (mtE t1) (sub_cons rfl (sub_cons rfl sub_nil)) some_nil
    refine wl_guard_on (j := 2) rfl rfl rfl (mv rfl rfl ?_)
    refine bdO t1 fun v2 hv2 t1 => ?_
    refine wl_guard_on (j := 2) rfl rfl rfl (wl_call (co_c0 fa_12 rfl fun w hw => c_impl_within w v1.1 0 1000000000 hv2) rfl (fun _ => ?_))
    refine wl_guard_on (j := 2) rfl rfl rfl (wl_pure (po_not rfl) rfl ?_)
    refine wl_pure (po_pick_f rfl rfl) rfl ?_
    refine mv rfl rfl ?_
    refine wlO_ (t := 21) t1 rfl (fun h3 t1 => ?_) fun h3 t1 => ?_
    · skip
      refine wl_guard_off (j := 7) rfl rfl rfl rfl rfl ?_
      refine wl_guard_off (j := 7) rfl rfl rfl rfl rfl ?_
      refine wl_guard_off (j := 7) rfl rfl rfl rfl rfl ?_
      refine wl_guard_off (j := 7) rfl rfl rfl rfl rfl ?_
      refine wl_pure (po_pick_t rfl rfl) rfl ?_
      refine wl_nil ?_
      exact wj_meet _ () (mtE t1) (sub_cons rfl (sub_cons rfl sub_nil)) some_nil
    refine wl_guard_on (j := 7) rfl rfl rfl (mv rfl rfl ?_)
    refine bdO t1 fun v3 hv3 t1 => ?_
    refine wl_guard_on (j := 7) rfl rfl rfl (wl_call (co_c0 fa_20 rfl fun w hw => c_impl_FormatInt_b w (hw.tab ht) v1.1 hv3) rfl (fun _ => ?_))
    refine wl_guard_on (j := 7) rfl rfl rfl (mv rfl rfl ?_)
    refine wl_guard_on (j := 7) rfl rfl rfl (wl_pure (po_sneq rfl rfl) rfl ?_)
    refine wl_pure (po_pick_f rfl rfl) rfl ?_
    refine wl_nil ?_
    exact wj_meet _ () (mtE t1) (sub_cons rfl (sub_cons rfl sub_nil)) some_nil
  intro j1 _ hp
  obtain rfl : j1 = y1 := hp.symm
  refine wq_then ?_
  refine wcO t0 rfl (fun h4 t0 => ?_) fun h4 t0 => ?_
  · skip
    refine wcr ?_
    refine asg rfl rfl ?_
    refine asg rfl rfl ?_
    refine wnt ?_
    refine wc_ret ?_
    refine wq_then_ret ?_
    obtain rfl := Option.some.inj t0
    exact wq_ret2 rfl rfl rfl fun w hw => ⟨rfl, hw.weak some_nil⟩
  refine wc_skip ?_
  refine wq_then ?_
  refine wcr ?_
  refine mv rfl rfl ?_
  refine asg rfl rfl ?_
  refine asg rfl rfl ?_
  refine wnt ?_
  refine wc_ret ?_
  obtain rfl := Option.some.inj t0
  exact wq_ret2 rfl rfl rfl fun w hw => ⟨rfl, hw.weak some_nil⟩

theorem c_impl_ActOk (w : World) (a_a : GAct) {r : Bool} (t0 : impl_ActOk a_a = some r) : Calls Tryd.prog 21 #[.agg #[.int .i64 a_a.Kind, .int .i64 a_a.A, .int .i64 a_a.B]] w fun e w' => e = .returned (.bool r) ∧ SH w [] [] w' := by
  refine calls_of_wc (args := [_]) Tryd.func21 rfl Tryd.ntmps21 rfl ?_
  unfold impl_ActOk at t0
  refine wcr ?_
  refine wl_eff (eo_box rfl rfl) rfl fun b1 => ?_
  refine asg rfl rfl ?_
  refine wnt ?_
  refine wc_seq ?_
  refine wcr ?_
  refine wl_pure (po_fld fo_23_0 rfl) rfl ?_
  refine wl_pure (v := .int .i64 a_a.Kind) (po_load_box tk_3 pick0 rfl rfl) rfl ?_
  refine wnt ?_
  refine wc_block ?_
  refine wcr ?_
  refine wl_pure (po_eql rfl rfl) rfl ?_
  refine asg rfl rfl ?_
  refine wnt ?_
  refine wcO t0 rfl (fun h1 t0 => ?_) fun h1 t0 => ?_
  · skip
    refine wc_seq ?_
    refine bdO t0 fun y1 t1 t0 => ?_
    refine wj (J := Bool) (X := Unit) (fun z => y1 = z) (fun z _ => [(2, .bool z)]) (fun _ _ => []) ?_ ?_
    · skip
      refine wc_region ?_
      refine wl_pure (po_fld fo_23_1 rfl) rfl ?_
      refine wl_pure (v := .int .i64 a_a.A) (po_load_box tk_3 pick0 rfl rfl) rfl ?_
      refine bdO t1 fun v1 hv1 t1 => ?_
      refine wl_call (co_c0 fa_12 rfl fun w hw => c_impl_within w a_a.A 1 999 hv1) rfl fun _ => ?_
      refine mv rfl rfl ?_
      refine wlO_ (t := 10) t1 rfl (fun h2 t1 => ?_) fun h2 t1 => ?_
      · skip
        refine wl_guard_on (j := 3) rfl rfl rfl (wl_pure (po_fld fo_23_2 rfl) rfl ?_)
        refine wl_guard_on (j := 3) rfl rfl rfl (wl_pure (v := .int .i64 a_a.B) (po_load_box tk_3 pick0 rfl rfl) rfl ?_)
        refine wl_guard_on (j := 3) rfl rfl rfl (wl_pure (po_eql rfl rfl) rfl ?_)
        refine wl_pure (po_pick_t rfl rfl) rfl ?_
        refine asg rfl rfl ?_
        refine wl_nil ?_
        exact wj_meet _ () (mtE t1) (sub_cons rfl sub_nil) some_nil
      refine wl_guard_off (j := 3) rfl rfl rfl rfl rfl ?_
      refine wl_guard_off (j := 3) rfl rfl rfl rfl rfl ?_
      refine wl_guard_off (j := 3) rfl rfl rfl rfl rfl ?_
      refine wl_pure (po_pick_f rfl rfl) rfl ?_
      refine asg rfl rfl ?_
      refine wl_nil ?_
      exact wj_meet _ () (mtE t1) (sub_cons rfl sub_nil) some_nil
    intro j1 _ hp
    obtain rfl : j1 = y1 := hp.symm
    refine wq_then ?_
    refine wc_ret ?_
    refine wq_block_ret ?_
    refine wq_then_ret ?_
    obtain rfl := Option.some.inj t0
    exact wq_ret1 rfl rfl fun w hw => ⟨rfl, hw.weak some_nil⟩
  refine wcr ?_
  refine wl_pure (po_eql rfl rfl) rfl ?_
  refine asg rfl rfl ?_
  refine wnt ?_
  refine wcO t0 rfl (fun h3 t0 => ?_) fun h3 t0 => ?_
  · skip
    refine wc_seq ?_
    refine bdO t0 fun y1 t1 t0 => ?_
    refine wj (J := Bool) (X := Unit) (fun z => y1 = z) (fun z _ => [(2, .bool z)]) (fun _ _ => []) ?_ ?_
    · skip
      refine wc_region ?_
      refine wl_pure (po_fld fo_23_1 rfl) rfl ?_
      refine wl_pure (v := .int .i64 a_a.A) (po_load_box tk_3 pick0 rfl rfl) rfl ?_
      refine bdO t1 fun v2 hv2 t1 => ?_
      refine wl_call (co_c0 fa_12 rfl fun w hw => c_impl_within w a_a.A 1 999 hv2) rfl fun _ => ?_
      refine mv rfl rfl ?_
      refine wlO_ (t := 20) t1 rfl (fun h4 t1 => ?_) fun h4 t1 => ?_
      · skip
        refine wl_guard_on (j := 3) rfl rfl rfl (wl_pure (po_fld fo_23_2 rfl) rfl ?_)
        refine wl_guard_on (j := 3) rfl rfl rfl (wl_pure (v := .int .i64 a_a.B) (po_load_box tk_3 pick0 rfl rfl) rfl ?_)
        refine bdO t1 fun v3 hv3 t1 => ?_
        refine wl_guard_on (j := 3) rfl rfl rfl (wl_call (co_c0 fa_12 rfl fun w hw => c_impl_within w a_a.B 0 9 hv3) rfl (fun _ => ?_))
        refine wl_pure (po_pick_t rfl rfl) rfl ?_
        refine asg rfl rfl ?_
        refine wl_nil ?_
        exact wj_meet _ () (mtE t1) (sub_cons rfl sub_nil) some_nil
      refine wl_guard_off (j := 3) rfl rfl rfl rfl rfl ?_
      refine wl_guard_off (j := 3) rfl rfl rfl rfl rfl ?_
      refine wl_guard_off (j := 3) rfl rfl rfl rfl rfl ?_
      refine wl_pure (po_pick_f rfl rfl) rfl ?_
      refine asg rfl rfl ?_
      refine wl_nil ?_
      exact wj_meet _ () (mtE t1) (sub_cons rfl sub_nil) some_nil
    intro j2 _ hp
    obtain rfl : j2 = y1 := hp.symm
    refine wq_then ?_
    refine wc_ret ?_
    refine wq_block_ret ?_
    refine wq_then_ret ?_
    obtain rfl := Option.some.inj t0
    exact wq_ret1 rfl rfl fun w hw => ⟨rfl, hw.weak some_nil⟩
  refine wc_seq ?_
  refine wcr ?_
  refine wl_pure (po_eql rfl rfl) rfl ?_
  refine asg rfl rfl ?_
  refine wnt ?_
  refine wc_join (X := Unit) (fun _ => True) (fun _ => [(1, ptr b1 0), (25, .bool ((a_a.Kind == 3) || (a_a.Kind == 6)))]) (fun _ => [box b1 [.int .i64 a_a.Kind, .int .i64 a_a.A, .int .i64 a_a.B]]) ?_ ?_
  · skip
    refine wc_cond rfl (fun h5 => ?_) fun h5 => ?_
    · skip
      refine wc_skip ?_
      exact wq_meet () trivial (sub_cons rfl (sub_b rfl (by rw [h5]; rfl) sub_nil)) (some_cons pick0 some_nil)
    refine wc_region ?_
    refine wl_pure (po_eql rfl rfl) rfl ?_
    refine asg rfl rfl ?_
    refine wl_nil ?_
    exact wq_meet () trivial (sub_cons rfl (sub_b rfl (by rw [h5]; rfl) sub_nil)) (some_cons pick0 some_nil)
  intro _ _
  refine wq_then ?_
  refine wcO t0 rfl (fun h6 t0 => ?_) fun h6 t0 => ?_
  · skip
    refine wc_seq ?_
    refine bdO t0 fun y1 t1 t0 => ?_
    refine wj (J := Bool) (X := Unit) (fun z => y1 = z) (fun z _ => [(2, .bool z)]) (fun _ _ => []) ?_ ?_
    · skip
      refine wc_region ?_
      refine wl_pure (po_fld fo_23_1 rfl) rfl ?_
      refine wl_pure (v := .int .i64 a_a.A) (po_load_box tk_3 pick0 rfl rfl) rfl ?_
      refine bdO t1 fun v4 hv4 t1 => ?_
      refine wl_call (co_c0 fa_12 rfl fun w hw => c_impl_within w a_a.A 0 9 hv4) rfl fun _ => ?_
      refine mv rfl rfl ?_
      refine wlO_ (t := 31) t1 rfl (fun h7 t1 => ?_) fun h7 t1 => ?_
      · skip
        refine wl_guard_on (j := 3) rfl rfl rfl (wl_pure (po_fld fo_23_2 rfl) rfl ?_)
        refine wl_guard_on (j := 3) rfl rfl rfl (wl_pure (v := .int .i64 a_a.B) (po_load_box tk_3 pick0 rfl rfl) rfl ?_)
        refine wl_guard_on (j := 3) rfl rfl rfl (wl_pure (po_eql rfl rfl) rfl ?_)
        refine wl_pure (po_pick_t rfl rfl) rfl ?_
        refine asg rfl rfl ?_
        refine wl_nil ?_
        exact wj_meet _ () (mtE t1) (sub_cons rfl sub_nil) some_nil
      refine wl_guard_off (j := 3) rfl rfl rfl rfl rfl ?_
      refine wl_guard_off (j := 3) rfl rfl rfl rfl rfl ?_
      refine wl_guard_off (j := 3) rfl rfl rfl rfl rfl ?_
      refine wl_pure (po_pick_f rfl rfl) rfl ?_
      refine asg rfl rfl ?_
      refine wl_nil ?_
      exact wj_meet _ () (mtE t1) (sub_cons rfl sub_nil) some_nil
    intro j4 _ hp
    obtain rfl : j4 = y1 := hp.symm
    refine wq_then ?_
    refine wc_ret ?_
    refine wq_block_ret ?_
    refine wq_then_ret ?_
    obtain rfl := Option.some.inj t0
    exact wq_ret1 rfl rfl fun w hw => ⟨rfl, hw.weak some_nil⟩
  refine wc_skip ?_
  refine wq_block ?_
  refine wq_then ?_
  refine wc_seq ?_
  refine wc_join (X := Unit) (fun _ => True) (fun _ => [(2, .bool (bif (a_a.Kind == 4) then ((a_a.A == 0) && (a_a.B == 0)) else ((a_a.Kind == 5) && ((a_a.A == 0) && (a_a.B == 0)))))]) (fun _ => []) ?_ ?_
  · skip
    refine wc_region ?_
    refine wl_pure (po_fld fo_23_0 rfl) rfl ?_
    refine wl_pure (v := .int .i64 a_a.Kind) (po_load_box tk_3 pick0 rfl rfl) rfl ?_
    refine wl_pure (po_eql rfl rfl) rfl ?_
    refine mv rfl rfl ?_
    refine wl_fork (t := 39) rfl (fun h8 => ?_) fun h8 => ?_
    · skip
      refine wl_guard_off (j := 3) rfl rfl rfl rfl rfl ?_
      refine wl_guard_off (j := 3) rfl rfl rfl rfl rfl ?_
      refine wl_guard_off (j := 3) rfl rfl rfl rfl rfl ?_
      refine wl_pure (po_pick_t rfl rfl) rfl ?_
      refine mv rfl rfl ?_
      refine wl_guard_on (j := 8) rfl rfl rfl (wl_pure (po_fld fo_23_1 rfl) rfl ?_)
      refine wl_guard_on (j := 8) rfl rfl rfl (wl_pure (v := .int .i64 a_a.A) (po_load_box tk_3 pick0 rfl rfl) rfl ?_)
      refine wl_guard_on (j := 8) rfl rfl rfl (wl_pure (po_eql rfl rfl) rfl ?_)
      refine wl_pure (po_pick_t rfl rfl) rfl ?_
      refine mv rfl rfl ?_
      refine wl_fork (t := 49) rfl (fun h9 => ?_) fun h9 => ?_
      · skip
        refine wl_guard_on (j := 13) rfl rfl rfl (wl_pure (po_fld fo_23_2 rfl) rfl ?_)
        refine wl_guard_on (j := 13) rfl rfl rfl (wl_pure (v := .int .i64 a_a.B) (po_load_box tk_3 pick0 rfl rfl) rfl ?_)
        refine wl_guard_on (j := 13) rfl rfl rfl (wl_pure (po_eql rfl rfl) rfl ?_)
        refine wl_pure (po_pick_t rfl rfl) rfl ?_
        refine asg rfl rfl ?_
        refine wl_nil ?_
        exact wq_meet () trivial (sub_b rfl (by rw [h8, h9]; rfl) sub_nil) some_nil
      refine wl_guard_off (j := 13) rfl rfl rfl rfl rfl ?_
      refine wl_guard_off (j := 13) rfl rfl rfl rfl rfl ?_
      refine wl_guard_off (j := 13) rfl rfl rfl rfl rfl ?_
      refine wl_pure (po_pick_f rfl rfl) rfl ?_
      refine asg rfl rfl ?_
      refine wl_nil ?_
      exact wq_meet () trivial (sub_b rfl (by rw [h8, h9]; rfl) sub_nil) some_nil
    refine wl_guard_on (j := 3) rfl rfl rfl (wl_pure (po_fld fo_23_0 rfl) rfl ?_)
    refine wl_guard_on (j := 3) rfl rfl rfl (wl_pure (v := .int .i64 a_a.Kind) (po_load_box tk_3 pick0 rfl rfl) rfl ?_)
    refine wl_guard_on (j := 3) rfl rfl rfl (wl_pure (po_eql rfl rfl) rfl ?_)
    refine wl_pure (po_pick_f rfl rfl) rfl ?_
    refine mv rfl rfl ?_
    refine wl_fork (t := 44) rfl (fun h10 => ?_) fun h10 => ?_
    · skip
      refine wl_guard_on (j := 8) rfl rfl rfl (wl_pure (po_fld fo_23_1 rfl) rfl ?_)
      refine wl_guard_on (j := 8) rfl rfl rfl (wl_pure (v := .int .i64 a_a.A) (po_load_box tk_3 pick0 rfl rfl) rfl ?_)
      refine wl_guard_on (j := 8) rfl rfl rfl (wl_pure (po_eql rfl rfl) rfl ?_)
      refine wl_pure (po_pick_t rfl rfl) rfl ?_
      refine mv rfl rfl ?_
      refine wl_fork (t := 49) rfl (fun h11 => ?_) fun h11 => ?_
      · skip
        refine wl_guard_on (j := 13) rfl rfl rfl (wl_pure (po_fld fo_23_2 rfl) rfl ?_)
        refine wl_guard_on (j := 13) rfl rfl rfl (wl_pure (v := .int .i64 a_a.B) (po_load_box tk_3 pick0 rfl rfl) rfl ?_)
        refine wl_guard_on (j := 13) rfl rfl rfl (wl_pure (po_eql rfl rfl) rfl ?_)
        refine wl_pure (po_pick_t rfl rfl) rfl ?_
        refine asg rfl rfl ?_
        refine wl_nil ?_
        exact wq_meet () trivial (sub_b rfl (by rw [h8, h10, h11]; rfl) sub_nil) some_nil
      refine wl_guard_off (j := 13) rfl rfl rfl rfl rfl ?_
      refine wl_guard_off (j := 13) rfl rfl rfl rfl rfl ?_
      refine wl_guard_off (j := 13) rfl rfl rfl rfl rfl ?_
      refine wl_pure (po_pick_f rfl rfl) rfl ?_
      refine asg rfl rfl ?_
      refine wl_nil ?_
      exact wq_meet () trivial (sub_b rfl (by rw [h8, h10, h11]; rfl) sub_nil) some_nil
    refine wl_guard_off (j := 8) rfl rfl rfl rfl rfl ?_
    refine wl_guard_off (j := 8) rfl rfl rfl rfl rfl ?_
    refine wl_guard_off (j := 8) rfl rfl rfl rfl rfl ?_
    refine wl_pure (po_pick_f rfl rfl) rfl ?_
    refine mv rfl rfl ?_
    refine wl_guard_off (j := 13) rfl rfl rfl rfl rfl ?_
    refine wl_guard_off (j := 13) rfl rfl rfl rfl rfl ?_
    refine wl_guard_off (j := 13) rfl rfl rfl rfl rfl ?_
    refine wl_pure (po_pick_f rfl rfl) rfl ?_
    refine asg rfl rfl ?_
    refine wl_nil ?_
    exact wq_meet () trivial (sub_b rfl (by rw [h8, h10]; rfl) sub_nil) some_nil
  intro _ _
  refine wq_then ?_
  refine wc_ret ?_
  obtain rfl := Option.some.inj t0
  exact wq_ret1 rfl rfl fun w hw => ⟨rfl, hw.weak some_nil⟩


theorem c_impl_lineOf (w : World) (ht : Tb w) (a_word : Str) (a_list : List Int) (v0a : Hd) (r0 : rdF w (dm w []) (sl v0a) a_list) {r : Str} (t0 : impl_lineOf a_word a_list = some r) : Calls Tryd.prog 22 #[bs a_word, (sl v0a)] w fun e w' => e = .returned (bs r) ∧ SH w [] [] w' := by
  refine calls_of_wc (args := [_, _]) Tryd.func22 rfl Tryd.ntmps22 rfl ?_
  unfold impl_lineOf at t0
  refine wcr ?_
  refine asg rfl rfl ?_
  refine wnt ?_
  refine wcr ?_
  refine mv rfl rfl ?_
  refine wl_eff (eo_buildSlice rfl (sb_28_1 a_word)) rfl fun b1 => ?_
  refine asg rfl rfl ?_
  refine wnt ?_
  refine wc_seq ?_
  refine wcr ?_
  refine mv rfl rfl ?_
  refine wl_pure (po_lenr (rds_arg r0) el_32 rfl) rfl ?_
  refine mv rfl rfl ?_
  refine wnt ?_
  refine gdO t0 fun g1 t0 => ?_
  refine lpO_inv t0 fun y1 l1 t0 => ?_
  refine wj (J := List Str) (X := Hd) (fun z => y1 = z) (fun _ x => [(5, (sl x))]) (fun z x => [ownF (sl x) z]) ?_ ?_
  · skip
    refine wc_block ?_
    refine wc_forO (X := Hd) l1 (fun k1 s1 x1l => [(5, (sl x1l)), (10, (sl v0a)), (11, .int .i64 ((a_list.length : Nat) : Int)), (12, .int .i64 ((k1 : Nat) : Int))]) (fun k1 s1 x1l => [ownF (sl x1l) s1]) (⟨some ⟨b1, 0, none⟩, 1, 1⟩ : Hd) (sub_cons rfl (sub_cons rfl (sub_cons rfl (sub_cons rfl sub_nil)))) (some_cons (pick_box_own pick0 (n := 1) (xs := ([a_word] : List Str)) rfl rfl (by unfold maxLen; omega)) some_nil) fun k1 s1 x1l hN1 l1 => ?_
    by_cases hk1 : k1 < a_list.length
    · skip
      refine forO_step l1 hk1 fun _ t1 l1 => ?_
      unfold impl_lineOf_L1 at t1
      have c1 : (decide (((k1 : Nat) : Int) < ((a_list.length : Nat) : Int))) = true := decide_eq_true (by omega)
      refine wcr ?_
      refine wl_pure (po_lss rfl rfl) rfl ?_
      refine wnt ?_
      refine wc_seq ?_
      refine wc_cond_t rfl c1 ?_
      refine wc_skip ?_
      refine wq_then ?_
      refine wc_seq ?_
      refine wc_block ?_
      refine wcr ?_
      refine wl_pure (po_ixn (k := k1) (rds_arg r0) el_32 rfl rfl hk1) rfl ?_
      refine wl_pure (v := .int .i64 (gx a_list k1)) (po_ldf (rds_arg r0) tk_3 rfl hk1 rfl) rfl ?_
      refine asg rfl rfl ?_
      refine wnt ?_
      refine wc_region ?_
      refine mv rfl rfl ?_
      refine mv rfl rfl ?_
      refine bdO t1 fun v1 hv1 t1 => ?_
      refine wl_call (co_c0 fa_20 rfl fun w hw => c_impl_FormatInt_b w (hw.tab ht) (gx a_list k1) hv1) rfl fun _ => ?_
      refine wl_eff (eo_buildSlice rfl (sb_28_1 v1)) rfl fun b2 => ?_
      refine gdO t1 fun g2 t1 => ?_
      refine wl_eff (eo_append (xs := s1) (ys := ([v1] : List Str)) ak_28 (pickS pick0) rfl rfl (slin_rd fun _ g => Rg.on (rds_own (pick_box_own pick0 (n := 1) (xs := ([v1] : List Str)) rfl rfl (by unfold maxLen; omega))) g) g2) rfl fun x2 => ?_
      refine asg rfl rfl ?_
      refine wl_nil ?_
      refine wq_block ?_
      refine wq_then ?_
      refine wc_region ?_
      refine wl_pure (po_inc rfl rfl (by omega)) rfl ?_
      refine mv rfl rfl ?_
      refine wl_nil ?_
      exact wq_rnd hk1 (stpN l1 t1) x2 (sub_cons rfl (sub_cons rfl (sub_cons rfl (sub_cons rfl sub_nil)))) (some_cons pick0 some_nil)
    have c1 : (decide (((k1 : Nat) : Int) < ((a_list.length : Nat) : Int))) = false := decide_eq_false (by omega)
    have en1 := forO_end l1 hk1
    refine wcr ?_
    refine wl_pure (po_lss rfl rfl) rfl ?_
    refine wnt ?_
    refine wc_seq ?_
    refine wc_cond_f rfl c1 ?_
    refine wc_exit ?_
    refine wq_then_exit ?_
    refine wq_then_exit ?_
    refine wq_block_exit ?_
    exact wj_meet _ x1l (Sum.inl.inj en1) (sub_cons rfl sub_nil) (some_cons pick0 some_nil)
  intro e1 x1 hp
  obtain rfl : e1 = y1 := hp.symm
  refine wq_then ?_
  refine wcr ?_
  refine mv rfl rfl ?_
  refine bdO t0 fun v2 hv2 t0 => ?_
  refine wl_call (co_c0 fa_15 rfl fun w hw => c_strings_Join w e1 x1 (Rg.on (rds_own pick0) hw) (⟨[32]⟩ : Str) hv2) rfl fun _ => ?_
  refine asg rfl rfl ?_
  refine wnt ?_
  refine wc_ret ?_
  obtain rfl := Option.some.inj t0
  exact wq_ret1 rfl rfl fun w hw => ⟨rfl, hw.weak some_nil⟩

theorem c_impl_FormatAct (w : World) (ht : Tb w) (a_a : GAct) {r : Str × Bool} (t0 : impl_FormatAct a_a = some r) : Calls Tryd.prog 14 #[.agg #[.int .i64 a_a.Kind, .int .i64 a_a.A, .int .i64 a_a.B]] w fun e w' => e = .returned (.tuple #[bs r.1, .bool r.2]) ∧ SH w [] [] w' := by
  refine calls_of_wc (args := [_]) Tryd.func14 rfl Tryd.ntmps14 rfl ?_
  unfold impl_FormatAct at t0
  refine wcr ?_
  refine wl_eff (eo_box rfl rfl) rfl fun b1 => ?_
  refine asg rfl rfl ?_
  refine asg rfl rfl ?_
  refine wnt ?_
  refine wc_seq ?_
  refine wcr ?_
  refine wl_pure (v := .agg #[.int .i64 a_a.Kind, .int .i64 a_a.A, .int .i64 a_a.B]) (po_load_boxs tk_23 pick0 rfl rfl rfl) rfl ?_
  refine bdO t0 fun v1 hv1 t0 => ?_
  refine wl_call (co_c0 fa_21 rfl fun w hw => c_impl_ActOk w a_a hv1) rfl fun _ => ?_
  refine wl_pure (po_not rfl) rfl ?_
  refine wnt ?_
  refine wcO t0 rfl (fun h1 t0 => ?_) fun h1 t0 => ?_
  · skip
    refine wcr ?_
    refine asg rfl rfl ?_
    refine asg rfl rfl ?_
    refine wnt ?_
    refine wc_ret ?_
    refine wq_then_ret ?_
    obtain rfl := Option.some.inj t0
    exact wq_ret2 rfl rfl rfl fun w hw => ⟨rfl, hw.weak some_nil⟩
  refine wc_skip ?_
  refine wq_then ?_
  refine wc_seq ?_
  refine wcr ?_
  refine wl_pure (po_fld fo_23_0 rfl) rfl ?_
  refine wl_pure (v := .int .i64 a_a.Kind) (po_load_box tk_3 pick0 rfl rfl) rfl ?_
  refine wnt ?_
  refine wc_block ?_
  refine wcr ?_
  refine wl_pure (po_eql rfl rfl) rfl ?_
  refine asg rfl rfl ?_
  refine wnt ?_
  refine wcO t0 rfl (fun h2 t0 => ?_) fun h2 t0 => ?_
  · skip
    refine wcr ?_
    refine wl_pure (po_fld fo_23_1 rfl) rfl ?_
    refine wl_pure (v := .int .i64 a_a.A) (po_load_box tk_3 pick0 rfl rfl) rfl ?_
    refine wl_eff (eo_buildSlice rfl (sb_32_1 a_a.A)) rfl fun b2 => ?_
    refine bdO t0 fun v2 hv2 t0 => ?_
    refine wl_call (co_c0 fa_22 rfl fun w hw => c_impl_lineOf w (hw.tab ht) (⟨[97, 100, 109, 105, 116]⟩ : Str) ([a_a.A] : List Int) (⟨some ⟨b2, 0, none⟩, 1, 1⟩ : Hd) (Rg.on (rds_own (pick_box_own pick0 (n := 1) (xs := ([a_a.A] : List Int)) rfl rfl (by unfold maxLen; omega))) hw) hv2) rfl fun _ => ?_
    refine asg rfl rfl ?_
    refine asg rfl rfl ?_
    refine wnt ?_
    refine wc_ret ?_
    refine wq_block_ret ?_
    refine wq_then_ret ?_
    obtain rfl := Option.some.inj t0
    exact wq_ret2 rfl rfl rfl fun w hw => ⟨rfl, hw.weak some_nil⟩
  refine wcr ?_
  refine wl_pure (po_eql rfl rfl) rfl ?_
  refine asg rfl rfl ?_
  refine wnt ?_
  refine wcO t0 rfl (fun h3 t0 => ?_) fun h3 t0 => ?_
  · skip
    refine wcr ?_
    refine wl_pure (po_fld fo_23_1 rfl) rfl ?_
    refine wl_pure (v := .int .i64 a_a.A) (po_load_box tk_3 pick0 rfl rfl) rfl ?_
    refine wl_pure (po_fld fo_23_2 rfl) rfl ?_
    refine wl_pure (v := .int .i64 a_a.B) (po_load_box tk_3 pick0 rfl rfl) rfl ?_
    refine wl_eff (eo_buildSlice rfl (sb_32_2 a_a.A a_a.B)) rfl fun b3 => ?_
    refine bdO t0 fun v3 hv3 t0 => ?_
    refine wl_call (co_c0 fa_22 rfl fun w hw => c_impl_lineOf w (hw.tab ht) (⟨[115, 117, 98, 109, 105, 116]⟩ : Str) ([a_a.A, a_a.B] : List Int) (⟨some ⟨b3, 0, none⟩, 2, 2⟩ : Hd) (Rg.on (rds_own (pick_box_own pick0 (n := 2) (xs := ([a_a.A, a_a.B] : List Int)) rfl rfl (by unfold maxLen; omega))) hw) hv3) rfl fun _ => ?_
    refine asg rfl rfl ?_
    refine asg rfl rfl ?_
    refine wnt ?_
    refine wc_ret ?_
    refine wq_block_ret ?_
    refine wq_then_ret ?_
    obtain rfl := Option.some.inj t0
    exact wq_ret2 rfl rfl rfl fun w hw => ⟨rfl, hw.weak some_nil⟩
  refine wcr ?_
  refine wl_pure (po_eql rfl rfl) rfl ?_
  refine asg rfl rfl ?_
  refine wnt ?_
  refine wcO t0 rfl (fun h4 t0 => ?_) fun h4 t0 => ?_
  · skip
    refine wcr ?_
    refine wl_pure (po_fld fo_23_1 rfl) rfl ?_
    refine wl_pure (v := .int .i64 a_a.A) (po_load_box tk_3 pick0 rfl rfl) rfl ?_
    refine wl_eff (eo_buildSlice rfl (sb_32_1 a_a.A)) rfl fun b4 => ?_
    refine bdO t0 fun v4 hv4 t0 => ?_
    refine wl_call (co_c0 fa_22 rfl fun w hw => c_impl_lineOf w (hw.tab ht) (⟨[115, 101, 119]⟩ : Str) ([a_a.A] : List Int) (⟨some ⟨b4, 0, none⟩, 1, 1⟩ : Hd) (Rg.on (rds_own (pick_box_own pick0 (n := 1) (xs := ([a_a.A] : List Int)) rfl rfl (by unfold maxLen; omega))) hw) hv4) rfl fun _ => ?_
    refine asg rfl rfl ?_
    refine asg rfl rfl ?_
    refine wnt ?_
    refine wc_ret ?_
    refine wq_block_ret ?_
    refine wq_then_ret ?_
    obtain rfl := Option.some.inj t0
    exact wq_ret2 rfl rfl rfl fun w hw => ⟨rfl, hw.weak some_nil⟩
  refine wcr ?_
  refine wl_pure (po_eql rfl rfl) rfl ?_
  refine asg rfl rfl ?_
  refine wnt ?_
  refine wcO t0 rfl (fun h5 t0 => ?_) fun h5 t0 => ?_
  · skip
    refine wcr ?_
    refine wl_pure (po_fld fo_23_1 rfl) rfl ?_
    refine wl_pure (v := .int .i64 a_a.A) (po_load_box tk_3 pick0 rfl rfl) rfl ?_
    refine wl_eff (eo_buildSlice rfl (sb_32_1 a_a.A)) rfl fun b5 => ?_
    refine bdO t0 fun v5 hv5 t0 => ?_
    refine wl_call (co_c0 fa_22 rfl fun w hw => c_impl_lineOf w (hw.tab ht) (⟨[108, 97, 99, 107]⟩ : Str) ([a_a.A] : List Int) (⟨some ⟨b5, 0, none⟩, 1, 1⟩ : Hd) (Rg.on (rds_own (pick_box_own pick0 (n := 1) (xs := ([a_a.A] : List Int)) rfl rfl (by unfold maxLen; omega))) hw) hv5) rfl fun _ => ?_
    refine asg rfl rfl ?_
    refine asg rfl rfl ?_
    refine wnt ?_
    refine wc_ret ?_
    refine wq_block_ret ?_
    refine wq_then_ret ?_
    obtain rfl := Option.some.inj t0
    exact wq_ret2 rfl rfl rfl fun w hw => ⟨rfl, hw.weak some_nil⟩
  refine wcr ?_
  refine wl_pure (po_eql rfl rfl) rfl ?_
  refine asg rfl rfl ?_
  refine wnt ?_
  refine wcO t0 rfl (fun h6 t0 => ?_) fun h6 t0 => ?_
  · skip
    refine wcr ?_
    refine asg rfl rfl ?_
    refine asg rfl rfl ?_
    refine wnt ?_
    refine wc_ret ?_
    refine wq_block_ret ?_
    refine wq_then_ret ?_
    obtain rfl := Option.some.inj t0
    exact wq_ret2 rfl rfl rfl fun w hw => ⟨rfl, hw.weak some_nil⟩
  refine wc_skip ?_
  refine wq_block ?_
  refine wq_then ?_
  refine wcr ?_
  refine asg rfl rfl ?_
  refine asg rfl rfl ?_
  refine wnt ?_
  refine wc_ret ?_
  obtain rfl := Option.some.inj t0
  exact wq_ret2 rfl rfl rfl fun w hw => ⟨rfl, hw.weak some_nil⟩

theorem c_impl_ParseAct (w : World) (ht : Tb w) (a_line : Str) {r : GAct × Bool} (t0 : impl_ParseAct a_line = some r) : Calls Tryd.prog 5 #[bs a_line] w fun e w' => e = .returned (.tuple #[.agg #[.int .i64 r.1.Kind, .int .i64 r.1.A, .int .i64 r.1.B], .bool r.2]) ∧ SH w [] [] w' := by
  refine calls_of_wc (args := [_]) Tryd.func5 rfl Tryd.ntmps5 rfl ?_
  unfold impl_ParseAct at t0
  refine wcr ?_
  refine wl_eff (eo_alloc (cs := [.int .i64 0, .int .i64 0, .int .i64 0]) za_23) rfl fun b1 => ?_
  refine asg rfl rfl ?_
  refine wnt ?_
  refine wcr ?_
  refine mv rfl rfl ?_
  refine bdO t0 fun v1 hv1 t0 => ?_
  refine wl_call (co_c1 fa_11 rfl fun w hw => c_impl_SplitFields w a_line hv1) rfl fun x1 => ?_
  refine mv rfl rfl ?_
  refine wl_pure (po_extract rfl rfl) rfl ?_
  refine wl_pure (po_extract rfl rfl) rfl ?_
  refine asg rfl rfl ?_
  refine asg rfl rfl ?_
  refine wnt ?_
  refine wc_seq ?_
  refine wc_seq ?_
  refine bdO t0 fun y1 t1 t0 => ?_
  refine wj (J := Bool) (X := Unit) (fun z => y1 = z) (fun z _ => [(2, ptr b1 0), (4, (sl x1)), (28, .bool z)]) (fun _ _ => [box b1 [.int .i64 0, .int .i64 0, .int .i64 0], ownF (sl x1) v1.1]) ?_ ?_
  · skip
    refine wc_region ?_
    refine mv rfl rfl ?_
    refine wl_pure (po_not rfl) rfl ?_
    refine mv rfl rfl ?_
    refine wlO_ (t := 23) t1 rfl (fun h1 t1 => ?_) fun h1 t1 => ?_
    · skip
      refine wl_guard_off (j := 2) rfl rfl rfl rfl rfl ?_
      refine wl_guard_off (j := 2) rfl rfl rfl rfl rfl ?_
      refine wl_guard_off (j := 2) rfl rfl rfl rfl rfl ?_
      refine wl_guard_off (j := 2) rfl rfl rfl rfl rfl ?_
      refine wl_pure (po_pick_t rfl rfl) rfl ?_
      refine wl_nil ?_
      exact wj_meet _ () (mtE t1) (sub_cons rfl (sub_cons rfl (sub_cons rfl sub_nil))) (some_cons (pickS pick0) (some_cons pick0 some_nil))
    refine wl_guard_on (j := 2) rfl rfl rfl (mv rfl rfl ?_)
    refine wl_guard_on (j := 2) rfl rfl rfl (wl_pure (po_lenr (rds_own pick0) el_28 rfl) rfl ?_)
    refine bdO t1 fun v2 hv2 t1 => ?_
    refine wl_guard_on (j := 2) rfl rfl rfl (wl_call (co_c0 fa_12 rfl fun w hw => c_impl_within w ((v1.1.length : Nat) : Int) 1 3 hv2) rfl (fun _ => ?_))
    refine wl_guard_on (j := 2) rfl rfl rfl (wl_pure (po_not rfl) rfl ?_)
    refine wl_pure (po_pick_f rfl rfl) rfl ?_
    refine wl_nil ?_
    exact wj_meet _ () (mtE t1) (sub_cons rfl (sub_cons rfl (sub_cons rfl sub_nil))) (some_cons (pickS pick0) (some_cons pick0 some_nil))
  intro j1 _ hp
  obtain rfl : j1 = y1 := hp.symm
  refine wq_then ?_
  refine wcO t0 rfl (fun h2 t0 => ?_) fun h2 t0 => ?_
  · skip
    refine wcr ?_
    refine wl_pure (po_build rfl bd_23) rfl ?_
    refine wl_skipop (so_box (cs' := [.int .i64 0, .int .i64 0, .int .i64 0]) tk_23 pick0 rfl rfl rfl rfl rfl rfl rfl) ?_
    refine asg rfl rfl ?_
    refine wnt ?_
    refine wc_ret ?_
    refine wq_then_ret ?_
    obtain rfl := Option.some.inj t0
    exact wq_retc1 rfl tk_23 rfl rfl pick0 rfl fun w hw => ⟨rfl, hw.weak some_nil⟩
  refine wc_skip ?_
  refine wq_then ?_
  refine wcr ?_
  refine wl_eff (eo_buildSlice (qs := [(0, bs (⟨[]⟩ : Str)), (1, bs (⟨[97, 100, 109, 105, 116]⟩ : Str)), (2, bs (⟨[115, 117, 98, 109, 105, 116]⟩ : Str)), (3, bs (⟨[115, 101, 119]⟩ : Str)), (4, bs (⟨[114, 111, 117, 110, 100]⟩ : Str)), (5, bs (⟨[121, 101, 97, 114]⟩ : Str)), (6, bs (⟨[108, 97, 99, 107]⟩ : Str))]) rfl (sb_28_7 (⟨[]⟩ : Str) (⟨[97, 100, 109, 105, 116]⟩ : Str) (⟨[115, 117, 98, 109, 105, 116]⟩ : Str) (⟨[115, 101, 119]⟩ : Str) (⟨[114, 111, 117, 110, 100]⟩ : Str) (⟨[121, 101, 97, 114]⟩ : Str) (⟨[108, 97, 99, 107]⟩ : Str))) rfl fun b2 => ?_
  refine asg rfl rfl ?_
  refine wnt ?_
  refine wcr ?_
  refine wl_pure (po_build rfl bd_23) rfl ?_
  refine wl_eff (eo_alloc (cs := [.int .i64 0, .int .i64 0, .int .i64 0]) za_23) rfl fun b3 => ?_
  refine wl_skipop (so_box (cs' := [.int .i64 0, .int .i64 0, .int .i64 0]) tk_23 pick0 rfl rfl rfl rfl rfl rfl rfl) ?_
  refine wnt ?_
  refine wc_seq ?_
  refine wcr ?_
  refine mv rfl rfl ?_
  refine wl_pure (po_lenr (rds_own (pick_box_own (pickS pick0) (n := 7) (xs := ([(⟨[]⟩ : Str), (⟨[97, 100, 109, 105, 116]⟩ : Str), (⟨[115, 117, 98, 109, 105, 116]⟩ : Str), (⟨[115, 101, 119]⟩ : Str), (⟨[114, 111, 117, 110, 100]⟩ : Str), (⟨[121, 101, 97, 114]⟩ : Str), (⟨[108, 97, 99, 107]⟩ : Str)] : List Str)) rfl rfl (by unfold maxLen; omega))) el_28 rfl) rfl ?_
  refine mv rfl rfl ?_
  refine wnt ?_
  refine gdO t0 fun g1 t0 => ?_
  refine lpO_inv t0 fun y1 l1 t0 => ?_
  refine wj (J := Int) (X := Unit) (fun z => y1 = z) (fun _ _ => [(2, ptr b1 0), (4, (sl x1)), (7, ptr b3 0)]) (fun z _ => [box b3 [.int .i64 z, .int .i64 0, .int .i64 0], box b1 [.int .i64 0, .int .i64 0, .int .i64 0], ownF (sl x1) v1.1]) ?_ ?_
  · skip
    refine wc_block ?_
    refine wc_forO (X := Unit) l1 (fun k1 s1 x1l => [(2, ptr b1 0), (4, (sl x1)), (7, ptr b3 0), (32, (sl (⟨some ⟨b2, 0, none⟩, 7, 7⟩ : Hd))), (33, .int .i64 ((([(⟨[]⟩ : Str), (⟨[97, 100, 109, 105, 116]⟩ : Str), (⟨[115, 117, 98, 109, 105, 116]⟩ : Str), (⟨[115, 101, 119]⟩ : Str), (⟨[114, 111, 117, 110, 100]⟩ : Str), (⟨[121, 101, 97, 114]⟩ : Str), (⟨[108, 97, 99, 107]⟩ : Str)] : List Str).length : Nat) : Int)), (34, .int .i64 ((k1 : Nat) : Int))]) (fun k1 s1 x1l => [box b3 [.int .i64 s1, .int .i64 0, .int .i64 0], box b2 [bs (⟨[]⟩ : Str), bs (⟨[97, 100, 109, 105, 116]⟩ : Str), bs (⟨[115, 117, 98, 109, 105, 116]⟩ : Str), bs (⟨[115, 101, 119]⟩ : Str), bs (⟨[114, 111, 117, 110, 100]⟩ : Str), bs (⟨[121, 101, 97, 114]⟩ : Str), bs (⟨[108, 97, 99, 107]⟩ : Str)], box b1 [.int .i64 0, .int .i64 0, .int .i64 0], ownF (sl x1) v1.1]) () (sub_cons rfl (sub_cons rfl (sub_cons rfl (sub_cons rfl (sub_cons rfl (sub_cons rfl sub_nil)))))) (some_cons pick0 (some_cons pick0 (some_cons pick0 (some_cons pick0 some_nil)))) fun k1 s1 x1l hN1 l1 => ?_
    by_cases hk1 : k1 < ([(⟨[]⟩ : Str), (⟨[97, 100, 109, 105, 116]⟩ : Str), (⟨[115, 117, 98, 109, 105, 116]⟩ : Str), (⟨[115, 101, 119]⟩ : Str), (⟨[114, 111, 117, 110, 100]⟩ : Str), (⟨[121, 101, 97, 114]⟩ : Str), (⟨[108, 97, 99, 107]⟩ : Str)] : List Str).length
    · skip
      refine forO_step l1 hk1 fun _ t1 l1 => ?_
      unfold impl_ParseAct_L1 at t1
      have c1 : (decide (((k1 : Nat) : Int) < ((([(⟨[]⟩ : Str), (⟨[97, 100, 109, 105, 116]⟩ : Str), (⟨[115, 117, 98, 109, 105, 116]⟩ : Str), (⟨[115, 101, 119]⟩ : Str), (⟨[114, 111, 117, 110, 100]⟩ : Str), (⟨[121, 101, 97, 114]⟩ : Str), (⟨[108, 97, 99, 107]⟩ : Str)] : List Str).length : Nat) : Int))) = true := decide_eq_true (by omega)
      refine wcr ?_
      refine wl_pure (po_lss rfl rfl) rfl ?_
      refine wnt ?_
      refine wc_seq ?_
      refine wc_cond_t rfl c1 ?_
      refine wc_skip ?_
      refine wq_then ?_
      refine wc_seq ?_
      refine wc_block ?_
      refine wcr ?_
      refine mv rfl rfl ?_
      refine wl_pure (po_ixn (k := k1) (rds_own (pick_box_own (pickS pick0) (n := 7) (xs := ([(⟨[]⟩ : Str), (⟨[97, 100, 109, 105, 116]⟩ : Str), (⟨[115, 117, 98, 109, 105, 116]⟩ : Str), (⟨[115, 101, 119]⟩ : Str), (⟨[114, 111, 117, 110, 100]⟩ : Str), (⟨[121, 101, 97, 114]⟩ : Str), (⟨[108, 97, 99, 107]⟩ : Str)] : List Str)) rfl rfl (by unfold maxLen; omega))) el_28 rfl rfl hk1) rfl ?_
      refine wl_pure (v := bs (gx ([(⟨[]⟩ : Str), (⟨[97, 100, 109, 105, 116]⟩ : Str), (⟨[115, 117, 98, 109, 105, 116]⟩ : Str), (⟨[115, 101, 119]⟩ : Str), (⟨[114, 111, 117, 110, 100]⟩ : Str), (⟨[121, 101, 97, 114]⟩ : Str), (⟨[108, 97, 99, 107]⟩ : Str)] : List Str) k1)) (po_ldf (rds_own (pick_box_own (pickS pick0) (n := 7) (xs := ([(⟨[]⟩ : Str), (⟨[97, 100, 109, 105, 116]⟩ : Str), (⟨[115, 117, 98, 109, 105, 116]⟩ : Str), (⟨[115, 101, 119]⟩ : Str), (⟨[114, 111, 117, 110, 100]⟩ : Str), (⟨[121, 101, 97, 114]⟩ : Str), (⟨[108, 97, 99, 107]⟩ : Str)] : List Str)) rfl rfl (by unfold maxLen; omega))) tk_9 rfl hk1 rfl) rfl ?_
      refine asg rfl rfl ?_
      refine asg rfl rfl ?_
      refine wnt ?_
      refine wcr ?_
      refine mv rfl rfl ?_
      refine mv rfl rfl ?_
      refine gdO t1 fun g2 t1 => ?_
      refine wl_pure (po_ixn (k := 0) (rds_own (pickS (pickS (pickS pick0)))) el_28 rfl rfl g2) rfl ?_
      refine wl_pure (v := bs (gx v1.1 0)) (po_ldf (rds_own (pickS (pickS (pickS pick0)))) tk_9 rfl g2 rfl) rfl ?_
      refine wl_pure (po_seql rfl rfl) rfl ?_
      refine wnt ?_
      refine wc_join (X := Unit) (fun _ => True) (fun _ => [(2, ptr b1 0), (4, (sl x1)), (7, ptr b3 0), (32, (sl (⟨some ⟨b2, 0, none⟩, 7, 7⟩ : Hd))), (33, .int .i64 ((([(⟨[]⟩ : Str), (⟨[97, 100, 109, 105, 116]⟩ : Str), (⟨[115, 117, 98, 109, 105, 116]⟩ : Str), (⟨[115, 101, 119]⟩ : Str), (⟨[114, 111, 117, 110, 100]⟩ : Str), (⟨[121, 101, 97, 114]⟩ : Str), (⟨[108, 97, 99, 107]⟩ : Str)] : List Str).length : Nat) : Int)), (34, .int .i64 ((k1 : Nat) : Int))]) (fun _ => [box b3 [.int .i64 (bif (seq (gx ([(⟨[]⟩ : Str), (⟨[97, 100, 109, 105, 116]⟩ : Str), (⟨[115, 117, 98, 109, 105, 116]⟩ : Str), (⟨[115, 101, 119]⟩ : Str), (⟨[114, 111, 117, 110, 100]⟩ : Str), (⟨[121, 101, 97, 114]⟩ : Str), (⟨[108, 97, 99, 107]⟩ : Str)] : List Str) k1) (gx v1.1 0)) then ((k1 : Nat) : Int) else s1), .int .i64 0, .int .i64 0], box b1 [.int .i64 0, .int .i64 0, .int .i64 0], box b2 [bs (⟨[]⟩ : Str), bs (⟨[97, 100, 109, 105, 116]⟩ : Str), bs (⟨[115, 117, 98, 109, 105, 116]⟩ : Str), bs (⟨[115, 101, 119]⟩ : Str), bs (⟨[114, 111, 117, 110, 100]⟩ : Str), bs (⟨[121, 101, 97, 114]⟩ : Str), bs (⟨[108, 97, 99, 107]⟩ : Str)], ownF (sl x1) v1.1]) ?_ ?_
      · skip
        refine wc_cond rfl (fun h3 => ?_) fun h3 => ?_
        · skip
          refine wc_region ?_
          refine mv rfl rfl ?_
          refine wl_pure (po_fld fo_23_0 rfl) rfl ?_
          refine wl_skipop (so_box (cs' := [.int .i64 ((k1 : Nat) : Int), .int .i64 0, .int .i64 0]) tk_3 pick0 rfl rfl rfl rfl rfl rfl rfl) ?_
          refine wl_nil ?_
          exact wq_meet () trivial (sub_cons rfl (sub_cons rfl (sub_cons rfl (sub_cons rfl (sub_cons rfl (sub_cons rfl sub_nil)))))) (some_cons (by simp only [h3, cond_true]; exact pick0) (some_cons (pickS pick0) (some_cons pick0 (some_cons pick0 some_nil))))
        refine wc_skip ?_
        exact wq_meet () trivial (sub_cons rfl (sub_cons rfl (sub_cons rfl (sub_cons rfl (sub_cons rfl (sub_cons rfl sub_nil)))))) (some_cons (by simp only [h3, cond_false]; exact pick0) (some_cons (pickS pick0) (some_cons pick0 (some_cons pick0 some_nil))))
      intro _ _
      refine wq_block ?_
      refine wq_then ?_
      refine wc_region ?_
      refine wl_pure (po_inc rfl rfl (by omega)) rfl ?_
      refine mv rfl rfl ?_
      refine wl_nil ?_
      exact wq_rnd hk1 (stpN l1 t1) () (sub_cons rfl (sub_cons rfl (sub_cons rfl (sub_cons rfl (sub_cons rfl (sub_cons rfl sub_nil)))))) (some_cons pick0 (some_cons (pickS pick0) (some_cons pick0 (some_cons pick0 some_nil))))
    have c1 : (decide (((k1 : Nat) : Int) < ((([(⟨[]⟩ : Str), (⟨[97, 100, 109, 105, 116]⟩ : Str), (⟨[115, 117, 98, 109, 105, 116]⟩ : Str), (⟨[115, 101, 119]⟩ : Str), (⟨[114, 111, 117, 110, 100]⟩ : Str), (⟨[121, 101, 97, 114]⟩ : Str), (⟨[108, 97, 99, 107]⟩ : Str)] : List Str).length : Nat) : Int))) = false := decide_eq_false (by omega)
    have en1 := forO_end l1 hk1
    refine wcr ?_
    refine wl_pure (po_lss rfl rfl) rfl ?_
    refine wnt ?_
    refine wc_seq ?_
    refine wc_cond_f rfl c1 ?_
    refine wc_exit ?_
    refine wq_then_exit ?_
    refine wq_then_exit ?_
    refine wq_block_exit ?_
    exact wj_meet _ () (Sum.inl.inj en1) (sub_cons rfl (sub_cons rfl (sub_cons rfl sub_nil))) (some_cons pick0 (some_cons (pickS pick0) (some_cons (pickS pick0) some_nil)))
  intro e1 _ hp
  obtain rfl : e1 = y1 := hp.symm
  refine wq_then ?_
  refine wc_seq ?_
  refine wcr ?_
  refine mv rfl rfl ?_
  refine gdO t0 fun g3 t0 => ?_
  refine wl_pure (po_cutr (l := 1) (h := v1.1.length) (rds_own (pickS (pickS pick0))) el_28 rfl (.inr ⟨_, rfl, rfl⟩) (.inl ⟨rfl, rfl⟩) g3.1 g3.2) rfl ?_
  refine wl_pure (po_lenr (rds_cut (rds_own (pickS (pickS pick0))) g3.1 g3.2) el_28 rfl) rfl ?_
  refine mv rfl rfl ?_
  refine wnt ?_
  refine gdO t0 fun g4 t0 => ?_
  refine sqO t0 fun y1 l1 t0 => ?_
  refine wj (J := Int × Int × Int) (X := Unit) (fun z => y1 = .inl z) (fun _ _ => [(2, ptr b1 0), (4, (sl x1)), (7, ptr b3 0)]) (fun z _ => [box b3 [.int .i64 z.1, .int .i64 z.2.1, .int .i64 z.2.2], box b1 [.int .i64 0, .int .i64 0, .int .i64 0], ownF (sl x1) v1.1]) ?_ ?_
  · skip
    refine wc_block ?_
    refine wc_forO (X := Unit) l1 (fun k2 s2 x2l => [(2, ptr b1 0), (4, (sl x1)), (7, ptr b3 0), (48, (sl (slh x1 1 v1.1.length (Rep.sz Str)))), (49, .int .i64 ((((v1.1.drop 1).take (v1.1.length - 1)).length : Nat) : Int)), (50, .int .i64 ((k2 : Nat) : Int))]) (fun k2 s2 x2l => [box b3 [.int .i64 s2.1, .int .i64 s2.2.1, .int .i64 s2.2.2], box b1 [.int .i64 0, .int .i64 0, .int .i64 0], ownF (sl x1) v1.1]) () (sub_cons rfl (sub_cons rfl (sub_cons rfl (sub_cons rfl (sub_cons rfl (sub_cons rfl sub_nil)))))) (some_cons pick0 (some_cons pick0 (some_cons pick0 some_nil))) fun k2 s2 x2l hN2 l1 => ?_
    by_cases hk2 : k2 < ((v1.1.drop 1).take (v1.1.length - 1)).length
    · skip
      refine forO_step l1 hk2 fun _ t1 l1 => ?_
      unfold impl_ParseAct_L2 at t1
      have c2 : (decide (((k2 : Nat) : Int) < ((((v1.1.drop 1).take (v1.1.length - 1)).length : Nat) : Int))) = true := decide_eq_true (by omega)
      refine wcr ?_
      refine wl_pure (po_lss rfl rfl) rfl ?_
      refine wnt ?_
      refine wc_seq ?_
      refine wc_cond_t rfl c2 ?_
      refine wc_skip ?_
      refine wq_then ?_
      refine wc_seq ?_
      refine wc_block ?_
      refine wcr ?_
      refine mv rfl rfl ?_
      refine wl_pure (po_ixn (k := k2) (rds_cut (rds_own (pickS (pickS pick0))) g3.1 g3.2) el_28 rfl rfl hk2) rfl ?_
      refine wl_pure (v := bs (gx ((v1.1.drop 1).take (v1.1.length - 1)) k2)) (po_ldf (rds_cut (rds_own (pickS (pickS pick0))) g3.1 g3.2) tk_9 rfl hk2 rfl) rfl ?_
      refine asg rfl rfl ?_
      refine asg rfl rfl ?_
      refine wnt ?_
      refine wcr ?_
      refine mv rfl rfl ?_
      refine bdO t1 fun v3 hv3 t1 => ?_
      refine wl_call (co_c0 fa_13 rfl fun w hw => c_impl_ParseUint w (hw.tab ht) (gx ((v1.1.drop 1).take (v1.1.length - 1)) k2) hv3) rfl fun _ => ?_
      refine mv rfl rfl ?_
      refine wl_pure (po_extract rfl rfl) rfl ?_
      refine wl_pure (po_extract rfl rfl) rfl ?_
      refine asg rfl rfl ?_
      refine asg rfl rfl ?_
      refine wnt ?_
      refine wc_seq ?_
      refine wcr ?_
      refine mv rfl rfl ?_
      refine wl_pure (po_not rfl) rfl ?_
      refine wnt ?_
      refine wcO t1 rfl (fun h4 t1 => ?_) fun h4 t1 => ?_
      · skip
        refine wcr ?_
        refine wl_pure (po_build rfl bd_23) rfl ?_
        refine wl_skipop (so_box (cs' := [.int .i64 0, .int .i64 0, .int .i64 0]) tk_23 (pickS pick0) rfl rfl rfl rfl rfl rfl rfl) ?_
        refine asg rfl rfl ?_
        refine wnt ?_
        refine wc_ret ?_
        refine wq_then_ret ?_
        refine wq_block_ret ?_
        refine wq_then_ret ?_
        refine wq_then_ret ?_
        refine wq_block_ret ?_
        refine wq_then_ret ?_
        refine wq_then_ret ?_
        replace t0 := lpR t0 l1 t1
        obtain rfl := Option.some.inj t0
        exact wq_retc1 rfl tk_23 rfl rfl pick0 rfl fun w hw => ⟨rfl, hw.weak some_nil⟩
      refine wc_skip ?_
      refine wq_then ?_
      refine wcr ?_
      refine mv rfl rfl ?_
      refine wl_pure (po_eql rfl rfl) rfl ?_
      refine wnt ?_
      refine wc_join (X := Unit) (fun _ => True) (fun _ => [(2, ptr b1 0), (4, (sl x1)), (7, ptr b3 0), (48, (sl (slh x1 1 v1.1.length (Rep.sz Str)))), (49, .int .i64 ((((v1.1.drop 1).take (v1.1.length - 1)).length : Nat) : Int)), (50, .int .i64 ((k2 : Nat) : Int))]) (fun _ => [box b3 [.int .i64 ((bif (((k2 : Nat) : Int) == 0) then (GAct.mk s2.1 v3.1 s2.2.2) else (GAct.mk s2.1 s2.2.1 v3.1)).Kind), .int .i64 ((bif (((k2 : Nat) : Int) == 0) then (GAct.mk s2.1 v3.1 s2.2.2) else (GAct.mk s2.1 s2.2.1 v3.1)).A), .int .i64 ((bif (((k2 : Nat) : Int) == 0) then (GAct.mk s2.1 v3.1 s2.2.2) else (GAct.mk s2.1 s2.2.1 v3.1)).B)], box b1 [.int .i64 0, .int .i64 0, .int .i64 0], ownF (sl x1) v1.1]) ?_ ?_
      · skip
        refine wc_cond rfl (fun h5 => ?_) fun h5 => ?_
        · skip
          refine wc_region ?_
          refine mv rfl rfl ?_
          refine wl_pure (po_fld fo_23_1 rfl) rfl ?_
          refine wl_skipop (so_box (cs' := [.int .i64 s2.1, .int .i64 v3.1, .int .i64 s2.2.2]) tk_3 pick0 rfl rfl rfl rfl rfl rfl rfl) ?_
          refine wl_nil ?_
          exact wq_meet () trivial (sub_cons rfl (sub_cons rfl (sub_cons rfl (sub_cons rfl (sub_cons rfl (sub_cons rfl sub_nil)))))) (some_cons (by simp only [h5, cond_true]; exact pick0) (some_cons pick0 (some_cons pick0 some_nil)))
        refine wc_region ?_
        refine mv rfl rfl ?_
        refine wl_pure (po_fld fo_23_2 rfl) rfl ?_
        refine wl_skipop (so_box (cs' := [.int .i64 s2.1, .int .i64 s2.2.1, .int .i64 v3.1]) tk_3 pick0 rfl rfl rfl rfl rfl rfl rfl) ?_
        refine wl_nil ?_
        exact wq_meet () trivial (sub_cons rfl (sub_cons rfl (sub_cons rfl (sub_cons rfl (sub_cons rfl (sub_cons rfl sub_nil)))))) (some_cons (by simp only [h5, cond_false]; exact pick0) (some_cons pick0 (some_cons pick0 some_nil)))
      intro _ _
      refine wq_block ?_
      refine wq_then ?_
      refine wc_region ?_
      refine wl_pure (po_inc rfl rfl (by omega)) rfl ?_
      refine mv rfl rfl ?_
      refine wl_nil ?_
      exact wq_rnd hk2 (stpN l1 t1) () (sub_cons rfl (sub_cons rfl (sub_cons rfl (sub_cons rfl (sub_cons rfl (sub_cons rfl sub_nil)))))) (some_cons pick0 (some_cons pick0 (some_cons pick0 some_nil)))
    have c2 : (decide (((k2 : Nat) : Int) < ((((v1.1.drop 1).take (v1.1.length - 1)).length : Nat) : Int))) = false := decide_eq_false (by omega)
    have en2 := forO_end l1 hk2
    refine wcr ?_
    refine wl_pure (po_lss rfl rfl) rfl ?_
    refine wnt ?_
    refine wc_seq ?_
    refine wc_cond_f rfl c2 ?_
    refine wc_exit ?_
    refine wq_then_exit ?_
    refine wq_then_exit ?_
    refine wq_block_exit ?_
    exact wj_meet _ () en2 (sub_cons rfl (sub_cons rfl (sub_cons rfl sub_nil))) (some_cons pick0 (some_cons pick0 (some_cons pick0 some_nil)))
  intro e2 _ hp
  replace t0 := sqE (j := e2) t0 hp
  refine wq_then ?_
  refine wc_seq ?_
  refine wcr ?_
  refine wl_pure (v := .agg #[.int .i64 e2.1, .int .i64 e2.2.1, .int .i64 e2.2.2]) (po_load_boxs tk_23 pick0 rfl rfl rfl) rfl ?_
  refine bdO t0 fun v4 hv4 t0 => ?_
  refine wl_call (co_c0 fa_14 rfl fun w hw => c_impl_FormatAct w (hw.tab ht) (GAct.mk e2.1 e2.2.1 e2.2.2) hv4) rfl fun _ => ?_
  refine mv rfl rfl ?_
  refine wl_pure (po_extract rfl rfl) rfl ?_
  refine wl_pure (po_extract rfl rfl) rfl ?_
  refine asg rfl rfl ?_
  refine asg rfl rfl ?_
  refine wnt ?_
  refine wc_seq ?_
  refine bdO t0 fun y1 t1 t0 => ?_
  refine wj (J := Bool) (X := Unit) (fun z => y1 = z) (fun z _ => [(2, ptr b1 0), (7, ptr b3 0), (82, .bool z)]) (fun _ _ => [box b3 [.int .i64 e2.1, .int .i64 e2.2.1, .int .i64 e2.2.2], box b1 [.int .i64 0, .int .i64 0, .int .i64 0]]) ?_ ?_
  · skip
    refine wc_region ?_
    refine mv rfl rfl ?_
    refine wl_pure (po_not rfl) rfl ?_
    refine mv rfl rfl ?_
    refine wlO_ (t := 77) t1 rfl (fun h6 t1 => ?_) fun h6 t1 => ?_
    · skip
      refine wl_guard_off (j := 2) rfl rfl rfl rfl rfl ?_
      refine wl_guard_off (j := 2) rfl rfl rfl rfl rfl ?_
      refine wl_guard_off (j := 2) rfl rfl rfl rfl rfl ?_
      refine wl_guard_off (j := 2) rfl rfl rfl rfl rfl ?_
      refine wl_pure (po_pick_t rfl rfl) rfl ?_
      refine wl_nil ?_
      exact wj_meet _ () (mtE t1) (sub_cons rfl (sub_cons rfl (sub_cons rfl sub_nil))) (some_cons pick0 (some_cons pick0 some_nil))
    refine wl_guard_on (j := 2) rfl rfl rfl (mv rfl rfl ?_)
    refine wl_guard_on (j := 2) rfl rfl rfl (mv rfl rfl ?_)
    refine bdO t1 fun v5 hv5 t1 => ?_
    refine wl_guard_on (j := 2) rfl rfl rfl (wl_call (co_c0 fa_15 rfl fun w hw => c_strings_Join w v1.1 x1 (Rg.on (rds_own (pickS (pickS pick0))) hw) (⟨[32]⟩ : Str) hv5) rfl (fun _ => ?_))
    refine wl_guard_on (j := 2) rfl rfl rfl (wl_pure (po_sneq rfl rfl) rfl ?_)
    refine wl_pure (po_pick_f rfl rfl) rfl ?_
    refine wl_nil ?_
    exact wj_meet _ () (mtE t1) (sub_cons rfl (sub_cons rfl (sub_cons rfl sub_nil))) (some_cons pick0 (some_cons pick0 some_nil))
  intro j4 _ hp
  obtain rfl : j4 = y1 := hp.symm
  refine wq_then ?_
  refine wcO t0 rfl (fun h7 t0 => ?_) fun h7 t0 => ?_
  · skip
    refine wcr ?_
    refine wl_pure (po_build rfl bd_23) rfl ?_
    refine wl_skipop (so_box (cs' := [.int .i64 0, .int .i64 0, .int .i64 0]) tk_23 (pickS pick0) rfl rfl rfl rfl rfl rfl rfl) ?_
    refine asg rfl rfl ?_
    refine wnt ?_
    refine wc_ret ?_
    refine wq_then_ret ?_
    obtain rfl := Option.some.inj t0
    exact wq_retc1 rfl tk_23 rfl rfl pick0 rfl fun w hw => ⟨rfl, hw.weak some_nil⟩
  refine wc_skip ?_
  refine wq_then ?_
  refine wcr ?_
  refine wl_pure (v := .agg #[.int .i64 e2.1, .int .i64 e2.2.1, .int .i64 e2.2.2]) (po_load_boxs tk_23 pick0 rfl rfl rfl) rfl ?_
  refine wl_skipop (so_box (cs' := [.int .i64 e2.1, .int .i64 e2.2.1, .int .i64 e2.2.2]) tk_23 (pickS pick0) rfl rfl rfl rfl rfl rfl rfl) ?_
  refine asg rfl rfl ?_
  refine wnt ?_
  refine wc_ret ?_
  obtain rfl := Option.some.inj t0
  exact wq_retc1 rfl tk_23 rfl rfl pick0 rfl fun w hw => ⟨rfl, hw.weak some_nil⟩

theorem c_laws_eqAct (w : World) (a_a : GAct) (a_b : GAct) {r : Bool} (t0 : laws_eqAct a_a a_b = some r) : Calls Tryd.prog 6 #[.agg #[.int .i64 a_a.Kind, .int .i64 a_a.A, .int .i64 a_a.B], .agg #[.int .i64 a_b.Kind, .int .i64 a_b.A, .int .i64 a_b.B]] w fun e w' => e = .returned (.bool r) ∧ SH w [] [] w' := by
  refine calls_of_wc (args := [_, _]) Tryd.func6 rfl Tryd.ntmps6 rfl ?_
  unfold laws_eqAct at t0
  refine wcr ?_
  refine wl_eff (eo_box rfl rfl) rfl fun b1 => ?_
  refine wl_eff (eo_box rfl rfl) rfl fun b2 => ?_
  refine asg rfl rfl ?_
  refine wnt ?_
  refine wc_seq ?_
  refine wcr ?_
  refine wl_pure (po_fld fo_23_0 rfl) rfl ?_
  refine wl_pure (v := .int .i64 a_a.Kind) (po_load_box tk_3 (pickS pick0) rfl rfl) rfl ?_
  refine wl_pure (po_fld fo_23_0 rfl) rfl ?_
  refine wl_pure (v := .int .i64 a_b.Kind) (po_load_box tk_3 pick0 rfl rfl) rfl ?_
  refine wl_pure (po_neq rfl rfl) rfl ?_
  refine wnt ?_
  refine wcO t0 rfl (fun h1 t0 => ?_) fun h1 t0 => ?_
  · skip
    refine wcr ?_
    refine asg rfl rfl ?_
    refine wnt ?_
    refine wc_ret ?_
    refine wq_then_ret ?_
    obtain rfl := Option.some.inj t0
    exact wq_ret1 rfl rfl fun w hw => ⟨rfl, hw.weak some_nil⟩
  refine wc_skip ?_
  refine wq_then ?_
  refine wc_seq ?_
  refine wcr ?_
  refine wl_pure (po_fld fo_23_1 rfl) rfl ?_
  refine wl_pure (v := .int .i64 a_a.A) (po_load_box tk_3 (pickS pick0) rfl rfl) rfl ?_
  refine wl_pure (po_fld fo_23_1 rfl) rfl ?_
  refine wl_pure (v := .int .i64 a_b.A) (po_load_box tk_3 pick0 rfl rfl) rfl ?_
  refine wl_pure (po_neq rfl rfl) rfl ?_
  refine wnt ?_
  refine wcO t0 rfl (fun h2 t0 => ?_) fun h2 t0 => ?_
  · skip
    refine wcr ?_
    refine asg rfl rfl ?_
    refine wnt ?_
    refine wc_ret ?_
    refine wq_then_ret ?_
    obtain rfl := Option.some.inj t0
    exact wq_ret1 rfl rfl fun w hw => ⟨rfl, hw.weak some_nil⟩
  refine wc_skip ?_
  refine wq_then ?_
  refine wc_seq ?_
  refine wcr ?_
  refine wl_pure (po_fld fo_23_2 rfl) rfl ?_
  refine wl_pure (v := .int .i64 a_a.B) (po_load_box tk_3 (pickS pick0) rfl rfl) rfl ?_
  refine wl_pure (po_fld fo_23_2 rfl) rfl ?_
  refine wl_pure (v := .int .i64 a_b.B) (po_load_box tk_3 pick0 rfl rfl) rfl ?_
  refine wl_pure (po_neq rfl rfl) rfl ?_
  refine wnt ?_
  refine wcO t0 rfl (fun h3 t0 => ?_) fun h3 t0 => ?_
  · skip
    refine wcr ?_
    refine asg rfl rfl ?_
    refine wnt ?_
    refine wc_ret ?_
    refine wq_then_ret ?_
    obtain rfl := Option.some.inj t0
    exact wq_ret1 rfl rfl fun w hw => ⟨rfl, hw.weak some_nil⟩
  refine wc_skip ?_
  refine wq_then ?_
  refine wcr ?_
  refine asg rfl rfl ?_
  refine wnt ?_
  refine wc_ret ?_
  obtain rfl := Option.some.inj t0
  exact wq_ret1 rfl rfl fun w hw => ⟨rfl, hw.weak some_nil⟩

theorem c_laws_FnExactParseAct (w : World) (ht : Tb w) (a_aLine : Str) {r : Bool} (t0 : laws_FnExactParseAct a_aLine = some r) : Calls Tryd.prog 3 #[bs a_aLine] w fun e w' => e = .returned (.bool r) ∧ SH w [] [] w' := by
  refine calls_of_wc (args := [_]) Tryd.func3 rfl Tryd.ntmps3 rfl ?_
  unfold laws_FnExactParseAct at t0
  refine wcr ?_
  refine asg rfl rfl ?_
  refine wnt ?_
  refine wc_seq ?_
  refine wcr ?_
  refine mv rfl rfl ?_
  refine wl_pure (po_slen isStr_9 rfl) rfl ?_
  refine wl_pure (po_gtr rfl rfl) rfl ?_
  refine wnt ?_
  refine wcO t0 rfl (fun h1 t0 => ?_) fun h1 t0 => ?_
  · skip
    refine wcr ?_
    refine asg rfl rfl ?_
    refine wnt ?_
    refine wc_ret ?_
    refine wq_then_ret ?_
    obtain rfl := Option.some.inj t0
    exact wq_ret1 rfl rfl fun w hw => ⟨rfl, hw.weak some_nil⟩
  refine wc_skip ?_
  refine wq_then ?_
  refine wcr ?_
  refine mv rfl rfl ?_
  refine bdO t0 fun v1 hv1 t0 => ?_
  refine wl_call (co_c0 fa_4 rfl fun w hw => c_spec_ParseAct w a_aLine hv1) rfl fun _ => ?_
  refine mv rfl rfl ?_
  refine wl_pure (po_extract rfl rfl) rfl ?_
  refine wl_pure (po_extract rfl rfl) rfl ?_
  refine wl_eff (eo_alloc (cs := [.int .i64 0, .int .i64 0, .int .i64 0]) za_23) rfl fun b1 => ?_
  refine wl_skipop (so_box (cs' := [.int .i64 v1.1.Kind, .int .i64 v1.1.A, .int .i64 v1.1.B]) tk_23 pick0 rfl rfl rfl rfl rfl rfl rfl) ?_
  refine asg rfl rfl ?_
  refine wnt ?_
  refine wcr ?_
  refine mv rfl rfl ?_
  refine bdO t0 fun v2 hv2 t0 => ?_
  refine wl_call (co_c0 fa_5 rfl fun w hw => c_impl_ParseAct w (hw.tab ht) a_aLine hv2) rfl fun _ => ?_
  refine mv rfl rfl ?_
  refine wl_pure (po_extract rfl rfl) rfl ?_
  refine wl_pure (po_extract rfl rfl) rfl ?_
  refine wl_eff (eo_alloc (cs := [.int .i64 0, .int .i64 0, .int .i64 0]) za_23) rfl fun b2 => ?_
  refine wl_skipop (so_box (cs' := [.int .i64 v2.1.Kind, .int .i64 v2.1.A, .int .i64 v2.1.B]) tk_23 pick0 rfl rfl rfl rfl rfl rfl rfl) ?_
  refine asg rfl rfl ?_
  refine wnt ?_
  refine wc_seq ?_
  refine wc_seq ?_
  refine bdO t0 fun y1 t1 t0 => ?_
  refine wj (J := Bool) (X := Unit) (fun z => y1 = z) (fun z _ => [(28, .bool z)]) (fun _ _ => []) ?_ ?_
  · skip
    refine wc_region ?_
    refine wl_pure (v := .agg #[.int .i64 v2.1.Kind, .int .i64 v2.1.A, .int .i64 v2.1.B]) (po_load_boxs tk_23 pick0 rfl rfl rfl) rfl ?_
    refine wl_pure (v := .agg #[.int .i64 v1.1.Kind, .int .i64 v1.1.A, .int .i64 v1.1.B]) (po_load_boxs tk_23 (pickS pick0) rfl rfl rfl) rfl ?_
    refine bdO t1 fun v3 hv3 t1 => ?_
    refine wl_call (co_c0 fa_6 rfl fun w hw => c_laws_eqAct w v2.1 v1.1 hv3) rfl fun _ => ?_
    refine wl_pure (po_not rfl) rfl ?_
    refine mv rfl rfl ?_
    refine wlO_ (t := 24) t1 rfl (fun h2 t1 => ?_) fun h2 t1 => ?_
    · skip
      refine wl_guard_off (j := 4) rfl rfl rfl rfl rfl ?_
      refine wl_guard_off (j := 4) rfl rfl rfl rfl rfl ?_
      refine wl_guard_off (j := 4) rfl rfl rfl rfl rfl ?_
      refine wl_pure (po_pick_t rfl rfl) rfl ?_
      refine wl_nil ?_
      exact wj_meet _ () (mtE t1) (sub_cons rfl sub_nil) some_nil
    refine wl_guard_on (j := 4) rfl rfl rfl (mv rfl rfl ?_)
    refine wl_guard_on (j := 4) rfl rfl rfl (mv rfl rfl ?_)
    refine wl_guard_on (j := 4) rfl rfl rfl (wl_pure (po_neq_bool ub_4 rfl rfl) rfl ?_)
    refine wl_pure (po_pick_f rfl rfl) rfl ?_
    refine wl_nil ?_
    exact wj_meet _ () (mtE t1) (sub_cons rfl sub_nil) some_nil
  intro j1 _ hp
  obtain rfl : j1 = y1 := hp.symm
  refine wq_then ?_
  refine wcO t0 rfl (fun h3 t0 => ?_) fun h3 t0 => ?_
  · skip
    refine wcr ?_
    refine asg rfl rfl ?_
    refine wnt ?_
    refine wc_ret ?_
    refine wq_then_ret ?_
    obtain rfl := Option.some.inj t0
    exact wq_ret1 rfl rfl fun w hw => ⟨rfl, hw.weak some_nil⟩
  refine wc_skip ?_
  refine wq_then ?_
  refine wcr ?_
  refine asg rfl rfl ?_
  refine wnt ?_
  refine wc_ret ?_
  obtain rfl := Option.some.inj t0
  exact wq_ret1 rfl rfl fun w hw => ⟨rfl, hw.weak some_nil⟩

end Go.Proofs.YtidkcdeddlnbdaaDoor
