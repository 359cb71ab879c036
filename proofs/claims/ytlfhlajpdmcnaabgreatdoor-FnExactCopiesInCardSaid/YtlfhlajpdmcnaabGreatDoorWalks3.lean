/-
  Each Go function computes its Lean function (part 3).
-/
import Derived.Test.YtlfhlajpdmcnaabGreatDoorWalks2
namespace Go.Proofs.YtlfhlajpdmcnaabGreatDoor
open Go Go.RowKit Go.Proofs
set_option maxRecDepth 100000

theorem c_impl_ColorwayAt (w : World) (a_b : GBlock) (v0a : Hd) (r0 : rdF w (dm w []) (sl v0a) a_b.Cells) (a_index : Int) {r : GBlock × Bool} (t0 : impl_ColorwayAt a_b a_index = some r) : Calls Tryz.prog 58 #[.agg #[.int .i64 a_b.Size, (sl v0a)], .int .i64 a_index] w fun e w' => ∃ x : Hd, e = .returned (.tuple #[.agg #[.int .i64 r.1.Size, (sl x)], .bool r.2]) ∧ SH w [] [ownF (sl x) r.1.Cells] w' := by
  refine calls_of_wc (args := [_, _]) Tryz.func58 rfl Tryz.ntmps58 rfl ?_
  unfold impl_ColorwayAt at t0
  refine wcr ?_
  refine wl_eff (eo_box rfl rfl) rfl fun b1 => ?_
  refine wl_eff (eo_alloc (cs := [.int .i64 0, (sl (⟨none, 0, 0⟩ : Hd))]) za_31) rfl fun b2 => ?_
  refine asg rfl rfl ?_
  refine wnt ?_
  refine wc_seq ?_
  refine wcr ?_
  refine mv rfl rfl ?_
  refine wl_pure (v := .agg #[.int .i64 a_b.Size, (sl v0a)]) (po_load_boxs tk_31 (pickS pick0) rfl rfl rfl) rfl ?_
  refine bdO t0 fun v1 hv1 t0 => ?_
  refine wl_call (co_c0 fa_57 rfl fun w hw => c_impl_ColorwayCount w a_b v0a (Rg.on (rds_arg r0) hw) hv1) rfl fun _ => ?_
  refine wl_pure (po_sub rfl rfl) rfl ?_
  refine bdO t0 fun v2 hv2 t0 => ?_
  refine wl_call (co_c0 fa_51 rfl fun w hw => c_impl_within w a_index 0 (wr (v1 - 1)) hv2) rfl fun _ => ?_
  refine wl_pure (po_not rfl) rfl ?_
  refine wnt ?_
  refine wcO t0 rfl (fun h1 t0 => ?_) fun h1 t0 => ?_
  · skip
    refine wcr ?_
    refine wl_pure (po_build rfl bd_31) rfl ?_
    refine wl_skipop (so_box (cs' := [.int .i64 0, (sl (⟨none, 0, 0⟩ : Hd))]) tk_31 pick0 rfl rfl rfl rfl rfl rfl rfl) ?_
    refine asg rfl rfl ?_
    refine wnt ?_
    refine wc_ret ?_
    refine wq_then_ret ?_
    obtain rfl := Option.some.inj t0
    exact wq_retc1 rfl tk_31 rfl rfl pick0 rfl fun w hw => ⟨(⟨none, 0, 0⟩ : Hd), rfl, hw.weak (some_cons pick_nil some_nil)⟩
  refine wc_skip ?_
  refine wq_then ?_
  refine wcr ?_
  refine wl_pure (v := .agg #[.int .i64 a_b.Size, (sl v0a)]) (po_load_boxs tk_31 (pickS pick0) rfl rfl rfl) rfl ?_
  refine bdO t0 fun v3 hv3 t0 => ?_
  refine wl_call (co_c1 fa_56 rfl fun w hw => c_impl_ColorsOf w a_b v0a (Rg.on (rds_arg r0) hw) hv3) rfl fun x1 => ?_
  refine asg rfl rfl ?_
  refine wnt ?_
  refine wc_seq ?_
  refine bdO t0 fun v4 hv4 t0 => ?_
  refine wc_join (X := Hd × Hd) (fun _ => True) (fun z => [(1, .int .i64 a_index), (2, ptr b1 0), (4, ptr b2 0), (6, (sl x1)), (7, (sl z.1)), (8, (sl z.2))]) (fun z => [ownF (sl z.2) (List.replicate 6 (0 : Int)), ownF (sl z.1) v4, ownF (sl x1) v3, box b2 [.int .i64 0, (sl (⟨none, 0, 0⟩ : Hd))], box b1 [.int .i64 a_b.Size, (sl v0a)]]) ?_ ?_
  · skip
    refine wc_draw [ownF (sl x1) v3, box b2 [.int .i64 0, (sl (⟨none, 0, 0⟩ : Hd))], box b1 [.int .i64 a_b.Size, (sl v0a)]] 4 mixed ?_
    refine wa_2 (i := 0) (j := 1) (by kernel_rfl) ?_ ?_
    · skip
      refine ws_call rfl (co_c1 fa_75 rfl fun w hw => c_impl_upTo w 6 hv4) (fun _ => (sts_some (some_cons (pickS pick0) (some_cons (pickS pick0) (some_cons (pickS pick0) some_nil))))) rfl fun x2 => ?_
      refine wa_pure 2 rfl (po_assign rfl) (some_cons (pickS pick0) (some_cons (pickS pick0) (some_cons (pickS pick0) some_nil))) rfl (by kernel_rfl) (fun _ _ _ h => h) ?_
      refine wa_1 (i := 1) (by kernel_rfl) ?_
      refine ws_eff rfl (eo_make_ (n := 6) (0 : Int) mk_55 rfl rfl rfl (by omega) rfl) (fun _ => (sts_some (some_cons (pickS (pickS pick0)) (some_cons (pickS (pickS pick0)) (some_cons (pickS (pickS pick0)) some_nil))))) rfl fun x3 => ?_
      refine wa_pure 3 rfl (po_assign rfl) (some_cons (pickS (pickS pick0)) (some_cons (pickS (pickS pick0)) (some_cons (pickS (pickS pick0)) some_nil))) rfl (by kernel_rfl) (fun _ _ _ h => h) ?_
      refine wa_done (by kernel_rfl) ?_
      exact wq_meet (x2, x3) trivial (sub_cons rfl (sub_cons rfl (sub_cons rfl (sub_cons rfl (sub_cons rfl (sub_cons rfl sub_nil)))))) (some_cons pick0 (some_cons pick0 (some_cons pick0 (some_cons pick0 (some_cons pick0 some_nil)))))
    refine ws_eff rfl (eo_make_ (n := 6) (0 : Int) mk_55 rfl rfl rfl (by omega) rfl) (fun _ => (sts_some (some_cons (pickS pick0) (some_cons (pickS pick0) (some_cons (pickS pick0) some_nil))))) rfl fun x4 => ?_
    refine wa_1 (i := 0) (by kernel_rfl) ?_
    refine ws_call rfl (co_c1 fa_75 rfl fun w hw => c_impl_upTo w 6 hv4) (fun _ => (sts_some (some_cons (pickS (pickS pick0)) (some_cons (pickS (pickS pick0)) (some_cons (pickS (pickS pick0)) some_nil))))) rfl fun x5 => ?_
    refine wa_pure 2 rfl (po_assign rfl) (some_cons (pickS (pickS pick0)) (some_cons (pickS (pickS pick0)) (some_cons (pickS (pickS pick0)) some_nil))) rfl (by kernel_rfl) (fun _ _ _ h => h) ?_
    refine wa_pure 3 rfl (po_assign rfl) (some_cons (pickS (pickS pick0)) (some_cons (pickS (pickS pick0)) (some_cons (pickS (pickS pick0)) some_nil))) rfl (by kernel_rfl) (fun _ _ _ h => h) ?_
    refine wa_done (by kernel_rfl) ?_
    exact wq_meet (x5, x4) trivial (sub_cons rfl (sub_cons rfl (sub_cons rfl (sub_cons rfl (sub_cons rfl (sub_cons rfl sub_nil)))))) (some_cons (pickS pick0) (some_cons pick0 (some_cons pick0 (some_cons pick0 (some_cons pick0 some_nil)))))
  intro x6 _
  refine wq_then ?_
  refine wc_seq ?_
  refine wcr ?_
  refine mv rfl rfl ?_
  refine wl_pure (po_lenr (rds_own (pickS (pickS pick0))) el_55 rfl) rfl ?_
  refine mv rfl rfl ?_
  refine wnt ?_
  refine gdO t0 fun g1 t0 => ?_
  refine lpO_inv t0 fun y1 l1 t0 => ?_
  refine wj (J := Int × (List Int) × (List Int)) (X := Hd) (fun z => y1 = z) (fun _ _ => [(2, ptr b1 0), (4, ptr b2 0), (8, (sl x6.2))]) (fun z _ => [ownF (sl x6.2) z.2.2, box b2 [.int .i64 0, (sl (⟨none, 0, 0⟩ : Hd))], box b1 [.int .i64 a_b.Size, (sl v0a)]]) ?_ ?_
  · skip
    refine wc_block ?_
    refine wc_forO (X := Hd) l1 (fun k1 s1 x1l => [(1, .int .i64 s1.1), (2, ptr b1 0), (4, ptr b2 0), (6, (sl x1)), (7, (sl x1l)), (8, (sl x6.2)), (24, (sl x1)), (25, .int .i64 ((v3.length : Nat) : Int)), (26, .int .i64 ((k1 : Nat) : Int))]) (fun k1 s1 x1l => [ownF (sl x6.2) s1.2.2, ownF (sl x1l) s1.2.1, ownF (sl x1) v3, box b2 [.int .i64 0, (sl (⟨none, 0, 0⟩ : Hd))], box b1 [.int .i64 a_b.Size, (sl v0a)]]) x6.1 (sub_cons rfl (sub_cons rfl (sub_cons rfl (sub_cons rfl (sub_cons rfl (sub_cons rfl (sub_cons rfl (sub_cons rfl (sub_cons rfl sub_nil))))))))) (some_cons pick0 (some_cons pick0 (some_cons pick0 (some_cons pick0 (some_cons pick0 some_nil))))) fun k1 s1 x1l hN1 l1 => ?_
    by_cases hk1 : k1 < v3.length
    · skip
      refine forO_step l1 hk1 fun _ t1 l1 => ?_
      unfold impl_ColorwayAt_L1 at t1
      have c1 : (decide (((k1 : Nat) : Int) < ((v3.length : Nat) : Int))) = true := decide_eq_true (by omega)
      refine wcr ?_
      refine wl_pure (po_lss rfl rfl) rfl ?_
      refine wnt ?_
      refine wc_seq ?_
      refine wc_cond_t rfl c1 ?_
      refine wc_skip ?_
      refine wq_then ?_
      refine wc_seq ?_
      refine wc_block ?_
      refine wcr ?_
      refine mv rfl rfl ?_
      refine wl_pure (po_ixn (k := k1) (rds_own (pickS (pickS pick0))) el_55 rfl rfl hk1) rfl ?_
      refine wl_pure (v := .int .i64 (gx v3 k1)) (po_ldf (rds_own (pickS (pickS pick0))) tk_3 rfl hk1 rfl) rfl ?_
      refine asg rfl rfl ?_
      refine asg rfl rfl ?_
      refine wnt ?_
      refine wcr ?_
      refine mv rfl rfl ?_
      refine wl_pure (po_lenr (rds_own (pickS (pickS pick0))) el_55 rfl) rfl ?_
      refine bdO t1 fun v5 hv5 t1 => ?_
      refine wl_call (co_c0 fa_74 rfl fun w hw => c_impl_choices w ((v3.length : Nat) : Int) hv5) rfl fun _ => ?_
      refine mv rfl rfl ?_
      refine wl_pure (po_inc rfl rfl (by omega)) rfl ?_
      refine bdO t1 fun v6 hv6 t1 => ?_
      refine wl_call (co_c0 fa_74 rfl fun w hw => c_impl_choices w ((k1 + 1 : Nat) : Int) hv6) rfl fun _ => ?_
      refine gdO t1 fun g2 t1 => ?_
      refine wl_pure (po_quo rfl rfl g2) rfl ?_
      refine asg rfl rfl ?_
      refine wnt ?_
      refine wcr ?_
      refine mv rfl rfl ?_
      refine mv rfl rfl ?_
      refine gdO t1 fun g3 t1 => ?_
      refine wl_pure (po_quo rfl rfl g3) rfl ?_
      refine asg rfl rfl ?_
      refine wnt ?_
      refine wcr ?_
      refine mv rfl rfl ?_
      refine mv rfl rfl ?_
      refine wl_pure (po_rem rfl rfl g3) rfl ?_
      refine asg rfl rfl ?_
      refine wnt ?_
      refine wcr ?_
      refine mv rfl rfl ?_
      refine mv rfl rfl ?_
      refine mv rfl rfl ?_
      refine mv rfl rfl ?_
      refine gdO t1 fun g4 t1 => ?_
      refine wl_pure (po_ixr (rds_own (pickS pick0)) el_55 rfl rfl g4.1 g4.2) rfl ?_
      refine wl_pure (v := .int .i64 (gx s1.2.1 (((wr (s1.1.tdiv (wr (v5.tdiv v6))))).toNat))) (po_ldf (rds_own (pickS pick0)) tk_3 rfl (ix_lt g4) rfl) rfl ?_
      refine gdO t1 fun g5 t1 => ?_
      refine wl_pure (po_ixr (rds_own pick0) el_55 rfl rfl g5.1 g5.2) rfl ?_
      refine wl_skipop (so_own (x' := (gx s1.2.1 (((wr (s1.1.tdiv (wr (v5.tdiv v6))))).toNat))) tk_3 pick0 rfl rfl rfl rfl rfl rfl (ix_lt g5) rfl) ?_
      refine wnt ?_
      refine wc_draw [ownF (sl x6.2) (s1.2.2.set (((gx v3 k1)).toNat) (gx s1.2.1 (((wr (s1.1.tdiv (wr (v5.tdiv v6))))).toNat))), ownF (sl x1l) s1.2.1, ownF (sl x1) v3, box b2 [.int .i64 0, (sl (⟨none, 0, 0⟩ : Hd))], box b1 [.int .i64 a_b.Size, (sl v0a)]] 11 mixed ?_
      refine wa_pure 1 rfl (po_move rfl) (some_cons pick0 (some_cons pick0 (some_cons pick0 (some_cons pick0 (some_cons pick0 some_nil))))) rfl (by kernel_rfl) (fun _ _ _ h => h) ?_
      refine wa_pure 2 rfl (po_move rfl) (some_cons pick0 (some_cons pick0 (some_cons pick0 (some_cons pick0 (some_cons pick0 some_nil))))) rfl (by kernel_rfl) (fun _ _ _ h => h) ?_
      refine gdO t1 fun g6 t1 => ?_
      refine wa_pure 3 rfl (po_cutr (l := 0) (h := ((wr (s1.1.tdiv (wr (v5.tdiv v6))))).toNat) (rds_own (pickS pick0)) el_55 rfl (.inl ⟨rfl, rfl⟩) (.inr ⟨_, rfl, ixn g6.1⟩) g6.2.1 g6.2.2) (some_cons pick0 (some_cons pick0 (some_cons pick0 (some_cons pick0 (some_cons pick0 some_nil))))) rfl (by kernel_rfl) (fun _ _ _ h => h) ?_
      refine wa_pure 5 rfl (po_move rfl) (some_cons pick0 (some_cons pick0 (some_cons pick0 (some_cons pick0 (some_cons pick0 some_nil))))) rfl (by kernel_rfl) (fun _ _ _ h => h) ?_
      refine wa_pure 6 rfl (po_move rfl) (some_cons pick0 (some_cons pick0 (some_cons pick0 (some_cons pick0 (some_cons pick0 some_nil))))) rfl (by kernel_rfl) (fun _ _ _ h => h) ?_
      refine wa_pure 7 rfl (po_add rfl rfl) (some_cons pick0 (some_cons pick0 (some_cons pick0 (some_cons pick0 (some_cons pick0 some_nil))))) rfl (by kernel_rfl) (fun _ _ _ h => h) ?_
      refine gdO t1 fun g7 t1 => ?_
      refine wa_pure 8 rfl (po_cutr (l := ((wr ((wr (s1.1.tdiv (wr (v5.tdiv v6)))) + 1))).toNat) (h := s1.2.1.length) (rds_own (pickS pick0)) el_55 rfl (.inr ⟨_, rfl, ixn g7.1⟩) (.inl ⟨rfl, rfl⟩) g7.2.1 g7.2.2) (some_cons pick0 (some_cons pick0 (some_cons pick0 (some_cons pick0 (some_cons pick0 some_nil))))) rfl (by kernel_rfl) (fun _ _ _ h => h) ?_
      refine wa_1 (i := 0) (by kernel_rfl) ?_
      refine ws_eff rfl (eo_buildSlice rfl sb_55_0) (fun _ => (sts_some (some_cons (pickS pick0) (some_cons (pickS pick0) (some_cons (pickS pick0) (some_cons (pickS pick0) (some_cons (pickS pick0) some_nil))))))) rfl fun b3 => ?_
      refine wa_1 (i := 4) (by kernel_rfl) ?_
      refine gdO t1 fun g8 t1 => ?_
      refine ws_eff rfl (eo_append (xs := ([] : List Int)) (ys := ((s1.2.1.drop 0).take (((wr (s1.1.tdiv (wr (v5.tdiv v6))))).toNat - 0))) ak_55 (pick_box_own pick0 (n := 0) (xs := ([] : List Int)) rfl rfl (by unfold maxLen; omega)) rfl rfl (slin_rd fun _ g => Rg.on (rds_cut (rds_own (pickS (pickS pick0))) g6.2.1 g6.2.2) g) g8) (fun _ => (sts_some (some_cons (pickS pick0) (some_cons (pickS pick0) (some_cons (pickS pick0) (some_cons (pickS pick0) (some_cons (pickS pick0) some_nil))))))) rfl fun x8 => ?_
      refine wa_1 (i := 9) (by kernel_rfl) ?_
      refine gdO t1 fun g9 t1 => ?_
      refine ws_eff rfl (eo_append (xs := (([] : List Int) ++ ((s1.2.1.drop 0).take (((wr (s1.1.tdiv (wr (v5.tdiv v6))))).toNat - 0)))) (ys := ((s1.2.1.drop (((wr ((wr (s1.1.tdiv (wr (v5.tdiv v6)))) + 1))).toNat)).take (s1.2.1.length - (((wr ((wr (s1.1.tdiv (wr (v5.tdiv v6)))) + 1))).toNat)))) ak_55 pick0 rfl rfl (slin_rd fun _ g => Rg.on (rds_cut (rds_own (pickS (pickS pick0))) g7.2.1 g7.2.2) g) g9) (fun _ => (sts_some (some_cons (pickS pick0) (some_cons (pickS pick0) (some_cons (pickS pick0) (some_cons (pickS pick0) (some_cons (pickS pick0) some_nil))))))) rfl fun x9 => ?_
      refine wa_pure 10 rfl (po_assign rfl) (some_cons (pickS pick0) (some_cons (pickS pick0) (some_cons (pickS pick0) (some_cons (pickS pick0) (some_cons (pickS pick0) some_nil))))) rfl (by kernel_rfl) (fun _ _ _ h => h) ?_
      refine wa_done (by kernel_rfl) ?_
      refine wq_block ?_
      refine wq_then ?_
      refine wc_region ?_
      refine wl_pure (po_inc rfl rfl (by omega)) rfl ?_
      refine mv rfl rfl ?_
      refine wl_nil ?_
      exact wq_rnd hk1 (stpN l1 t1) x9 (sub_cons rfl (sub_cons rfl (sub_cons rfl (sub_cons rfl (sub_cons rfl (sub_cons rfl (sub_cons rfl (sub_cons rfl (sub_cons rfl sub_nil))))))))) (some_cons (pickS pick0) (some_cons pick0 (some_cons (pickS pick0) (some_cons (pickS pick0) (some_cons (pickS pick0) some_nil)))))
    have c1 : (decide (((k1 : Nat) : Int) < ((v3.length : Nat) : Int))) = false := decide_eq_false (by omega)
    have en1 := forO_end l1 hk1
    refine wcr ?_
    refine wl_pure (po_lss rfl rfl) rfl ?_
    refine wnt ?_
    refine wc_seq ?_
    refine wc_cond_f rfl c1 ?_
    refine wc_exit ?_
    refine wq_then_exit ?_
    refine wq_then_exit ?_
    refine wq_block_exit ?_
    exact wj_meet _ x1l (Sum.inl.inj en1) (sub_cons rfl (sub_cons rfl (sub_cons rfl sub_nil))) (some_cons pick0 (some_cons (pickS (pickS pick0)) (some_cons (pickS (pickS pick0)) some_nil)))
  intro e1 x7 hp
  obtain rfl : e1 = y1 := hp.symm
  refine wq_then ?_
  refine wcr ?_
  refine wl_pure (v := .agg #[.int .i64 a_b.Size, (sl v0a)]) (po_load_boxs tk_31 (pickS (pickS pick0)) rfl rfl rfl) rfl ?_
  refine mv rfl rfl ?_
  refine bdO t0 fun v7 hv7 t0 => ?_
  refine wl_call (co_c1 fa_76 rfl fun w hw => c_impl_ExchangeBlock w a_b v0a (Rg.on (rds_arg r0) hw) e1.2.2 x6.2 (Rg.on (rds_own pick0) hw) hv7) rfl fun x10 => ?_
  refine wl_pure (po_extract rfl rfl) rfl ?_
  refine wl_pure (po_extract rfl rfl) rfl ?_
  refine wl_skipop (so_box (cs' := [.int .i64 v7.1.Size, (sl x10)]) tk_31 (pickS (pickS pick0)) rfl rfl rfl rfl rfl rfl rfl) ?_
  refine asg rfl rfl ?_
  refine wnt ?_
  refine wc_ret ?_
  obtain rfl := Option.some.inj t0
  exact wq_retc1 rfl tk_31 rfl rfl pick0 rfl fun w hw => ⟨x10, rfl, hw.weak (some_cons (pickS pick0) some_nil)⟩

theorem c_impl_ColorAt (w : World) (a_c : GCell) (a_side : Int) {r : Int} (t0 : impl_ColorAt a_c a_side = some r) : Calls Tryz.prog 107 #[.agg #[.int .i64 a_c.Split, .int .i64 a_c.A, .int .i64 a_c.B], .int .i64 a_side] w fun e w' => e = .returned (.int .i64 r) ∧ SH w [] [] w' := by
  refine calls_of_wc (args := [_, _]) Tryz.func107 rfl Tryz.ntmps107 rfl ?_
  unfold impl_ColorAt at t0
  refine wcr ?_
  refine wl_eff (eo_box rfl rfl) rfl fun b1 => ?_
  refine asg rfl rfl ?_
  refine wnt ?_
  refine wc_seq ?_
  refine wc_seq ?_
  refine bdO t0 fun y1 t1 t0 => ?_
  refine wj (J := Bool) (X := Unit) (fun z => y1 = z) (fun z _ => [(1, .int .i64 a_side), (2, ptr b1 0), (12, .bool z)]) (fun _ _ => [box b1 [.int .i64 a_c.Split, .int .i64 a_c.A, .int .i64 a_c.B]]) ?_ ?_
  · skip
    refine wc_region ?_
    refine wl_pure (v := .agg #[.int .i64 a_c.Split, .int .i64 a_c.A, .int .i64 a_c.B]) (po_load_boxs tk_75 pick0 rfl rfl rfl) rfl ?_
    refine bdO t1 fun v1 hv1 t1 => ?_
    refine wl_call (co_c0 fa_69 rfl fun w hw => c_impl_CellOk w a_c hv1) rfl fun _ => ?_
    refine wl_pure (po_not rfl) rfl ?_
    refine mv rfl rfl ?_
    refine wlO_ (t := 8) t1 rfl (fun h1 t1 => ?_) fun h1 t1 => ?_
    · skip
      refine wl_guard_off (j := 3) rfl rfl rfl rfl rfl ?_
      refine wl_guard_off (j := 3) rfl rfl rfl rfl rfl ?_
      refine wl_guard_off (j := 3) rfl rfl rfl rfl rfl ?_
      refine wl_pure (po_pick_t rfl rfl) rfl ?_
      refine wl_nil ?_
      exact wj_meet _ () (mtE t1) (sub_cons rfl (sub_cons rfl (sub_cons rfl sub_nil))) (some_cons pick0 some_nil)
    refine wl_guard_on (j := 3) rfl rfl rfl (mv rfl rfl ?_)
    refine bdO t1 fun v2 hv2 t1 => ?_
    refine wl_guard_on (j := 3) rfl rfl rfl (wl_call (co_c0 fa_51 rfl fun w hw => c_impl_within w a_side 0 3 hv2) rfl (fun _ => ?_))
    refine wl_guard_on (j := 3) rfl rfl rfl (wl_pure (po_not rfl) rfl ?_)
    refine wl_pure (po_pick_f rfl rfl) rfl ?_
    refine wl_nil ?_
    exact wj_meet _ () (mtE t1) (sub_cons rfl (sub_cons rfl (sub_cons rfl sub_nil))) (some_cons pick0 some_nil)
  intro j1 _ hp
  obtain rfl : j1 = y1 := hp.symm
  refine wq_then ?_
  refine wcO t0 rfl (fun h2 t0 => ?_) fun h2 t0 => ?_
  · skip
    refine wcr ?_
    refine asg rfl rfl ?_
    refine wnt ?_
    refine wc_ret ?_
    refine wq_then_ret ?_
    obtain rfl := Option.some.inj t0
    exact wq_ret1 rfl rfl fun w hw => ⟨rfl, hw.weak some_nil⟩
  refine wc_skip ?_
  refine wq_then ?_
  refine wc_seq ?_
  refine wc_seq ?_
  refine wc_join (X := Unit) (fun _ => True) (fun _ => [(2, ptr b1 0), (32, .bool ((a_side == 0) || (bif (a_c.Split == 1) then ((a_side == 1) || ((a_c.Split == 2) && (a_side == 3))) else ((a_c.Split == 2) && (a_side == 3)))))]) (fun _ => [box b1 [.int .i64 a_c.Split, .int .i64 a_c.A, .int .i64 a_c.B]]) ?_ ?_
  · skip
    refine wc_region ?_
    refine mv rfl rfl ?_
    refine wl_pure (po_eql rfl rfl) rfl ?_
    refine mv rfl rfl ?_
    refine wl_fork (t := 15) rfl (fun h3 => ?_) fun h3 => ?_
    · skip
      refine wl_guard_off (j := 2) rfl rfl rfl rfl rfl ?_
      refine wl_guard_off (j := 2) rfl rfl rfl rfl rfl ?_
      refine wl_guard_off (j := 2) rfl rfl rfl rfl rfl ?_
      refine wl_guard_off (j := 2) rfl rfl rfl rfl rfl ?_
      refine wl_guard_undef (j := 6) rfl rfl rfl rfl ?_
      refine wl_guard_undef (j := 6) rfl rfl rfl rfl ?_
      refine wl_guard_off (j := 2) rfl rfl rfl rfl rfl ?_
      refine wl_pure (po_pick_t rfl rfl) rfl ?_
      refine mv rfl rfl ?_
      refine wl_guard_off (j := 11) rfl rfl rfl rfl rfl ?_
      refine wl_guard_off (j := 11) rfl rfl rfl rfl rfl ?_
      refine wl_guard_off (j := 11) rfl rfl rfl rfl rfl ?_
      refine wl_guard_off (j := 11) rfl rfl rfl rfl rfl ?_
      refine wl_guard_undef (j := 15) rfl rfl rfl rfl ?_
      refine wl_guard_undef (j := 15) rfl rfl rfl rfl ?_
      refine wl_guard_off (j := 11) rfl rfl rfl rfl rfl ?_
      refine wl_pure (po_pick_t rfl rfl) rfl ?_
      refine wl_nil ?_
      exact wq_meet () trivial (sub_cons rfl (sub_b rfl (by rw [h3]; rfl) sub_nil)) (some_cons pick0 some_nil)
    refine wl_guard_on (j := 2) rfl rfl rfl (wl_pure (po_fld fo_75_0 rfl) rfl ?_)
    refine wl_guard_on (j := 2) rfl rfl rfl (wl_pure (v := .int .i64 a_c.Split) (po_load_box tk_3 pick0 rfl rfl) rfl ?_)
    refine wl_guard_on (j := 2) rfl rfl rfl (wl_pure (po_eql rfl rfl) rfl ?_)
    refine wl_guard_on (j := 2) rfl rfl rfl (mv rfl rfl ?_)
    refine wl_fork (t := 19) rfl (fun h4 => ?_) fun h4 => ?_
    · skip
      refine wl_guard_on (j := 6) rfl rfl rfl (mv rfl rfl ?_)
      refine wl_guard_on (j := 6) rfl rfl rfl (wl_pure (po_eql rfl rfl) rfl ?_)
      refine wl_guard_on (j := 2) rfl rfl rfl (wl_pure (po_pick_t rfl rfl) rfl ?_)
      refine wl_pure (po_pick_f rfl rfl) rfl ?_
      refine mv rfl rfl ?_
      refine wl_fork (t := 24) rfl (fun h5 => ?_) fun h5 => ?_
      · skip
        refine wl_guard_off (j := 11) rfl rfl rfl rfl rfl ?_
        refine wl_guard_off (j := 11) rfl rfl rfl rfl rfl ?_
        refine wl_guard_off (j := 11) rfl rfl rfl rfl rfl ?_
        refine wl_guard_off (j := 11) rfl rfl rfl rfl rfl ?_
        refine wl_guard_undef (j := 15) rfl rfl rfl rfl ?_
        refine wl_guard_undef (j := 15) rfl rfl rfl rfl ?_
        refine wl_guard_off (j := 11) rfl rfl rfl rfl rfl ?_
        refine wl_pure (po_pick_t rfl rfl) rfl ?_
        refine wl_nil ?_
        exact wq_meet () trivial (sub_cons rfl (sub_b rfl (by rw [h3, h4, h5]; rfl) sub_nil)) (some_cons pick0 some_nil)
      refine wl_guard_on (j := 11) rfl rfl rfl (wl_pure (po_fld fo_75_0 rfl) rfl ?_)
      refine wl_guard_on (j := 11) rfl rfl rfl (wl_pure (v := .int .i64 a_c.Split) (po_load_box tk_3 pick0 rfl rfl) rfl ?_)
      refine wl_guard_on (j := 11) rfl rfl rfl (wl_pure (po_eql rfl rfl) rfl ?_)
      refine wl_guard_on (j := 11) rfl rfl rfl (mv rfl rfl ?_)
      refine wl_fork (t := 28) rfl (fun h6 => ?_) fun h6 => ?_
      · skip
        refine wl_guard_on (j := 15) rfl rfl rfl (mv rfl rfl ?_)
        refine wl_guard_on (j := 15) rfl rfl rfl (wl_pure (po_eql rfl rfl) rfl ?_)
        refine wl_guard_on (j := 11) rfl rfl rfl (wl_pure (po_pick_t rfl rfl) rfl ?_)
        refine wl_pure (po_pick_f rfl rfl) rfl ?_
        refine wl_nil ?_
        exact wq_meet () trivial (sub_cons rfl (sub_b rfl (by rw [h3, h4, h5, h6]; rfl) sub_nil)) (some_cons pick0 some_nil)
      refine wl_guard_off (j := 15) rfl rfl rfl rfl rfl ?_
      refine wl_guard_off (j := 15) rfl rfl rfl rfl rfl ?_
      refine wl_guard_on (j := 11) rfl rfl rfl (wl_pure (po_pick_f rfl rfl) rfl ?_)
      refine wl_pure (po_pick_f rfl rfl) rfl ?_
      refine wl_nil ?_
      exact wq_meet () trivial (sub_cons rfl (sub_b rfl (by rw [h3, h4, h5, h6]; rfl) sub_nil)) (some_cons pick0 some_nil)
    refine wl_guard_off (j := 6) rfl rfl rfl rfl rfl ?_
    refine wl_guard_off (j := 6) rfl rfl rfl rfl rfl ?_
    refine wl_guard_on (j := 2) rfl rfl rfl (wl_pure (po_pick_f rfl rfl) rfl ?_)
    refine wl_pure (po_pick_f rfl rfl) rfl ?_
    refine mv rfl rfl ?_
    refine wl_guard_on (j := 11) rfl rfl rfl (wl_pure (po_fld fo_75_0 rfl) rfl ?_)
    refine wl_guard_on (j := 11) rfl rfl rfl (wl_pure (v := .int .i64 a_c.Split) (po_load_box tk_3 pick0 rfl rfl) rfl ?_)
    refine wl_guard_on (j := 11) rfl rfl rfl (wl_pure (po_eql rfl rfl) rfl ?_)
    refine wl_guard_on (j := 11) rfl rfl rfl (mv rfl rfl ?_)
    refine wl_fork (t := 28) rfl (fun h7 => ?_) fun h7 => ?_
    · skip
      refine wl_guard_on (j := 15) rfl rfl rfl (mv rfl rfl ?_)
      refine wl_guard_on (j := 15) rfl rfl rfl (wl_pure (po_eql rfl rfl) rfl ?_)
      refine wl_guard_on (j := 11) rfl rfl rfl (wl_pure (po_pick_t rfl rfl) rfl ?_)
      refine wl_pure (po_pick_f rfl rfl) rfl ?_
      refine wl_nil ?_
      exact wq_meet () trivial (sub_cons rfl (sub_b rfl (by rw [h3, h4, h7]; rfl) sub_nil)) (some_cons pick0 some_nil)
    refine wl_guard_off (j := 15) rfl rfl rfl rfl rfl ?_
    refine wl_guard_off (j := 15) rfl rfl rfl rfl rfl ?_
    refine wl_guard_on (j := 11) rfl rfl rfl (wl_pure (po_pick_f rfl rfl) rfl ?_)
    refine wl_pure (po_pick_f rfl rfl) rfl ?_
    refine wl_nil ?_
    exact wq_meet () trivial (sub_cons rfl (sub_b rfl (by rw [h3, h4, h7]; rfl) sub_nil)) (some_cons pick0 some_nil)
  intro _ _
  refine wq_then ?_
  refine wcO t0 rfl (fun h8 t0 => ?_) fun h8 t0 => ?_
  · skip
    refine wcr ?_
    refine wl_pure (po_fld fo_75_1 rfl) rfl ?_
    refine wl_pure (v := .int .i64 a_c.A) (po_load_box tk_3 pick0 rfl rfl) rfl ?_
    refine asg rfl rfl ?_
    refine wnt ?_
    refine wc_ret ?_
    refine wq_then_ret ?_
    obtain rfl := Option.some.inj t0
    exact wq_ret1 rfl rfl fun w hw => ⟨rfl, hw.weak some_nil⟩
  refine wc_skip ?_
  refine wq_then ?_
  refine wcr ?_
  refine wl_pure (po_fld fo_75_2 rfl) rfl ?_
  refine wl_pure (v := .int .i64 a_c.B) (po_load_box tk_3 pick0 rfl rfl) rfl ?_
  refine asg rfl rfl ?_
  refine wnt ?_
  refine wc_ret ?_
  obtain rfl := Option.some.inj t0
  exact wq_ret1 rfl rfl fun w hw => ⟨rfl, hw.weak some_nil⟩

theorem c_impl_CellLikeness (w : World) (a_c : GCell) (a_d : GCell) {r : Int} (t0 : impl_CellLikeness a_c a_d = some r) : Calls Tryz.prog 95 #[.agg #[.int .i64 a_c.Split, .int .i64 a_c.A, .int .i64 a_c.B], .agg #[.int .i64 a_d.Split, .int .i64 a_d.A, .int .i64 a_d.B]] w fun e w' => e = .returned (.int .i64 r) ∧ SH w [] [] w' := by
  refine calls_of_wc (args := [_, _]) Tryz.func95 rfl Tryz.ntmps95 rfl ?_
  unfold impl_CellLikeness at t0
  refine wcr ?_
  refine wl_eff (eo_box rfl rfl) rfl fun b1 => ?_
  refine wl_eff (eo_box rfl rfl) rfl fun b2 => ?_
  refine asg rfl rfl ?_
  refine wnt ?_
  refine wc_seq ?_
  refine wc_seq ?_
  refine bdO t0 fun y1 t1 t0 => ?_
  refine wj (J := Bool) (X := Unit) (fun z => y1 = z) (fun z _ => [(2, ptr b1 0), (3, ptr b2 0), (14, .bool z)]) (fun _ _ => [box b2 [.int .i64 a_d.Split, .int .i64 a_d.A, .int .i64 a_d.B], box b1 [.int .i64 a_c.Split, .int .i64 a_c.A, .int .i64 a_c.B]]) ?_ ?_
  · skip
    refine wc_region ?_
    refine wl_pure (v := .agg #[.int .i64 a_c.Split, .int .i64 a_c.A, .int .i64 a_c.B]) (po_load_boxs tk_75 (pickS pick0) rfl rfl rfl) rfl ?_
    refine bdO t1 fun v1 hv1 t1 => ?_
    refine wl_call (co_c0 fa_69 rfl fun w hw => c_impl_CellOk w a_c hv1) rfl fun _ => ?_
    refine wl_pure (po_not rfl) rfl ?_
    refine mv rfl rfl ?_
    refine wlO_ (t := 10) t1 rfl (fun h1 t1 => ?_) fun h1 t1 => ?_
    · skip
      refine wl_guard_off (j := 3) rfl rfl rfl rfl rfl ?_
      refine wl_guard_off (j := 3) rfl rfl rfl rfl rfl ?_
      refine wl_guard_off (j := 3) rfl rfl rfl rfl rfl ?_
      refine wl_pure (po_pick_t rfl rfl) rfl ?_
      refine wl_nil ?_
      exact wj_meet _ () (mtE t1) (sub_cons rfl (sub_cons rfl (sub_cons rfl sub_nil))) (some_cons pick0 (some_cons pick0 some_nil))
    refine wl_guard_on (j := 3) rfl rfl rfl (wl_pure (v := .agg #[.int .i64 a_d.Split, .int .i64 a_d.A, .int .i64 a_d.B]) (po_load_boxs tk_75 pick0 rfl rfl rfl) rfl ?_)
    refine bdO t1 fun v2 hv2 t1 => ?_
    refine wl_guard_on (j := 3) rfl rfl rfl (wl_call (co_c0 fa_69 rfl fun w hw => c_impl_CellOk w a_d hv2) rfl (fun _ => ?_))
    refine wl_guard_on (j := 3) rfl rfl rfl (wl_pure (po_not rfl) rfl ?_)
    refine wl_pure (po_pick_f rfl rfl) rfl ?_
    refine wl_nil ?_
    exact wj_meet _ () (mtE t1) (sub_cons rfl (sub_cons rfl (sub_cons rfl sub_nil))) (some_cons pick0 (some_cons pick0 some_nil))
  intro j1 _ hp
  obtain rfl : j1 = y1 := hp.symm
  refine wq_then ?_
  refine wcO t0 rfl (fun h2 t0 => ?_) fun h2 t0 => ?_
  · skip
    refine wcr ?_
    refine asg rfl rfl ?_
    refine wnt ?_
    refine wc_ret ?_
    refine wq_then_ret ?_
    obtain rfl := Option.some.inj t0
    exact wq_ret1 rfl rfl fun w hw => ⟨rfl, hw.weak some_nil⟩
  refine wc_skip ?_
  refine wq_then ?_
  refine wcr ?_
  refine asg rfl rfl ?_
  refine wnt ?_
  refine wc_seq ?_
  refine wcr ?_
  refine mv rfl rfl ?_
  refine wnt ?_
  refine lpO_inv t0 fun y1 l1 t0 => ?_
  refine wj (J := Int) (X := Unit) (fun z => y1 = z) (fun z _ => [(5, .int .i64 z)]) (fun _ _ => []) ?_ ?_
  · skip
    refine wc_block ?_
    refine wc_forO (X := Unit) l1 (fun k1 s1 x1l => [(2, ptr b1 0), (3, ptr b2 0), (5, .int .i64 s1), (15, .int .i64 ((k1 : Nat) : Int))]) (fun k1 s1 x1l => [box b2 [.int .i64 a_d.Split, .int .i64 a_d.A, .int .i64 a_d.B], box b1 [.int .i64 a_c.Split, .int .i64 a_c.A, .int .i64 a_c.B]]) () (sub_cons rfl (sub_cons rfl (sub_cons rfl (sub_cons rfl sub_nil)))) (some_cons pick0 (some_cons pick0 some_nil)) fun k1 s1 x1l hN1 l1 => ?_
    by_cases hk1 : k1 < 4
    · skip
      refine forO_step l1 hk1 fun _ t1 l1 => ?_
      unfold impl_CellLikeness_L1 at t1
      have c1 : (decide (((k1 : Nat) : Int) < 4)) = true := decide_eq_true (by omega)
      refine wcr ?_
      refine wl_pure (po_lss rfl rfl) rfl ?_
      refine wnt ?_
      refine wc_seq ?_
      refine wc_cond_t rfl c1 ?_
      refine wc_skip ?_
      refine wq_then ?_
      refine wc_seq ?_
      refine wc_block ?_
      refine wcr ?_
      refine mv rfl rfl ?_
      refine asg rfl rfl ?_
      refine wnt ?_
      refine wc_seq ?_
      refine wc_draw [box b2 [.int .i64 a_d.Split, .int .i64 a_d.A, .int .i64 a_d.B], box b1 [.int .i64 a_c.Split, .int .i64 a_c.A, .int .i64 a_c.B]] 7 mixed ?_
      refine wa_pure (v := .agg #[.int .i64 a_c.Split, .int .i64 a_c.A, .int .i64 a_c.B]) 0 rfl (po_load_boxs tk_75 (pickS pick0) rfl rfl rfl) (some_cons pick0 (some_cons pick0 some_nil)) rfl (by kernel_rfl) (fun _ _ _ h => h) ?_
      refine wa_pure 1 rfl (po_move rfl) (some_cons pick0 (some_cons pick0 some_nil)) rfl (by kernel_rfl) (fun _ _ _ h => h) ?_
      refine wa_pure (v := .agg #[.int .i64 a_d.Split, .int .i64 a_d.A, .int .i64 a_d.B]) 3 rfl (po_load_boxs tk_75 pick0 rfl rfl rfl) (some_cons pick0 (some_cons pick0 some_nil)) rfl (by kernel_rfl) (fun _ _ _ h => h) ?_
      refine wa_pure 4 rfl (po_move rfl) (some_cons pick0 (some_cons pick0 some_nil)) rfl (by kernel_rfl) (fun _ _ _ h => h) ?_
      refine wa_1 (i := 2) (by kernel_rfl) ?_
      refine bdO t1 fun v3 hv3 t1 => ?_
      refine ws_call rfl (co_c0 fa_107 rfl fun w hw => c_impl_ColorAt w a_c ((k1 : Nat) : Int) hv3) (fun _ => (sts_some (some_cons pick0 (some_cons pick0 some_nil)))) rfl fun _ => ?_
      refine wa_1 (i := 5) (by kernel_rfl) ?_
      refine bdO t1 fun v4 hv4 t1 => ?_
      refine ws_call rfl (co_c0 fa_107 rfl fun w hw => c_impl_ColorAt w a_d ((k1 : Nat) : Int) hv4) (fun _ => (sts_some (some_cons pick0 (some_cons pick0 some_nil)))) rfl fun _ => ?_
      refine wa_pure 6 rfl (po_eql rfl rfl) (some_cons pick0 (some_cons pick0 some_nil)) rfl (by kernel_rfl) (fun _ _ _ h => h) ?_
      refine wa_done (by kernel_rfl) ?_
      refine wq_then ?_
      refine wc_join (X := Unit) (fun _ => True) (fun _ => [(2, ptr b1 0), (3, ptr b2 0), (5, .int .i64 (bif (v3 == v4) then (wr (s1 + 1)) else s1)), (15, .int .i64 ((k1 : Nat) : Int))]) (fun _ => [box b2 [.int .i64 a_d.Split, .int .i64 a_d.A, .int .i64 a_d.B], box b1 [.int .i64 a_c.Split, .int .i64 a_c.A, .int .i64 a_c.B]]) ?_ ?_
      · skip
        refine wc_cond rfl (fun h3 => ?_) fun h3 => ?_
        · skip
          refine wc_region ?_
          refine mv rfl rfl ?_
          refine wl_pure (po_add rfl rfl) rfl ?_
          refine asg rfl rfl ?_
          refine wl_nil ?_
          exact wq_meet () trivial (sub_cons rfl (sub_cons rfl (sub_i rfl (by simp only [h3, cond_true]) (sub_cons rfl sub_nil)))) (some_cons pick0 (some_cons pick0 some_nil))
        refine wc_skip ?_
        exact wq_meet () trivial (sub_cons rfl (sub_cons rfl (sub_i rfl (by simp only [h3, cond_false]) (sub_cons rfl sub_nil)))) (some_cons pick0 (some_cons pick0 some_nil))
      intro _ _
      refine wq_block ?_
      refine wq_then ?_
      refine wc_region ?_
      refine wl_pure (po_inc rfl rfl (by omega)) rfl ?_
      refine mv rfl rfl ?_
      refine wl_nil ?_
      exact wq_rnd hk1 (stpN l1 t1) () (sub_cons rfl (sub_cons rfl (sub_cons rfl (sub_cons rfl sub_nil)))) (some_cons pick0 (some_cons pick0 some_nil))
    have c1 : (decide (((k1 : Nat) : Int) < 4)) = false := decide_eq_false (by omega)
    have en1 := forO_end l1 hk1
    refine wcr ?_
    refine wl_pure (po_lss rfl rfl) rfl ?_
    refine wnt ?_
    refine wc_seq ?_
    refine wc_cond_f rfl c1 ?_
    refine wc_exit ?_
    refine wq_then_exit ?_
    refine wq_then_exit ?_
    refine wq_block_exit ?_
    exact wj_meet _ () (Sum.inl.inj en1) (sub_cons rfl sub_nil) some_nil
  intro e1 _ hp
  obtain rfl : e1 = y1 := hp.symm
  refine wq_then ?_
  refine wcr ?_
  refine mv rfl rfl ?_
  refine asg rfl rfl ?_
  refine wnt ?_
  refine wc_ret ?_
  obtain rfl := Option.some.inj t0
  exact wq_ret1 rfl rfl fun w hw => ⟨rfl, hw.weak some_nil⟩

theorem c_impl_Likeness (w : World) (a_b : GBlock) (v0a : Hd) (r0 : rdF w (dm w []) (sl v0a) a_b.Cells) (a_d : GBlock) (v1a : Hd) (r1 : rdF w (dm w []) (sl v1a) a_d.Cells) {r : Int} (t0 : impl_Likeness a_b a_d = some r) : Calls Tryz.prog 77 #[.agg #[.int .i64 a_b.Size, (sl v0a)], .agg #[.int .i64 a_d.Size, (sl v1a)]] w fun e w' => e = .returned (.int .i64 r) ∧ SH w [] [] w' := by
  refine calls_of_wc (args := [_, _]) Tryz.func77 rfl Tryz.ntmps77 rfl ?_
  unfold impl_Likeness at t0
  refine wcr ?_
  refine wl_eff (eo_box rfl rfl) rfl fun b1 => ?_
  refine wl_eff (eo_box rfl rfl) rfl fun b2 => ?_
  refine asg rfl rfl ?_
  refine wnt ?_
  refine wc_seq ?_
  refine wcr ?_
  refine wl_pure (v := .agg #[.int .i64 a_b.Size, (sl v0a)]) (po_load_boxs tk_31 (pickS pick0) rfl rfl rfl) rfl ?_
  refine wl_pure (v := .agg #[.int .i64 a_d.Size, (sl v1a)]) (po_load_boxs tk_31 pick0 rfl rfl rfl) rfl ?_
  refine bdO t0 fun v1 hv1 t0 => ?_
  refine wl_call (co_c0 fa_55 rfl fun w hw => c_impl_arePaired w a_b v0a (Rg.on (rds_arg r0) hw) a_d v1a (Rg.on (rds_arg r1) hw) hv1) rfl fun _ => ?_
  refine wl_pure (po_not rfl) rfl ?_
  refine wnt ?_
  refine wcO t0 rfl (fun h1 t0 => ?_) fun h1 t0 => ?_
  · skip
    refine wcr ?_
    refine asg rfl rfl ?_
    refine wnt ?_
    refine wc_ret ?_
    refine wq_then_ret ?_
    obtain rfl := Option.some.inj t0
    exact wq_ret1 rfl rfl fun w hw => ⟨rfl, hw.weak some_nil⟩
  refine wc_skip ?_
  refine wq_then ?_
  refine wcr ?_
  refine asg rfl rfl ?_
  refine wnt ?_
  refine wc_seq ?_
  refine wcr ?_
  refine wl_pure (po_fld fo_31_1 rfl) rfl ?_
  refine wl_pure (v := (sl v0a)) (po_load_box tk_29 (pickS pick0) rfl rfl) rfl ?_
  refine wl_pure (po_lenr (rds_arg r0) el_29 rfl) rfl ?_
  refine mv rfl rfl ?_
  refine wnt ?_
  refine gdO t0 fun g1 t0 => ?_
  refine lpO_inv t0 fun y1 l1 t0 => ?_
  refine wj (J := Int) (X := Unit) (fun z => y1 = z) (fun z _ => [(5, .int .i64 z)]) (fun _ _ => []) ?_ ?_
  · skip
    refine wc_block ?_
    refine wc_forO (X := Unit) l1 (fun k1 s1 x1l => [(2, ptr b1 0), (3, ptr b2 0), (5, .int .i64 s1), (13, .int .i64 ((a_b.Cells.length : Nat) : Int)), (14, .int .i64 ((k1 : Nat) : Int))]) (fun k1 s1 x1l => [box b2 [.int .i64 a_d.Size, (sl v1a)], box b1 [.int .i64 a_b.Size, (sl v0a)]]) () (sub_cons rfl (sub_cons rfl (sub_cons rfl (sub_cons rfl (sub_cons rfl sub_nil))))) (some_cons pick0 (some_cons pick0 some_nil)) fun k1 s1 x1l hN1 l1 => ?_
    by_cases hk1 : k1 < a_b.Cells.length
    · skip
      refine forO_step l1 hk1 fun _ t1 l1 => ?_
      unfold impl_Likeness_L1 at t1
      have c1 : (decide (((k1 : Nat) : Int) < ((a_b.Cells.length : Nat) : Int))) = true := decide_eq_true (by omega)
      refine wcr ?_
      refine wl_pure (po_lss rfl rfl) rfl ?_
      refine wnt ?_
      refine wc_seq ?_
      refine wc_cond_t rfl c1 ?_
      refine wc_skip ?_
      refine wq_then ?_
      refine wc_seq ?_
      refine wc_block ?_
      refine wcr ?_
      refine mv rfl rfl ?_
      refine asg rfl rfl ?_
      refine wnt ?_
      refine wc_draw [box b2 [.int .i64 a_d.Size, (sl v1a)], box b1 [.int .i64 a_b.Size, (sl v0a)]] 14 mixed ?_
      refine wa_pure 0 rfl (po_move rfl) (some_cons pick0 (some_cons pick0 some_nil)) rfl (by kernel_rfl) (fun _ _ _ h => h) ?_
      refine wa_pure 1 rfl (po_fld fo_31_1 rfl) (some_cons pick0 (some_cons pick0 some_nil)) rfl (by kernel_rfl) (fun _ _ _ h => h) ?_
      refine wa_pure (v := (sl v0a)) 2 rfl (po_load_box tk_29 (pickS pick0) rfl rfl) (some_cons pick0 (some_cons pick0 some_nil)) rfl (by kernel_rfl) (fun _ _ _ h => h) ?_
      refine wa_pure 3 rfl (po_move rfl) (some_cons pick0 (some_cons pick0 some_nil)) rfl (by kernel_rfl) (fun _ _ _ h => h) ?_
      refine wa_pure 4 rfl (po_ixn (k := k1) (rds_arg r0) el_29 rfl rfl hk1) (some_cons pick0 (some_cons pick0 some_nil)) rfl (by kernel_rfl) (fun _ _ _ h => h) ?_
      refine wa_pure (v := .agg #[.int .i64 ((gx a_b.Cells k1).Split), .int .i64 ((gx a_b.Cells k1).A), .int .i64 ((gx a_b.Cells k1).B)]) 5 rfl (po_ldfs (rds_arg r0) tk_75 rfl hk1 rfl rfl rfl) (some_cons pick0 (some_cons pick0 some_nil)) rfl (by kernel_rfl) (fun _ _ _ h => h) ?_
      refine wa_pure 6 rfl (po_fld fo_31_1 rfl) (some_cons pick0 (some_cons pick0 some_nil)) rfl (by kernel_rfl) (fun _ _ _ h => h) ?_
      refine wa_pure (v := (sl v1a)) 7 rfl (po_load_box tk_29 pick0 rfl rfl) (some_cons pick0 (some_cons pick0 some_nil)) rfl (by kernel_rfl) (fun _ _ _ h => h) ?_
      refine wa_pure 8 rfl (po_move rfl) (some_cons pick0 (some_cons pick0 some_nil)) rfl (by kernel_rfl) (fun _ _ _ h => h) ?_
      refine gdO t1 fun g2 t1 => ?_
      refine wa_pure 9 rfl (po_ixn (k := k1) (rds_arg r1) el_29 rfl rfl g2) (some_cons pick0 (some_cons pick0 some_nil)) rfl (by kernel_rfl) (fun _ _ _ h => h) ?_
      refine wa_pure (v := .agg #[.int .i64 ((gx a_d.Cells k1).Split), .int .i64 ((gx a_d.Cells k1).A), .int .i64 ((gx a_d.Cells k1).B)]) 10 rfl (po_ldfs (rds_arg r1) tk_75 rfl g2 rfl rfl rfl) (some_cons pick0 (some_cons pick0 some_nil)) rfl (by kernel_rfl) (fun _ _ _ h => h) ?_
      refine wa_1 (i := 11) (by kernel_rfl) ?_
      refine bdO t1 fun v2 hv2 t1 => ?_
      refine ws_call rfl (co_c0 fa_95 rfl fun w hw => c_impl_CellLikeness w (gx a_b.Cells k1) (gx a_d.Cells k1) hv2) (fun _ => (sts_some (some_cons pick0 (some_cons pick0 some_nil)))) rfl fun _ => ?_
      refine wa_pure 12 rfl (po_add rfl rfl) (some_cons pick0 (some_cons pick0 some_nil)) rfl (by kernel_rfl) (fun _ _ _ h => h) ?_
      refine wa_pure 13 rfl (po_assign rfl) (some_cons pick0 (some_cons pick0 some_nil)) rfl (by kernel_rfl) (fun _ _ _ h => h) ?_
      refine wa_done (by kernel_rfl) ?_
      refine wq_block ?_
      refine wq_then ?_
      refine wc_region ?_
      refine wl_pure (po_inc rfl rfl (by omega)) rfl ?_
      refine mv rfl rfl ?_
      refine wl_nil ?_
      exact wq_rnd hk1 (stpN l1 t1) () (sub_cons rfl (sub_cons rfl (sub_cons rfl (sub_cons rfl (sub_cons rfl sub_nil))))) (some_cons pick0 (some_cons pick0 some_nil))
    have c1 : (decide (((k1 : Nat) : Int) < ((a_b.Cells.length : Nat) : Int))) = false := decide_eq_false (by omega)
    have en1 := forO_end l1 hk1
    refine wcr ?_
    refine wl_pure (po_lss rfl rfl) rfl ?_
    refine wnt ?_
    refine wc_seq ?_
    refine wc_cond_f rfl c1 ?_
    refine wc_exit ?_
    refine wq_then_exit ?_
    refine wq_then_exit ?_
    refine wq_block_exit ?_
    exact wj_meet _ () (Sum.inl.inj en1) (sub_cons rfl sub_nil) some_nil
  intro e1 _ hp
  obtain rfl : e1 = y1 := hp.symm
  refine wq_then ?_
  refine wcr ?_
  refine mv rfl rfl ?_
  refine asg rfl rfl ?_
  refine wnt ?_
  refine wc_ret ?_
  obtain rfl := Option.some.inj t0
  exact wq_ret1 rfl rfl fun w hw => ⟨rfl, hw.weak some_nil⟩

theorem c_impl_BestLikeness (w : World) (a_b : GBlock) (v0a : Hd) (r0 : rdF w (dm w []) (sl v0a) a_b.Cells) (a_d : GBlock) (v1a : Hd) (r1 : rdF w (dm w []) (sl v1a) a_d.Cells) {r : Int} (t0 : impl_BestLikeness a_b a_d = some r) : Calls Tryz.prog 59 #[.agg #[.int .i64 a_b.Size, (sl v0a)], .agg #[.int .i64 a_d.Size, (sl v1a)]] w fun e w' => e = .returned (.int .i64 r) ∧ SH w [] [] w' := by
  refine calls_of_wc (args := [_, _]) Tryz.func59 rfl Tryz.ntmps59 rfl ?_
  unfold impl_BestLikeness at t0
  refine wcr ?_
  refine wl_eff (eo_box rfl rfl) rfl fun b1 => ?_
  refine wl_eff (eo_box rfl rfl) rfl fun b2 => ?_
  refine asg rfl rfl ?_
  refine wnt ?_
  refine wc_seq ?_
  refine wcr ?_
  refine wl_pure (v := .agg #[.int .i64 a_b.Size, (sl v0a)]) (po_load_boxs tk_31 (pickS pick0) rfl rfl rfl) rfl ?_
  refine wl_pure (v := .agg #[.int .i64 a_d.Size, (sl v1a)]) (po_load_boxs tk_31 pick0 rfl rfl rfl) rfl ?_
  refine bdO t0 fun v1 hv1 t0 => ?_
  refine wl_call (co_c0 fa_55 rfl fun w hw => c_impl_arePaired w a_b v0a (Rg.on (rds_arg r0) hw) a_d v1a (Rg.on (rds_arg r1) hw) hv1) rfl fun _ => ?_
  refine wl_pure (po_not rfl) rfl ?_
  refine wnt ?_
  refine wcO t0 rfl (fun h1 t0 => ?_) fun h1 t0 => ?_
  · skip
    refine wcr ?_
    refine asg rfl rfl ?_
    refine wnt ?_
    refine wc_ret ?_
    refine wq_then_ret ?_
    obtain rfl := Option.some.inj t0
    exact wq_ret1 rfl rfl fun w hw => ⟨rfl, hw.weak some_nil⟩
  refine wc_skip ?_
  refine wq_then ?_
  refine wcr ?_
  refine asg rfl rfl ?_
  refine wnt ?_
  refine wc_seq ?_
  refine wcr ?_
  refine wl_pure (v := .agg #[.int .i64 a_d.Size, (sl v1a)]) (po_load_boxs tk_31 pick0 rfl rfl rfl) rfl ?_
  refine bdO t0 fun v2 hv2 t0 => ?_
  refine wl_call (co_c1 fa_70 rfl fun w hw => c_impl_views w a_d v1a (Rg.on (rds_arg r1) hw) hv2) rfl fun x1 => ?_
  refine wl_pure (po_lenr (rds_own pick0) el_81 rfl) rfl ?_
  refine mv rfl rfl ?_
  refine wnt ?_
  refine gdO t0 fun g1 t0 => ?_
  refine lpO_inv t0 fun y1 l1 t0 => ?_
  refine wj (J := Int) (X := Unit) (fun z => y1 = z) (fun z _ => [(5, .int .i64 z)]) (fun _ _ => []) ?_ ?_
  · skip
    refine wc_block ?_
    refine wc_forO (X := Unit) l1 (fun k1 s1 x1l => [(2, ptr b1 0), (5, .int .i64 s1), (13, (sl x1.1)), (14, .int .i64 ((v2.length : Nat) : Int)), (15, .int .i64 ((k1 : Nat) : Int))]) (fun k1 s1 x1l => [own (sl x1.1) x1.2 v2, box b1 [.int .i64 a_b.Size, (sl v0a)]]) () (sub_cons rfl (sub_cons rfl (sub_cons rfl (sub_cons rfl (sub_cons rfl sub_nil))))) (some_cons pick0 (some_cons (pickS pick0) some_nil)) fun k1 s1 x1l hN1 l1 => ?_
    by_cases hk1 : k1 < v2.length
    · skip
      refine forO_step l1 hk1 fun _ t1 l1 => ?_
      unfold impl_BestLikeness_L1 at t1
      have c1 : (decide (((k1 : Nat) : Int) < ((v2.length : Nat) : Int))) = true := decide_eq_true (by omega)
      refine wcr ?_
      refine wl_pure (po_lss rfl rfl) rfl ?_
      refine wnt ?_
      refine wc_seq ?_
      refine wc_cond_t rfl c1 ?_
      refine wc_skip ?_
      refine wq_then ?_
      refine wc_seq ?_
      refine wc_block ?_
      refine wcr ?_
      refine wl_pure (po_ixn (k := k1) (rds_own pick0) el_81 rfl rfl hk1) rfl ?_
      refine wl_elem (rds_own pick0) hk1 ?_
      rintro ⟨_, _, he1⟩
      obtain ⟨w1, hc1, _⟩ := rd_GBlock.1 he1
      refine wl_pure (v := .agg #[.int .i64 ((gx v2 k1).Size), (sl w1)]) (po_ldns (rds_own pick0) tk_31 rfl hc1 rfl rfl rfl) rfl ?_
      refine wl_eff (eo_alloc (cs := [.int .i64 0, (sl (⟨none, 0, 0⟩ : Hd))]) za_31) rfl fun b3 => ?_
      refine wl_skipop (so_box (cs' := [.int .i64 ((gx v2 k1).Size), (sl w1)]) tk_31 pick0 rfl rfl rfl rfl rfl rfl rfl) ?_
      refine wnt ?_
      refine wc_region ?_
      refine mv rfl rfl ?_
      refine wl_pure (v := .agg #[.int .i64 a_b.Size, (sl v0a)]) (po_load_boxs tk_31 (pickS (pickS pick0)) rfl rfl rfl) rfl ?_
      refine wl_pure (v := .agg #[.int .i64 ((gx v2 k1).Size), (sl w1)]) (po_load_boxs tk_31 pick0 rfl rfl rfl) rfl ?_
      refine bdO t1 fun v3 hv3 t1 => ?_
      refine wl_call (co_c0 fa_77 rfl fun w hw => c_impl_Likeness w a_b v0a (Rg.on (rds_arg r0) hw) (gx v2 k1) w1 (Rg.on (er_GBlock_0 hc1 (rds_own (pickS pick0)) hk1) hw) hv3) rfl fun _ => ?_
      refine wl_pure (po_max rfl rfl) rfl ?_
      refine asg rfl rfl ?_
      refine wl_nil ?_
      refine wq_block ?_
      refine wq_then ?_
      refine wc_region ?_
      refine wl_pure (po_inc rfl rfl (by omega)) rfl ?_
      refine mv rfl rfl ?_
      refine wl_nil ?_
      exact wq_rnd hk1 (stpN l1 t1) () (sub_cons rfl (sub_cons rfl (sub_cons rfl (sub_cons rfl (sub_cons rfl sub_nil))))) (some_cons (pickS pick0) (some_cons (pickS pick0) some_nil))
    have c1 : (decide (((k1 : Nat) : Int) < ((v2.length : Nat) : Int))) = false := decide_eq_false (by omega)
    have en1 := forO_end l1 hk1
    refine wcr ?_
    refine wl_pure (po_lss rfl rfl) rfl ?_
    refine wnt ?_
    refine wc_seq ?_
    refine wc_cond_f rfl c1 ?_
    refine wc_exit ?_
    refine wq_then_exit ?_
    refine wq_then_exit ?_
    refine wq_block_exit ?_
    exact wj_meet _ () (Sum.inl.inj en1) (sub_cons rfl sub_nil) some_nil
  intro e1 _ hp
  obtain rfl : e1 = y1 := hp.symm
  refine wq_then ?_
  refine wcr ?_
  refine mv rfl rfl ?_
  refine asg rfl rfl ?_
  refine wnt ?_
  refine wc_ret ?_
  obtain rfl := Option.some.inj t0
  exact wq_ret1 rfl rfl fun w hw => ⟨rfl, hw.weak some_nil⟩

theorem c_impl_PatternLikeness (w : World) (a_b : GBlock) (v0a : Hd) (r0 : rdF w (dm w []) (sl v0a) a_b.Cells) (a_d : GBlock) (v1a : Hd) (r1 : rdF w (dm w []) (sl v1a) a_d.Cells) {r : Int} (t0 : impl_PatternLikeness a_b a_d = some r) : Calls Tryz.prog 32 #[.agg #[.int .i64 a_b.Size, (sl v0a)], .agg #[.int .i64 a_d.Size, (sl v1a)]] w fun e w' => e = .returned (.int .i64 r) ∧ SH w [] [] w' := by
  refine calls_of_wc (args := [_, _]) Tryz.func32 rfl Tryz.ntmps32 rfl ?_
  unfold impl_PatternLikeness at t0
  refine wcr ?_
  refine wl_eff (eo_box rfl rfl) rfl fun b1 => ?_
  refine wl_eff (eo_box rfl rfl) rfl fun b2 => ?_
  refine asg rfl rfl ?_
  refine wnt ?_
  refine wc_seq ?_
  refine wc_seq ?_
  refine bdO t0 fun y1 t1 t0 => ?_
  refine wj (J := Bool) (X := Unit) (fun z => y1 = z) (fun z _ => [(2, ptr b1 0), (3, ptr b2 0), (18, .bool z)]) (fun _ _ => [box b2 [.int .i64 a_d.Size, (sl v1a)], box b1 [.int .i64 a_b.Size, (sl v0a)]]) ?_ ?_
  · skip
    refine wc_region ?_
    refine wl_pure (v := .agg #[.int .i64 a_b.Size, (sl v0a)]) (po_load_boxs tk_31 (pickS pick0) rfl rfl rfl) rfl ?_
    refine wl_pure (v := .agg #[.int .i64 a_d.Size, (sl v1a)]) (po_load_boxs tk_31 pick0 rfl rfl rfl) rfl ?_
    refine bdO t1 fun v1 hv1 t1 => ?_
    refine wl_call (co_c0 fa_55 rfl fun w hw => c_impl_arePaired w a_b v0a (Rg.on (rds_arg r0) hw) a_d v1a (Rg.on (rds_arg r1) hw) hv1) rfl fun _ => ?_
    refine wl_pure (po_not rfl) rfl ?_
    refine mv rfl rfl ?_
    refine wlO_ (t := 13) t1 rfl (fun h1 t1 => ?_) fun h1 t1 => ?_
    · skip
      refine wl_guard_off (j := 4) rfl rfl rfl rfl rfl ?_
      refine wl_guard_off (j := 4) rfl rfl rfl rfl rfl ?_
      refine wl_guard_off (j := 4) rfl rfl rfl rfl rfl ?_
      refine wl_guard_off (j := 4) rfl rfl rfl rfl rfl ?_
      refine wl_pure (po_pick_t rfl rfl) rfl ?_
      refine wl_nil ?_
      exact wj_meet _ () (mtE t1) (sub_cons rfl (sub_cons rfl (sub_cons rfl sub_nil))) (some_cons pick0 (some_cons pick0 some_nil))
    refine wl_guard_on (j := 4) rfl rfl rfl (wl_pure (v := .agg #[.int .i64 a_d.Size, (sl v1a)]) (po_load_boxs tk_31 pick0 rfl rfl rfl) rfl ?_)
    refine bdO t1 fun v2 hv2 t1 => ?_
    refine wl_guard_on (j := 4) rfl rfl rfl (wl_call (co_c1 fa_56 rfl fun w hw => c_impl_ColorsOf w a_d v1a (Rg.on (rds_arg r1) hw) hv2) rfl (fun x2 => ?_))
    refine wl_guard_on (j := 4) rfl rfl rfl (wl_pure (po_lenr (rds_own pick0) el_55 rfl) rfl ?_)
    refine wl_guard_on (j := 4) rfl rfl rfl (wl_pure (po_gtr rfl rfl) rfl ?_)
    refine wl_pure (po_pick_f rfl rfl) rfl ?_
    refine wl_nil ?_
    exact wj_meet _ () (mtE t1) (sub_cons rfl (sub_cons rfl (sub_cons rfl sub_nil))) (some_cons (pickS pick0) (some_cons (pickS pick0) some_nil))
  intro j1 _ hp
  obtain rfl : j1 = y1 := hp.symm
  refine wq_then ?_
  refine wcO t0 rfl (fun h2 t0 => ?_) fun h2 t0 => ?_
  · skip
    refine wcr ?_
    refine asg rfl rfl ?_
    refine wnt ?_
    refine wc_ret ?_
    refine wq_then_ret ?_
    obtain rfl := Option.some.inj t0
    exact wq_ret1 rfl rfl fun w hw => ⟨rfl, hw.weak some_nil⟩
  refine wc_skip ?_
  refine wq_then ?_
  refine wcr ?_
  refine asg rfl rfl ?_
  refine wnt ?_
  refine wc_seq ?_
  refine wcr ?_
  refine wl_pure (v := .agg #[.int .i64 a_d.Size, (sl v1a)]) (po_load_boxs tk_31 pick0 rfl rfl rfl) rfl ?_
  refine bdO t0 fun v3 hv3 t0 => ?_
  refine wl_call (co_c0 fa_57 rfl fun w hw => c_impl_ColorwayCount w a_d v1a (Rg.on (rds_arg r1) hw) hv3) rfl fun _ => ?_
  refine mv rfl rfl ?_
  refine wnt ?_
  refine gdO t0 fun g1 t0 => ?_
  refine lpO_inv t0 fun y1 l1 t0 => ?_
  refine wj (J := Int) (X := Unit) (fun z => y1 = z) (fun z _ => [(5, .int .i64 z)]) (fun _ _ => []) ?_ ?_
  · skip
    refine wc_block ?_
    refine wc_forO (X := Unit) l1 (fun k1 s1 x1l => [(2, ptr b1 0), (3, ptr b2 0), (5, .int .i64 s1), (20, .int .i64 v3), (21, .int .i64 ((k1 : Nat) : Int))]) (fun k1 s1 x1l => [box b2 [.int .i64 a_d.Size, (sl v1a)], box b1 [.int .i64 a_b.Size, (sl v0a)]]) () (sub_cons rfl (sub_cons rfl (sub_cons rfl (sub_cons rfl (sub_cons rfl sub_nil))))) (some_cons pick0 (some_cons pick0 some_nil)) fun k1 s1 x1l hN1 l1 => ?_
    by_cases hk1 : k1 < (v3).toNat
    · skip
      refine forO_step l1 hk1 fun _ t1 l1 => ?_
      unfold impl_PatternLikeness_L1 at t1
      have c1 : (decide (((k1 : Nat) : Int) < v3)) = true := decide_eq_true (by omega)
      refine wcr ?_
      refine wl_pure (po_lss rfl rfl) rfl ?_
      refine wnt ?_
      refine wc_seq ?_
      refine wc_cond_t rfl c1 ?_
      refine wc_skip ?_
      refine wq_then ?_
      refine wc_seq ?_
      refine wc_block ?_
      refine wcr ?_
      refine mv rfl rfl ?_
      refine asg rfl rfl ?_
      refine wnt ?_
      refine wcr ?_
      refine wl_pure (v := .agg #[.int .i64 a_d.Size, (sl v1a)]) (po_load_boxs tk_31 pick0 rfl rfl rfl) rfl ?_
      refine mv rfl rfl ?_
      refine bdO t1 fun v4 hv4 t1 => ?_
      refine wl_call (co_c1 fa_58 rfl fun w hw => c_impl_ColorwayAt w a_d v1a (Rg.on (rds_arg r1) hw) ((k1 : Nat) : Int) hv4) rfl fun x4 => ?_
      refine mv rfl rfl ?_
      refine wl_pure (po_extract rfl rfl) rfl ?_
      refine wl_pure (po_extract rfl rfl) rfl ?_
      refine wl_eff (eo_alloc (cs := [.int .i64 0, (sl (⟨none, 0, 0⟩ : Hd))]) za_31) rfl fun b3 => ?_
      refine wl_skipop (so_box (cs' := [.int .i64 v4.1.Size, (sl x4)]) tk_31 pick0 rfl rfl rfl rfl rfl rfl rfl) ?_
      refine asg rfl rfl ?_
      refine wnt ?_
      refine wc_region ?_
      refine mv rfl rfl ?_
      refine wl_pure (v := .agg #[.int .i64 a_b.Size, (sl v0a)]) (po_load_boxs tk_31 (pickS (pickS (pickS pick0))) rfl rfl rfl) rfl ?_
      refine wl_pure (v := .agg #[.int .i64 v4.1.Size, (sl x4)]) (po_load_boxs tk_31 pick0 rfl rfl rfl) rfl ?_
      refine bdO t1 fun v5 hv5 t1 => ?_
      refine wl_call (co_c0 fa_59 rfl fun w hw => c_impl_BestLikeness w a_b v0a (Rg.on (rds_arg r0) hw) v4.1 x4 (Rg.on (rds_own (pickS pick0)) hw) hv5) rfl fun _ => ?_
      refine wl_pure (po_max rfl rfl) rfl ?_
      refine asg rfl rfl ?_
      refine wl_nil ?_
      refine wq_block ?_
      refine wq_then ?_
      refine wc_region ?_
      refine wl_pure (po_inc rfl rfl (by omega)) rfl ?_
      refine mv rfl rfl ?_
      refine wl_nil ?_
      exact wq_rnd hk1 (stpN l1 t1) () (sub_cons rfl (sub_cons rfl (sub_cons rfl (sub_cons rfl (sub_cons rfl sub_nil))))) (some_cons (pickS (pickS pick0)) (some_cons (pickS (pickS pick0)) some_nil))
    have c1 : (decide (((k1 : Nat) : Int) < v3)) = false := decide_eq_false (by omega)
    have en1 := forO_end l1 hk1
    refine wcr ?_
    refine wl_pure (po_lss rfl rfl) rfl ?_
    refine wnt ?_
    refine wc_seq ?_
    refine wc_cond_f rfl c1 ?_
    refine wc_exit ?_
    refine wq_then_exit ?_
    refine wq_then_exit ?_
    refine wq_block_exit ?_
    exact wj_meet _ () (Sum.inl.inj en1) (sub_cons rfl sub_nil) some_nil
  intro e1 _ hp
  obtain rfl : e1 = y1 := hp.symm
  refine wq_then ?_
  refine wcr ?_
  refine mv rfl rfl ?_
  refine asg rfl rfl ?_
  refine wnt ?_
  refine wc_ret ?_
  obtain rfl := Option.some.inj t0
  exact wq_ret1 rfl rfl fun w hw => ⟨rfl, hw.weak some_nil⟩

theorem c_impl_VerdictOn (w : World) (a_e : GEntry) (v0a : Hd) (r0 : rdF w (dm w []) (sl v0a) a_e.Block.Cells) (a_f : GEntry) (v1a : Hd) (r1 : rdF w (dm w []) (sl v1a) a_f.Block.Cells) {r : Int} (t0 : impl_VerdictOn a_e a_f = some r) : Calls Tryz.prog 10 #[.agg #[.int .i64 a_e.Owner, .int .i64 a_e.Day, .int .i64 a_e.Block.Size, (sl v0a)], .agg #[.int .i64 a_f.Owner, .int .i64 a_f.Day, .int .i64 a_f.Block.Size, (sl v1a)]] w fun e w' => e = .returned (.int .i64 r) ∧ SH w [] [] w' := by
  refine calls_of_wc (args := [_, _]) Tryz.func10 rfl Tryz.ntmps10 rfl ?_
  unfold impl_VerdictOn at t0
  refine wcr ?_
  refine wl_eff (eo_box rfl rfl) rfl fun b1 => ?_
  refine wl_eff (eo_box rfl rfl) rfl fun b2 => ?_
  refine asg rfl rfl ?_
  refine wnt ?_
  refine wc_seq ?_
  refine wc_block ?_
  refine wc_seq ?_
  refine bdO t0 fun y1 t1 t0 => ?_
  refine wj (J := Bool) (X := Unit) (fun z => y1 = z) (fun z _ => [(2, ptr b1 0), (3, ptr b2 0), (5, .bool z)]) (fun _ _ => [box b2 [.int .i64 a_f.Owner, .int .i64 a_f.Day, .int .i64 a_f.Block.Size, (sl v1a)], box b1 [.int .i64 a_e.Owner, .int .i64 a_e.Day, .int .i64 a_e.Block.Size, (sl v0a)]]) ?_ ?_
  · skip
    refine wc_region ?_
    refine wl_pure (v := .agg #[.int .i64 a_e.Owner, .int .i64 a_e.Day, .int .i64 a_e.Block.Size, (sl v0a)]) (po_load_boxs tk_33 (pickS pick0) rfl rfl rfl) rfl ?_
    refine bdO t1 fun v1 hv1 t1 => ?_
    refine wl_call (co_c0 fa_30 rfl fun w hw => c_impl_EntryOk w a_e v0a (Rg.on (rds_arg r0) hw) hv1) rfl fun _ => ?_
    refine wl_pure (po_not rfl) rfl ?_
    refine mv rfl rfl ?_
    refine wlO_ (t := 9) t1 rfl (fun h1 t1 => ?_) fun h1 t1 => ?_
    · skip
      refine wl_guard_off (j := 3) rfl rfl rfl rfl rfl ?_
      refine wl_guard_off (j := 3) rfl rfl rfl rfl rfl ?_
      refine wl_guard_off (j := 3) rfl rfl rfl rfl rfl ?_
      refine wl_pure (po_pick_t rfl rfl) rfl ?_
      refine mv rfl rfl ?_
      refine wl_guard_off (j := 8) rfl rfl rfl rfl rfl ?_
      refine wl_guard_off (j := 8) rfl rfl rfl rfl rfl ?_
      refine wl_guard_off (j := 8) rfl rfl rfl rfl rfl ?_
      refine wl_guard_off (j := 8) rfl rfl rfl rfl rfl ?_
      refine wl_guard_off (j := 8) rfl rfl rfl rfl rfl ?_
      refine wl_guard_off (j := 8) rfl rfl rfl rfl rfl ?_
      refine wl_guard_off (j := 8) rfl rfl rfl rfl rfl ?_
      refine wl_pure (po_pick_t rfl rfl) rfl ?_
      refine asg rfl rfl ?_
      refine wl_nil ?_
      exact wj_meet _ () (mtE t1) (sub_cons rfl (sub_cons rfl (sub_cons rfl sub_nil))) (some_cons pick0 (some_cons pick0 some_nil))
    refine wl_guard_on (j := 3) rfl rfl rfl (wl_pure (v := .agg #[.int .i64 a_f.Owner, .int .i64 a_f.Day, .int .i64 a_f.Block.Size, (sl v1a)]) (po_load_boxs tk_33 pick0 rfl rfl rfl) rfl ?_)
    refine bdO t1 fun v2 hv2 t1 => ?_
    refine wl_guard_on (j := 3) rfl rfl rfl (wl_call (co_c0 fa_30 rfl fun w hw => c_impl_EntryOk w a_f v1a (Rg.on (rds_arg r1) hw) hv2) rfl (fun _ => ?_))
    refine wl_guard_on (j := 3) rfl rfl rfl (wl_pure (po_not rfl) rfl ?_)
    refine wl_pure (po_pick_f rfl rfl) rfl ?_
    refine mv rfl rfl ?_
    refine wlO_ (t := 14) t1 rfl (fun h2 t1 => ?_) fun h2 t1 => ?_
    · skip
      refine wl_guard_off (j := 8) rfl rfl rfl rfl rfl ?_
      refine wl_guard_off (j := 8) rfl rfl rfl rfl rfl ?_
      refine wl_guard_off (j := 8) rfl rfl rfl rfl rfl ?_
      refine wl_guard_off (j := 8) rfl rfl rfl rfl rfl ?_
      refine wl_guard_off (j := 8) rfl rfl rfl rfl rfl ?_
      refine wl_guard_off (j := 8) rfl rfl rfl rfl rfl ?_
      refine wl_guard_off (j := 8) rfl rfl rfl rfl rfl ?_
      refine wl_pure (po_pick_t rfl rfl) rfl ?_
      refine asg rfl rfl ?_
      refine wl_nil ?_
      exact wj_meet _ () (mtE t1) (sub_cons rfl (sub_cons rfl (sub_cons rfl sub_nil))) (some_cons pick0 (some_cons pick0 some_nil))
    refine wl_guard_on (j := 8) rfl rfl rfl (wl_pure (po_fld fo_33_2 rfl) rfl ?_)
    refine wl_guard_on (j := 8) rfl rfl rfl (wl_pure (po_fld fo_31_0 rfl) rfl ?_)
    refine wl_guard_on (j := 8) rfl rfl rfl (wl_pure (v := .int .i64 a_e.Block.Size) (po_load_box tk_3 (pickS pick0) rfl rfl) rfl ?_)
    refine wl_guard_on (j := 8) rfl rfl rfl (wl_pure (po_fld fo_33_2 rfl) rfl ?_)
    refine wl_guard_on (j := 8) rfl rfl rfl (wl_pure (po_fld fo_31_0 rfl) rfl ?_)
    refine wl_guard_on (j := 8) rfl rfl rfl (wl_pure (v := .int .i64 a_f.Block.Size) (po_load_box tk_3 pick0 rfl rfl) rfl ?_)
    refine wl_guard_on (j := 8) rfl rfl rfl (wl_pure (po_neq rfl rfl) rfl ?_)
    refine wl_pure (po_pick_f rfl rfl) rfl ?_
    refine asg rfl rfl ?_
    refine wl_nil ?_
    exact wj_meet _ () (mtE t1) (sub_cons rfl (sub_cons rfl (sub_cons rfl sub_nil))) (some_cons pick0 (some_cons pick0 some_nil))
  intro j1 _ hp
  obtain rfl : j1 = y1 := hp.symm
  refine wq_then ?_
  refine wcO t0 rfl (fun h3 t0 => ?_) fun h3 t0 => ?_
  · skip
    refine wcr ?_
    refine asg rfl rfl ?_
    refine wnt ?_
    refine wc_ret ?_
    refine wq_block_ret ?_
    refine wq_then_ret ?_
    obtain rfl := Option.some.inj t0
    exact wq_ret1 rfl rfl fun w hw => ⟨rfl, hw.weak some_nil⟩
  refine wcr ?_
  refine wl_pure (po_fld fo_33_2 rfl) rfl ?_
  refine wl_pure (v := .agg #[.int .i64 a_e.Block.Size, (sl v0a)]) (po_load_boxs tk_31 (pickS pick0) rfl rfl rfl) rfl ?_
  refine wl_pure (po_fld fo_33_2 rfl) rfl ?_
  refine wl_pure (v := .agg #[.int .i64 a_f.Block.Size, (sl v1a)]) (po_load_boxs tk_31 pick0 rfl rfl rfl) rfl ?_
  refine bdO t0 fun v3 hv3 t0 => ?_
  refine wl_call (co_c0 fa_31 rfl fun w hw => c_impl_ArePatternsSame w a_e.Block v0a (Rg.on (rds_arg r0) hw) a_f.Block v1a (Rg.on (rds_arg r1) hw) hv3) rfl fun _ => ?_
  refine asg rfl rfl ?_
  refine wnt ?_
  refine wcO t0 rfl (fun h4 t0 => ?_) fun h4 t0 => ?_
  · skip
    refine wcr ?_
    refine asg rfl rfl ?_
    refine wnt ?_
    refine wc_ret ?_
    refine wq_block_ret ?_
    refine wq_then_ret ?_
    obtain rfl := Option.some.inj t0
    exact wq_ret1 rfl rfl fun w hw => ⟨rfl, hw.weak some_nil⟩
  refine wc_seq ?_
  refine wc_draw [box b2 [.int .i64 a_f.Owner, .int .i64 a_f.Day, .int .i64 a_f.Block.Size, (sl v1a)], box b1 [.int .i64 a_e.Owner, .int .i64 a_e.Day, .int .i64 a_e.Block.Size, (sl v0a)]] 13 mixed ?_
  refine wa_pure 0 rfl (po_fld fo_33_2 rfl) (some_cons pick0 (some_cons pick0 some_nil)) rfl (by kernel_rfl) (fun _ _ _ h => h) ?_
  refine wa_pure (v := .agg #[.int .i64 a_e.Block.Size, (sl v0a)]) 1 rfl (po_load_boxs tk_31 (pickS pick0) rfl rfl rfl) (some_cons pick0 (some_cons pick0 some_nil)) rfl (by kernel_rfl) (fun _ _ _ h => h) ?_
  refine wa_pure 2 rfl (po_fld fo_33_2 rfl) (some_cons pick0 (some_cons pick0 some_nil)) rfl (by kernel_rfl) (fun _ _ _ h => h) ?_
  refine wa_pure (v := .agg #[.int .i64 a_f.Block.Size, (sl v1a)]) 3 rfl (po_load_boxs tk_31 pick0 rfl rfl rfl) (some_cons pick0 (some_cons pick0 some_nil)) rfl (by kernel_rfl) (fun _ _ _ h => h) ?_
  refine wa_pure 6 rfl (po_fld fo_33_2 rfl) (some_cons pick0 (some_cons pick0 some_nil)) rfl (by kernel_rfl) (fun _ _ _ h => h) ?_
  refine wa_pure 7 rfl (po_fld fo_31_1 rfl) (some_cons pick0 (some_cons pick0 some_nil)) rfl (by kernel_rfl) (fun _ _ _ h => h) ?_
  refine wa_pure (v := (sl v0a)) 8 rfl (po_load_box tk_29 (pickS pick0) rfl rfl) (some_cons pick0 (some_cons pick0 some_nil)) rfl (by kernel_rfl) (fun _ _ _ h => h) ?_
  refine wa_pure 9 rfl (po_lenr (rds_arg r0) el_29 rfl) (some_cons pick0 (some_cons pick0 some_nil)) rfl (by kernel_rfl) (fun _ _ _ h => h) ?_
  refine wa_pure 10 rfl (po_mul rfl rfl) (some_cons pick0 (some_cons pick0 some_nil)) rfl (by kernel_rfl) (fun _ _ _ h => h) ?_
  refine wa_1 (i := 4) (by kernel_rfl) ?_
  refine bdO t0 fun v4 hv4 t0 => ?_
  refine ws_call rfl (co_c0 fa_32 rfl fun w hw => c_impl_PatternLikeness w a_e.Block v0a (Rg.on (rds_arg r0) hw) a_f.Block v1a (Rg.on (rds_arg r1) hw) hv4) (fun _ => (sts_some (some_cons pick0 (some_cons pick0 some_nil)))) rfl fun _ => ?_
  refine wa_pure 5 rfl (po_mul rfl rfl) (some_cons pick0 (some_cons pick0 some_nil)) rfl (by kernel_rfl) (fun _ _ _ h => h) ?_
  refine wa_pure 11 rfl (po_geq rfl rfl) (some_cons pick0 (some_cons pick0 some_nil)) rfl (by kernel_rfl) (fun _ _ _ h => h) ?_
  refine wa_pure 12 rfl (po_assign rfl) (some_cons pick0 (some_cons pick0 some_nil)) rfl (by kernel_rfl) (fun _ _ _ h => h) ?_
  refine wa_done (by kernel_rfl) ?_
  refine wq_then ?_
  refine wcO t0 rfl (fun h5 t0 => ?_) fun h5 t0 => ?_
  · skip
    refine wcr ?_
    refine asg rfl rfl ?_
    refine wnt ?_
    refine wc_ret ?_
    refine wq_block_ret ?_
    refine wq_then_ret ?_
    obtain rfl := Option.some.inj t0
    exact wq_ret1 rfl rfl fun w hw => ⟨rfl, hw.weak some_nil⟩
  refine wc_skip ?_
  refine wq_block ?_
  refine wq_then ?_
  refine wcr ?_
  refine asg rfl rfl ?_
  refine wnt ?_
  refine wc_ret ?_
  obtain rfl := Option.some.inj t0
  exact wq_ret1 rfl rfl fun w hw => ⟨rfl, hw.weak some_nil⟩

theorem c_impl_IsCopy (w : World) (a_e : GEntry) (v0a : Hd) (r0 : rdF w (dm w []) (sl v0a) a_e.Block.Cells) (a_f : GEntry) (v1a : Hd) (r1 : rdF w (dm w []) (sl v1a) a_f.Block.Cells) {r : Bool} (t0 : impl_IsCopy a_e a_f = some r) : Calls Tryz.prog 13 #[.agg #[.int .i64 a_e.Owner, .int .i64 a_e.Day, .int .i64 a_e.Block.Size, (sl v0a)], .agg #[.int .i64 a_f.Owner, .int .i64 a_f.Day, .int .i64 a_f.Block.Size, (sl v1a)]] w fun e w' => e = .returned (.bool r) ∧ SH w [] [] w' := by
  refine calls_of_wc (args := [_, _]) Tryz.func13 rfl Tryz.ntmps13 rfl ?_
  unfold impl_IsCopy at t0
  refine wcr ?_
  refine wl_eff (eo_box rfl rfl) rfl fun b1 => ?_
  refine wl_eff (eo_box rfl rfl) rfl fun b2 => ?_
  refine asg rfl rfl ?_
  refine wnt ?_
  refine wc_seq ?_
  refine bdO t0 fun y1 t1 t0 => ?_
  refine wj (J := Bool) (X := Unit) (fun z => y1 = z) (fun z _ => [(4, .bool z)]) (fun _ _ => []) ?_ ?_
  · skip
    refine wc_region ?_
    refine wl_pure (po_fld fo_33_0 rfl) rfl ?_
    refine wl_pure (v := .int .i64 a_e.Owner) (po_load_box tk_3 (pickS pick0) rfl rfl) rfl ?_
    refine wl_pure (po_fld fo_33_0 rfl) rfl ?_
    refine wl_pure (v := .int .i64 a_f.Owner) (po_load_box tk_3 pick0 rfl rfl) rfl ?_
    refine wl_pure (po_neq rfl rfl) rfl ?_
    refine mv rfl rfl ?_
    refine wlO_ (t := 10) t1 rfl (fun h1 t1 => ?_) fun h1 t1 => ?_
    · skip
      refine wl_guard_on (j := 5) rfl rfl rfl (wl_pure (po_fld fo_33_1 rfl) rfl ?_)
      refine wl_guard_on (j := 5) rfl rfl rfl (wl_pure (v := .int .i64 a_e.Day) (po_load_box tk_3 (pickS pick0) rfl rfl) rfl ?_)
      refine wl_guard_on (j := 5) rfl rfl rfl (wl_pure (po_fld fo_33_1 rfl) rfl ?_)
      refine wl_guard_on (j := 5) rfl rfl rfl (wl_pure (v := .int .i64 a_f.Day) (po_load_box tk_3 pick0 rfl rfl) rfl ?_)
      refine wl_guard_on (j := 5) rfl rfl rfl (wl_pure (po_gtr rfl rfl) rfl ?_)
      refine wl_pure (po_pick_t rfl rfl) rfl ?_
      refine mv rfl rfl ?_
      refine wlO_ (t := 17) t1 rfl (fun h2 t1 => ?_) fun h2 t1 => ?_
      · skip
        refine wl_guard_on (j := 12) rfl rfl rfl (wl_pure (v := .agg #[.int .i64 a_e.Owner, .int .i64 a_e.Day, .int .i64 a_e.Block.Size, (sl v0a)]) (po_load_boxs tk_33 (pickS pick0) rfl rfl rfl) rfl ?_)
        refine wl_guard_on (j := 12) rfl rfl rfl (wl_pure (v := .agg #[.int .i64 a_f.Owner, .int .i64 a_f.Day, .int .i64 a_f.Block.Size, (sl v1a)]) (po_load_boxs tk_33 pick0 rfl rfl rfl) rfl ?_)
        refine bdO t1 fun v1 hv1 t1 => ?_
        refine wl_guard_on (j := 12) rfl rfl rfl (wl_call (co_c0 fa_10 rfl fun w hw => c_impl_VerdictOn w a_e v0a (Rg.on (rds_arg r0) hw) a_f v1a (Rg.on (rds_arg r1) hw) hv1) rfl (fun _ => ?_))
        refine wl_guard_on (j := 12) rfl rfl rfl (wl_pure (po_geq rfl rfl) rfl ?_)
        refine wl_pure (po_pick_t rfl rfl) rfl ?_
        refine asg rfl rfl ?_
        refine wl_nil ?_
        exact wj_meet _ () (mtE t1) (sub_cons rfl sub_nil) some_nil
      refine wl_guard_off (j := 12) rfl rfl rfl rfl rfl ?_
      refine wl_guard_off (j := 12) rfl rfl rfl rfl rfl ?_
      refine wl_guard_off (j := 12) rfl rfl rfl rfl rfl ?_
      refine wl_guard_off (j := 12) rfl rfl rfl rfl rfl ?_
      refine wl_pure (po_pick_f rfl rfl) rfl ?_
      refine asg rfl rfl ?_
      refine wl_nil ?_
      exact wj_meet _ () (mtE t1) (sub_cons rfl sub_nil) some_nil
    refine wl_guard_off (j := 5) rfl rfl rfl rfl rfl ?_
    refine wl_guard_off (j := 5) rfl rfl rfl rfl rfl ?_
    refine wl_guard_off (j := 5) rfl rfl rfl rfl rfl ?_
    refine wl_guard_off (j := 5) rfl rfl rfl rfl rfl ?_
    refine wl_guard_off (j := 5) rfl rfl rfl rfl rfl ?_
    refine wl_pure (po_pick_f rfl rfl) rfl ?_
    refine mv rfl rfl ?_
    refine wl_guard_off (j := 12) rfl rfl rfl rfl rfl ?_
    refine wl_guard_off (j := 12) rfl rfl rfl rfl rfl ?_
    refine wl_guard_off (j := 12) rfl rfl rfl rfl rfl ?_
    refine wl_guard_off (j := 12) rfl rfl rfl rfl rfl ?_
    refine wl_pure (po_pick_f rfl rfl) rfl ?_
    refine asg rfl rfl ?_
    refine wl_nil ?_
    exact wj_meet _ () (mtE t1) (sub_cons rfl sub_nil) some_nil
  intro j1 _ hp
  obtain rfl : j1 = y1 := hp.symm
  refine wq_then ?_
  refine wc_ret ?_
  obtain rfl := Option.some.inj t0
  exact wq_ret1 rfl rfl fun w hw => ⟨rfl, hw.weak some_nil⟩

theorem c_impl_CopiesIn_c1 (w : World) (a_i : Int) (a_k : Int) (c_p2 : List GEntry) (v0a : Hd) (u0a : List Value) (r0 : RdL w (dm w []) (sl v0a) u0a c_p2) (b2c : Nat) (q2 : Bx w b2c [(sl v0a)]) {r : Bool} (t0 : impl_CopiesIn_c1 a_i a_k c_p2 = some r) : Calls Tryz.prog 35 #[.int .i64 a_i, .int .i64 a_k, ptr b2c 0] w fun e w' => e = .returned (.bool r) ∧ SH w [] [] w' := by
  refine calls_of_wc (args := [_, _, _]) Tryz.func35 rfl Tryz.ntmps35 rfl ?_
  unfold impl_CopiesIn_c1 at t0
  refine wcr ?_
  refine asg rfl rfl ?_
  refine wnt ?_
  refine wc_seq ?_
  refine wc_draw [] 10 mixed ?_
  refine wa_pure (v := (sl v0a)) 0 rfl (po_load_abox q2 tk_40 rfl rfl) some_nil rfl (by kernel_rfl) (fun _ _ _ h => h) ?_
  refine wa_pure 1 rfl (po_move rfl) some_nil rfl (by kernel_rfl) (fun _ _ _ h => h) ?_
  refine gdO t0 fun g1 t0 => ?_
  refine wa_pure 2 rfl (po_ixr (rds_arg r0) el_40 rfl rfl g1.1 g1.2) some_nil rfl (by kernel_rfl) (fun _ _ _ h => h) ?_
  refine wa_elem (rds_arg r0) (ix_lt g1) ?_
  rintro ⟨_, _, he1⟩
  obtain ⟨w1, hc1, _⟩ := rd_GEntry.1 he1
  refine wa_pure (v := .agg #[.int .i64 ((gx c_p2 ((a_i).toNat)).Owner), .int .i64 ((gx c_p2 ((a_i).toNat)).Day), .int .i64 (((gx c_p2 ((a_i).toNat)).Block).Size), (sl w1)]) 3 rfl (po_ldns (rds_arg r0) tk_33 rfl hc1 rfl rfl rfl) some_nil rfl (by kernel_rfl) (fun _ _ _ h => h) ?_
  refine wa_pure (v := (sl v0a)) 4 rfl (po_load_abox q2 tk_40 rfl rfl) some_nil rfl (by kernel_rfl) (fun _ _ _ h => h) ?_
  refine wa_pure 5 rfl (po_move rfl) some_nil rfl (by kernel_rfl) (fun _ _ _ h => h) ?_
  refine gdO t0 fun g2 t0 => ?_
  refine wa_pure 6 rfl (po_ixr (rds_arg r0) el_40 rfl rfl g2.1 g2.2) some_nil rfl (by kernel_rfl) (fun _ _ _ h => h) ?_
  refine wa_elem (rds_arg r0) (ix_lt g2) ?_
  rintro ⟨_, _, he2⟩
  obtain ⟨w2, hc2, _⟩ := rd_GEntry.1 he2
  refine wa_pure (v := .agg #[.int .i64 ((gx c_p2 ((a_k).toNat)).Owner), .int .i64 ((gx c_p2 ((a_k).toNat)).Day), .int .i64 (((gx c_p2 ((a_k).toNat)).Block).Size), (sl w2)]) 7 rfl (po_ldns (rds_arg r0) tk_33 rfl hc2 rfl rfl rfl) some_nil rfl (by kernel_rfl) (fun _ _ _ h => h) ?_
  refine wa_1 (i := 8) (by kernel_rfl) ?_
  refine bdO t0 fun v1 hv1 t0 => ?_
  refine ws_call rfl (co_c0 fa_13 rfl fun w hw => c_impl_IsCopy w (gx c_p2 ((a_i).toNat)) w1 (Rg.on (er_GEntry_0 hc1 (rds_arg r0) (ix_lt g1)) hw) (gx c_p2 ((a_k).toNat)) w2 (Rg.on (er_GEntry_0 hc2 (rds_arg r0) (ix_lt g2)) hw) hv1) (fun _ => (sts_some some_nil)) rfl fun _ => ?_
  refine wa_pure 9 rfl (po_assign rfl) some_nil rfl (by kernel_rfl) (fun _ _ _ h => h) ?_
  refine wa_done (by kernel_rfl) ?_
  refine wq_then ?_
  refine wc_ret ?_
  obtain rfl := Option.some.inj t0
  exact wq_ret1 rfl rfl fun w hw => ⟨rfl, hw.weak some_nil⟩

theorem c_impl_pairsWhere (w : World) (a_n : Int) (a_holds : Int → Int → Option Bool) (f1 : Nat) (us1 : List Value) (fn1 : FnAt Tryz.prog f1) (hg1 : ∀ (w' : World) (z0 : Int) (z1 : Int) (_ : Keep [] w w') (z : Bool) (_ : a_holds z0 z1 = some z), Calls Tryz.prog f1 (([.int .i64 z0, .int .i64 z1] : List Value) ++ us1).toArray w' fun e w'' => e = .returned (.bool z) ∧ SH w' [] [] w'') {r : List (List Int)} (t0 : impl_pairsWhere a_n a_holds = some r) : Calls Tryz.prog 34 #[.int .i64 a_n, .func (.func f1) #[] us1.toArray] w fun e w' => ∃ x : Hd × (List Value), e = .returned ((sl x.1)) ∧ SH w [] [own (sl x.1) x.2 r] w' := by
  refine calls_of_wc (args := [_, _]) Tryz.func34 rfl Tryz.ntmps34 rfl ?_
  unfold impl_pairsWhere at t0
  refine wcr ?_
  refine asg rfl rfl ?_
  refine wnt ?_
  refine wcr ?_
  refine wl_eff (eo_buildSlice rfl sb_44_0) rfl fun b1 => ?_
  refine asg rfl rfl ?_
  refine wnt ?_
  refine wc_seq ?_
  refine wcr ?_
  refine mv rfl rfl ?_
  refine mv rfl rfl ?_
  refine wnt ?_
  refine gdO t0 fun g1 t0 => ?_
  refine lpO_inv t0 fun y1 l1 t0 => ?_
  refine wj (J := List (List Int)) (X := Hd × (List Value)) (fun z => y1 = z) (fun _ x => [(5, (sl x.1))]) (fun z x => [own (sl x.1) x.2 z]) ?_ ?_
  · skip
    refine wc_block ?_
    refine wc_forO (X := Hd × (List Value)) l1 (fun k1 s1 x1l => [(0, .int .i64 a_n), (1, .func (.func f1) #[] us1.toArray), (5, (sl x1l.1)), (9, .int .i64 a_n), (10, .int .i64 ((k1 : Nat) : Int))]) (fun k1 s1 x1l => [own (sl x1l.1) x1l.2 s1]) ((⟨some ⟨b1, 0, none⟩, 0, 0⟩ : Hd), []) (sub_cons rfl (sub_cons rfl (sub_cons rfl (sub_cons rfl (sub_cons rfl sub_nil))))) (some_cons (pick_box_nil pick0) some_nil) fun k1 s1 x1l hN1 l1 => ?_
    by_cases hk1 : k1 < (a_n).toNat
    · skip
      refine forO_step l1 hk1 fun _ t1 l1 => ?_
      unfold impl_pairsWhere_L1 at t1
      have c1 : (decide (((k1 : Nat) : Int) < a_n)) = true := decide_eq_true (by omega)
      refine wcr ?_
      refine wl_pure (po_lss rfl rfl) rfl ?_
      refine wnt ?_
      refine wc_seq ?_
      refine wc_cond_t rfl c1 ?_
      refine wc_skip ?_
      refine wq_then ?_
      refine wc_seq ?_
      refine wc_block ?_
      refine wcr ?_
      refine mv rfl rfl ?_
      refine asg rfl rfl ?_
      refine wnt ?_
      refine wcr ?_
      refine mv rfl rfl ?_
      refine mv rfl rfl ?_
      refine wnt ?_
      refine lpO_inv t1 fun y2 l2 t1 => ?_
      refine wj (J := List (List Int)) (X := Hd × (List Value)) (fun z => y2 = z) (fun _ x => [(0, .int .i64 a_n), (1, .func (.func f1) #[] us1.toArray), (5, (sl x.1)), (9, .int .i64 a_n), (10, .int .i64 ((k1 : Nat) : Int))]) (fun z x => [own (sl x.1) x.2 z]) ?_ ?_
      · skip
        refine wc_block ?_
        refine wc_forO (X := Hd × (List Value)) l2 (fun k2 s2 x2l => [(0, .int .i64 a_n), (1, .func (.func f1) #[] us1.toArray), (5, (sl x2l.1)), (6, .int .i64 ((k1 : Nat) : Int)), (9, .int .i64 a_n), (10, .int .i64 ((k1 : Nat) : Int)), (13, .int .i64 a_n), (14, .int .i64 ((k2 : Nat) : Int))]) (fun k2 s2 x2l => [own (sl x2l.1) x2l.2 s2]) (x1l.1, x1l.2) (sub_cons rfl (sub_cons rfl (sub_cons rfl (sub_cons rfl (sub_cons rfl (sub_cons rfl (sub_cons rfl (sub_cons rfl sub_nil)))))))) (some_cons pick0 some_nil) fun k2 s2 x2l hN2 l2 => ?_
        by_cases hk2 : k2 < (a_n).toNat
        · skip
          refine forO_step l2 hk2 fun _ t2 l2 => ?_
          unfold impl_pairsWhere_L2 at t2
          have c2 : (decide (((k2 : Nat) : Int) < a_n)) = true := decide_eq_true (by omega)
          refine wcr ?_
          refine wl_pure (po_lss rfl rfl) rfl ?_
          refine wnt ?_
          refine wc_seq ?_
          refine wc_cond_t rfl c2 ?_
          refine wc_skip ?_
          refine wq_then ?_
          refine wc_seq ?_
          refine wc_block ?_
          refine wcr ?_
          refine mv rfl rfl ?_
          refine asg rfl rfl ?_
          refine wnt ?_
          refine wc_seq ?_
          refine bdO t2 fun y3 t3 t2 => ?_
          refine wj (J := Bool) (X := Unit) (fun z => y3 = z) (fun z _ => [(0, .int .i64 a_n), (1, .func (.func f1) #[] us1.toArray), (5, (sl x2l.1)), (6, .int .i64 ((k1 : Nat) : Int)), (7, .int .i64 ((k2 : Nat) : Int)), (9, .int .i64 a_n), (10, .int .i64 ((k1 : Nat) : Int)), (13, .int .i64 a_n), (14, .int .i64 ((k2 : Nat) : Int)), (25, .bool z)]) (fun _ _ => [own (sl x2l.1) x2l.2 s2]) ?_ ?_
          · skip
            refine wc_region ?_
            refine mv rfl rfl ?_
            refine mv rfl rfl ?_
            refine wl_pure (po_neq rfl rfl) rfl ?_
            refine mv rfl rfl ?_
            refine wlO_ (t := 20) t3 rfl (fun h1 t3 => ?_) fun h1 t3 => ?_
            · skip
              refine wl_guard_on (j := 3) rfl rfl rfl (mv rfl rfl ?_)
              refine wl_guard_on (j := 3) rfl rfl rfl (mv rfl rfl ?_)
              refine wl_guard_on (j := 3) rfl rfl rfl (mv rfl rfl ?_)
              refine bdO t3 fun v1 hv1 t3 => ?_
              refine wl_guard_on (j := 3) rfl rfl rfl (wl_call (co_d fn1 rfl rfl fun w hw => hg1 w ((k1 : Nat) : Int) ((k2 : Nat) : Int) hw.keep _ hv1) rfl (fun _ => ?_))
              refine wl_pure (po_pick_t rfl rfl) rfl ?_
              refine wl_nil ?_
              exact wj_meet _ () (mtE t3) (sub_cons rfl (sub_cons rfl (sub_cons rfl (sub_cons rfl (sub_cons rfl (sub_cons rfl (sub_cons rfl (sub_cons rfl (sub_cons rfl (sub_cons rfl sub_nil)))))))))) (some_cons pick0 some_nil)
            refine wl_guard_off (j := 3) rfl rfl rfl rfl rfl ?_
            refine wl_guard_off (j := 3) rfl rfl rfl rfl rfl ?_
            refine wl_guard_off (j := 3) rfl rfl rfl rfl rfl ?_
            refine wl_guard_off (j := 3) rfl rfl rfl rfl rfl ?_
            refine wl_pure (po_pick_f rfl rfl) rfl ?_
            refine wl_nil ?_
            exact wj_meet _ () (mtE t3) (sub_cons rfl (sub_cons rfl (sub_cons rfl (sub_cons rfl (sub_cons rfl (sub_cons rfl (sub_cons rfl (sub_cons rfl (sub_cons rfl (sub_cons rfl sub_nil)))))))))) (some_cons pick0 some_nil)
          intro j1 _ hp
          obtain rfl : j1 = y3 := hp.symm
          refine wq_then ?_
          refine bdO t2 fun y3 t3 t2 => ?_
          refine wj (J := List (List Int)) (X := Hd × (List Value)) (fun z => y3 = z) (fun _ x => [(0, .int .i64 a_n), (1, .func (.func f1) #[] us1.toArray), (5, (sl x.1)), (6, .int .i64 ((k1 : Nat) : Int)), (9, .int .i64 a_n), (10, .int .i64 ((k1 : Nat) : Int)), (13, .int .i64 a_n), (14, .int .i64 ((k2 : Nat) : Int))]) (fun z x => [own (sl x.1) x.2 z]) ?_ ?_
          · skip
            refine wcO t3 rfl (fun h2 t3 => ?_) fun h2 t3 => ?_
            · skip
              refine wc_region ?_
              refine mv rfl rfl ?_
              refine mv rfl rfl ?_
              refine mv rfl rfl ?_
              refine wl_eff (eo_buildSlice rfl (sb_55_2 ((k1 : Nat) : Int) ((k2 : Nat) : Int))) rfl fun b2 => ?_
              refine wl_eff (eo_buildSlice rfl (sb_44_1 (⟨some ⟨b2, 0, none⟩, 2, 2⟩ : Hd))) rfl fun b3 => ?_
              refine gdO t3 fun g2 t3 => ?_
              refine wl_eff (eo_append_one (us := x2l.2) (xs := s2) ak_44 (pickS (pickS pick0)) (pow_LF (pick_box_own (pickS pick0) (n := 2) (xs := ([((k1 : Nat) : Int), ((k2 : Nat) : Int)] : List Int)) rfl rfl (by unfold maxLen; omega))) pick0 rfl rfl rfl g2) rfl fun x5 => ?_
              refine asg rfl rfl ?_
              refine wl_nil ?_
              exact wj_meet _ (x5, (x2l.2 ++ [(sl (⟨some ⟨b2, 0, none⟩, 2, 2⟩ : Hd))])) (mtE t3) (sub_cons rfl (sub_cons rfl (sub_cons rfl (sub_cons rfl (sub_cons rfl (sub_cons rfl (sub_cons rfl (sub_cons rfl sub_nil)))))))) (some_cons pick0 some_nil)
            refine wc_skip ?_
            exact wj_meet _ (x2l.1, x2l.2) (mtE t3) (sub_cons rfl (sub_cons rfl (sub_cons rfl (sub_cons rfl (sub_cons rfl (sub_cons rfl (sub_cons rfl (sub_cons rfl sub_nil)))))))) (some_cons pick0 some_nil)
          intro j2 x4 hp
          obtain rfl : j2 = y3 := hp.symm
          refine wq_block ?_
          refine wq_then ?_
          refine wc_region ?_
          refine wl_pure (po_inc rfl rfl (by omega)) rfl ?_
          refine mv rfl rfl ?_
          refine wl_nil ?_
          exact wq_rnd hk2 (stpN l2 t2) (x4.1, x4.2) (sub_cons rfl (sub_cons rfl (sub_cons rfl (sub_cons rfl (sub_cons rfl (sub_cons rfl (sub_cons rfl (sub_cons rfl sub_nil)))))))) (some_cons pick0 some_nil)
        have c2 : (decide (((k2 : Nat) : Int) < a_n)) = false := decide_eq_false (by omega)
        have en1 := forO_end l2 hk2
        refine wcr ?_
        refine wl_pure (po_lss rfl rfl) rfl ?_
        refine wnt ?_
        refine wc_seq ?_
        refine wc_cond_f rfl c2 ?_
        refine wc_exit ?_
        refine wq_then_exit ?_
        refine wq_then_exit ?_
        refine wq_block_exit ?_
        exact wj_meet _ (x2l.1, x2l.2) (Sum.inl.inj en1) (sub_cons rfl (sub_cons rfl (sub_cons rfl (sub_cons rfl (sub_cons rfl sub_nil))))) (some_cons pick0 some_nil)
      intro e2 x2 hp
      obtain rfl : e2 = y2 := hp.symm
      refine wq_block ?_
      refine wq_then ?_
      refine wc_region ?_
      refine wl_pure (po_inc rfl rfl (by omega)) rfl ?_
      refine mv rfl rfl ?_
      refine wl_nil ?_
      exact wq_rnd hk1 (stpN l1 t1) (x2.1, x2.2) (sub_cons rfl (sub_cons rfl (sub_cons rfl (sub_cons rfl (sub_cons rfl sub_nil))))) (some_cons pick0 some_nil)
    have c1 : (decide (((k1 : Nat) : Int) < a_n)) = false := decide_eq_false (by omega)
    have en2 := forO_end l1 hk1
    refine wcr ?_
    refine wl_pure (po_lss rfl rfl) rfl ?_
    refine wnt ?_
    refine wc_seq ?_
    refine wc_cond_f rfl c1 ?_
    refine wc_exit ?_
    refine wq_then_exit ?_
    refine wq_then_exit ?_
    refine wq_block_exit ?_
    exact wj_meet _ (x1l.1, x1l.2) (Sum.inl.inj en2) (sub_cons rfl sub_nil) (some_cons pick0 some_nil)
  intro e1 x1 hp
  obtain rfl : e1 = y1 := hp.symm
  refine wq_then ?_
  refine wcr ?_
  refine mv rfl rfl ?_
  refine asg rfl rfl ?_
  refine wnt ?_
  refine wc_ret ?_
  obtain rfl := Option.some.inj t0
  exact wq_ret1 rfl rfl fun w hw => ⟨(x1.1, x1.2), rfl, hw.weak (some_cons pick0 some_nil)⟩

theorem c_impl_CopiesIn (w : World) (a_list : List GEntry) (v0a : Hd) (u0a : List Value) (r0 : RdL w (dm w []) (sl v0a) u0a a_list) {r : List (List Int)} (t0 : impl_CopiesIn a_list = some r) : Calls Tryz.prog 20 #[(sl v0a)] w fun e w' => ∃ x : Hd × (List Value), e = .returned ((sl x.1)) ∧ SH w [] [own (sl x.1) x.2 r] w' := by
  refine calls_of_wc (args := [_]) Tryz.func20 rfl Tryz.ntmps20 rfl ?_
  unfold impl_CopiesIn at t0
  refine wcr ?_
  refine wl_eff (eo_box rfl rfl) rfl fun b1 => ?_
  refine asg rfl rfl ?_
  refine wnt ?_
  refine wc_seq ?_
  refine wcr ?_
  refine wl_pure (v := (sl v0a)) (po_load_box tk_40 pick0 rfl rfl) rfl ?_
  refine wl_pure (po_lenr (rds_arg r0) el_40 rfl) rfl ?_
  refine wl_pure (po_gtr rfl rfl) rfl ?_
  refine wnt ?_
  refine wcO t0 rfl (fun h1 t0 => ?_) fun h1 t0 => ?_
  · skip
    refine wcr ?_
    refine asg rfl rfl ?_
    refine wnt ?_
    refine wc_ret ?_
    refine wq_then_ret ?_
    obtain rfl := Option.some.inj t0
    exact wq_ret1 rfl rfl fun w hw => ⟨((⟨none, 0, 0⟩ : Hd), []), rfl, hw.weak (some_cons pick_nil some_nil)⟩
  refine wc_skip ?_
  refine wq_then ?_
  refine wcr ?_
  refine wl_pure (v := (sl v0a)) (po_load_box tk_40 pick0 rfl rfl) rfl ?_
  refine wl_pure (po_lenr (rds_arg r0) el_40 rfl) rfl ?_
  refine wl_pure (po_makeFunc rfl) rfl ?_
  refine bdO t0 fun v1 hv1 t0 => ?_
  refine wl_call (co_c1 fa_34 rfl fun w hw => c_impl_pairsWhere w ((a_list.length : Nat) : Int) (fun z0 z1 => impl_CopiesIn_c1 z0 z1 a_list) 35 [ptr b1 0] fa_35 (fun w2 z0 z1  hk _ hz => c_impl_CopiesIn_c1 w2 z0 z1 a_list v0a u0a (RdL.later (Rg.on (rds_arg r0) hw) hk) b1 (Bx.keep (hw.at_box pick0) hk) hz) hv1) rfl fun x1 => ?_
  refine asg rfl rfl ?_
  refine wnt ?_
  refine wc_ret ?_
  obtain rfl := Option.some.inj t0
  exact wq_ret1 rfl rfl fun w hw => ⟨(x1.1, x1.2), rfl, hw.weak (some_cons pick0 some_nil)⟩

theorem c_laws_eqIntS (w : World) (a_a : List Int) (v0a : Hd) (r0 : rdF w (dm w []) (sl v0a) a_a) (a_b : List Int) (v1a : Hd) (r1 : rdF w (dm w []) (sl v1a) a_b) {r : Bool} (t0 : laws_eqIntS a_a a_b = some r) : Calls Tryz.prog 36 #[(sl v0a), (sl v1a)] w fun e w' => e = .returned (.bool r) ∧ SH w [] [] w' := by
  refine calls_of_wc (args := [_, _]) Tryz.func36 rfl Tryz.ntmps36 rfl ?_
  unfold laws_eqIntS at t0
  refine wcr ?_
  refine asg rfl rfl ?_
  refine wnt ?_
  refine wc_seq ?_
  refine wcr ?_
  refine mv rfl rfl ?_
  refine wl_pure (po_lenr (rds_arg r0) el_55 rfl) rfl ?_
  refine mv rfl rfl ?_
  refine wl_pure (po_lenr (rds_arg r1) el_55 rfl) rfl ?_
  refine wl_pure (po_neq rfl rfl) rfl ?_
  refine wnt ?_
  refine wcO t0 rfl (fun h1 t0 => ?_) fun h1 t0 => ?_
  · skip
    refine wcr ?_
    refine asg rfl rfl ?_
    refine wnt ?_
    refine wc_ret ?_
    refine wq_then_ret ?_
    obtain rfl := Option.some.inj t0
    exact wq_ret1 rfl rfl fun w hw => ⟨rfl, hw.weak some_nil⟩
  refine wc_skip ?_
  refine wq_then ?_
  refine wc_seq ?_
  refine wcr ?_
  refine asg rfl rfl ?_
  refine wnt ?_
  refine gdO t0 fun g1 t0 => ?_
  refine sqO t0 fun y1 l1 t0 => ?_
  refine wj (J := Unit) (X := Unit) (fun z => y1 = .inl z) (fun _ _ => []) (fun _ _ => []) ?_ ?_
  · skip
    refine wc_block ?_
    refine wc_forO (X := Unit) l1 (fun k1 s1 x1l => [(0, (sl v0a)), (1, (sl v1a)), (5, .int .i64 ((k1 : Nat) : Int))]) (fun k1 s1 x1l => []) () (sub_cons rfl (sub_cons rfl (sub_cons rfl sub_nil))) some_nil fun k1 s1 x1l hN1 l1 => ?_
    by_cases hk1 : k1 < a_a.length
    · skip
      refine forO_step l1 hk1 fun _ t1 l1 => ?_
      unfold laws_eqIntS_L1 at t1
      have c1 : (decide (((k1 : Nat) : Int) < ((a_a.length : Nat) : Int))) = true := decide_eq_true (by omega)
      refine wc_seq ?_
      refine wcr ?_
      refine mv rfl rfl ?_
      refine mv rfl rfl ?_
      refine wl_pure (po_lenr (rds_arg r0) el_55 rfl) rfl ?_
      refine wl_pure (po_lss rfl rfl) rfl ?_
      refine wnt ?_
      refine wc_cond_t rfl c1 ?_
      refine wc_skip ?_
      refine wq_then ?_
      refine wc_seq ?_
      refine wc_block ?_
      refine wc_seq ?_
      refine wc_draw [] 9 mixed ?_
      refine wa_pure 0 rfl (po_move rfl) some_nil rfl (by kernel_rfl) (fun _ _ _ h => h) ?_
      refine wa_pure 1 rfl (po_move rfl) some_nil rfl (by kernel_rfl) (fun _ _ _ h => h) ?_
      refine wa_pure 2 rfl (po_ixn (k := k1) (rds_arg r0) el_55 rfl rfl hk1) some_nil rfl (by kernel_rfl) (fun _ _ _ h => h) ?_
      refine wa_pure (v := .int .i64 (gx a_a k1)) 3 rfl (po_ldf (rds_arg r0) tk_3 rfl hk1 rfl) some_nil rfl (by kernel_rfl) (fun _ _ _ h => h) ?_
      refine wa_pure 4 rfl (po_move rfl) some_nil rfl (by kernel_rfl) (fun _ _ _ h => h) ?_
      refine wa_pure 5 rfl (po_move rfl) some_nil rfl (by kernel_rfl) (fun _ _ _ h => h) ?_
      refine gdO t1 fun g2 t1 => ?_
      refine wa_pure 6 rfl (po_ixn (k := k1) (rds_arg r1) el_55 rfl rfl g2) some_nil rfl (by kernel_rfl) (fun _ _ _ h => h) ?_
      refine wa_pure (v := .int .i64 (gx a_b k1)) 7 rfl (po_ldf (rds_arg r1) tk_3 rfl g2 rfl) some_nil rfl (by kernel_rfl) (fun _ _ _ h => h) ?_
      refine wa_pure 8 rfl (po_neq rfl rfl) some_nil rfl (by kernel_rfl) (fun _ _ _ h => h) ?_
      refine wa_done (by kernel_rfl) ?_
      refine wq_then ?_
      refine wcO t1 rfl (fun h2 t1 => ?_) fun h2 t1 => ?_
      · skip
        refine wcr ?_
        refine asg rfl rfl ?_
        refine wnt ?_
        refine wc_ret ?_
        refine wq_block_ret ?_
        refine wq_then_ret ?_
        refine wq_then_ret ?_
        refine wq_block_ret ?_
        refine wq_then_ret ?_
        refine wq_then_ret ?_
        replace t0 := lpR t0 l1 t1
        obtain rfl := Option.some.inj t0
        exact wq_ret1 rfl rfl fun w hw => ⟨rfl, hw.weak some_nil⟩
      refine wc_skip ?_
      refine wq_block ?_
      refine wq_then ?_
      refine wc_region ?_
      refine mv rfl rfl ?_
      refine wl_pure (po_inc rfl rfl (by omega)) rfl ?_
      refine asg rfl rfl ?_
      refine wl_nil ?_
      exact wq_rnd hk1 (stpN l1 t1) () (sub_cons rfl (sub_cons rfl (sub_cons rfl sub_nil))) some_nil
    have c1 : (decide (((k1 : Nat) : Int) < ((a_a.length : Nat) : Int))) = false := decide_eq_false (by omega)
    have en1 := forO_end l1 hk1
    refine wc_seq ?_
    refine wcr ?_
    refine mv rfl rfl ?_
    refine mv rfl rfl ?_
    refine wl_pure (po_lenr (rds_arg r0) el_55 rfl) rfl ?_
    refine wl_pure (po_lss rfl rfl) rfl ?_
    refine wnt ?_
    refine wc_cond_f rfl c1 ?_
    refine wc_exit ?_
    refine wq_then_exit ?_
    refine wq_then_exit ?_
    refine wq_block_exit ?_
    exact wj_meet _ () en1 sub_nil some_nil
  intro e1 _ hp
  replace t0 := sqE (j := e1) t0 hp
  refine wq_then ?_
  refine wcr ?_
  refine asg rfl rfl ?_
  refine wnt ?_
  refine wc_ret ?_
  obtain rfl := Option.some.inj t0
  exact wq_ret1 rfl rfl fun w hw => ⟨rfl, hw.weak some_nil⟩

theorem c_laws_eqIntSS (w : World) (a_a : List (List Int)) (v0a : Hd) (u0a : List Value) (r0 : RdL w (dm w []) (sl v0a) u0a a_a) (a_b : List (List Int)) (v1a : Hd) (u1a : List Value) (r1 : RdL w (dm w []) (sl v1a) u1a a_b) {r : Bool} (t0 : laws_eqIntSS a_a a_b = some r) : Calls Tryz.prog 21 #[(sl v0a), (sl v1a)] w fun e w' => e = .returned (.bool r) ∧ SH w [] [] w' := by
  refine calls_of_wc (args := [_, _]) Tryz.func21 rfl Tryz.ntmps21 rfl ?_
  unfold laws_eqIntSS at t0
  refine wcr ?_
  refine asg rfl rfl ?_
  refine wnt ?_
  refine wc_seq ?_
  refine wcr ?_
  refine mv rfl rfl ?_
  refine wl_pure (po_lenr (rds_arg r0) el_44 rfl) rfl ?_
  refine mv rfl rfl ?_
  refine wl_pure (po_lenr (rds_arg r1) el_44 rfl) rfl ?_
  refine wl_pure (po_neq rfl rfl) rfl ?_
  refine wnt ?_
  refine wcO t0 rfl (fun h1 t0 => ?_) fun h1 t0 => ?_
  · skip
    refine wcr ?_
    refine asg rfl rfl ?_
    refine wnt ?_
    refine wc_ret ?_
    refine wq_then_ret ?_
    obtain rfl := Option.some.inj t0
    exact wq_ret1 rfl rfl fun w hw => ⟨rfl, hw.weak some_nil⟩
  refine wc_skip ?_
  refine wq_then ?_
  refine wc_seq ?_
  refine wcr ?_
  refine asg rfl rfl ?_
  refine wnt ?_
  refine gdO t0 fun g1 t0 => ?_
  refine sqO t0 fun y1 l1 t0 => ?_
  refine wj (J := Unit) (X := Unit) (fun z => y1 = .inl z) (fun _ _ => []) (fun _ _ => []) ?_ ?_
  · skip
    refine wc_block ?_
    refine wc_forO (X := Unit) l1 (fun k1 s1 x1l => [(0, (sl v0a)), (1, (sl v1a)), (5, .int .i64 ((k1 : Nat) : Int))]) (fun k1 s1 x1l => []) () (sub_cons rfl (sub_cons rfl (sub_cons rfl sub_nil))) some_nil fun k1 s1 x1l hN1 l1 => ?_
    by_cases hk1 : k1 < a_a.length
    · skip
      refine forO_step l1 hk1 fun _ t1 l1 => ?_
      unfold laws_eqIntSS_L1 at t1
      have c1 : (decide (((k1 : Nat) : Int) < ((a_a.length : Nat) : Int))) = true := decide_eq_true (by omega)
      refine wc_seq ?_
      refine wcr ?_
      refine mv rfl rfl ?_
      refine mv rfl rfl ?_
      refine wl_pure (po_lenr (rds_arg r0) el_44 rfl) rfl ?_
      refine wl_pure (po_lss rfl rfl) rfl ?_
      refine wnt ?_
      refine wc_cond_t rfl c1 ?_
      refine wc_skip ?_
      refine wq_then ?_
      refine wc_seq ?_
      refine wc_block ?_
      refine wc_seq ?_
      refine wc_draw [] 10 mixed ?_
      refine wa_pure 0 rfl (po_move rfl) some_nil rfl (by kernel_rfl) (fun _ _ _ h => h) ?_
      refine wa_pure 1 rfl (po_move rfl) some_nil rfl (by kernel_rfl) (fun _ _ _ h => h) ?_
      refine wa_pure 2 rfl (po_ixn (k := k1) (rds_arg r0) el_44 rfl rfl hk1) some_nil rfl (by kernel_rfl) (fun _ _ _ h => h) ?_
      refine wa_elem (rds_arg r0) hk1 ?_
      rintro ⟨_, _, he1⟩
      obtain ⟨w1, hc1, _⟩ := rd_LF.1 he1
      refine wa_pure (v := (sl w1)) 3 rfl (po_ldn (rds_arg r0) tk_55 rfl hc1 rfl) some_nil rfl (by kernel_rfl) (fun _ _ _ h => h) ?_
      refine wa_pure 4 rfl (po_move rfl) some_nil rfl (by kernel_rfl) (fun _ _ _ h => h) ?_
      refine wa_pure 5 rfl (po_move rfl) some_nil rfl (by kernel_rfl) (fun _ _ _ h => h) ?_
      refine gdO t1 fun g2 t1 => ?_
      refine wa_pure 6 rfl (po_ixn (k := k1) (rds_arg r1) el_44 rfl rfl g2) some_nil rfl (by kernel_rfl) (fun _ _ _ h => h) ?_
      refine wa_elem (rds_arg r1) g2 ?_
      rintro ⟨_, _, he2⟩
      obtain ⟨w2, hc2, _⟩ := rd_LF.1 he2
      refine wa_pure (v := (sl w2)) 7 rfl (po_ldn (rds_arg r1) tk_55 rfl hc2 rfl) some_nil rfl (by kernel_rfl) (fun _ _ _ h => h) ?_
      refine wa_1 (i := 8) (by kernel_rfl) ?_
      refine bdO t1 fun v1 hv1 t1 => ?_
      refine ws_call rfl (co_c0 fa_36 rfl fun w hw => c_laws_eqIntS w (gx a_a k1) w1 (Rg.on (er_LF hc1 (rds_arg r0) hk1) hw) (gx a_b k1) w2 (Rg.on (er_LF hc2 (rds_arg r1) g2) hw) hv1) (fun _ => (sts_some some_nil)) rfl fun _ => ?_
      refine wa_pure 9 rfl (po_not rfl) some_nil rfl (by kernel_rfl) (fun _ _ _ h => h) ?_
      refine wa_done (by kernel_rfl) ?_
      refine wq_then ?_
      refine wcO t1 rfl (fun h2 t1 => ?_) fun h2 t1 => ?_
      · skip
        refine wcr ?_
        refine asg rfl rfl ?_
        refine wnt ?_
        refine wc_ret ?_
        refine wq_block_ret ?_
        refine wq_then_ret ?_
        refine wq_then_ret ?_
        refine wq_block_ret ?_
        refine wq_then_ret ?_
        refine wq_then_ret ?_
        replace t0 := lpR t0 l1 t1
        obtain rfl := Option.some.inj t0
        exact wq_ret1 rfl rfl fun w hw => ⟨rfl, hw.weak some_nil⟩
      refine wc_skip ?_
      refine wq_block ?_
      refine wq_then ?_
      refine wc_region ?_
      refine mv rfl rfl ?_
      refine wl_pure (po_inc rfl rfl (by omega)) rfl ?_
      refine asg rfl rfl ?_
      refine wl_nil ?_
      exact wq_rnd hk1 (stpN l1 t1) () (sub_cons rfl (sub_cons rfl (sub_cons rfl sub_nil))) some_nil
    have c1 : (decide (((k1 : Nat) : Int) < ((a_a.length : Nat) : Int))) = false := decide_eq_false (by omega)
    have en1 := forO_end l1 hk1
    refine wc_seq ?_
    refine wcr ?_
    refine mv rfl rfl ?_
    refine mv rfl rfl ?_
    refine wl_pure (po_lenr (rds_arg r0) el_44 rfl) rfl ?_
    refine wl_pure (po_lss rfl rfl) rfl ?_
    refine wnt ?_
    refine wc_cond_f rfl c1 ?_
    refine wc_exit ?_
    refine wq_then_exit ?_
    refine wq_then_exit ?_
    refine wq_block_exit ?_
    exact wj_meet _ () en1 sub_nil some_nil
  intro e1 _ hp
  replace t0 := sqE (j := e1) t0 hp
  refine wq_then ?_
  refine wcr ?_
  refine asg rfl rfl ?_
  refine wnt ?_
  refine wc_ret ?_
  obtain rfl := Option.some.inj t0
  exact wq_ret1 rfl rfl fun w hw => ⟨rfl, hw.weak some_nil⟩

theorem c_laws_eqCell (w : World) (a_a : GCell) (a_b : GCell) {r : Bool} (t0 : laws_eqCell a_a a_b = some r) : Calls Tryz.prog 78 #[.agg #[.int .i64 a_a.Split, .int .i64 a_a.A, .int .i64 a_a.B], .agg #[.int .i64 a_b.Split, .int .i64 a_b.A, .int .i64 a_b.B]] w fun e w' => e = .returned (.bool r) ∧ SH w [] [] w' := by
  refine calls_of_wc (args := [_, _]) Tryz.func78 rfl Tryz.ntmps78 rfl ?_
  unfold laws_eqCell at t0
  refine wcr ?_
  refine wl_eff (eo_box rfl rfl) rfl fun b1 => ?_
  refine wl_eff (eo_box rfl rfl) rfl fun b2 => ?_
  refine asg rfl rfl ?_
  refine wnt ?_
  refine wc_seq ?_
  refine wcr ?_
  refine wl_pure (po_fld fo_75_0 rfl) rfl ?_
  refine wl_pure (v := .int .i64 a_a.Split) (po_load_box tk_3 (pickS pick0) rfl rfl) rfl ?_
  refine wl_pure (po_fld fo_75_0 rfl) rfl ?_
  refine wl_pure (v := .int .i64 a_b.Split) (po_load_box tk_3 pick0 rfl rfl) rfl ?_
  refine wl_pure (po_neq rfl rfl) rfl ?_
  refine wnt ?_
  refine wcO t0 rfl (fun h1 t0 => ?_) fun h1 t0 => ?_
  · skip
    refine wcr ?_
    refine asg rfl rfl ?_
    refine wnt ?_
    refine wc_ret ?_
    refine wq_then_ret ?_
    obtain rfl := Option.some.inj t0
    exact wq_ret1 rfl rfl fun w hw => ⟨rfl, hw.weak some_nil⟩
  refine wc_skip ?_
  refine wq_then ?_
  refine wc_seq ?_
  refine wcr ?_
  refine wl_pure (po_fld fo_75_1 rfl) rfl ?_
  refine wl_pure (v := .int .i64 a_a.A) (po_load_box tk_3 (pickS pick0) rfl rfl) rfl ?_
  refine wl_pure (po_fld fo_75_1 rfl) rfl ?_
  refine wl_pure (v := .int .i64 a_b.A) (po_load_box tk_3 pick0 rfl rfl) rfl ?_
  refine wl_pure (po_neq rfl rfl) rfl ?_
  refine wnt ?_
  refine wcO t0 rfl (fun h2 t0 => ?_) fun h2 t0 => ?_
  · skip
    refine wcr ?_
    refine asg rfl rfl ?_
    refine wnt ?_
    refine wc_ret ?_
    refine wq_then_ret ?_
    obtain rfl := Option.some.inj t0
    exact wq_ret1 rfl rfl fun w hw => ⟨rfl, hw.weak some_nil⟩
  refine wc_skip ?_
  refine wq_then ?_
  refine wc_seq ?_
  refine wcr ?_
  refine wl_pure (po_fld fo_75_2 rfl) rfl ?_
  refine wl_pure (v := .int .i64 a_a.B) (po_load_box tk_3 (pickS pick0) rfl rfl) rfl ?_
  refine wl_pure (po_fld fo_75_2 rfl) rfl ?_
  refine wl_pure (v := .int .i64 a_b.B) (po_load_box tk_3 pick0 rfl rfl) rfl ?_
  refine wl_pure (po_neq rfl rfl) rfl ?_
  refine wnt ?_
  refine wcO t0 rfl (fun h3 t0 => ?_) fun h3 t0 => ?_
  · skip
    refine wcr ?_
    refine asg rfl rfl ?_
    refine wnt ?_
    refine wc_ret ?_
    refine wq_then_ret ?_
    obtain rfl := Option.some.inj t0
    exact wq_ret1 rfl rfl fun w hw => ⟨rfl, hw.weak some_nil⟩
  refine wc_skip ?_
  refine wq_then ?_
  refine wcr ?_
  refine asg rfl rfl ?_
  refine wnt ?_
  refine wc_ret ?_
  obtain rfl := Option.some.inj t0
  exact wq_ret1 rfl rfl fun w hw => ⟨rfl, hw.weak some_nil⟩

theorem c_laws_eqCellS (w : World) (a_a : List GCell) (v0a : Hd) (r0 : rdF w (dm w []) (sl v0a) a_a) (a_b : List GCell) (v1a : Hd) (r1 : rdF w (dm w []) (sl v1a) a_b) {r : Bool} (t0 : laws_eqCellS a_a a_b = some r) : Calls Tryz.prog 60 #[(sl v0a), (sl v1a)] w fun e w' => e = .returned (.bool r) ∧ SH w [] [] w' := by
  refine calls_of_wc (args := [_, _]) Tryz.func60 rfl Tryz.ntmps60 rfl ?_
  unfold laws_eqCellS at t0
  refine wcr ?_
  refine asg rfl rfl ?_
  refine wnt ?_
  refine wc_seq ?_
  refine wcr ?_
  refine mv rfl rfl ?_
  refine wl_pure (po_lenr (rds_arg r0) el_29 rfl) rfl ?_
  refine mv rfl rfl ?_
  refine wl_pure (po_lenr (rds_arg r1) el_29 rfl) rfl ?_
  refine wl_pure (po_neq rfl rfl) rfl ?_
  refine wnt ?_
  refine wcO t0 rfl (fun h1 t0 => ?_) fun h1 t0 => ?_
  · skip
    refine wcr ?_
    refine asg rfl rfl ?_
    refine wnt ?_
    refine wc_ret ?_
    refine wq_then_ret ?_
    obtain rfl := Option.some.inj t0
    exact wq_ret1 rfl rfl fun w hw => ⟨rfl, hw.weak some_nil⟩
  refine wc_skip ?_
  refine wq_then ?_
  refine wc_seq ?_
  refine wcr ?_
  refine asg rfl rfl ?_
  refine wnt ?_
  refine gdO t0 fun g1 t0 => ?_
  refine sqO t0 fun y1 l1 t0 => ?_
  refine wj (J := Unit) (X := Unit) (fun z => y1 = .inl z) (fun _ _ => []) (fun _ _ => []) ?_ ?_
  · skip
    refine wc_block ?_
    refine wc_forO (X := Unit) l1 (fun k1 s1 x1l => [(0, (sl v0a)), (1, (sl v1a)), (5, .int .i64 ((k1 : Nat) : Int))]) (fun k1 s1 x1l => []) () (sub_cons rfl (sub_cons rfl (sub_cons rfl sub_nil))) some_nil fun k1 s1 x1l hN1 l1 => ?_
    by_cases hk1 : k1 < a_a.length
    · skip
      refine forO_step l1 hk1 fun _ t1 l1 => ?_
      unfold laws_eqCellS_L1 at t1
      have c1 : (decide (((k1 : Nat) : Int) < ((a_a.length : Nat) : Int))) = true := decide_eq_true (by omega)
      refine wc_seq ?_
      refine wcr ?_
      refine mv rfl rfl ?_
      refine mv rfl rfl ?_
      refine wl_pure (po_lenr (rds_arg r0) el_29 rfl) rfl ?_
      refine wl_pure (po_lss rfl rfl) rfl ?_
      refine wnt ?_
      refine wc_cond_t rfl c1 ?_
      refine wc_skip ?_
      refine wq_then ?_
      refine wc_seq ?_
      refine wc_block ?_
      refine wc_seq ?_
      refine wc_draw [] 10 mixed ?_
      refine wa_pure 0 rfl (po_move rfl) some_nil rfl (by kernel_rfl) (fun _ _ _ h => h) ?_
      refine wa_pure 1 rfl (po_move rfl) some_nil rfl (by kernel_rfl) (fun _ _ _ h => h) ?_
      refine wa_pure 2 rfl (po_ixn (k := k1) (rds_arg r0) el_29 rfl rfl hk1) some_nil rfl (by kernel_rfl) (fun _ _ _ h => h) ?_
      refine wa_pure (v := .agg #[.int .i64 ((gx a_a k1).Split), .int .i64 ((gx a_a k1).A), .int .i64 ((gx a_a k1).B)]) 3 rfl (po_ldfs (rds_arg r0) tk_75 rfl hk1 rfl rfl rfl) some_nil rfl (by kernel_rfl) (fun _ _ _ h => h) ?_
      refine wa_pure 4 rfl (po_move rfl) some_nil rfl (by kernel_rfl) (fun _ _ _ h => h) ?_
      refine wa_pure 5 rfl (po_move rfl) some_nil rfl (by kernel_rfl) (fun _ _ _ h => h) ?_
      refine gdO t1 fun g2 t1 => ?_
      refine wa_pure 6 rfl (po_ixn (k := k1) (rds_arg r1) el_29 rfl rfl g2) some_nil rfl (by kernel_rfl) (fun _ _ _ h => h) ?_
      refine wa_pure (v := .agg #[.int .i64 ((gx a_b k1).Split), .int .i64 ((gx a_b k1).A), .int .i64 ((gx a_b k1).B)]) 7 rfl (po_ldfs (rds_arg r1) tk_75 rfl g2 rfl rfl rfl) some_nil rfl (by kernel_rfl) (fun _ _ _ h => h) ?_
      refine wa_1 (i := 8) (by kernel_rfl) ?_
      refine bdO t1 fun v1 hv1 t1 => ?_
      refine ws_call rfl (co_c0 fa_78 rfl fun w hw => c_laws_eqCell w (gx a_a k1) (gx a_b k1) hv1) (fun _ => (sts_some some_nil)) rfl fun _ => ?_
      refine wa_pure 9 rfl (po_not rfl) some_nil rfl (by kernel_rfl) (fun _ _ _ h => h) ?_
      refine wa_done (by kernel_rfl) ?_
      refine wq_then ?_
      refine wcO t1 rfl (fun h2 t1 => ?_) fun h2 t1 => ?_
      · skip
        refine wcr ?_
        refine asg rfl rfl ?_
        refine wnt ?_
        refine wc_ret ?_
        refine wq_block_ret ?_
        refine wq_then_ret ?_
        refine wq_then_ret ?_
        refine wq_block_ret ?_
        refine wq_then_ret ?_
        refine wq_then_ret ?_
        replace t0 := lpR t0 l1 t1
        obtain rfl := Option.some.inj t0
        exact wq_ret1 rfl rfl fun w hw => ⟨rfl, hw.weak some_nil⟩
      refine wc_skip ?_
      refine wq_block ?_
      refine wq_then ?_
      refine wc_region ?_
      refine mv rfl rfl ?_
      refine wl_pure (po_inc rfl rfl (by omega)) rfl ?_
      refine asg rfl rfl ?_
      refine wl_nil ?_
      exact wq_rnd hk1 (stpN l1 t1) () (sub_cons rfl (sub_cons rfl (sub_cons rfl sub_nil))) some_nil
    have c1 : (decide (((k1 : Nat) : Int) < ((a_a.length : Nat) : Int))) = false := decide_eq_false (by omega)
    have en1 := forO_end l1 hk1
    refine wc_seq ?_
    refine wcr ?_
    refine mv rfl rfl ?_
    refine mv rfl rfl ?_
    refine wl_pure (po_lenr (rds_arg r0) el_29 rfl) rfl ?_
    refine wl_pure (po_lss rfl rfl) rfl ?_
    refine wnt ?_
    refine wc_cond_f rfl c1 ?_
    refine wc_exit ?_
    refine wq_then_exit ?_
    refine wq_then_exit ?_
    refine wq_block_exit ?_
    exact wj_meet _ () en1 sub_nil some_nil
  intro e1 _ hp
  replace t0 := sqE (j := e1) t0 hp
  refine wq_then ?_
  refine wcr ?_
  refine asg rfl rfl ?_
  refine wnt ?_
  refine wc_ret ?_
  obtain rfl := Option.some.inj t0
  exact wq_ret1 rfl rfl fun w hw => ⟨rfl, hw.weak some_nil⟩

theorem c_laws_eqBlock (w : World) (a_a : GBlock) (v0a : Hd) (r0 : rdF w (dm w []) (sl v0a) a_a.Cells) (a_b : GBlock) (v1a : Hd) (r1 : rdF w (dm w []) (sl v1a) a_b.Cells) {r : Bool} (t0 : laws_eqBlock a_a a_b = some r) : Calls Tryz.prog 33 #[.agg #[.int .i64 a_a.Size, (sl v0a)], .agg #[.int .i64 a_b.Size, (sl v1a)]] w fun e w' => e = .returned (.bool r) ∧ SH w [] [] w' := by
  refine calls_of_wc (args := [_, _]) Tryz.func33 rfl Tryz.ntmps33 rfl ?_
  unfold laws_eqBlock at t0
  refine wcr ?_
  refine wl_eff (eo_box rfl rfl) rfl fun b1 => ?_
  refine wl_eff (eo_box rfl rfl) rfl fun b2 => ?_
  refine asg rfl rfl ?_
  refine wnt ?_
  refine wc_seq ?_
  refine wcr ?_
  refine wl_pure (po_fld fo_31_0 rfl) rfl ?_
  refine wl_pure (v := .int .i64 a_a.Size) (po_load_box tk_3 (pickS pick0) rfl rfl) rfl ?_
  refine wl_pure (po_fld fo_31_0 rfl) rfl ?_
  refine wl_pure (v := .int .i64 a_b.Size) (po_load_box tk_3 pick0 rfl rfl) rfl ?_
  refine wl_pure (po_neq rfl rfl) rfl ?_
  refine wnt ?_
  refine wcO t0 rfl (fun h1 t0 => ?_) fun h1 t0 => ?_
  · skip
    refine wcr ?_
    refine asg rfl rfl ?_
    refine wnt ?_
    refine wc_ret ?_
    refine wq_then_ret ?_
    obtain rfl := Option.some.inj t0
    exact wq_ret1 rfl rfl fun w hw => ⟨rfl, hw.weak some_nil⟩
  refine wc_skip ?_
  refine wq_then ?_
  refine wc_seq ?_
  refine wcr ?_
  refine wl_pure (po_fld fo_31_1 rfl) rfl ?_
  refine wl_pure (v := (sl v0a)) (po_load_box tk_29 (pickS pick0) rfl rfl) rfl ?_
  refine wl_pure (po_fld fo_31_1 rfl) rfl ?_
  refine wl_pure (v := (sl v1a)) (po_load_box tk_29 pick0 rfl rfl) rfl ?_
  refine bdO t0 fun v1 hv1 t0 => ?_
  refine wl_call (co_c0 fa_60 rfl fun w hw => c_laws_eqCellS w a_a.Cells v0a (Rg.on (rds_arg r0) hw) a_b.Cells v1a (Rg.on (rds_arg r1) hw) hv1) rfl fun _ => ?_
  refine wl_pure (po_not rfl) rfl ?_
  refine wnt ?_
  refine wcO t0 rfl (fun h2 t0 => ?_) fun h2 t0 => ?_
  · skip
    refine wcr ?_
    refine asg rfl rfl ?_
    refine wnt ?_
    refine wc_ret ?_
    refine wq_then_ret ?_
    obtain rfl := Option.some.inj t0
    exact wq_ret1 rfl rfl fun w hw => ⟨rfl, hw.weak some_nil⟩
  refine wc_skip ?_
  refine wq_then ?_
  refine wcr ?_
  refine asg rfl rfl ?_
  refine wnt ?_
  refine wc_ret ?_
  obtain rfl := Option.some.inj t0
  exact wq_ret1 rfl rfl fun w hw => ⟨rfl, hw.weak some_nil⟩

theorem c_laws_eqEntry (w : World) (a_a : GEntry) (v0a : Hd) (r0 : rdF w (dm w []) (sl v0a) a_a.Block.Cells) (a_b : GEntry) (v1a : Hd) (r1 : rdF w (dm w []) (sl v1a) a_b.Block.Cells) {r : Bool} (t0 : laws_eqEntry a_a a_b = some r) : Calls Tryz.prog 11 #[.agg #[.int .i64 a_a.Owner, .int .i64 a_a.Day, .int .i64 a_a.Block.Size, (sl v0a)], .agg #[.int .i64 a_b.Owner, .int .i64 a_b.Day, .int .i64 a_b.Block.Size, (sl v1a)]] w fun e w' => e = .returned (.bool r) ∧ SH w [] [] w' := by
  refine calls_of_wc (args := [_, _]) Tryz.func11 rfl Tryz.ntmps11 rfl ?_
  unfold laws_eqEntry at t0
  refine wcr ?_
  refine wl_eff (eo_box rfl rfl) rfl fun b1 => ?_
  refine wl_eff (eo_box rfl rfl) rfl fun b2 => ?_
  refine asg rfl rfl ?_
  refine wnt ?_
  refine wc_seq ?_
  refine wcr ?_
  refine wl_pure (po_fld fo_33_0 rfl) rfl ?_
  refine wl_pure (v := .int .i64 a_a.Owner) (po_load_box tk_3 (pickS pick0) rfl rfl) rfl ?_
  refine wl_pure (po_fld fo_33_0 rfl) rfl ?_
  refine wl_pure (v := .int .i64 a_b.Owner) (po_load_box tk_3 pick0 rfl rfl) rfl ?_
  refine wl_pure (po_neq rfl rfl) rfl ?_
  refine wnt ?_
  refine wcO t0 rfl (fun h1 t0 => ?_) fun h1 t0 => ?_
  · skip
    refine wcr ?_
    refine asg rfl rfl ?_
    refine wnt ?_
    refine wc_ret ?_
    refine wq_then_ret ?_
    obtain rfl := Option.some.inj t0
    exact wq_ret1 rfl rfl fun w hw => ⟨rfl, hw.weak some_nil⟩
  refine wc_skip ?_
  refine wq_then ?_
  refine wc_seq ?_
  refine wcr ?_
  refine wl_pure (po_fld fo_33_1 rfl) rfl ?_
  refine wl_pure (v := .int .i64 a_a.Day) (po_load_box tk_3 (pickS pick0) rfl rfl) rfl ?_
  refine wl_pure (po_fld fo_33_1 rfl) rfl ?_
  refine wl_pure (v := .int .i64 a_b.Day) (po_load_box tk_3 pick0 rfl rfl) rfl ?_
  refine wl_pure (po_neq rfl rfl) rfl ?_
  refine wnt ?_
  refine wcO t0 rfl (fun h2 t0 => ?_) fun h2 t0 => ?_
  · skip
    refine wcr ?_
    refine asg rfl rfl ?_
    refine wnt ?_
    refine wc_ret ?_
    refine wq_then_ret ?_
    obtain rfl := Option.some.inj t0
    exact wq_ret1 rfl rfl fun w hw => ⟨rfl, hw.weak some_nil⟩
  refine wc_skip ?_
  refine wq_then ?_
  refine wc_seq ?_
  refine wcr ?_
  refine wl_pure (po_fld fo_33_2 rfl) rfl ?_
  refine wl_pure (v := .agg #[.int .i64 a_a.Block.Size, (sl v0a)]) (po_load_boxs tk_31 (pickS pick0) rfl rfl rfl) rfl ?_
  refine wl_pure (po_fld fo_33_2 rfl) rfl ?_
  refine wl_pure (v := .agg #[.int .i64 a_b.Block.Size, (sl v1a)]) (po_load_boxs tk_31 pick0 rfl rfl rfl) rfl ?_
  refine bdO t0 fun v1 hv1 t0 => ?_
  refine wl_call (co_c0 fa_33 rfl fun w hw => c_laws_eqBlock w a_a.Block v0a (Rg.on (rds_arg r0) hw) a_b.Block v1a (Rg.on (rds_arg r1) hw) hv1) rfl fun _ => ?_
  refine wl_pure (po_not rfl) rfl ?_
  refine wnt ?_
  refine wcO t0 rfl (fun h3 t0 => ?_) fun h3 t0 => ?_
  · skip
    refine wcr ?_
    refine asg rfl rfl ?_
    refine wnt ?_
    refine wc_ret ?_
    refine wq_then_ret ?_
    obtain rfl := Option.some.inj t0
    exact wq_ret1 rfl rfl fun w hw => ⟨rfl, hw.weak some_nil⟩
  refine wc_skip ?_
  refine wq_then ?_
  refine wcr ?_
  refine asg rfl rfl ?_
  refine wnt ?_
  refine wc_ret ?_
  obtain rfl := Option.some.inj t0
  exact wq_ret1 rfl rfl fun w hw => ⟨rfl, hw.weak some_nil⟩

theorem c_laws_eqEntryS (w : World) (a_a : List GEntry) (v0a : Hd) (u0a : List Value) (r0 : RdL w (dm w []) (sl v0a) u0a a_a) (a_b : List GEntry) (v1a : Hd) (u1a : List Value) (r1 : RdL w (dm w []) (sl v1a) u1a a_b) {r : Bool} (t0 : laws_eqEntryS a_a a_b = some r) : Calls Tryz.prog 18 #[(sl v0a), (sl v1a)] w fun e w' => e = .returned (.bool r) ∧ SH w [] [] w' := by
  refine calls_of_wc (args := [_, _]) Tryz.func18 rfl Tryz.ntmps18 rfl ?_
  unfold laws_eqEntryS at t0
  refine wcr ?_
  refine asg rfl rfl ?_
  refine wnt ?_
  refine wc_seq ?_
  refine wcr ?_
  refine mv rfl rfl ?_
  refine wl_pure (po_lenr (rds_arg r0) el_40 rfl) rfl ?_
  refine mv rfl rfl ?_
  refine wl_pure (po_lenr (rds_arg r1) el_40 rfl) rfl ?_
  refine wl_pure (po_neq rfl rfl) rfl ?_
  refine wnt ?_
  refine wcO t0 rfl (fun h1 t0 => ?_) fun h1 t0 => ?_
  · skip
    refine wcr ?_
    refine asg rfl rfl ?_
    refine wnt ?_
    refine wc_ret ?_
    refine wq_then_ret ?_
    obtain rfl := Option.some.inj t0
    exact wq_ret1 rfl rfl fun w hw => ⟨rfl, hw.weak some_nil⟩
  refine wc_skip ?_
  refine wq_then ?_
  refine wc_seq ?_
  refine wcr ?_
  refine asg rfl rfl ?_
  refine wnt ?_
  refine gdO t0 fun g1 t0 => ?_
  refine sqO t0 fun y1 l1 t0 => ?_
  refine wj (J := Unit) (X := Unit) (fun z => y1 = .inl z) (fun _ _ => []) (fun _ _ => []) ?_ ?_
  · skip
    refine wc_block ?_
    refine wc_forO (X := Unit) l1 (fun k1 s1 x1l => [(0, (sl v0a)), (1, (sl v1a)), (5, .int .i64 ((k1 : Nat) : Int))]) (fun k1 s1 x1l => []) () (sub_cons rfl (sub_cons rfl (sub_cons rfl sub_nil))) some_nil fun k1 s1 x1l hN1 l1 => ?_
    by_cases hk1 : k1 < a_a.length
    · skip
      refine forO_step l1 hk1 fun _ t1 l1 => ?_
      unfold laws_eqEntryS_L1 at t1
      have c1 : (decide (((k1 : Nat) : Int) < ((a_a.length : Nat) : Int))) = true := decide_eq_true (by omega)
      refine wc_seq ?_
      refine wcr ?_
      refine mv rfl rfl ?_
      refine mv rfl rfl ?_
      refine wl_pure (po_lenr (rds_arg r0) el_40 rfl) rfl ?_
      refine wl_pure (po_lss rfl rfl) rfl ?_
      refine wnt ?_
      refine wc_cond_t rfl c1 ?_
      refine wc_skip ?_
      refine wq_then ?_
      refine wc_seq ?_
      refine wc_block ?_
      refine wc_seq ?_
      refine wc_draw [] 10 mixed ?_
      refine wa_pure 0 rfl (po_move rfl) some_nil rfl (by kernel_rfl) (fun _ _ _ h => h) ?_
      refine wa_pure 1 rfl (po_move rfl) some_nil rfl (by kernel_rfl) (fun _ _ _ h => h) ?_
      refine wa_pure 2 rfl (po_ixn (k := k1) (rds_arg r0) el_40 rfl rfl hk1) some_nil rfl (by kernel_rfl) (fun _ _ _ h => h) ?_
      refine wa_elem (rds_arg r0) hk1 ?_
      rintro ⟨_, _, he1⟩
      obtain ⟨w1, hc1, _⟩ := rd_GEntry.1 he1
      refine wa_pure (v := .agg #[.int .i64 ((gx a_a k1).Owner), .int .i64 ((gx a_a k1).Day), .int .i64 (((gx a_a k1).Block).Size), (sl w1)]) 3 rfl (po_ldns (rds_arg r0) tk_33 rfl hc1 rfl rfl rfl) some_nil rfl (by kernel_rfl) (fun _ _ _ h => h) ?_
      refine wa_pure 4 rfl (po_move rfl) some_nil rfl (by kernel_rfl) (fun _ _ _ h => h) ?_
      refine wa_pure 5 rfl (po_move rfl) some_nil rfl (by kernel_rfl) (fun _ _ _ h => h) ?_
      refine gdO t1 fun g2 t1 => ?_
      refine wa_pure 6 rfl (po_ixn (k := k1) (rds_arg r1) el_40 rfl rfl g2) some_nil rfl (by kernel_rfl) (fun _ _ _ h => h) ?_
      refine wa_elem (rds_arg r1) g2 ?_
      rintro ⟨_, _, he2⟩
      obtain ⟨w2, hc2, _⟩ := rd_GEntry.1 he2
      refine wa_pure (v := .agg #[.int .i64 ((gx a_b k1).Owner), .int .i64 ((gx a_b k1).Day), .int .i64 (((gx a_b k1).Block).Size), (sl w2)]) 7 rfl (po_ldns (rds_arg r1) tk_33 rfl hc2 rfl rfl rfl) some_nil rfl (by kernel_rfl) (fun _ _ _ h => h) ?_
      refine wa_1 (i := 8) (by kernel_rfl) ?_
      refine bdO t1 fun v1 hv1 t1 => ?_
      refine ws_call rfl (co_c0 fa_11 rfl fun w hw => c_laws_eqEntry w (gx a_a k1) w1 (Rg.on (er_GEntry_0 hc1 (rds_arg r0) hk1) hw) (gx a_b k1) w2 (Rg.on (er_GEntry_0 hc2 (rds_arg r1) g2) hw) hv1) (fun _ => (sts_some some_nil)) rfl fun _ => ?_
      refine wa_pure 9 rfl (po_not rfl) some_nil rfl (by kernel_rfl) (fun _ _ _ h => h) ?_
      refine wa_done (by kernel_rfl) ?_
      refine wq_then ?_
      refine wcO t1 rfl (fun h2 t1 => ?_) fun h2 t1 => ?_
      · skip
        refine wcr ?_
        refine asg rfl rfl ?_
        refine wnt ?_
        refine wc_ret ?_
        refine wq_block_ret ?_
        refine wq_then_ret ?_
        refine wq_then_ret ?_
        refine wq_block_ret ?_
        refine wq_then_ret ?_
        refine wq_then_ret ?_
        replace t0 := lpR t0 l1 t1
        obtain rfl := Option.some.inj t0
        exact wq_ret1 rfl rfl fun w hw => ⟨rfl, hw.weak some_nil⟩
      refine wc_skip ?_
      refine wq_block ?_
      refine wq_then ?_
      refine wc_region ?_
      refine mv rfl rfl ?_
      refine wl_pure (po_inc rfl rfl (by omega)) rfl ?_
      refine asg rfl rfl ?_
      refine wl_nil ?_
      exact wq_rnd hk1 (stpN l1 t1) () (sub_cons rfl (sub_cons rfl (sub_cons rfl sub_nil))) some_nil
    have c1 : (decide (((k1 : Nat) : Int) < ((a_a.length : Nat) : Int))) = false := decide_eq_false (by omega)
    have en1 := forO_end l1 hk1
    refine wc_seq ?_
    refine wcr ?_
    refine mv rfl rfl ?_
    refine mv rfl rfl ?_
    refine wl_pure (po_lenr (rds_arg r0) el_40 rfl) rfl ?_
    refine wl_pure (po_lss rfl rfl) rfl ?_
    refine wnt ?_
    refine wc_cond_f rfl c1 ?_
    refine wc_exit ?_
    refine wq_then_exit ?_
    refine wq_then_exit ?_
    refine wq_block_exit ?_
    exact wj_meet _ () en1 sub_nil some_nil
  intro e1 _ hp
  replace t0 := sqE (j := e1) t0 hp
  refine wq_then ?_
  refine wcr ?_
  refine asg rfl rfl ?_
  refine wnt ?_
  refine wc_ret ?_
  obtain rfl := Option.some.inj t0
  exact wq_ret1 rfl rfl fun w hw => ⟨rfl, hw.weak some_nil⟩

theorem c_laws_markCellS (w : World) (fp : List Nat) (a_a : List GCell) (v0a : Hd) (a_k : Int) (o : Ow w [ownF (sl v0a) a_a] fp) {r : Int × (List GCell)} (t0 : laws_markCellS a_a a_k = some r) : Calls Tryz.prog 37 #[(sl v0a), .int .i64 a_k] w fun e w' => ∃ _x : Unit, e = .returned (.int .i64 r.1) ∧ SH w fp [ownF (sl v0a) r.2] w' := by
  refine calls_of_wc_own (args := [_, _]) o Tryz.func37 rfl Tryz.ntmps37 rfl ?_
  unfold laws_markCellS at t0
  refine wcr ?_
  refine asg rfl rfl ?_
  refine wnt ?_
  refine wc_seq ?_
  refine wcr ?_
  refine asg rfl rfl ?_
  refine wnt ?_
  refine gdO t0 fun g1 t0 => ?_
  refine wc_hl (rds_own pick0) fun hl1 => ?_
  refine lpO_inv t0 fun y1 l1 t0 => ?_
  refine wj (J := (List GCell) × Int) (X := Unit) (fun z => y1 = z) (fun z _ => [(0, (sl v0a)), (1, .int .i64 z.2)]) (fun z _ => [ownF (sl v0a) z.1]) ?_ ?_
  · skip
    refine wc_block ?_
    refine wc_forO (X := Unit) l1 (fun k1 s1 x1l => [(0, (sl v0a)), (1, .int .i64 s1.2), (5, .int .i64 ((k1 : Nat) : Int))]) (fun k1 s1 x1l => [ownF (sl v0a) s1.1]) () (sub_cons rfl (sub_cons rfl (sub_cons rfl sub_nil))) (some_cons pick0 some_nil) fun k1 s1 x1l hN1 l1 => ?_
    refine wc_hl (rds_own pick0) fun hl2 => ?_
    by_cases hk1 : k1 < a_a.length
    · skip
      refine forO_step l1 hk1 fun _ t1 l1 => ?_
      unfold laws_markCellS_L1 at t1
      have c1 : (decide (((k1 : Nat) : Int) < ((s1.1.length : Nat) : Int))) = true := decide_eq_true (by omega)
      have hq1 : k1 < s1.1.length := by omega
      refine wc_seq ?_
      refine wcr ?_
      refine mv rfl rfl ?_
      refine mv rfl rfl ?_
      refine wl_pure (po_lenr (rds_own pick0) el_29 rfl) rfl ?_
      refine wl_pure (po_lss rfl rfl) rfl ?_
      refine wnt ?_
      refine wc_cond_t rfl c1 ?_
      refine wc_skip ?_
      refine wq_then ?_
      refine wc_seq ?_
      refine wc_block ?_
      refine wcr ?_
      refine mv rfl rfl ?_
      refine mv rfl rfl ?_
      refine mv rfl rfl ?_
      refine wl_pure (po_ixn (k := k1) (rds_own pick0) el_29 rfl rfl hq1) rfl ?_
      refine wl_pure (po_sfldr (rds_own pick0) hq1 fo_75_0 rfl) rfl ?_
      refine wl_skipop (so_own (x' := (GCell.mk s1.2 ((gx s1.1 k1).A) ((gx s1.1 k1).B))) tk_3 pick0 rfl rfl rfl rfl rfl rfl hq1 rfl) ?_
      refine wnt ?_
      refine wcr ?_
      refine mv rfl rfl ?_
      refine wl_pure (po_add rfl rfl) rfl ?_
      refine asg rfl rfl ?_
      refine wnt ?_
      refine wcr ?_
      refine mv rfl rfl ?_
      refine mv rfl rfl ?_
      refine mv rfl rfl ?_
      refine wl_pure (po_ixn (k := k1) (rds_own pick0) el_29 rfl rfl (set_lt hq1)) rfl ?_
      refine wl_pure (po_sfldr (rds_own pick0) (set_lt hq1) fo_75_1 rfl) rfl ?_
      refine wl_skipop (so_own2 (X := s1.1) (e := (GCell.mk s1.2 ((gx s1.1 k1).A) ((gx s1.1 k1).B))) (x' := (GCell.mk s1.2 (wr (s1.2 + 1)) ((gx s1.1 k1).B))) tk_3 pick0 rfl rfl rfl rfl rfl rfl hq1 rfl) ?_
      refine wnt ?_
      refine wcr ?_
      refine mv rfl rfl ?_
      refine wl_pure (po_add rfl rfl) rfl ?_
      refine asg rfl rfl ?_
      refine wnt ?_
      refine wcr ?_
      refine mv rfl rfl ?_
      refine mv rfl rfl ?_
      refine mv rfl rfl ?_
      refine wl_pure (po_ixn (k := k1) (rds_own pick0) el_29 rfl rfl (set_lt hq1)) rfl ?_
      refine wl_pure (po_sfldr (rds_own pick0) (set_lt hq1) fo_75_2 rfl) rfl ?_
      refine wl_skipop (so_own2 (X := s1.1) (e := (GCell.mk s1.2 (wr (s1.2 + 1)) ((gx s1.1 k1).B))) (x' := (GCell.mk s1.2 (wr (s1.2 + 1)) (wr ((wr (s1.2 + 1)) + 1)))) tk_3 pick0 rfl rfl rfl rfl rfl rfl hq1 rfl) ?_
      refine wnt ?_
      refine wc_region ?_
      refine mv rfl rfl ?_
      refine wl_pure (po_add rfl rfl) rfl ?_
      refine asg rfl rfl ?_
      refine wl_nil ?_
      refine wq_block ?_
      refine wq_then ?_
      refine wc_region ?_
      refine mv rfl rfl ?_
      refine wl_pure (po_inc rfl rfl (by omega)) rfl ?_
      refine asg rfl rfl ?_
      refine wl_nil ?_
      exact wq_rnd hk1 (stpN l1 t1) () (sub_cons rfl (sub_cons rfl (sub_cons rfl sub_nil))) (some_cons pick0 some_nil)
    have c1 : (decide (((k1 : Nat) : Int) < ((s1.1.length : Nat) : Int))) = false := decide_eq_false (by omega)
    have en1 := forO_end l1 hk1
    refine wc_seq ?_
    refine wcr ?_
    refine mv rfl rfl ?_
    refine mv rfl rfl ?_
    refine wl_pure (po_lenr (rds_own pick0) el_29 rfl) rfl ?_
    refine wl_pure (po_lss rfl rfl) rfl ?_
    refine wnt ?_
    refine wc_cond_f rfl c1 ?_
    refine wc_exit ?_
    refine wq_then_exit ?_
    refine wq_then_exit ?_
    refine wq_block_exit ?_
    exact wj_meet _ () (Sum.inl.inj en1) (sub_cons rfl (sub_cons rfl sub_nil)) (some_cons pick0 some_nil)
  intro e1 _ hp
  obtain rfl : e1 = y1 := hp.symm
  refine wq_then ?_
  refine wcr ?_
  refine mv rfl rfl ?_
  refine asg rfl rfl ?_
  refine wnt ?_
  refine wc_ret ?_
  obtain rfl := Option.some.inj t0
  exact wq_ret1 rfl rfl fun w hw => ⟨(), rfl, hw.weak (some_cons pick0 some_nil)⟩

theorem c_laws_markEntryS (w : World) (fp : List Nat) (a_a : List GEntry) (v0a : Hd) (u0a : List Value) (a_k : Int) (o : Ow w [own (sl v0a) u0a a_a] fp) {r : Int × (List GEntry)} (t0 : laws_markEntryS a_a a_k = some r) : Calls Tryz.prog 22 #[(sl v0a), .int .i64 a_k] w fun e w' => ∃ x : List Value, e = .returned (.int .i64 r.1) ∧ SH w fp [own (sl v0a) x r.2] w' := by
  refine calls_of_wc_own (args := [_, _]) o Tryz.func22 rfl Tryz.ntmps22 rfl ?_
  unfold laws_markEntryS at t0
  refine wcr ?_
  refine asg rfl rfl ?_
  refine wnt ?_
  refine wc_seq ?_
  refine wcr ?_
  refine asg rfl rfl ?_
  refine wnt ?_
  refine gdO t0 fun g1 t0 => ?_
  refine wc_hl (rds_own pick0) fun hl1 => ?_
  refine lpO_inv t0 fun y1 l1 t0 => ?_
  refine wj (J := (List GEntry) × Int) (X := List Value) (fun z => y1 = z) (fun z _ => [(0, (sl v0a)), (1, .int .i64 z.2)]) (fun z x => [own (sl v0a) x z.1]) ?_ ?_
  · skip
    refine wc_block ?_
    refine wc_forO (X := List Value) l1 (fun k1 s1 x1l => [(0, (sl v0a)), (1, .int .i64 s1.2), (5, .int .i64 ((k1 : Nat) : Int))]) (fun k1 s1 x1l => [own (sl v0a) x1l s1.1]) u0a (sub_cons rfl (sub_cons rfl (sub_cons rfl sub_nil))) (some_cons pick0 some_nil) fun k1 s1 x1l hN1 l1 => ?_
    refine wc_hl (rds_own pick0) fun hl2 => ?_
    by_cases hk1 : k1 < a_a.length
    · skip
      refine forO_step l1 hk1 fun _ t1 l1 => ?_
      unfold laws_markEntryS_L1 at t1
      have c1 : (decide (((k1 : Nat) : Int) < ((s1.1.length : Nat) : Int))) = true := decide_eq_true (by omega)
      have hq1 : k1 < s1.1.length := by omega
      refine wc_seq ?_
      refine wcr ?_
      refine mv rfl rfl ?_
      refine mv rfl rfl ?_
      refine wl_pure (po_lenr (rds_own pick0) el_40 rfl) rfl ?_
      refine wl_pure (po_lss rfl rfl) rfl ?_
      refine wnt ?_
      refine wc_cond_t rfl c1 ?_
      refine wc_skip ?_
      refine wq_then ?_
      refine wc_seq ?_
      refine wc_block ?_
      refine wcr ?_
      refine mv rfl rfl ?_
      refine mv rfl rfl ?_
      refine mv rfl rfl ?_
      refine wl_pure (po_ixn (k := k1) (rds_own pick0) el_40 rfl rfl hq1) rfl ?_
      refine wl_pure (po_sfldr (rds_own pick0) hq1 fo_33_0 rfl) rfl ?_
      refine wl_elem (rds_own pick0) hq1 ?_
      rintro ⟨_, _, he1⟩
      obtain ⟨w1, hc1, _⟩ := rd_GEntry.1 he1
      refine wl_ent (Ent.trans un_GEntry (take_elem pick0 hq1 hc1)) ?_
      refine wl_lenh (pickS pick0) fun hl3 => ?_
      refine wl_skipop (so_hol tk_3 (pickS pick0) rfl rfl rfl rfl rfl rfl hq1) ?_
      have hc2 := chunk_putp (o := 0) (vs := [.int .i64 s1.2]) hl3 hq1 rfl hc1 (cells' := [.int .i64 s1.2, .int .i64 ((gx s1.1 k1).Day), .int .i64 (((gx s1.1 k1).Block).Size), (sl w1)]) rfl
      refine wl_ent (put_elem pick0 (pow_GEntry (x := (GEntry.mk s1.2 ((gx s1.1 k1).Day) ((gx s1.1 k1).Block))) pick0) hq1 hc2) ?_
      refine wnt ?_
      refine wcr ?_
      refine mv rfl rfl ?_
      refine wl_pure (po_add rfl rfl) rfl ?_
      refine asg rfl rfl ?_
      refine wnt ?_
      refine wcr ?_
      refine mv rfl rfl ?_
      refine mv rfl rfl ?_
      refine mv rfl rfl ?_
      refine wl_pure (po_ixn (k := k1) (rds_own pick0) el_40 rfl rfl (set_lt hq1)) rfl ?_
      refine wl_pure (po_sfldr (rds_own pick0) (set_lt hq1) fo_33_1 rfl) rfl ?_
      refine wl_ent (Ent.trans un_GEntry (take_set pick0 hq1 hc2)) ?_
      refine wl_lenh (pickS pick0) fun hl4 => ?_
      refine wl_skipop (so_hol tk_3 (pickS pick0) rfl rfl rfl rfl rfl rfl hq1) ?_
      have hc3 := chunk_putp (o := 1) (vs := [.int .i64 (wr (s1.2 + 1))]) hl4 hq1 rfl hc2 (cells' := [.int .i64 s1.2, .int .i64 (wr (s1.2 + 1)), .int .i64 (((gx s1.1 k1).Block).Size), (sl w1)]) rfl
      refine wl_ent (put_elem pick0 (pow_GEntry (x := (GEntry.mk s1.2 (wr (s1.2 + 1)) ((gx s1.1 k1).Block))) pick0) hq1 hc3) ?_
      refine wnt ?_
      refine wcr ?_
      refine mv rfl rfl ?_
      refine wl_pure (po_add rfl rfl) rfl ?_
      refine asg rfl rfl ?_
      refine wnt ?_
      refine wcr ?_
      refine mv rfl rfl ?_
      refine mv rfl rfl ?_
      refine mv rfl rfl ?_
      refine wl_pure (po_ixn (k := k1) (rds_own pick0) el_40 rfl rfl (set_lt hq1)) rfl ?_
      refine wl_pure (po_sfldr (rds_own pick0) (set_lt hq1) fo_33_2 rfl) rfl ?_
      refine wl_pure (po_sfldr (rds_own pick0) (set_lt hq1) fo_31_0 rfl) rfl ?_
      refine wl_ent (Ent.trans un_GEntry (take_set pick0 hq1 hc3)) ?_
      refine wl_lenh (pickS pick0) fun hl5 => ?_
      refine wl_skipop (so_hol tk_3 (pickS pick0) rfl rfl rfl rfl rfl rfl hq1) ?_
      have hc4 := chunk_putp (o := 2) (vs := [.int .i64 (wr ((wr (s1.2 + 1)) + 1))]) hl5 hq1 rfl hc3 (cells' := [.int .i64 s1.2, .int .i64 (wr (s1.2 + 1)), .int .i64 (wr ((wr (s1.2 + 1)) + 1)), (sl w1)]) rfl
      refine wl_ent (put_elem pick0 (pow_GEntry (x := (GEntry.mk s1.2 (wr (s1.2 + 1)) (GBlock.mk (wr ((wr (s1.2 + 1)) + 1)) (((gx s1.1 k1).Block).Cells)))) pick0) hq1 hc4) ?_
      refine wnt ?_
      refine wcr ?_
      refine mv rfl rfl ?_
      refine wl_pure (po_add rfl rfl) rfl ?_
      refine asg rfl rfl ?_
      refine wnt ?_
      refine wc_region ?_
      refine mv rfl rfl ?_
      refine mv rfl rfl ?_
      refine wl_pure (po_ixn (k := k1) (rds_own pick0) el_40 rfl rfl (set_lt hq1)) rfl ?_
      refine wl_pure (po_sfldr (rds_own pick0) (set_lt hq1) fo_33_2 rfl) rfl ?_
      refine wl_pure (po_sfldr (rds_own pick0) (set_lt hq1) fo_31_1 rfl) rfl ?_
      refine wl_pure (v := (sl w1)) (po_ldn (rds_own pick0) tk_29 rfl hc4 rfl) rfl ?_
      refine mv rfl rfl ?_
      refine wl_ent (Ent.trans un_GEntry (take_set pick0 hq1 hc4)) ?_
      refine bdO t1 fun v1 hv1 t1 => ?_
      refine wl_call (co_o1 [ownF (sl w1) (((gx s1.1 k1).Block).Cells)] fa_37 (some_cons pick0 some_refl) rfl fun w fp hw => c_laws_markCellS w fp (((gx s1.1 k1).Block).Cells) w1 (wr ((wr ((wr (s1.2 + 1)) + 1)) + 1)) hw.ow hv1) rfl fun _ => ?_
      refine wl_ent (put_elem (pickS pick0) (pow_GEntry (x := (GEntry.mk s1.2 (wr (s1.2 + 1)) (GBlock.mk (wr ((wr (s1.2 + 1)) + 1)) v1.2))) pick0) hq1 hc4) ?_
      refine asg rfl rfl ?_
      refine wl_nil ?_
      refine wq_block ?_
      refine wq_then ?_
      refine wc_region ?_
      refine mv rfl rfl ?_
      refine wl_pure (po_inc rfl rfl (by omega)) rfl ?_
      refine asg rfl rfl ?_
      refine wl_nil ?_
      exact wq_rnd hk1 (stpN l1 t1) (put_ (put_ (put_ x1l (k1 * (Rep.sz GEntry) + 0) [.int .i64 s1.2]) (k1 * (Rep.sz GEntry) + 1) [.int .i64 (wr (s1.2 + 1))]) (k1 * (Rep.sz GEntry) + 2) [.int .i64 (wr ((wr (s1.2 + 1)) + 1))]) (sub_cons rfl (sub_cons rfl (sub_cons rfl sub_nil))) (some_cons pick0 some_nil)
    have c1 : (decide (((k1 : Nat) : Int) < ((s1.1.length : Nat) : Int))) = false := decide_eq_false (by omega)
    have en1 := forO_end l1 hk1
    refine wc_seq ?_
    refine wcr ?_
    refine mv rfl rfl ?_
    refine mv rfl rfl ?_
    refine wl_pure (po_lenr (rds_own pick0) el_40 rfl) rfl ?_
    refine wl_pure (po_lss rfl rfl) rfl ?_
    refine wnt ?_
    refine wc_cond_f rfl c1 ?_
    refine wc_exit ?_
    refine wq_then_exit ?_
    refine wq_then_exit ?_
    refine wq_block_exit ?_
    exact wj_meet _ x1l (Sum.inl.inj en1) (sub_cons rfl (sub_cons rfl sub_nil)) (some_cons pick0 some_nil)
  intro e1 x1 hp
  obtain rfl : e1 = y1 := hp.symm
  refine wq_then ?_
  refine wcr ?_
  refine mv rfl rfl ?_
  refine asg rfl rfl ?_
  refine wnt ?_
  refine wc_ret ?_
  obtain rfl := Option.some.inj t0
  exact wq_ret1 rfl rfl fun w hw => ⟨x1, rfl, hw.weak (some_cons pick0 some_nil)⟩

theorem c_laws_markIntS (w : World) (fp : List Nat) (a_a : List Int) (v0a : Hd) (a_k : Int) (o : Ow w [ownF (sl v0a) a_a] fp) {r : Int × (List Int)} (t0 : laws_markIntS a_a a_k = some r) : Calls Tryz.prog 38 #[(sl v0a), .int .i64 a_k] w fun e w' => ∃ _x : Unit, e = .returned (.int .i64 r.1) ∧ SH w fp [ownF (sl v0a) r.2] w' := by
  refine calls_of_wc_own (args := [_, _]) o Tryz.func38 rfl Tryz.ntmps38 rfl ?_
  unfold laws_markIntS at t0
  refine wcr ?_
  refine asg rfl rfl ?_
  refine wnt ?_
  refine wc_seq ?_
  refine wcr ?_
  refine asg rfl rfl ?_
  refine wnt ?_
  refine gdO t0 fun g1 t0 => ?_
  refine wc_hl (rds_own pick0) fun hl1 => ?_
  refine lpO_inv t0 fun y1 l1 t0 => ?_
  refine wj (J := (List Int) × Int) (X := Unit) (fun z => y1 = z) (fun z _ => [(0, (sl v0a)), (1, .int .i64 z.2)]) (fun z _ => [ownF (sl v0a) z.1]) ?_ ?_
  · skip
    refine wc_block ?_
    refine wc_forO (X := Unit) l1 (fun k1 s1 x1l => [(0, (sl v0a)), (1, .int .i64 s1.2), (5, .int .i64 ((k1 : Nat) : Int))]) (fun k1 s1 x1l => [ownF (sl v0a) s1.1]) () (sub_cons rfl (sub_cons rfl (sub_cons rfl sub_nil))) (some_cons pick0 some_nil) fun k1 s1 x1l hN1 l1 => ?_
    refine wc_hl (rds_own pick0) fun hl2 => ?_
    by_cases hk1 : k1 < a_a.length
    · skip
      refine forO_step l1 hk1 fun _ t1 l1 => ?_
      unfold laws_markIntS_L1 at t1
      have c1 : (decide (((k1 : Nat) : Int) < ((s1.1.length : Nat) : Int))) = true := decide_eq_true (by omega)
      have hq1 : k1 < s1.1.length := by omega
      refine wc_seq ?_
      refine wcr ?_
      refine mv rfl rfl ?_
      refine mv rfl rfl ?_
      refine wl_pure (po_lenr (rds_own pick0) el_55 rfl) rfl ?_
      refine wl_pure (po_lss rfl rfl) rfl ?_
      refine wnt ?_
      refine wc_cond_t rfl c1 ?_
      refine wc_skip ?_
      refine wq_then ?_
      refine wc_seq ?_
      refine wc_block ?_
      refine wcr ?_
      refine mv rfl rfl ?_
      refine mv rfl rfl ?_
      refine mv rfl rfl ?_
      refine wl_pure (po_ixn (k := k1) (rds_own pick0) el_55 rfl rfl hq1) rfl ?_
      refine wl_skipop (so_own (x' := s1.2) tk_3 pick0 rfl rfl rfl rfl rfl rfl hq1 rfl) ?_
      refine wnt ?_
      refine wc_region ?_
      refine mv rfl rfl ?_
      refine wl_pure (po_add rfl rfl) rfl ?_
      refine asg rfl rfl ?_
      refine wl_nil ?_
      refine wq_block ?_
      refine wq_then ?_
      refine wc_region ?_
      refine mv rfl rfl ?_
      refine wl_pure (po_inc rfl rfl (by omega)) rfl ?_
      refine asg rfl rfl ?_
      refine wl_nil ?_
      exact wq_rnd hk1 (stpN l1 t1) () (sub_cons rfl (sub_cons rfl (sub_cons rfl sub_nil))) (some_cons pick0 some_nil)
    have c1 : (decide (((k1 : Nat) : Int) < ((s1.1.length : Nat) : Int))) = false := decide_eq_false (by omega)
    have en1 := forO_end l1 hk1
    refine wc_seq ?_
    refine wcr ?_
    refine mv rfl rfl ?_
    refine mv rfl rfl ?_
    refine wl_pure (po_lenr (rds_own pick0) el_55 rfl) rfl ?_
    refine wl_pure (po_lss rfl rfl) rfl ?_
    refine wnt ?_
    refine wc_cond_f rfl c1 ?_
    refine wc_exit ?_
    refine wq_then_exit ?_
    refine wq_then_exit ?_
    refine wq_block_exit ?_
    exact wj_meet _ () (Sum.inl.inj en1) (sub_cons rfl (sub_cons rfl sub_nil)) (some_cons pick0 some_nil)
  intro e1 _ hp
  obtain rfl : e1 = y1 := hp.symm
  refine wq_then ?_
  refine wcr ?_
  refine mv rfl rfl ?_
  refine asg rfl rfl ?_
  refine wnt ?_
  refine wc_ret ?_
  obtain rfl := Option.some.inj t0
  exact wq_ret1 rfl rfl fun w hw => ⟨(), rfl, hw.weak (some_cons pick0 some_nil)⟩

theorem c_laws_markIntSS (w : World) (fp : List Nat) (a_a : List (List Int)) (v0a : Hd) (u0a : List Value) (a_k : Int) (o : Ow w [own (sl v0a) u0a a_a] fp) {r : Int × (List (List Int))} (t0 : laws_markIntSS a_a a_k = some r) : Calls Tryz.prog 23 #[(sl v0a), .int .i64 a_k] w fun e w' => ∃ x : List Value, e = .returned (.int .i64 r.1) ∧ SH w fp [own (sl v0a) x r.2] w' := by
  refine calls_of_wc_own (args := [_, _]) o Tryz.func23 rfl Tryz.ntmps23 rfl ?_
  unfold laws_markIntSS at t0
  refine wcr ?_
  refine asg rfl rfl ?_
  refine wnt ?_
  refine wc_seq ?_
  refine wcr ?_
  refine asg rfl rfl ?_
  refine wnt ?_
  refine gdO t0 fun g1 t0 => ?_
  refine wc_hl (rds_own pick0) fun hl1 => ?_
  refine lpO_inv t0 fun y1 l1 t0 => ?_
  refine wj (J := (List (List Int)) × Int) (X := List Value) (fun z => y1 = z) (fun z _ => [(0, (sl v0a)), (1, .int .i64 z.2)]) (fun z x => [own (sl v0a) x z.1]) ?_ ?_
  · skip
    refine wc_block ?_
    refine wc_forO (X := List Value) l1 (fun k1 s1 x1l => [(0, (sl v0a)), (1, .int .i64 s1.2), (5, .int .i64 ((k1 : Nat) : Int))]) (fun k1 s1 x1l => [own (sl v0a) x1l s1.1]) u0a (sub_cons rfl (sub_cons rfl (sub_cons rfl sub_nil))) (some_cons pick0 some_nil) fun k1 s1 x1l hN1 l1 => ?_
    refine wc_hl (rds_own pick0) fun hl2 => ?_
    by_cases hk1 : k1 < a_a.length
    · skip
      refine forO_step l1 hk1 fun _ t1 l1 => ?_
      unfold laws_markIntSS_L1 at t1
      have c1 : (decide (((k1 : Nat) : Int) < ((s1.1.length : Nat) : Int))) = true := decide_eq_true (by omega)
      have hq1 : k1 < s1.1.length := by omega
      refine wc_seq ?_
      refine wcr ?_
      refine mv rfl rfl ?_
      refine mv rfl rfl ?_
      refine wl_pure (po_lenr (rds_own pick0) el_44 rfl) rfl ?_
      refine wl_pure (po_lss rfl rfl) rfl ?_
      refine wnt ?_
      refine wc_cond_t rfl c1 ?_
      refine wc_skip ?_
      refine wq_then ?_
      refine wc_seq ?_
      refine wc_block ?_
      refine wc_region ?_
      refine mv rfl rfl ?_
      refine mv rfl rfl ?_
      refine wl_pure (po_ixn (k := k1) (rds_own pick0) el_44 rfl rfl hq1) rfl ?_
      refine wl_elem (rds_own pick0) hq1 ?_
      rintro ⟨_, _, he1⟩
      obtain ⟨w1, hc1, _⟩ := rd_LF.1 he1
      refine wl_pure (v := (sl w1)) (po_ldn (rds_own pick0) tk_55 rfl hc1 rfl) rfl ?_
      refine mv rfl rfl ?_
      refine wl_ent (Ent.trans un_LF (take_elem pick0 hq1 hc1)) ?_
      refine bdO t1 fun v1 hv1 t1 => ?_
      refine wl_call (co_o1 [ownF (sl w1) (gx s1.1 k1)] fa_38 (some_cons pick0 some_refl) rfl fun w fp hw => c_laws_markIntS w fp (gx s1.1 k1) w1 s1.2 hw.ow hv1) rfl fun _ => ?_
      refine wl_ent (put_elem (pickS pick0) (pow_LF pick0) hq1 hc1) ?_
      refine asg rfl rfl ?_
      refine wl_nil ?_
      refine wq_block ?_
      refine wq_then ?_
      refine wc_region ?_
      refine mv rfl rfl ?_
      refine wl_pure (po_inc rfl rfl (by omega)) rfl ?_
      refine asg rfl rfl ?_
      refine wl_nil ?_
      exact wq_rnd hk1 (stpN l1 t1) x1l (sub_cons rfl (sub_cons rfl (sub_cons rfl sub_nil))) (some_cons pick0 some_nil)
    have c1 : (decide (((k1 : Nat) : Int) < ((s1.1.length : Nat) : Int))) = false := decide_eq_false (by omega)
    have en1 := forO_end l1 hk1
    refine wc_seq ?_
    refine wcr ?_
    refine mv rfl rfl ?_
    refine mv rfl rfl ?_
    refine wl_pure (po_lenr (rds_own pick0) el_44 rfl) rfl ?_
    refine wl_pure (po_lss rfl rfl) rfl ?_
    refine wnt ?_
    refine wc_cond_f rfl c1 ?_
    refine wc_exit ?_
    refine wq_then_exit ?_
    refine wq_then_exit ?_
    refine wq_block_exit ?_
    exact wj_meet _ x1l (Sum.inl.inj en1) (sub_cons rfl (sub_cons rfl sub_nil)) (some_cons pick0 some_nil)
  intro e1 x1 hp
  obtain rfl : e1 = y1 := hp.symm
  refine wq_then ?_
  refine wcr ?_
  refine mv rfl rfl ?_
  refine asg rfl rfl ?_
  refine wnt ?_
  refine wc_ret ?_
  obtain rfl := Option.some.inj t0
  exact wq_ret1 rfl rfl fun w hw => ⟨x1, rfl, hw.weak (some_cons pick0 some_nil)⟩

theorem c_laws_heldIntS (w : World) (a_a : List Int) (v0a : Hd) (r0 : rdF w (dm w []) (sl v0a) a_a) (a_k : Int) {r : Int} (t0 : laws_heldIntS a_a a_k = some r) : Calls Tryz.prog 39 #[(sl v0a), .int .i64 a_k] w fun e w' => e = .returned (.int .i64 r) ∧ SH w [] [] w' := by
  refine calls_of_wc (args := [_, _]) Tryz.func39 rfl Tryz.ntmps39 rfl ?_
  unfold laws_heldIntS at t0
  refine wcr ?_
  refine asg rfl rfl ?_
  refine wnt ?_
  refine wc_seq ?_
  refine wcr ?_
  refine asg rfl rfl ?_
  refine wnt ?_
  refine gdO t0 fun g1 t0 => ?_
  refine sqO t0 fun y1 l1 t0 => ?_
  refine wj (J := Int) (X := Unit) (fun z => y1 = .inl z) (fun z _ => [(1, .int .i64 z)]) (fun _ _ => []) ?_ ?_
  · skip
    refine wc_block ?_
    refine wc_forO (X := Unit) l1 (fun k1 s1 x1l => [(0, (sl v0a)), (1, .int .i64 s1), (5, .int .i64 ((k1 : Nat) : Int))]) (fun k1 s1 x1l => []) () (sub_cons rfl (sub_cons rfl (sub_cons rfl sub_nil))) some_nil fun k1 s1 x1l hN1 l1 => ?_
    by_cases hk1 : k1 < a_a.length
    · skip
      refine forO_step l1 hk1 fun _ t1 l1 => ?_
      unfold laws_heldIntS_L1 at t1
      have c1 : (decide (((k1 : Nat) : Int) < ((a_a.length : Nat) : Int))) = true := decide_eq_true (by omega)
      refine wc_seq ?_
      refine wcr ?_
      refine mv rfl rfl ?_
      refine mv rfl rfl ?_
      refine wl_pure (po_lenr (rds_arg r0) el_55 rfl) rfl ?_
      refine wl_pure (po_lss rfl rfl) rfl ?_
      refine wnt ?_
      refine wc_cond_t rfl c1 ?_
      refine wc_skip ?_
      refine wq_then ?_
      refine wc_seq ?_
      refine wc_block ?_
      refine wc_seq ?_
      refine wcr ?_
      refine mv rfl rfl ?_
      refine mv rfl rfl ?_
      refine wl_pure (po_ixn (k := k1) (rds_arg r0) el_55 rfl rfl hk1) rfl ?_
      refine wl_pure (v := .int .i64 (gx a_a k1)) (po_ldf (rds_arg r0) tk_3 rfl hk1 rfl) rfl ?_
      refine mv rfl rfl ?_
      refine wl_pure (po_neq rfl rfl) rfl ?_
      refine wnt ?_
      refine wcO t1 rfl (fun h1 t1 => ?_) fun h1 t1 => ?_
      · skip
        refine wcr ?_
        refine asg rfl rfl ?_
        refine wnt ?_
        refine wc_ret ?_
        refine wq_then_ret ?_
        refine wq_block_ret ?_
        refine wq_then_ret ?_
        refine wq_then_ret ?_
        refine wq_block_ret ?_
        refine wq_then_ret ?_
        refine wq_then_ret ?_
        replace t0 := lpR t0 l1 t1
        obtain rfl := Option.some.inj t0
        exact wq_ret1 rfl rfl fun w hw => ⟨rfl, hw.weak some_nil⟩
      refine wc_skip ?_
      refine wq_then ?_
      refine wc_region ?_
      refine mv rfl rfl ?_
      refine wl_pure (po_add rfl rfl) rfl ?_
      refine asg rfl rfl ?_
      refine wl_nil ?_
      refine wq_block ?_
      refine wq_then ?_
      refine wc_region ?_
      refine mv rfl rfl ?_
      refine wl_pure (po_inc rfl rfl (by omega)) rfl ?_
      refine asg rfl rfl ?_
      refine wl_nil ?_
      exact wq_rnd hk1 (stpN l1 t1) () (sub_cons rfl (sub_cons rfl (sub_cons rfl sub_nil))) some_nil
    have c1 : (decide (((k1 : Nat) : Int) < ((a_a.length : Nat) : Int))) = false := decide_eq_false (by omega)
    have en1 := forO_end l1 hk1
    refine wc_seq ?_
    refine wcr ?_
    refine mv rfl rfl ?_
    refine mv rfl rfl ?_
    refine wl_pure (po_lenr (rds_arg r0) el_55 rfl) rfl ?_
    refine wl_pure (po_lss rfl rfl) rfl ?_
    refine wnt ?_
    refine wc_cond_f rfl c1 ?_
    refine wc_exit ?_
    refine wq_then_exit ?_
    refine wq_then_exit ?_
    refine wq_block_exit ?_
    exact wj_meet _ () en1 (sub_cons rfl sub_nil) some_nil
  intro e1 _ hp
  replace t0 := sqE (j := e1) t0 hp
  refine wq_then ?_
  refine wcr ?_
  refine mv rfl rfl ?_
  refine asg rfl rfl ?_
  refine wnt ?_
  refine wc_ret ?_
  obtain rfl := Option.some.inj t0
  exact wq_ret1 rfl rfl fun w hw => ⟨rfl, hw.weak some_nil⟩

theorem c_laws_heldIntSS (w : World) (a_a : List (List Int)) (v0a : Hd) (u0a : List Value) (r0 : RdL w (dm w []) (sl v0a) u0a a_a) (a_k : Int) {r : Int} (t0 : laws_heldIntSS a_a a_k = some r) : Calls Tryz.prog 24 #[(sl v0a), .int .i64 a_k] w fun e w' => e = .returned (.int .i64 r) ∧ SH w [] [] w' := by
  refine calls_of_wc (args := [_, _]) Tryz.func24 rfl Tryz.ntmps24 rfl ?_
  unfold laws_heldIntSS at t0
  refine wcr ?_
  refine asg rfl rfl ?_
  refine wnt ?_
  refine wc_seq ?_
  refine wcr ?_
  refine asg rfl rfl ?_
  refine wnt ?_
  refine gdO t0 fun g1 t0 => ?_
  refine sqO t0 fun y1 l1 t0 => ?_
  refine wj (J := Int) (X := Unit) (fun z => y1 = .inl z) (fun z _ => [(1, .int .i64 z)]) (fun _ _ => []) ?_ ?_
  · skip
    refine wc_block ?_
    refine wc_forO (X := Unit) l1 (fun k1 s1 x1l => [(0, (sl v0a)), (1, .int .i64 s1), (5, .int .i64 ((k1 : Nat) : Int))]) (fun k1 s1 x1l => []) () (sub_cons rfl (sub_cons rfl (sub_cons rfl sub_nil))) some_nil fun k1 s1 x1l hN1 l1 => ?_
    by_cases hk1 : k1 < a_a.length
    · skip
      refine forO_step l1 hk1 fun _ t1 l1 => ?_
      unfold laws_heldIntSS_L1 at t1
      have c1 : (decide (((k1 : Nat) : Int) < ((a_a.length : Nat) : Int))) = true := decide_eq_true (by omega)
      refine wc_seq ?_
      refine wcr ?_
      refine mv rfl rfl ?_
      refine mv rfl rfl ?_
      refine wl_pure (po_lenr (rds_arg r0) el_44 rfl) rfl ?_
      refine wl_pure (po_lss rfl rfl) rfl ?_
      refine wnt ?_
      refine wc_cond_t rfl c1 ?_
      refine wc_skip ?_
      refine wq_then ?_
      refine wc_seq ?_
      refine wc_block ?_
      refine wcr ?_
      refine mv rfl rfl ?_
      refine mv rfl rfl ?_
      refine wl_pure (po_ixn (k := k1) (rds_arg r0) el_44 rfl rfl hk1) rfl ?_
      refine wl_elem (rds_arg r0) hk1 ?_
      rintro ⟨_, _, he1⟩
      obtain ⟨w1, hc1, _⟩ := rd_LF.1 he1
      refine wl_pure (v := (sl w1)) (po_ldn (rds_arg r0) tk_55 rfl hc1 rfl) rfl ?_
      refine mv rfl rfl ?_
      refine bdO t1 fun v1 hv1 t1 => ?_
      refine wl_call (co_c0 fa_39 rfl fun w hw => c_laws_heldIntS w (gx a_a k1) w1 (Rg.on (er_LF hc1 (rds_arg r0) hk1) hw) s1 hv1) rfl fun _ => ?_
      refine asg rfl rfl ?_
      refine wnt ?_
      refine wcr ?_
      refine mv rfl rfl ?_
      refine wl_pure (po_lss rfl rfl) rfl ?_
      refine wnt ?_
      refine wcO t1 rfl (fun h1 t1 => ?_) fun h1 t1 => ?_
      · skip
        refine wcr ?_
        refine asg rfl rfl ?_
        refine wnt ?_
        refine wc_ret ?_
        refine wq_block_ret ?_
        refine wq_then_ret ?_
        refine wq_then_ret ?_
        refine wq_block_ret ?_
        refine wq_then_ret ?_
        refine wq_then_ret ?_
        replace t0 := lpR t0 l1 t1
        obtain rfl := Option.some.inj t0
        exact wq_ret1 rfl rfl fun w hw => ⟨rfl, hw.weak some_nil⟩
      refine wc_skip ?_
      refine wq_block ?_
      refine wq_then ?_
      refine wc_region ?_
      refine mv rfl rfl ?_
      refine wl_pure (po_inc rfl rfl (by omega)) rfl ?_
      refine asg rfl rfl ?_
      refine wl_nil ?_
      exact wq_rnd hk1 (stpN l1 t1) () (sub_cons rfl (sub_cons rfl (sub_cons rfl sub_nil))) some_nil
    have c1 : (decide (((k1 : Nat) : Int) < ((a_a.length : Nat) : Int))) = false := decide_eq_false (by omega)
    have en1 := forO_end l1 hk1
    refine wc_seq ?_
    refine wcr ?_
    refine mv rfl rfl ?_
    refine mv rfl rfl ?_
    refine wl_pure (po_lenr (rds_arg r0) el_44 rfl) rfl ?_
    refine wl_pure (po_lss rfl rfl) rfl ?_
    refine wnt ?_
    refine wc_cond_f rfl c1 ?_
    refine wc_exit ?_
    refine wq_then_exit ?_
    refine wq_then_exit ?_
    refine wq_block_exit ?_
    exact wj_meet _ () en1 (sub_cons rfl sub_nil) some_nil
  intro e1 _ hp
  replace t0 := sqE (j := e1) t0 hp
  refine wq_then ?_
  refine wcr ?_
  refine mv rfl rfl ?_
  refine asg rfl rfl ?_
  refine wnt ?_
  refine wc_ret ?_
  obtain rfl := Option.some.inj t0
  exact wq_ret1 rfl rfl fun w hw => ⟨rfl, hw.weak some_nil⟩

theorem c_laws_FnExactCopiesIn (w : World) (a_aList : List GEntry) (v0a : Hd) (u0a : List Value) (r0 : RdL w (dm w []) (sl v0a) u0a a_aList) {r : Bool} (t0 : laws_FnExactCopiesIn a_aList = some r) : Calls Tryz.prog 6 #[(sl v0a)] w fun e w' => e = .returned (.bool r) ∧ SH w [] [] w' := by
  refine calls_of_wc (args := [_]) Tryz.func6 rfl Tryz.ntmps6 rfl ?_
  unfold laws_FnExactCopiesIn at t0
  refine wcr ?_
  refine asg rfl rfl ?_
  refine wnt ?_
  refine wcr ?_
  refine asg rfl rfl ?_
  refine wnt ?_
  refine wcr ?_
  refine mv rfl rfl ?_
  refine mv rfl rfl ?_
  refine bdO t0 fun v1 hv1 t0 => ?_
  refine wl_call (co_c0 fa_14 rfl fun w hw => c_laws_szEntryS w a_aList v0a u0a (Rg.on (rds_arg r0) hw) 1048576 hv1) rfl fun _ => ?_
  refine asg rfl rfl ?_
  refine wnt ?_
  refine wc_seq ?_
  refine wcr ?_
  refine mv rfl rfl ?_
  refine wl_pure (po_lss rfl rfl) rfl ?_
  refine wnt ?_
  refine wcO t0 rfl (fun h1 t0 => ?_) fun h1 t0 => ?_
  · skip
    refine wcr ?_
    refine asg rfl rfl ?_
    refine wnt ?_
    refine wc_ret ?_
    refine wq_then_ret ?_
    obtain rfl := Option.some.inj t0
    exact wq_ret1 rfl rfl fun w hw => ⟨rfl, hw.weak some_nil⟩
  refine wc_skip ?_
  refine wq_then ?_
  refine wcr ?_
  refine mv rfl rfl ?_
  refine bdO t0 fun v2 hv2 t0 => ?_
  refine wl_call (co_c1 fa_16 rfl fun w hw => c_laws_toEntryS w a_aList v0a u0a (Rg.on (rds_arg r0) hw) hv2) rfl fun x1 => ?_
  refine bdO t0 fun v3 hv3 t0 => ?_
  refine wl_call (co_c1 fa_19 rfl fun w hw => c_spec_CopiesIn w v2 x1.1 x1.2 (Rg.on (rds_own pick0) hw) hv3) rfl fun x2 => ?_
  refine asg rfl rfl ?_
  refine wnt ?_
  refine wcr ?_
  refine mv rfl rfl ?_
  refine bdO t0 fun v4 hv4 t0 => ?_
  refine wl_call (co_c1 fa_16 rfl fun w hw => c_laws_toEntryS w a_aList v0a u0a (Rg.on (rds_arg r0) hw) hv4) rfl fun x3 => ?_
  refine asg rfl rfl ?_
  refine wnt ?_
  refine wcr ?_
  refine mv rfl rfl ?_
  refine bdO t0 fun v5 hv5 t0 => ?_
  refine wl_call (co_c1 fa_20 rfl fun w hw => c_impl_CopiesIn w v4 x3.1 x3.2 (Rg.on (rds_own pick0) hw) hv5) rfl fun x4 => ?_
  refine asg rfl rfl ?_
  refine wnt ?_
  refine wc_seq ?_
  refine wcr ?_
  refine mv rfl rfl ?_
  refine mv rfl rfl ?_
  refine bdO t0 fun v6 hv6 t0 => ?_
  refine wl_call (co_c0 fa_21 rfl fun w hw => c_laws_eqIntSS w v5 x4.1 x4.2 (Rg.on (rds_own pick0) hw) v3 x2.1 x2.2 (Rg.on (rds_own (pickS (pickS pick0))) hw) hv6) rfl fun _ => ?_
  refine wl_pure (po_not rfl) rfl ?_
  refine wnt ?_
  refine wcO t0 rfl (fun h2 t0 => ?_) fun h2 t0 => ?_
  · skip
    refine wcr ?_
    refine asg rfl rfl ?_
    refine wnt ?_
    refine wc_ret ?_
    refine wq_then_ret ?_
    obtain rfl := Option.some.inj t0
    exact wq_ret1 rfl rfl fun w hw => ⟨rfl, hw.weak some_nil⟩
  refine wc_skip ?_
  refine wq_then ?_
  refine wc_seq ?_
  refine wcr ?_
  refine mv rfl rfl ?_
  refine mv rfl rfl ?_
  refine bdO t0 fun v7 hv7 t0 => ?_
  refine wl_call (co_c1 fa_16 rfl fun w hw => c_laws_toEntryS w a_aList v0a u0a (Rg.on (rds_arg r0) hw) hv7) rfl fun x5 => ?_
  refine bdO t0 fun v8 hv8 t0 => ?_
  refine wl_call (co_c0 fa_18 rfl fun w hw => c_laws_eqEntryS w v4 x3.1 x3.2 (Rg.on (rds_own (pickS (pickS pick0))) hw) v7 x5.1 x5.2 (Rg.on (rds_own pick0) hw) hv8) rfl fun _ => ?_
  refine wl_pure (po_not rfl) rfl ?_
  refine wnt ?_
  refine wcO t0 rfl (fun h3 t0 => ?_) fun h3 t0 => ?_
  · skip
    refine wcr ?_
    refine asg rfl rfl ?_
    refine wnt ?_
    refine wc_ret ?_
    refine wq_then_ret ?_
    obtain rfl := Option.some.inj t0
    exact wq_ret1 rfl rfl fun w hw => ⟨rfl, hw.weak some_nil⟩
  refine wc_skip ?_
  refine wq_then ?_
  refine wcr ?_
  refine asg rfl rfl ?_
  refine wnt ?_
  refine wcr ?_
  refine mv rfl rfl ?_
  refine mv rfl rfl ?_
  refine bdO t0 fun v9 hv9 t0 => ?_
  refine wl_call (co_o1 [own (sl x3.1) x3.2 v4] fa_22 (some_cons (pickS (pickS pick0)) some_refl) rfl fun w fp hw => c_laws_markEntryS w fp v4 x3.1 x3.2 1 hw.ow hv9) rfl fun x6 => ?_
  refine asg rfl rfl ?_
  refine wnt ?_
  refine wc_seq ?_
  refine wc_seq ?_
  refine bdO t0 fun y1 t1 t0 => ?_
  refine wj (J := Bool) (X := Unit) (fun z => y1 = z) (fun z _ => [(0, (sl v0a)), (4, (sl x2.1)), (6, (sl x4.1)), (42, .bool z)]) (fun _ _ => [own (sl x2.1) x2.2 v3, own (sl x4.1) x4.2 v5]) ?_ ?_
  · skip
    refine wc_region ?_
    refine mv rfl rfl ?_
    refine wl_pure (po_lss rfl rfl) rfl ?_
    refine mv rfl rfl ?_
    refine wlO_ (t := 37) t1 rfl (fun h4 t1 => ?_) fun h4 t1 => ?_
    · skip
      refine wl_guard_off (j := 2) rfl rfl rfl rfl rfl ?_
      refine wl_guard_off (j := 2) rfl rfl rfl rfl rfl ?_
      refine wl_guard_off (j := 2) rfl rfl rfl rfl rfl ?_
      refine wl_guard_off (j := 2) rfl rfl rfl rfl rfl ?_
      refine wl_pure (po_pick_t rfl rfl) rfl ?_
      refine wl_nil ?_
      exact wj_meet _ () (mtE t1) (sub_cons rfl (sub_cons rfl (sub_cons rfl (sub_cons rfl sub_nil)))) (some_cons (pickS (pickS (pickS pick0))) (some_cons (pickS (pickS pick0)) some_nil))
    refine wl_guard_on (j := 2) rfl rfl rfl (mv rfl rfl ?_)
    refine wl_guard_on (j := 2) rfl rfl rfl (mv rfl rfl ?_)
    refine bdO t1 fun v10 hv10 t1 => ?_
    refine wl_guard_on (j := 2) rfl rfl rfl (wl_call (co_c0 fa_21 rfl fun w hw => c_laws_eqIntSS w v5 x4.1 x4.2 (Rg.on (rds_own (pickS (pickS pick0))) hw) v3 x2.1 x2.2 (Rg.on (rds_own (pickS (pickS (pickS pick0)))) hw) hv10) rfl (fun _ => ?_))
    refine wl_guard_on (j := 2) rfl rfl rfl (wl_pure (po_not rfl) rfl ?_)
    refine wl_pure (po_pick_f rfl rfl) rfl ?_
    refine wl_nil ?_
    exact wj_meet _ () (mtE t1) (sub_cons rfl (sub_cons rfl (sub_cons rfl (sub_cons rfl sub_nil)))) (some_cons (pickS (pickS (pickS pick0))) (some_cons (pickS (pickS pick0)) some_nil))
  intro j1 _ hp
  obtain rfl : j1 = y1 := hp.symm
  refine wq_then ?_
  refine wcO t0 rfl (fun h5 t0 => ?_) fun h5 t0 => ?_
  · skip
    refine wcr ?_
    refine asg rfl rfl ?_
    refine wnt ?_
    refine wc_ret ?_
    refine wq_then_ret ?_
    obtain rfl := Option.some.inj t0
    exact wq_ret1 rfl rfl fun w hw => ⟨rfl, hw.weak some_nil⟩
  refine wc_skip ?_
  refine wq_then ?_
  refine wcr ?_
  refine asg rfl rfl ?_
  refine wnt ?_
  refine wcr ?_
  refine mv rfl rfl ?_
  refine mv rfl rfl ?_
  refine bdO t0 fun v11 hv11 t0 => ?_
  refine wl_call (co_o1 [own (sl x4.1) x4.2 v5] fa_23 (some_cons (pickS pick0) some_refl) rfl fun w fp hw => c_laws_markIntSS w fp v5 x4.1 x4.2 1 hw.ow hv11) rfl fun x8 => ?_
  refine asg rfl rfl ?_
  refine wnt ?_
  refine wcr ?_
  refine asg rfl rfl ?_
  refine wnt ?_
  refine wcr ?_
  refine mv rfl rfl ?_
  refine mv rfl rfl ?_
  refine bdO t0 fun v12 hv12 t0 => ?_
  refine wl_call (co_c0 fa_24 rfl fun w hw => c_laws_heldIntSS w v11.2 x4.1 x8 (Rg.on (rds_own pick0) hw) 1 hv12) rfl fun _ => ?_
  refine asg rfl rfl ?_
  refine wnt ?_
  refine wc_seq ?_
  refine wcr ?_
  refine mv rfl rfl ?_
  refine wl_pure (po_lss rfl rfl) rfl ?_
  refine wnt ?_
  refine wcO t0 rfl (fun h6 t0 => ?_) fun h6 t0 => ?_
  · skip
    refine wcr ?_
    refine asg rfl rfl ?_
    refine wnt ?_
    refine wc_ret ?_
    refine wq_then_ret ?_
    obtain rfl := Option.some.inj t0
    exact wq_ret1 rfl rfl fun w hw => ⟨rfl, hw.weak some_nil⟩
  refine wc_skip ?_
  refine wq_then ?_
  refine wc_seq ?_
  refine wcr ?_
  refine mv rfl rfl ?_
  refine mv rfl rfl ?_
  refine wl_pure (po_neq rfl rfl) rfl ?_
  refine wnt ?_
  refine wcO t0 rfl (fun h7 t0 => ?_) fun h7 t0 => ?_
  · skip
    refine wcr ?_
    refine asg rfl rfl ?_
    refine wnt ?_
    refine wc_ret ?_
    refine wq_then_ret ?_
    obtain rfl := Option.some.inj t0
    exact wq_ret1 rfl rfl fun w hw => ⟨rfl, hw.weak some_nil⟩
  refine wc_skip ?_
  refine wq_then ?_
  refine wcr ?_
  refine mv rfl rfl ?_
  refine bdO t0 fun v13 hv13 t0 => ?_
  refine wl_call (co_c1 fa_16 rfl fun w hw => c_laws_toEntryS w a_aList v0a u0a (Rg.on (rds_arg r0) hw) hv13) rfl fun x9 => ?_
  refine bdO t0 fun v14 hv14 t0 => ?_
  refine wl_call (co_c1 fa_20 rfl fun w hw => c_impl_CopiesIn w v13 x9.1 x9.2 (Rg.on (rds_own pick0) hw) hv14) rfl fun x10 => ?_
  refine asg rfl rfl ?_
  refine wnt ?_
  refine wc_seq ?_
  refine wcr ?_
  refine mv rfl rfl ?_
  refine mv rfl rfl ?_
  refine bdO t0 fun v15 hv15 t0 => ?_
  refine wl_call (co_c0 fa_21 rfl fun w hw => c_laws_eqIntSS w v14 x10.1 x10.2 (Rg.on (rds_own pick0) hw) v3 x2.1 x2.2 (Rg.on (rds_own (pickS (pickS (pickS pick0)))) hw) hv15) rfl fun _ => ?_
  refine wl_pure (po_not rfl) rfl ?_
  refine wnt ?_
  refine wcO t0 rfl (fun h8 t0 => ?_) fun h8 t0 => ?_
  · skip
    refine wcr ?_
    refine asg rfl rfl ?_
    refine wnt ?_
    refine wc_ret ?_
    refine wq_then_ret ?_
    obtain rfl := Option.some.inj t0
    exact wq_ret1 rfl rfl fun w hw => ⟨rfl, hw.weak some_nil⟩
  refine wc_skip ?_
  refine wq_then ?_
  refine wcr ?_
  refine asg rfl rfl ?_
  refine wnt ?_
  refine wcr ?_
  refine mv rfl rfl ?_
  refine mv rfl rfl ?_
  refine bdO t0 fun v16 hv16 t0 => ?_
  refine wl_call (co_c0 fa_24 rfl fun w hw => c_laws_heldIntSS w v11.2 x4.1 x8 (Rg.on (rds_own (pickS (pickS pick0))) hw) 1 hv16) rfl fun _ => ?_
  refine asg rfl rfl ?_
  refine wnt ?_
  refine wc_seq ?_
  refine wcr ?_
  refine mv rfl rfl ?_
  refine wl_pure (po_lss rfl rfl) rfl ?_
  refine wnt ?_
  refine wcO t0 rfl (fun h9 t0 => ?_) fun h9 t0 => ?_
  · skip
    refine wcr ?_
    refine asg rfl rfl ?_
    refine wnt ?_
    refine wc_ret ?_
    refine wq_then_ret ?_
    obtain rfl := Option.some.inj t0
    exact wq_ret1 rfl rfl fun w hw => ⟨rfl, hw.weak some_nil⟩
  refine wc_skip ?_
  refine wq_then ?_
  refine wc_seq ?_
  refine wcr ?_
  refine mv rfl rfl ?_
  refine mv rfl rfl ?_
  refine wl_pure (po_neq rfl rfl) rfl ?_
  refine wnt ?_
  refine wcO t0 rfl (fun h10 t0 => ?_) fun h10 t0 => ?_
  · skip
    refine wcr ?_
    refine asg rfl rfl ?_
    refine wnt ?_
    refine wc_ret ?_
    refine wq_then_ret ?_
    obtain rfl := Option.some.inj t0
    exact wq_ret1 rfl rfl fun w hw => ⟨rfl, hw.weak some_nil⟩
  refine wc_skip ?_
  refine wq_then ?_
  refine wcr ?_
  refine asg rfl rfl ?_
  refine wnt ?_
  refine wc_ret ?_
  obtain rfl := Option.some.inj t0
  exact wq_ret1 rfl rfl fun w hw => ⟨rfl, hw.weak some_nil⟩

end Go.Proofs.YtlfhlajpdmcnaabGreatDoor
