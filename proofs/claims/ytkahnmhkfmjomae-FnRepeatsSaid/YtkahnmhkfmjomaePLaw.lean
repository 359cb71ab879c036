/-
  The plain laws: what the functions compute, in Lean alone.
-/
import Derived.Test.YtkahnmhkfmjomaeP1
namespace Go.Proofs.Ytkahnmhkfmjomae
open Go

theorem draw_Quilt {c : List UInt8} (h : c.length ≤ 1048576) : ∃ q bs, spec_DrawQuilt c = some (q, bs) ∧ QuiltOkM q bs = true := by
  obtain ⟨g0, e0, c0⟩ := draw_New h
  obtain ⟨x, i1, g1, e1, c1, x0, x1, _⟩ := draw_Below (g := g0) (n := 3) c0 (by omega)
  obtain ⟨y, i2, g2, e2, c2, y0, y1, _⟩ := draw_Below (g := g1) (n := 3) c1 (by omega)
  have x2 := x1 (by omega)
  have y2 := y1 (by omega)
  obtain ⟨n, rfl⟩ := Int.eq_ofNat_of_zero_le y0
  have hnn : (n + 1) * (n + 1) ≤ 4 * 4 := Nat.mul_le_mul (by omega) (by omega)
  have ea : wr (1 + ((n : Nat) : Int)) = ((n + 1 : Nat) : Int) := by rw [wr_of (by omega) (by omega)]; omega
  have eb : wr (((n + 1 : Nat) : Int) * ((n + 1 : Nat) : Int)) = (((n + 1) * (n + 1) : Nat) : Int) := by rw [← Int.natCast_mul]; exact wr_of (by omega) (by omega)
  have ex : (wr (1 + x)).toNat = x.toNat + 1 := by rw [wr_of (by omega) (by omega)]; omega
  obtain ⟨s, ⟨s1, s2, s3⟩, es⟩ := lpO_inv2 (f := spec_l17Blocks_L1 c ((n : Int), i2, g2)) (N := x.toNat + 1) (s0 := (([] : List GBlock), i2, g2)) (fun k s => s.1.length = k ∧ CurOk c s.2.1 ∧ ∀ b ∈ s.1, BlockOkM b = true ∧ b.Size = ((n + 1 : Nat) : Int)) ⟨rfl, c2, by simp⟩ fun k s hk hs => by
    obtain ⟨s1, s2, s3⟩ := hs
    obtain ⟨t, ⟨t1, t2, t3⟩, et⟩ := lpO_inv2 (f := spec_l17Blocks_L2 c) (N := (n + 1) * (n + 1)) (s0 := (([] : List GCell), s.2.1, s.2.2)) (fun k s => s.1.length = k ∧ CurOk c s.2.1 ∧ ∀ x ∈ s.1, CellOkM x = true) ⟨rfl, s2, by simp⟩ fun k s hk hs => by
      obtain ⟨s1, s2, s3⟩ := hs
      obtain ⟨y, i3, g3, e3, c3, hy⟩ := draw_Cell (g := s.2.2) s2
      unfold spec_l17Blocks_L2
      rw [e3]
      simp only [Option.bind_some]
      rw [gd_pos (by omega)]
      refine ⟨_, ⟨by simp [s1], c3, fun z hz => ?_⟩, rfl⟩
      rcases List.mem_append.1 hz with hz | hz
      · exact s3 z hz
      · rw [List.mem_singleton.1 hz]; exact hy
    unfold spec_l17Blocks_L1
    simp only [ea, eb, Int.toNat_natCast]
    rw [gd_pos (by omega), et]
    simp only [Option.bind_some]
    rw [gd_pos (by omega)]
    refine ⟨_, ⟨by simp [s1], t2, fun z hz => ?_⟩, rfl⟩
    rcases List.mem_append.1 hz with hz | hz
    · exact s3 z hz
    · rw [List.mem_singleton.1 hz]; exact ⟨blockOk_of (by omega) (by omega) t1 t3, rfl⟩
  obtain ⟨a, i3, g3, e3, c3, a0, a1, _⟩ := draw_Below (g := s.2.2) (n := 4) s2 (by omega)
  obtain ⟨b, i4, g4, e4, c4, b0, b1, _⟩ := draw_Below (g := g3) (n := 4) c3 (by omega)
  obtain ⟨z, i5, g5, e5, c5, _⟩ := draw_Below (g := g4) (n := 3) c4 (by omega)
  have a2 := a1 (by omega)
  have b2 := b1 (by omega)
  obtain ⟨w, rfl⟩ := Int.eq_ofNat_of_zero_le a0
  obtain ⟨hh, rfl⟩ := Int.eq_ofNat_of_zero_le b0
  have ew : wr (1 + ((w : Nat) : Int)) = ((w + 1 : Nat) : Int) := by rw [wr_of (by omega) (by omega)]; omega
  have eh : wr (1 + ((hh : Nat) : Int)) = ((hh + 1 : Nat) : Int) := by rw [wr_of (by omega) (by omega)]; omega
  have hwh : (w + 1) * (hh + 1) ≤ 4 * 4 := Nat.mul_le_mul (by omega) (by omega)
  have em : wr (((w + 1 : Nat) : Int) * ((hh + 1 : Nat) : Int)) = (((w + 1) * (hh + 1) : Nat) : Int) := by rw [← Int.natCast_mul]; exact wr_of (by omega) (by omega)
  have hbl : 1 ≤ s.1.length ∧ s.1.length ≤ 3 := by omega
  obtain ⟨t, ⟨t1, t2, t3⟩, et⟩ := lpO_inv2 (f := spec_l17Quilt_L1 c ((s.1.length : Nat) : Int) ((z == 0), i5, g5)) (N := (w + 1) * (hh + 1)) (s0 := (i5, g5, ([] : List GSpot))) (fun k t => t.2.2.length = k ∧ CurOk c t.1 ∧ ∀ p ∈ t.2.2, inR p.Block 0 (((s.1.length : Nat) : Int) - 1) = true ∧ inR p.Seen 0 7 = true) ⟨rfl, c5, by simp⟩ fun k t hk ht => by
    obtain ⟨t1, t2, t3⟩ := ht
    obtain ⟨u, i6, g6, e6, c6, u0, u1, _⟩ := draw_Below (g := t.2.1) (n := ((s.1.length : Nat) : Int)) t2 (by omega)
    obtain ⟨v, i7, g7, e7, c7, v0, v1, _⟩ := draw_Below (g := g6) (n := 8) c6 (by omega)
    have u2 := u1 (by omega)
    have v2 := v1 (by omega)
    unfold spec_l17Quilt_L1
    rw [e6]
    simp only [Option.bind_some]
    rw [e7]
    simp only [Option.bind_some]
    cases z == 0
    · simp only [cond_false, Option.bind_some]
      rw [gd_pos (by omega)]
      refine ⟨(i7, g7, t.2.2 ++ [⟨u, v⟩]), ⟨by simp [t1], c7, fun p hp => ?_⟩, rfl⟩
      rcases List.mem_append.1 hp with hp | hp
      · exact t3 p hp
      · rw [List.mem_singleton.1 hp]; exact ⟨inR_iff.2 ⟨u0, by simp only; omega⟩, inR_iff.2 ⟨v0, by simp only; omega⟩⟩
    · simp only [cond_true]
      rw [gd_pos (by omega)]
      simp only [Option.bind_some]
      rw [gd_pos (by omega)]
      have k2 : ((k : Nat) : Int).tmod 2 = ((k % 2 : Nat) : Int) := rfl
      have r0 := Int.tmod_nonneg ((s.1.length : Nat) : Int) (show 0 ≤ ((k % 2 : Nat) : Int) by omega)
      have r1 := Int.tmod_lt_of_pos ((k % 2 : Nat) : Int) (show 0 < ((s.1.length : Nat) : Int) by omega)
      refine ⟨(i7, g7, t.2.2 ++ [⟨(((k : Nat) : Int).tmod 2).tmod ((s.1.length : Nat) : Int), ((k : Nat) : Int).tmod 2⟩]), ⟨by simp [t1], c7, fun p hp => ?_⟩, rfl⟩
      rcases List.mem_append.1 hp with hp | hp
      · exact t3 p hp
      · rw [List.mem_singleton.1 hp, k2]; exact ⟨inR_iff.2 ⟨r0, by simp only; omega⟩, inR_iff.2 ⟨by simp only; omega, by simp only; omega⟩⟩
  refine ⟨⟨((w + 1 : Nat) : Int), ((hh + 1 : Nat) : Int), t.2.2⟩, s.1, ?_, ?_⟩
  · unfold spec_DrawQuilt spec_l17Blocks spec_l17Quilt spec_l01Once
    rw [e0]
    simp only [Option.bind_some, e1, e2, ex]
    rw [gd_pos (by omega), es]
    simp only [Option.bind_some, e3, e4, e5, ew, eh, em, Int.toNat_natCast]
    rw [gd_pos (by omega), et]
    rfl
  · unfold QuiltOkM
    simp only [Bool.and_eq_true, List.all_eq_true]
    refine ⟨⟨⟨⟨⟨inR_iff.2 ⟨by first | omega | (simp only; omega), by first | omega | (simp only; omega)⟩, inR_iff.2 ⟨by first | omega | (simp only; omega), by first | omega | (simp only; omega)⟩⟩, inR_iff.2 ⟨by omega, by omega⟩⟩, ?_⟩, fun b hb => ?_⟩, fun p hp => ?_⟩
    · rw [beq_iff_eq, t1, ← Int.natCast_mul]
    · have hg := s3 _ (gx_mem (xs := s.1) (k := 0) (by omega))
      have := s3 b hb
      exact ⟨this.1, by rw [beq_iff_eq, this.2, hg.2]⟩
    · exact t3 p hp

theorem p_FnRepeats (code : List UInt8) (_ : Fit.ok code) : laws_FnRepeats code = some true := by
  unfold laws_FnRepeats laws_big
  simp only [Option.bind_some]
  by_cases hc : ((code.length : Nat) : Int) > 1048576
  · rw [decide_eq_true hc]; rfl
  rw [decide_eq_false hc, cond_false]
  have hcl : code.length ≤ 1048576 := by omega
  obtain ⟨q, bs, e0, hq⟩ := draw_Quilt hcl
  obtain ⟨x0, ex0, a0, b0⟩ := draw_at hcl (i := 0) (by omega) (by omega)
  obtain ⟨x1, ex1, a1, b1⟩ := draw_at hcl (i := 1) (by omega) (by omega)
  obtain ⟨w, hh, e1, e2, h1, h2, h3, h4, hl, _⟩ := quiltOk_spec hq
  have hw : 0 < w := by omega
  have hh0 : 0 < hh := by omega
  have hlen : hh * w ≤ 6 * 6 := Nat.mul_le_mul h4 h2
  have hSM : ShiftsM q bs = shiftsM (shownM q bs) w hh := by unfold ShiftsM; rw [hq, e1, e2]; rfl
  have hpos := shiftsM_pos (shownM q bs) hw hh0
  have hle := shiftsM_len (shownM q bs) w hh
  obtain ⟨m, hm⟩ := shifts_div (shownM q bs) hw hh0
  have hHS : ∀ a b : Nat, a < w → b < hh → sameAtM (shownM q bs) w hh a b = true → impl_HasShift q bs (a : Int) (b : Int) = some true := fun a b ha hb hs => by
    have i1 : inR (a : Int) 0 ((w : Int) - 1) = true := inR_iff.2 ⟨by omega, by omega⟩
    have i2 : inR (b : Int) 0 ((hh : Int) - 1) = true := inR_iff.2 ⟨by omega, by omega⟩
    rw [impl_HasShift_eq]
    unfold HasShiftM
    rw [hq, e1, e2, i1, i2, Int.toNat_natCast, Int.toNat_natCast, Int.toNat_natCast, Int.toNat_natCast, hs]; rfl
  have hz := hHS 0 0 hw hh0 (sameAt_zero _ hw)
  rw [e0]
  simp only [Option.bind_some]
  rw [impl_ShiftsOf_eq]
  simp only [Option.bind_some]
  rw [impl_CountMotifs_ok hq (by rw [hSM]; exact hpos), hSM]
  simp only [Option.bind_some]
  generalize hSL : shiftsM (shownM q bs) w hh = SL at hpos hle hm
  have hmem : ∀ x ∈ SL, ∃ a b : Nat, a < w ∧ b < hh ∧ x = [(a : Int), (b : Int)] ∧ sameAtM (shownM q bs) w hh a b = true := fun x hx => by
    rw [← hSL] at hx; exact mem_shifts hx
  have hdiv : ((q.Spots.length : Nat) : Int).tdiv ((SL.length : Nat) : Int) = ((m : Nat) : Int) := by
    rw [hl, hm, tdiv_nat, Nat.mul_div_cancel _ hpos]
  have hmod : ((q.Spots.length : Nat) : Int).tmod ((SL.length : Nat) : Int) = 0 := by
    rw [hl, hm, tmod_nat, Nat.mul_mod_left]; rfl
  have hm36 : m ≤ 36 := by
    have := Nat.le_mul_of_pos_right m hpos
    omega
  have wm : wr ((m : Nat) : Int) = ((m : Nat) : Int) := wr_of (by omega) (by omega)
  have wmm : wr (((m : Nat) : Int) * ((SL.length : Nat) : Int)) = ((q.Spots.length : Nat) : Int) := by
    rw [← Int.natCast_mul, ← hm, hl]; exact wr_of (by omega) (by omega)
  rw [hdiv, wm, show ((((SL.length : Nat) : Int) == 0) = false) from beq_eq_false_iff_ne.2 (by omega), cond_false, gd_pos (by omega), hmod]
  rw [show (((0 : Int) != 0) = false) from rfl, cond_false, wmm, bne_self_eq_false, cond_false]
  have hz' : impl_HasShift q bs 0 0 = some true := hz
  rw [hz']
  simp only [Option.bind_some, Bool.not_true, cond_false]
  have ewl : wr (((SL.length : Nat) : Int) - 1) = ((SL.length - 1 : Nat) : Int) := by rw [wr_of (by omega) (by omega)]; omega
  obtain ⟨la, lb, hla, hlb, hlast, hls⟩ := hmem _ (gx_mem (xs := SL) (k := SL.length - 1) (by omega))
  rw [ewl, gd_pos ⟨by omega, by omega⟩, Int.toNat_natCast, hlast]
  rw [show ((([(la : Int), (lb : Int)].length : Nat) : Int) != 2) = false from rfl, cond_false]
  have hL1 : forO (laws_FnRepeats_L1 (q, bs) SL) SL.length 0 () = some (.inl ()) := forO_st (fun _ => ()) rfl fun k hk => by
    obtain ⟨a, b, ha, hb, hx, hs⟩ := hmem _ (gx_mem hk)
    have sa : wr ((a : Int) + (la : Int)) = ((a + la : Nat) : Int) := by rw [wr_of (by omega) (by omega)]; simp
    have sb : wr ((b : Int) + (lb : Int)) = ((b + lb : Nat) : Int) := by rw [wr_of (by omega) (by omega)]; simp
    have hadd := hHS ((a + la) % w) ((b + lb) % hh) (Nat.mod_lt _ hw) (Nat.mod_lt _ hh0) (same_add hw hh0 hs hls)
    unfold laws_FnRepeats_L1
    simp only [ewl, Int.toNat_natCast]
    rw [hx, hlast]
    have g0 : ∀ p r : Int, gx [p, r] 0 = p := fun _ _ => rfl
    have g1 : ∀ p r : Int, gx [p, r] 1 = r := fun _ _ => rfl
    rw [show ((([(a : Int), (b : Int)].length : Nat) : Int) != 2) = false from rfl, g0, g1, g0, g1]
    simp only [cond_false]
    rw [gd_pos (by simp), gd_pos (by simp), hHS a b ha hb hs]
    simp only [Option.bind_some, Bool.not_true, cond_false]
    rw [gd_pos (by simp), gd_pos (by omega), gd_pos (by simp), gd_pos (by omega), sa, sb, e1, e2, tmod_nat, tmod_nat, hadd]
    rfl
  rw [gd_pos (by omega), hL1]
  simp only [sq_inl]
  rw [ex0]
  simp only [Option.bind_some]
  rw [gd_pos (by omega), ex1]
  simp only [Option.bind_some]
  rw [gd_pos (by omega), e1, e2]
  have r0 := Int.tmod_nonneg ((w : Nat) : Int) a0
  have r1 := Int.tmod_lt_of_pos x0 (show 0 < ((w : Nat) : Int) by omega)
  have t0 := Int.tmod_nonneg ((hh : Nat) : Int) a1
  have t1 := Int.tmod_lt_of_pos x1 (show 0 < ((hh : Nat) : Int) by omega)
  obtain ⟨dx, hdx⟩ := Int.eq_ofNat_of_zero_le r0
  obtain ⟨dy, hdy⟩ := Int.eq_ofNat_of_zero_le t0
  have hdxl : dx < w := by omega
  have hdyl : dy < hh := by omega
  have hD : dy * w + dx < hh * w := idx_lt2 hdyl hdxl
  rw [hdx, hdy, impl_ShiftQuilt_eq hq e1 e2 h1 h2 h3 h4 hl hdxl hdyl]
  simp only [Option.bind_some]
  have hsq := shQ_ok (d := dy * w + dx) hq hw hh0 hl
  have hsl : (shQ q w hh (dy * w + dx)).Spots.length = hh * w := by simp [shQ, spotsD]
  obtain ⟨d1, hd1, el1, mn1⟩ := impl_LeastShift_spec hq e1 e2 h1 h2 h3 h4 hl
  obtain ⟨d2, hd2, el2, mn2⟩ := impl_LeastShift_spec hsq (show (shQ q w hh (dy * w + dx)).Width = w from e1) (show (shQ q w hh (dy * w + dx)).Height = hh from e2) h1 h2 h3 h4 hsl
  have hmin : spotsD q w hh d1 = spotsD (shQ q w hh (dy * w + dx)) w hh d2 := by
    have k1 := mn1 (sft w hh (dy * w + dx) d2) (sft_lt hw hh0)
    rw [← spotsD_spotsD hw hh0] at k1
    have k2 := mn2 (sft w hh (ngt w hh (dy * w + dx)) d1) (sft_lt hw hh0)
    rw [spotsD_spotsD hw hh0 (e := sft w hh (ngt w hh (dy * w + dx)) d1), sft_assoc hw, sft_ngt hw hh0 hD, sft_zero hw hd1] at k2
    have hk := lexI_total (by simp [spotsD]) k2 k1
    refine gx_ext (by simp [spotsD]) fun i hi => ?_
    have hi' : i < hh * w := by simpa [spotsD] using hi
    have hg := congrArg (fun l : List Int => gx l i) hk
    rw [gx_map kk (by simpa [spotsD] using hi'), gx_map kk (by simpa [spotsD] using hi')] at hg
    exact kk_inj (spotsD_in hq hw hh0 hl _ (gx_mem (by simpa [spotsD] using hi'))) (spotsD_in hsq hw hh0 hsl _ (gx_mem (by simpa [spotsD] using hi'))) hg
  rw [el1, el2]
  simp only [Option.bind_some, Bool.not_true, cond_false]
  have n1 : (shQ q w hh d1).Spots.length = hh * w := by simp [shQ, spotsD]
  have n2 : (shQ (shQ q w hh (dy * w + dx)) w hh d2).Spots.length = hh * w := by simp [shQ, spotsD]
  rw [n1, n2, hl, bne_self_eq_false, cond_false, cond_false, impl_ShiftsOf_eq]
  have hSM2 : ShiftsM (shQ q w hh (dy * w + dx)) bs = SL := by
    unfold ShiftsM
    rw [hsq, show (shQ q w hh (dy * w + dx)).Width = w from e1, show (shQ q w hh (dy * w + dx)).Height = hh from e2, cond_true, Int.toNat_natCast, Int.toNat_natCast, shifts_sh hw hh0 hl hD, hSL]
  rw [hSM2]
  simp only [Option.bind_some, bne_self_eq_false, cond_false]
  have hL2 : forO (laws_FnRepeats_L2 (shQ q w hh d1) (shQ (shQ q w hh (dy * w + dx)) w hh d2)) (hh * w) 0 () = some (.inl ()) := forO_st (fun _ => ()) rfl fun k hk => by
    unfold laws_FnRepeats_L2
    rw [gd_pos (by omega), gd_pos (by omega)]
    have hs : (shQ q w hh d1).Spots = (shQ (shQ q w hh (dy * w + dx)) w hh d2).Spots := hmin
    rw [hs]
    have : ∀ p r : Int, beqs [p, r] [p, r] = true := fun p r => by simp [beqs]
    rw [this]; rfl
  rw [gd_pos (by omega), hL2]
  simp only [sq_inl]
  rw [impl_HasShift_eq]
  simp only [Option.bind_some]
  cases hhs : HasShiftM q bs (dx : Int) (dy : Int)
  · rfl
  · simp only [Bool.not_true, cond_false]
    rw [spec_ShownAt_eq, spec_ShownAt_eq]
    simp only [Option.bind_some]
    have i1 : inR (dx : Int) 0 ((w : Int) - 1) = true := inR_iff.2 ⟨by omega, by omega⟩
    have i2 : inR (dy : Int) 0 ((hh : Int) - 1) = true := inR_iff.2 ⟨by omega, by omega⟩
    have j1 : inR (0 : Int) 0 ((w : Int) - 1) = true := inR_iff.2 ⟨by omega, by omega⟩
    have j2 : inR (0 : Int) 0 ((hh : Int) - 1) = true := inR_iff.2 ⟨by omega, by omega⟩
    unfold HasShiftM at hhs
    rw [hq, e1, e2, i1, i2] at hhs
    simp only [Bool.and_self, Bool.true_and, Int.toNat_natCast] at hhs
    have hs0 := sameAt_iff.1 hhs 0 (Nat.mul_pos hh0 hw)
    have ht0 : tgtM w hh dx dy 0 = dy * w + dx := by
      unfold tgtM
      rw [Nat.zero_div, Nat.zero_mod, Nat.zero_add, Nat.zero_add, Nat.mod_eq_of_lt hdyl, Nat.mod_eq_of_lt hdxl]
    rw [ht0] at hs0
    have v0 : ShownAtM q bs 0 0 = gx (shownM q bs) 0 := by
      unfold ShownAtM
      rw [hq, e1, e2, j1, j2]
      simp
    have v1 : ShownAtM q bs (dx : Int) (dy : Int) = gx (shownM q bs) (dy * w + dx) := by
      unfold ShownAtM
      rw [hq, e1, e2, i1, i2]
      simp only [Bool.and_self, cond_true]
      congr 1
    rw [v0, v1, ← hs0]
    have hok : BlockOkM (gx (shownM q bs) 0) = true := by
      unfold shownM
      rw [gx_map _ (by rw [hl]; exact Nat.mul_pos hh0 hw)]
      exact (spot_ok hq (gx_mem (by rw [hl]; exact Nat.mul_pos hh0 hw))).1
    rw [spec_SameBlock_eq (blockOk_sm hok).1, sameBlock_refl]
    rfl
end Go.Proofs.Ytkahnmhkfmjomae
