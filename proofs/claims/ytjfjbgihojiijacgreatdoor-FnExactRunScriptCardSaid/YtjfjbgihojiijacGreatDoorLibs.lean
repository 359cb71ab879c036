/-
  Functions of the library.
-/
import Derived.Test.YtjfjbgihojiijacGreatDoorFacts
import Derived.WalkKit
import Derived.Test.YtjfjbgihojiijacGreatDoorShelf
import Derived.Lib.LaidTab
import Derived.LaidLaws
import Derived.Lib.AtoiErrMem
import Derived.HandedShaped
import Derived.Shelf.Vars
namespace Go.Proofs.YtjfjbgihojiijacGreatDoor
open Go Go.RowKit Go.Proofs
set_option maxRecDepth 100000

/-- The table of powers of ten is as its text lays it. -/
def TbT (w : World) : Prop := Lib.TabIs Tryz.prog w "internal/strconv.uint64pow10" .u64 Lib.pow10Tab
/-- A named variable is an error that is not nil; an integer. -/
def VarE (n : String) (w : World) : Prop := ∃ tp p, w.var? Tryz.prog n = some #[.iface tp p]
def VarM (g : Nat) (w : World) : Prop := ∃ m, w.cell? ⟨g, 0, none⟩ = some (.int .i64 m)
def Tb (w : World) : Prop := TbT w ∧ VarE "strconv.ErrSyntax" w ∧ VarM 0 w
theorem SH.of_below {w w' : World} (h : Below w.heap.size w w') : SH w [] [] w' := ⟨Keep.of_below h, [], rfl, by simp, by simp⟩
theorem Zqo {P : Program} {n : String} {w0 w : World} {cs : Array Value} (hb : Below w0.heap.size w0 w) (h : w0.var? P n = some cs) : w.var? P n = some cs := by
  unfold World.var? at h ⊢
  cases hg : P.globalNamed n with
  | none => rw [hg] at h; cases h
  | some g =>
    rw [hg] at h
    simp only [Option.bind_some] at h ⊢
    have hlt : g < w0.heap.size := by
      rcases Nat.lt_or_ge g w0.heap.size with h' | h'
      · exact h'
      · rw [Array.getElem?_eq_none h'] at h; cases h
    rw [hb.block g hlt]
    exact h
theorem Zth {w0 w : World} (hb : Below w0.heap.size w0 w) (ht : TbT w0) : TbT w := by
  unfold TbT Lib.TabIs at ht ⊢
  exact Zqo hb ht
theorem ZsX {n : String} {w0 w : World} (hb : Below w0.heap.size w0 w) : VarE n w0 → VarE n w := fun ⟨tp, p, h⟩ => ⟨tp, p, Zqo hb h⟩
theorem ZsV {g : Nat} {w0 w : World} (hb : Below w0.heap.size w0 w) : VarM g w0 → VarM g w := fun ⟨m, h⟩ => ⟨m, (hb.cell (World.block_lt_of_cell? _ _ h)).trans h⟩
theorem SH.tab {w0 w : World} {L : List Asn} (h : SH w0 [] L w) (ht : Tb w0) : Tb w := ⟨Zth h.keep.below ht.1, ZsX h.keep.below ht.2.1, ZsV h.keep.below ht.2.2⟩
theorem Zs0 (w : World) (k : Nat) (os : Array Obj) : Below w.heap.size w (Sort.grow (w.drewN k) os) :=
  ⟨rfl, rfl, rfl, by simp [Sort.grow, World.drewN], fun i hi => by simp only [Sort.grow, World.drewN]; rw [Array.getElem?_append_left hi]⟩
theorem ZnR : ∀ xs : List Str, encs xs = xs.map bs
  | [] => rfl
  | x :: r => by
    have := ZnR r
    simp only [encs, List.flatMap_cons, List.map_cons] at this ⊢
    rw [this]; rfl
theorem Zts (w : World) (xs : List ByteArray) (T : TypeId) (hn : xs.length ≤ maxLen) : SH w [] [ownF (sl ⟨some ⟨w.heap.size, 0, none⟩, xs.length, xs.length⟩) (xs.map fun x => (⟨x.data.toList⟩ : Str))] (w.alloc (.cells (xs.map Value.string).toArray T)) := by
  have he : encs (xs.map fun x => (⟨x.data.toList⟩ : Str)) = xs.map Value.string := by
    rw [ZnR, List.map_map]
    exact List.map_congr_left fun x _ => by simp [bs]
  have h0 := (SH.start w).alloc (xs.map Value.string) T
  refine h0.weak (fun w' fp ⟨f1, f2, e, h1, h2⟩ => ?_)
  have e2 : f2 = [] := h2
  subst e2; subst e
  obtain ⟨rfl, T', hT⟩ := h1
  refine ⟨[w.heap.size], [], ⟨[w.heap.size], [], rfl, ?_, rfl⟩, by simp⟩
  refine OwL.flat.2 (.inr ⟨w.heap.size, 0, xs.length, xs.length, _, T', rfl, rfl, hT, ?_, Nat.le_refl _, hn, ?_, ?_⟩)
  · rw [he, List.length_map]; exact (Nat.mul_one _).symm
  · show 0 + xs.length * 1 ≤ _
    simp
  · intro j u hj
    rw [he] at hj
    simpa using hj
/-- strings.Join, over its contracts. -/
theorem ZvB {P : Program} {i : Nat} (hn : ∀ (va : Option Addr) (c : Nat) (sep : ByteArray) (w : World), Calls P i #[.slice va 0 c, .string sep] w fun e w' => e = .returned (.string ⟨#[]⟩) ∧ w' = w)
    (hj : ∀ (bk o c : Nat) (xs : List ByteArray) (sep : ByteArray) (w : World), (∀ (j : Nat) x, xs[j]? = some x → w.cell? ⟨bk, o + j, none⟩ = some (.string x)) → bk < w.heap.size → xs.length ≤ 140737488355328 → xs.length ≤ c → (Lib.join (xs.map (·.data.toList)) sep.data.toList).length ≤ 140737488355328 → Calls P i #[.slice (some ⟨bk, o, none⟩) xs.length c, .string sep] w fun e w' => e = .returned (.string ⟨(Lib.join (xs.map (·.data.toList)) sep.data.toList).toArray⟩) ∧ Below w.heap.size w w')
    (w : World) (xs : List Str) (v : Hd) (r0 : rdF w (dm w []) (sl v) xs) (sep : Str) (h : xs.length ≤ 140737488355328 ∧ (Lib.join (xs.map Str.b) sep.b).length ≤ 140737488355328) :
    Calls P i #[sl v, bs sep] w fun e w' => e = .returned (bs ⟨Lib.join (xs.map Str.b) sep.b⟩) ∧ SH w [] [] w' := by
  obtain ⟨⟨a, len, cap, h1, h2, h3, h4, h5⟩, h6, h7⟩ := r0
  obtain ⟨va, vl, vc⟩ := v
  simp only [sl, Value.slice.injEq] at h1
  obtain ⟨rfl, rfl, rfl⟩ := h1
  have hl : vl = xs.length := by
    have e : xs.length * 1 = vl * 1 := (ZbW xs).symm.trans h2
    omega
  rcases Nat.eq_zero_or_pos vl with e | e
  · have hx : xs = [] := List.length_eq_zero_iff.1 (by omega)
    subst hx; subst e
    refine (hn va vc ⟨sep.b.toArray⟩ w).mono fun e w' ⟨h1, h2⟩ => ⟨?_, ?_⟩
    · rw [h1]; rfl
    · rw [h2]; exact SH.start w
  · obtain ⟨b, off, rfl, hb, hr⟩ := h5 e
    have hm : (xs.map fun s => (⟨s.b.toArray⟩ : ByteArray)).map (·.data.toList) = xs.map Str.b := by
      rw [List.map_map]
      exact List.map_congr_left fun s _ => by simp
    have hlm : (xs.map fun s => (⟨s.b.toArray⟩ : ByteArray)).length = vl := by simp; omega
    have key := hj b off vc (xs.map fun s => ⟨s.b.toArray⟩) ⟨sep.b.toArray⟩ w (fun j x hx => by
      rw [List.getElem?_map] at hx
      cases hs : xs[j]? with
      | none => rw [hs] at hx; cases hx
      | some s =>
        rw [hs] at hx
        have hxe : (⟨s.b.toArray⟩ : ByteArray) = x := Option.some.inj hx
        rw [← hxe]
        refine hr j _ ?_
        rw [ZnR, List.getElem?_map, hs]; rfl) hb.1 (by rw [hlm]; omega) (by rw [hlm]; exact h3) (by rw [hm]; simpa using h.2)
    rw [hm, hlm] at key
    refine key.mono fun e w' ⟨k1, k2⟩ => ⟨?_, SH.of_below k2⟩
    rw [k1]; simp [bs]
/-! From what a row lists to the table. -/
theorem ZjH {P : Program} {w : World} : ∀ (i : Nat) {l : List (String × DataW Unit)}, laidMet P l w → laidMet P (l.drop i) w
  | 0, _, h => h
  | _ + 1, [], h => h
  | i + 1, (n, d) :: l, h => by
    obtain ⟨ps, ⟨g, t, cs, fuel, p, q, e1, e2, e3, e4, hr, rfl⟩, hnd, hrows⟩ := h
    exact ZjH i (l := l) ⟨q, hr, (List.nodup_append.1 hnd).2.1, fun b off hp => hrows b off (List.mem_append_right _ hp)⟩
def tabB (P : Program) (n : String) (k : IntKind) : Bool :=
  match P.globalNamed n with
  | some g => match (P.globals[g]?).map (·.type) with
    | some t => match P.underlying t with
      | some (.array m e) => (match P.underlying e with | some (.int k') => decide (k' = k) | _ => false) && (P.cellsOf e == 1) && (P.cellsOf t == m)
      | _ => false
    | none => false
  | none => false
theorem Zr9 {P : Program} {W : World} {n : String} {k : IntKind} {zs : List Int} {rest : List (String × DataW Unit)} (hb : tabB P n k = true) (h : laidMet P ((n, Lib.tabData k zs) :: rest) W) : Lib.TabIs P W n k zs := by
  unfold tabB at hb
  split at hb
  · rename_i g hg
    split at hb
    · rename_i t ht
      split at hb
      · rename_i m e hu
        simp only [Bool.and_eq_true, beq_iff_eq] at hb
        obtain ⟨⟨h1, h2⟩, h3⟩ := hb
        split at h1
        · rename_i k' hk
          have e1 : k' = k := of_decide_eq_true h1
          subst e1
          exact Lib.tabIs_of_head hg ht hu hk h2 h3 h
        · cases h1
      · cases hb
    · cases hb
  · cases hb
theorem ZsH {W : World} {l rest : List (String × DataW Unit)} (i : Nat) (hb : tabB Tryz.prog "internal/strconv.uint64pow10" .u64 = true) (hh : (l.all fun x => x.2.handleName?.isNone) = true) (hd : l.drop i = ("internal/strconv.uint64pow10", Lib.tabData .u64 Lib.pow10Tab) :: rest) (h : laidMetH Tryz.prog l W) : TbT W := by
  have e : (l.filter fun x => x.2.handleName?.isSome) = [] := by
    rw [List.filter_eq_nil_iff]
    intro x hx hs
    have h1 := List.all_eq_true.1 hh x hx
    cases hn : x.2.handleName? with
    | none => rw [hn] at hs; cases hs
    | some s => rw [hn] at h1; cases h1
  unfold laidMetH at h
  rw [e] at h
  have := ZjH i h
  rw [hd] at this
  exact Zr9 hb this
/-! Listed errors. -/
def ifcB (P : Program) (n : String) : Bool :=
  match P.globalNamed n with
  | some g => match (P.globals[g]?).map (·.type) with
    | some t => ZmW P t
    | none => false
  | none => false
theorem ZrZ {P : Program} {W : World} {n nm : String} {d : DataW Unit} {rest : List (String × DataW Unit)} (hb : ifcB P n = true) (h : laidMet P ((n, .iface nm d) :: rest) W) : ∃ tp p, W.var? P n = some #[.iface tp p] := by
  obtain ⟨ps, ⟨g0, t0, cs0, f0, p0, q0, hg0, ht0, hv0, hd0, _, e0⟩, _, hrows⟩ := h
  unfold ifcB at hb
  rw [hg0] at hb
  simp only at hb
  rw [ht0] at hb
  obtain ⟨ms, hi⟩ := Ztu hb
  obtain ⟨l0⟩ := cs0
  obtain ⟨f1, u, v, hc, _, _⟩ := iface_of_trod hi hd0
  have hc' : l0 = [.iface u v] := hc
  subst hc'
  exact ⟨u, v, hv0⟩
theorem ZuB {P : Program} {W : World} {l : List (String × DataW Unit)} (hh : (l.all fun x => x.2.handleName?.isNone) = true) (h : laidMetH P l W) : laidMet P l W := by
  have e : (l.filter fun x => x.2.handleName?.isSome) = [] := by
    rw [List.filter_eq_nil_iff]
    intro x hx hs
    have h1 := List.all_eq_true.1 hh x hx
    cases hn : x.2.handleName? with
    | none => rw [hn] at hs; cases hs
    | some s => rw [hn] at h1; cases h1
  unfold laidMetH at h
  rw [e] at h
  exact h
theorem Zrm {W : World} {l rest : List (String × DataW Unit)} {n nm : String} {d : DataW Unit} (i : Nat) (hb : ifcB Tryz.prog n = true) (hh : (l.all fun x => x.2.handleName?.isNone) = true) (hd : l.drop i = (n, .iface nm d) :: rest) (h : laidMetH Tryz.prog l W) : VarE n W := by
  have := ZjH i (ZuB hh h)
  rw [hd] at this
  exact ZrZ hb this
/-! The world's shape, for a variable of the library that holds some integer. -/
theorem Zm9 {H : Type} {enc : TypeId × Value → H} {a : Assume} {C : Checked} {os : Os} {f : FuncId} {fn : Func} {s : ChangeSpec} {conds : List PathCond} {apart fresh handsOn again : Bool} {X : World → Array Value → Prop}
    (hX : ∀ (w w' : World) (args : Array Value), w.heap = w'.heap → X w args → X w' args)
    (own : ownKnob C.prog.godebug = none) (started : os.Started) (noInit : C.prog.inits.idxOf? f = none) (hfn : C.prog.funcs[f]? = some fn)
    (witness : ∃ (w : World) (tape : Tape) (i : Input), w.os = os ∧ (w.forCall tape i).Shaped C.prog ∧ i.vars = [] ∧ Input.okWide C.prog (w.forCall tape i) .any w.heap.size f i ∧
      ((s.pre enc C.prog fn conds apart (w.forCall tape i).memory i.args ∧ X (w.forCall tape i).memory i.args) ∧ sizedMet enc C.prog fn (OpenSpec.ofChange s) apart (w.forCall tape i).memory i.args) ∧ a.holds C.prog (lone (Frame.enter C.prog f i.args .normal) [] (w.forCall tape i)))
    (contract : ∀ (W : World) (base : Nat) (args : Array Value) (ds gs : List (DataW H)) (before : List MemPlace),
      (∀ (j : Nat) t v, fn.params[j]? = some t → args[j]? = some v → Value.okWide C.prog W .any base t v) →
      DataW.Whole enc C.prog fn.params.toList s.vars apart W args.toList ds gs before →
      conds.all (PathCond.test C.prog ⟨fn.params.toList, ds, s.plain.varTypes C.prog, gs⟩) = true →
      W.ShapedOpen C.prog → X W args →
      a.holds C.prog (lone (Frame.enter C.prog f args .normal) [] W) →
      Calls C.prog f args W fun e W' => ∃ v, e = .returned v ∧ s.post enc C.prog fn apart fresh handsOn again W args v W') :
    ReturnsInHanded a C os f .any (fun w args => (s.pre enc C.prog fn conds apart w args ∧ X w args) ∧ sizedMet enc C.prog fn (OpenSpec.ofChange s) apart w args) (s.post enc C.prog fn apart fresh handsOn again) := by
  refine returnsInHanded_of_calls own started noInit witness ?_
  intro w tape i _ hsh _ hok hpre hholds
  obtain ⟨_, _, _, fn', hfn', _, _, _, _, hval⟩ := hok
  have e : fn' = fn := Option.some.inj (hfn'.symm.trans hfn)
  subst e
  obtain ⟨⟨⟨ds, gs, before, hw, hc⟩, hx⟩, _⟩ := hpre
  have hw' := DataW.Whole.of_heap (w' := w.forCall tape i) (by rfl) hw
  refine (contract (w.forCall tape i) w.heap.size i.args ds gs before hval hw' hc hsh (hX _ _ _ (by rfl) hx) hholds).mono fun e W' ⟨v, he, hp⟩ => ?_
  subst he
  exact ChangeSpec.post_blind hp
theorem Zpy (w : World) (ht : Tb w) (a_s : Str) (a_sep : Str) {r : List Str} (t0 : strings_Split a_s a_sep = some r) : Calls Tryz.prog 15 #[bs a_s, bs a_sep] w fun e w' => ∃ x : Hd, e = .returned (sl x) ∧ SH w [] [ownF (sl x) r] w' := by
  unfold strings_Split at t0
  refine gdO t0 fun h t0 => ?_
  obtain rfl := Option.some.inj t0
  obtain ⟨m, hm⟩ := ht.2.2
  have hs : (⟨a_s.b.toArray⟩ : ByteArray).size < 4294967281 := by simpa [ByteArray.size] using h.1
  have h1 : 1 ≤ (⟨a_sep.b.toArray⟩ : ByteArray).size := by simpa [ByteArray.size] using h.2
  have hlen := Lib.splitB_all ⟨a_sep.b.toArray⟩ h1 0 _ ⟨a_s.b.toArray⟩ rfl
  have hle := Lib.countB_le ⟨a_sep.b.toArray⟩ h1 _ ⟨a_s.b.toArray⟩ (Nat.le_refl _)
  refine (Tryz.strings_Split ⟨a_s.b.toArray⟩ ⟨a_sep.b.toArray⟩ m w hs hm h1).mono fun e w' ⟨k1, k2⟩ => ⟨⟨some ⟨w.heap.size, 0, none⟩, _, _⟩, k1, ?_⟩
  rw [k2, ← hlen]
  exact Zts w _ _ (by rw [hlen]; unfold maxLen; omega)

theorem ZpR (w : World) (ht : Tb w) (a_s : Str) {r : Int × Bool} (t0 : strconv_Atoi a_s = some r) : Calls Tryz.prog 73 #[bs a_s] w fun e w' => ∃ x : Nat, e = .returned (.tuple #[.int .i64 r.1, errv 138 r.2 x]) ∧ SH w [] [] w' := by
  unfold strconv_Atoi at t0
  refine gdO t0 fun h t0 => ?_
  have hz : (⟨a_s.b.toArray⟩ : ByteArray).size ≤ 18 := by simpa [ByteArray.size] using h
  cases ha : Lib.atoi a_s.b with
  | some n =>
    rw [ha] at t0
    obtain rfl := Option.some.inj t0
    refine (Tryz.strconv_Atoi ⟨a_s.b.toArray⟩ n hz (by simpa using ha) w).mono fun e w' ⟨h1, t, h2⟩ => ⟨0, h1, ?_⟩
    rw [h2]; exact SH.of_below (Lib.bytesWorld_below _ _ _)
  | none =>
    rw [ha] at t0
    obtain rfl := Option.some.inj t0
    obtain ⟨tp, p, hv⟩ := ht.2.1
    exact (Tryz.strconv_Atoi_err_var ⟨a_s.b.toArray⟩ hz (by simpa using ha) tp p w hv).mono fun e w' ⟨N, h1, _, _, h4⟩ => ⟨N, h1, SH.of_below h4⟩

theorem ZpQ (w : World) (a_i : Int) {r : Str} (t0 : strconv_Itoa a_i = some r) : Calls Tryz.prog 44 #[.int .i64 a_i] w fun e w' => e = .returned (bs r) ∧ SH w [] [] w' := by
  unfold strconv_Itoa at t0
  refine gdO t0 fun h t0 => ?_
  obtain rfl := Option.some.inj t0
  have key : Calls Tryz.prog 44 #[.int .i64 a_i] w fun e w' => e = .returned (bs ⟨[UInt8.ofNat (48 + a_i.toNat)]⟩) ∧ w' = w := by
    have hn : a_i = 0 ∨ a_i = 1 ∨ a_i = 2 ∨ a_i = 3 ∨ a_i = 4 ∨ a_i = 5 ∨ a_i = 6 ∨ a_i = 7 ∨ a_i = 8 ∨ a_i = 9 := by omega
    rcases hn with rfl | rfl | rfl | rfl | rfl | rfl | rfl | rfl | rfl | rfl
    all_goals
      go_enter Tryz.func44, Tryz.ntmps44
      go_wp2
      go_ret
      exact ⟨rfl, rfl⟩
  refine key.mono fun e w' ⟨h1, h2⟩ => ⟨h1, ?_⟩
  rw [h2]; exact SH.start w

theorem Zoo (w : World) (ht : Tb w) (a_i : Int) {r : Str} (t0 : ZeQ a_i = some r) : Calls Tryz.prog 44 #[.int .i64 a_i] w fun e w' => e = .returned (bs r) ∧ SH w [] [] w' := by
  unfold ZeQ at t0
  refine gdO t0 fun h t0 => ?_
  obtain rfl := Option.some.inj t0
  refine (Tryz.strconv_Itoa a_i h.1 h.2 w ht.1).mono fun e w' ⟨h1, k, os, h2⟩ => ⟨h1, ?_⟩
  rw [h2]
  exact SH.of_below (Zs0 w k os)

theorem Zhc (w : World) (a_elems : List Str) (v0a : Hd) (r0 : rdF w (dm w []) (sl v0a) a_elems) (a_sep : Str) {r : Str} (t0 : strings_Join a_elems a_sep = some r) : Calls Tryz.prog 38 #[(sl v0a), bs a_sep] w fun e w' => e = .returned (bs r) ∧ SH w [] [] w' := by
  unfold strings_Join at t0
  refine gdO t0 fun h t0 => ?_
  obtain rfl := Option.some.inj t0
  exact ZvB (fun va c sep w => Any.strings_Join_none Tryz.lays156 Tryz.Builder_Extra_156 va c sep w) (fun b o c xs sep w h1 h2 h3 h4 h5 => Tryz.strings_Join b o c xs sep w h1 h2 h3 h4 h5) w a_elems v0a r0 a_sep h

end Go.Proofs.YtjfjbgihojiijacGreatDoor
