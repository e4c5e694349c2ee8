/-
  Walks: drawn crashes and texts.
-/
import Derived.Test.YteapfbfoegphkaaDoorW18
namespace Go.Proofs.YteapfbfoegphkaaDoor
open Go.RowKit
set_option linter.unusedVariables false
set_option linter.unusedSimpArgs false
attribute [local irreducible] decS sumL sumB sealB textB lineB encOk encStr acOk acStr pieces mkB piecesB splitB upL behL cutA cutZ verOk verStr rcI rrI okI aheadS preS restS atS rcS rrS okS inR okByte printed hasByte fits someB cmdB recB
attribute [local irreducible] validB endsB logAt appP appN appK syncD syncN

set_option maxRecDepth 100000 in
set_option maxHeartbeats 1600000 in
theorem c_spec_DrawCrashLog (a : Option Addr) (n k : Nat) (w : World) (hb : BytesV w a n) (hn : n ≤ maxLen) :
    Calls Tryd.prog 43 #[.slice a n k] w fun e w' => ∃ (d p : ByteArray) (m x : Int) (t : Bool), e = .returned (.tuple #[.agg #[.string d, .string p, .int .i64 m], .int .i64 x, .bool t]) ∧ d.size ≤ 40000 ∧ p.size ≤ 40000 ∧ 0 ≤ m ∧ m ≤ 60 ∧ -1 ≤ x ∧ x ≤ p.size + 1 ∧ Ext w w' := by
  go_enter Tryd.func43, Tryd.ntmps43
  go_wp2_with fail
  refine (c_spec_l1Cur_anyLog _ n k 0 a _ (Cur.new k 78 (hb.ext (by (repeat (first | with_reducible assumption | with_reducible exact Ext.refl _ | with_reducible refine Ext.alloc ?_ _ | with_reducible refine Ext.drew ?_ | with_reducible refine Ext.drewN ?_ _ | refine Ext.setCell ?_ (by first | (simp only [World.size_alloc, World.size_setCell]; omega) | omega) _ | with_reducible refine Ext.trans ?_ (by with_reducible assumption))))) hn _ (by simp)) (by omega)).mono ?_
  rintro e w1 ⟨d, p, m, rfl, hd, hp, m0, m1, hc1, hg1⟩
  have Z1 := ((LogAt.new w 31 ⟨#[]⟩ ⟨#[]⟩ 0 w.heap.size rfl).ext ((Ext.refl _).alloc _)).grown hg1 (by omega)
  have hx := grown_fresh hg1 (w := w) (by (repeat (first | with_reducible assumption | with_reducible exact Ext.refl _ | with_reducible refine Ext.alloc ?_ _ | with_reducible refine Ext.drew ?_ | with_reducible refine Ext.drewN ?_ _ | refine Ext.setCell ?_ (by first | (simp only [World.size_alloc, World.size_setCell]; omega) | omega) _ | with_reducible refine Ext.trans ?_ (by with_reducible assumption)))) (by omega)
  have hz1 := hg1.size
  simp only [World.size_alloc] at hz1
  clear hg1
  have hw := IntWalk.i64_in ((p.size : Int) + 3) (by omega)
  go_wp2_with fail
  refine (c_spec_l1Cur_pick _ n k 70 ((p.size : Int) + 3) a _ (hc1.ext ((Ext.refl _).alloc _)) (by omega) (by omega)).mono ?_
  rintro e w2 ⟨x, rfl, x0, _, x1, hc2, hg2⟩
  obtain ⟨q0, q1, q2, f0, f1, f2⟩ := (LogAt.new w1 31 d p m w1.heap.size rfl).grown hg2 (by omega)
  obtain ⟨z0, z1, z2, t0, t1, t2⟩ := (Z1.ext ((Ext.refl _).alloc _)).grown hg2 (by omega)
  have hx2 := grown_fresh hg2 (w := w) (by (repeat (first | with_reducible assumption | with_reducible exact Ext.refl _ | with_reducible refine Ext.alloc ?_ _ | with_reducible refine Ext.drew ?_ | with_reducible refine Ext.drewN ?_ _ | refine Ext.setCell ?_ (by first | (simp only [World.size_alloc, World.size_setCell]; omega) | omega) _ | with_reducible refine Ext.trans ?_ (by with_reducible assumption)))) (by omega)
  replace x1 := x1 (by omega)
  clear hg2 Z1 hc1 hx hw
  have hw := IntWalk.i64_in (x - 1) (by omega)
  go_wp2_with fail
  refine wp_region_held_drew (S := (fun w' => True)) (by kernel_rfl) ?_ (fun hHeld => ?_)
  · trivial
  refine wpAnyH_take (i := 1) (v := ?_) rfl (by kernel_rfl) (by kernel_rfl) (by kernel_rfl) (fun _ _ _ h => h) (Or.inl ⟨by rfl, ?_⟩) (by assumption) ?_
  rotate_left
  · (intro w hSw; (try dsimp only at hSw); go_simp; (try with_reducible rfl))
  try simp only [Act.put, List.getElem_toArray, List.getElem_cons_zero, List.getElem_cons_succ, List.setIfInBounds_toArray, List.set_cons_zero, List.set_cons_succ]
  refine wpAnyH_take (i := 2) (v := ?_) rfl (by kernel_rfl) (by kernel_rfl) (by kernel_rfl) (fun _ _ _ h => h) (Or.inl ⟨by rfl, ?_⟩) (by assumption) ?_
  rotate_left
  · (intro w hSw; (try dsimp only at hSw); go_simp; (try with_reducible rfl))
  try simp only [Act.put, List.getElem_toArray, List.getElem_cons_zero, List.getElem_cons_succ, List.setIfInBounds_toArray, List.set_cons_zero, List.set_cons_succ]
  refine wpAnyH_ready (rs := [0, 3]) (by kernel_rfl) (by simp) ?_
  refine AllReadyH.cons rfl (fun K hK => ?_) (AllReadyH.cons rfl (fun K hK => ?_) (AllReadyH.nil))
  focus
    go_simp
    refine hK.out _ _ (by trivial) (fun hHeld => ?_)
    clear hK K
    try simp only [Act.put, List.getElem_toArray, List.getElem_cons_zero, List.getElem_cons_succ, List.setIfInBounds_toArray, List.set_cons_zero, List.set_cons_succ]
    refine wpAnyH_ready (rs := [3]) (by kernel_rfl) (by simp) ?_
    refine AllReadyH.cons rfl (fun K hK => ?_) AllReadyH.nil
    go_simp
    (go_at_call 60; refine (c_spec_l1Cur_one _ n k _ 2 a _ (hc2.ext (by (repeat (first | with_reducible assumption | with_reducible exact Ext.refl _ | with_reducible refine Ext.alloc ?_ _ | with_reducible refine Ext.drew ?_ | with_reducible refine Ext.drewN ?_ _ | refine Ext.setCell ?_ (by first | (simp only [World.size_alloc, World.size_setCell]; omega) | omega) _ | with_reducible refine Ext.trans ?_ (by with_reducible assumption))))) (by omega) (by decide)).mono ?_; rintro e w8 ⟨t, rfl, hc8', hg8⟩; replace hg8 := grownBy_trans (grownBy_ext (w := w2) (by (repeat (first | with_reducible assumption | with_reducible exact Ext.refl _ | with_reducible refine Ext.alloc ?_ _ | with_reducible refine Ext.drew ?_ | with_reducible refine Ext.drewN ?_ _ | refine Ext.setCell ?_ (by first | (simp only [World.size_alloc, World.size_setCell]; omega) | omega) _ | with_reducible refine Ext.trans ?_ (by with_reducible assumption))))) hg8; obtain ⟨q0, q1, q2, f0, f1, f2⟩ := LogAt.grown ⟨q0, q1, q2, f0, f1, f2⟩ hg8 (by omega); obtain ⟨z0, z1, z2, t0, t1, t2⟩ := LogAt.grown ⟨z0, z1, z2, t0, t1, t2⟩ hg8 (by omega); have hx8 := grown_fresh hg8 hx2 (by omega))
    show K _ _
    refine hK.out _ _ (by trivial) (fun hHeld => ?_)
    clear hK K
    try simp only [Act.put, List.getElem_toArray, List.getElem_cons_zero, List.getElem_cons_succ, List.setIfInBounds_toArray, List.set_cons_zero, List.set_cons_succ]
    refine wpAnyH_ready (rs := [4]) (by kernel_rfl) (by simp) ?_
    refine AllReadyH.cons rfl (fun K hK => ?_) AllReadyH.nil
    go_simp
    refine hK.out _ _ (by trivial) (fun hHeld => ?_)
    clear hK K
    try simp only [Act.put, List.getElem_toArray, List.getElem_cons_zero, List.getElem_cons_succ, List.setIfInBounds_toArray, List.set_cons_zero, List.set_cons_succ]
    refine wpAnyH_take (i := 5) (v := ?_) rfl (by kernel_rfl) (by kernel_rfl) (by kernel_rfl) (fun _ _ _ h => h) (Or.inl ⟨by rfl, ?_⟩) (by assumption) ?_
    rotate_left
    · (intro w hSw; (try dsimp only at hSw); go_simp; (try with_reducible rfl))
    try simp only [Act.put, List.getElem_toArray, List.getElem_cons_zero, List.getElem_cons_succ, List.setIfInBounds_toArray, List.set_cons_zero, List.set_cons_succ]
    refine wpAnyH_take (i := 6) (v := ?_) rfl (by kernel_rfl) (by kernel_rfl) (by kernel_rfl) (fun _ _ _ h => h) (Or.inl ⟨by rfl, ?_⟩) (by assumption) ?_
    rotate_left
    · (intro w hSw; (try dsimp only at hSw); go_simp; (try with_reducible rfl))
    try simp only [Act.put, List.getElem_toArray, List.getElem_cons_zero, List.getElem_cons_succ, List.setIfInBounds_toArray, List.set_cons_zero, List.set_cons_succ]
    refine wpAnyH_done (by kernel_rfl) ?_ _
  rotate_left 1
  focus
    go_simp
    (go_at_call 60; refine (c_spec_l1Cur_one _ n k _ 2 a _ (hc2.ext (by (repeat (first | with_reducible assumption | with_reducible exact Ext.refl _ | with_reducible refine Ext.alloc ?_ _ | with_reducible refine Ext.drew ?_ | with_reducible refine Ext.drewN ?_ _ | refine Ext.setCell ?_ (by first | (simp only [World.size_alloc, World.size_setCell]; omega) | omega) _ | with_reducible refine Ext.trans ?_ (by with_reducible assumption))))) (by omega) (by decide)).mono ?_; rintro e w8 ⟨t, rfl, hc8', hg8⟩; replace hg8 := grownBy_trans (grownBy_ext (w := w2) (by (repeat (first | with_reducible assumption | with_reducible exact Ext.refl _ | with_reducible refine Ext.alloc ?_ _ | with_reducible refine Ext.drew ?_ | with_reducible refine Ext.drewN ?_ _ | refine Ext.setCell ?_ (by first | (simp only [World.size_alloc, World.size_setCell]; omega) | omega) _ | with_reducible refine Ext.trans ?_ (by with_reducible assumption))))) hg8; obtain ⟨q0, q1, q2, f0, f1, f2⟩ := LogAt.grown ⟨q0, q1, q2, f0, f1, f2⟩ hg8 (by omega); obtain ⟨z0, z1, z2, t0, t1, t2⟩ := LogAt.grown ⟨z0, z1, z2, t0, t1, t2⟩ hg8 (by omega); have hx8 := grown_fresh hg8 hx2 (by omega))
    show K _ _
    refine hK.out _ _ (by trivial) (fun hHeld => ?_)
    clear hK K
    try simp only [Act.put, List.getElem_toArray, List.getElem_cons_zero, List.getElem_cons_succ, List.setIfInBounds_toArray, List.set_cons_zero, List.set_cons_succ]
    refine wpAnyH_ready (rs := [0]) (by kernel_rfl) (by simp) ?_
    refine AllReadyH.cons rfl (fun K hK => ?_) AllReadyH.nil
    go_simp
    refine hK.out _ _ (by trivial) (fun hHeld => ?_)
    clear hK K
    try simp only [Act.put, List.getElem_toArray, List.getElem_cons_zero, List.getElem_cons_succ, List.setIfInBounds_toArray, List.set_cons_zero, List.set_cons_succ]
    refine wpAnyH_ready (rs := [4]) (by kernel_rfl) (by simp) ?_
    refine AllReadyH.cons rfl (fun K hK => ?_) AllReadyH.nil
    go_simp
    refine hK.out _ _ (by trivial) (fun hHeld => ?_)
    clear hK K
    try simp only [Act.put, List.getElem_toArray, List.getElem_cons_zero, List.getElem_cons_succ, List.setIfInBounds_toArray, List.set_cons_zero, List.set_cons_succ]
    refine wpAnyH_take (i := 5) (v := ?_) rfl (by kernel_rfl) (by kernel_rfl) (by kernel_rfl) (fun _ _ _ h => h) (Or.inl ⟨by rfl, ?_⟩) (by assumption) ?_
    rotate_left
    · (intro w hSw; (try dsimp only at hSw); go_simp; (try with_reducible rfl))
    try simp only [Act.put, List.getElem_toArray, List.getElem_cons_zero, List.getElem_cons_succ, List.setIfInBounds_toArray, List.set_cons_zero, List.set_cons_succ]
    refine wpAnyH_take (i := 6) (v := ?_) rfl (by kernel_rfl) (by kernel_rfl) (by kernel_rfl) (fun _ _ _ h => h) (Or.inl ⟨by rfl, ?_⟩) (by assumption) ?_
    rotate_left
    · (intro w hSw; (try dsimp only at hSw); go_simp; (try with_reducible rfl))
    try simp only [Act.put, List.getElem_toArray, List.getElem_cons_zero, List.getElem_cons_succ, List.setIfInBounds_toArray, List.set_cons_zero, List.set_cons_succ]
    refine wpAnyH_done (by kernel_rfl) ?_ _
  rotate_left 1
  all_goals
    go_wp2_with fail
    refine bodyPost_ret (v := .tuple #[.agg #[.string d, .string p, .int .i64 m], .int .i64 (x - 1), .bool t]) ?_ rfl ⟨d, p, m, x - 1, t, rfl, by omega, by omega, by omega, by omega, by omega, by omega, by (repeat (first | with_reducible assumption | with_reducible exact Ext.refl _ | with_reducible refine Ext.alloc ?_ _ | with_reducible refine Ext.drew ?_ | with_reducible refine Ext.drewN ?_ _ | refine Ext.setCell ?_ (by first | (simp only [World.size_alloc, World.size_setCell]; omega) | omega) _ | with_reducible refine Ext.trans ?_ (by with_reducible assumption)))⟩
    simp [results, Tryd.results43, go_sem, z0, z1, z2]
theorem infoU8 : (Tryd.prog.info? 5).map (fun i => (i.zero, i.size, i.bytes)) = some (some (.int .u8 0), 1, 1) := by kernel_rfl
def zeros (n : Nat) : ByteArray := ⟨Array.replicate n 0⟩
theorem zeros_size (n : Nat) : (zeros n).size = n := by simp [zeros, ByteArray.size]
theorem make_bytes (w : World) (n : Nat) (h : n ≤ 1000000) : ∃ W, (Instr.makeSlice 53 (.int .i64 (n : Int)) (.int .i64 (n : Int))).run Tryd.prog w = .ok (.slice (some ⟨w.heap.size, 0, none⟩) n n) W ∧ Ext w W ∧ Lies W w.heap.size (zeros n) := by
  obtain ⟨i, hi, h1⟩ := Option.map_eq_some_iff.1 infoU8
  simp only [Prod.mk.injEq] at h1
  obtain ⟨hz, hs, hb⟩ := h1
  have hr := run_make w 53 5 i _ Tryd.underlying53 hi hz .i64 .i64 (n : Int) (n : Int) (by omega) (by omega) (by rw [hb]; omega) (by omega)
  simp only [Int.toNat_natCast] at hr
  refine ⟨_, hr, (Ext.refl w).alloc _, fun j hj => ?_⟩
  have hj' : j < n := by simpa [zeros] using hj
  rw [World.cell?_alloc_at _ 5 w.heap.size j rfl, hs]
  simp [madeCells, Value.cells, hj', zeros, Nat.mod_one]
set_option maxRecDepth 100000 in
set_option maxHeartbeats 1600000 in
theorem c_spec_DrawRecoverLog (a : Option Addr) (n k : Nat) (w : World) (hb : BytesV w a n) (hn : n ≤ maxLen) :
    Calls Tryd.prog 44 #[.slice a n k] w fun e w' => ∃ s : ByteArray, e = .returned (.string s) ∧ s.size ≤ 40000 ∧ Ext w w' := by
  go_enter Tryd.func44, Tryd.ntmps44
  go_wp2_with fail
  refine (c_spec_l1Cur_log13 _ n k 0 a _ (Cur.new k 78 (hb.ext (by (repeat (first | with_reducible assumption | with_reducible exact Ext.refl _ | with_reducible refine Ext.alloc ?_ _ | with_reducible refine Ext.drew ?_ | with_reducible refine Ext.drewN ?_ _ | refine Ext.setCell ?_ (by first | (simp only [World.size_alloc, World.size_setCell]; omega) | omega) _ | with_reducible refine Ext.trans ?_ (by with_reducible assumption))))) hn _ (by simp)) (by omega)).mono ?_
  rintro e w1 ⟨d, p, m, rfl, hs, m0, m1, hc1, hg1⟩
  have hx := grown_fresh hg1 (w := w) (by (repeat (first | with_reducible assumption | with_reducible exact Ext.refl _ | with_reducible refine Ext.alloc ?_ _ | with_reducible refine Ext.drew ?_ | with_reducible refine Ext.drewN ?_ _ | refine Ext.setCell ?_ (by first | (simp only [World.size_alloc, World.size_setCell]; omega) | omega) _ | with_reducible refine Ext.trans ?_ (by with_reducible assumption)))) (by omega)
  have hz1 := hg1.size
  simp only [World.size_alloc] at hz1
  clear hg1
  have na : ¬ 9223372036854775807 < d.size + p.size := by omega
  go_wp2_with fail
  have hs' : (d ++ p).size ≤ 3600 := by rw [ByteArray.size_append]; exact hs
  refine (c_spec_l1Cur_pick _ n k 62 4 a _ (hc1.ext ((Ext.refl _).alloc _)) (by omega) (by decide)).mono ?_
  rintro e w2 ⟨y, rfl, y0, _, y1, hc2, hg2⟩
  have hx2 := grown_fresh hg2 (w := w) (by (repeat (first | with_reducible assumption | with_reducible exact Ext.refl _ | with_reducible refine Ext.alloc ?_ _ | with_reducible refine Ext.drew ?_ | with_reducible refine Ext.drewN ?_ _ | refine Ext.setCell ?_ (by first | (simp only [World.size_alloc, World.size_setCell]; omega) | omega) _ | with_reducible refine Ext.trans ?_ (by with_reducible assumption)))) (by omega)
  clear hg2 hc1 hx
  generalize d ++ p = s at hs' ⊢
  by_cases h0 : y = 0
  · subst h0
    go_wp2_with fail
    refine (c_spec_l1Cur_spoilt _ n k 64 s ⟨#[35, 64, 10, 48, 49]⟩ a _ hc2 (by omega) (by omega) (by decide) (by decide)).mono ?_
    rintro e w3 ⟨x, rfl, hxs, hc3, hg3⟩
    have hx3 := grown_fresh hg3 hx2 (by omega)
    go_wp2_with fail
    refine (c_spec_l1Cur_one _ n k 70 40 a _ hc3 (by omega) (by decide)).mono ?_
    rintro e v1 ⟨bb, rfl, kc1, kg1⟩
    have kx1 := grown_fresh kg1 hx3 (by omega)
    cases bb
    · go_wp2_with fail
      go_ret
      exact ⟨_, rfl, by omega, kx1⟩
    · go_wp2_with fail
      refine (c_spec_l1Cur_pick _ n k _ 2 a _ kc1 (by omega) (by decide)).mono ?_
      rintro e v2 ⟨z, rfl, z0, _, z1, kc2, kg2⟩
      have kx2 := grown_fresh kg2 kx1 (by omega)
      replace z1 := z1 (by decide)
      obtain ⟨j, rfl⟩ := Int.eq_ofNat_of_zero_le z0
      have kw := IntWalk.i64_in (30000 + (j : Int)) (by omega)
      obtain ⟨v3, hmk, kx3, hl⟩ := make_bytes v2 (30000 + j) (by omega)
      rw [show ((30000 + j : Nat) : Int) = 30000 + (j : Int) by omega] at hmk
      have hzs := zeros_size (30000 + j)
      go_wp2_with (refine wpList_back rfl 53 9 5 (.tmp 46) rfl hl (30000 + j) (30000 + j) hzs rfl Tryd.underlying53 Tryd.underlying5 Tryd.underlying9 ?_)
      go_ret
      exact ⟨_, rfl, by omega, kx2.trans kx3⟩
  · by_cases h1 : y = 1
    · subst h1
      have hw := IntWalk.i64_in ((s.size : Int) + 1) (by omega)
      go_wp2_with fail
      refine (c_spec_l1Cur_pick _ n k 64 ((s.size : Int) + 1) a _ hc2 (by omega) (by omega)).mono ?_
      rintro e w3 ⟨x, rfl, x0, x2, x1, hc3, hg3⟩
      obtain ⟨j, rfl⟩ := Int.eq_ofNat_of_zero_le x0
      have hj : j ≤ s.size := by
        by_cases h : (s.size : Int) + 1 ≤ 1
        · have := x2 h; omega
        · have := x1 (by omega); omega
      clear x2 x1
      have hx3 := grown_fresh hg3 hx2 (by omega)
      have es : (s.extract 0 j).size ≤ 40000 := by rw [ByteArray.size_extract]; omega
      go_wp2_with fail
      refine (c_spec_l1Cur_one _ n k 66 40 a _ hc3 (by omega) (by decide)).mono ?_
      rintro e v1 ⟨bb, rfl, kc1, kg1⟩
      have kx1 := grown_fresh kg1 hx3 (by omega)
      cases bb
      · go_wp2_with fail
        go_ret
        exact ⟨_, rfl, by omega, kx1⟩
      · go_wp2_with fail
        refine (c_spec_l1Cur_pick _ n k _ 2 a _ kc1 (by omega) (by decide)).mono ?_
        rintro e v2 ⟨z, rfl, z0, _, z1, kc2, kg2⟩
        have kx2 := grown_fresh kg2 kx1 (by omega)
        replace z1 := z1 (by decide)
        obtain ⟨j, rfl⟩ := Int.eq_ofNat_of_zero_le z0
        have kw := IntWalk.i64_in (30000 + (j : Int)) (by omega)
        obtain ⟨v3, hmk, kx3, hl⟩ := make_bytes v2 (30000 + j) (by omega)
        rw [show ((30000 + j : Nat) : Int) = 30000 + (j : Int) by omega] at hmk
        have hzs := zeros_size (30000 + j)
        go_wp2_with (refine wpList_back rfl 53 9 5 (.tmp 46) rfl hl (30000 + j) (30000 + j) hzs rfl Tryd.underlying53 Tryd.underlying5 Tryd.underlying9 ?_)
        go_ret
        exact ⟨_, rfl, by omega, kx2.trans kx3⟩
    · by_cases h2 : y = 2
      · subst h2
        go_wp2_with fail
        refine (c_spec_l1Cur_pick _ n k 64 4 a _ hc2 (by omega) (by decide)).mono ?_
        rintro e w3 ⟨x, rfl, x0, _, x1, hc3, hg3⟩
        have hx3 := grown_fresh hg3 hx2 (by omega)
        replace x1 := x1 (by decide)
        go_wp2_with fail
        refine (c_spec_l1Cur_logRecord _ n k 66 a _ hc3 (by omega)).mono ?_
        rintro e w4 ⟨c, r, rfl, hc8, hr8, hc4, hg4⟩
        have hx4 := grown_fresh hg4 hx3 (by omega)
        go_wp2_with fail
        refine (c_spec_l13Line x c r _ x0 (by omega) (by omega) (by omega)).mono ?_
        rintro e w5 ⟨rfl, hb5⟩
        have hls := lineB_size x c r x0 (by omega) (by omega) (by omega)
        have es : (s ++ lineB x c r).size ≤ 40000 := by rw [ByteArray.size_append]; omega
        have nb : ¬ 9223372036854775807 < s.size + (lineB x c r).size := by omega
        have hx5 := hx4.trans hb5
        have hc5 := hc4.ext hb5
        go_wp2_with fail
        refine (c_spec_l1Cur_one _ n k 74 40 a _ hc5 (by omega) (by decide)).mono ?_
        rintro e v1 ⟨bb, rfl, kc1, kg1⟩
        have kx1 := grown_fresh kg1 hx5 (by omega)
        cases bb
        · go_wp2_with fail
          go_ret
          exact ⟨_, rfl, by omega, kx1⟩
        · go_wp2_with fail
          refine (c_spec_l1Cur_pick _ n k _ 2 a _ kc1 (by omega) (by decide)).mono ?_
          rintro e v2 ⟨z, rfl, z0, _, z1, kc2, kg2⟩
          have kx2 := grown_fresh kg2 kx1 (by omega)
          replace z1 := z1 (by decide)
          obtain ⟨j, rfl⟩ := Int.eq_ofNat_of_zero_le z0
          have kw := IntWalk.i64_in (30000 + (j : Int)) (by omega)
          obtain ⟨v3, hmk, kx3, hl⟩ := make_bytes v2 (30000 + j) (by omega)
          rw [show ((30000 + j : Nat) : Int) = 30000 + (j : Int) by omega] at hmk
          have hzs := zeros_size (30000 + j)
          go_wp2_with (refine wpList_back rfl 53 9 5 (.tmp 46) rfl hl (30000 + j) (30000 + j) hzs rfl Tryd.underlying53 Tryd.underlying5 Tryd.underlying9 ?_)
          go_ret
          exact ⟨_, rfl, by omega, kx2.trans kx3⟩
      · go_wp2_with fail
        refine (c_spec_l1Cur_one _ n k 64 40 a _ hc2 (by omega) (by decide)).mono ?_
        rintro e v1 ⟨bb, rfl, kc1, kg1⟩
        have kx1 := grown_fresh kg1 hx2 (by omega)
        cases bb
        · go_wp2_with fail
          go_ret
          exact ⟨_, rfl, by omega, kx1⟩
        · go_wp2_with fail
          refine (c_spec_l1Cur_pick _ n k _ 2 a _ kc1 (by omega) (by decide)).mono ?_
          rintro e v2 ⟨z, rfl, z0, _, z1, kc2, kg2⟩
          have kx2 := grown_fresh kg2 kx1 (by omega)
          replace z1 := z1 (by decide)
          obtain ⟨j, rfl⟩ := Int.eq_ofNat_of_zero_le z0
          have kw := IntWalk.i64_in (30000 + (j : Int)) (by omega)
          obtain ⟨v3, hmk, kx3, hl⟩ := make_bytes v2 (30000 + j) (by omega)
          rw [show ((30000 + j : Nat) : Int) = 30000 + (j : Int) by omega] at hmk
          have hzs := zeros_size (30000 + j)
          go_wp2_with (refine wpList_back rfl 53 9 5 (.tmp 46) rfl hl (30000 + j) (30000 + j) hzs rfl Tryd.underlying53 Tryd.underlying5 Tryd.underlying9 ?_)
          go_ret
          exact ⟨_, rfl, by omega, kx2.trans kx3⟩
end Go.Proofs.YteapfbfoegphkaaDoor
