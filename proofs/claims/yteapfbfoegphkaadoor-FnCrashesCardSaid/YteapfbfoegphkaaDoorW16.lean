/-
  Walks: the draws' cursor.
-/
import Derived.Test.YteapfbfoegphkaaDoorW15
import Derived.Laws.Bits64b
namespace Go.Proofs.YteapfbfoegphkaaDoor
open Go.RowKit
set_option linter.unusedVariables false
set_option linter.unusedSimpArgs false
attribute [local irreducible] decS sumL sumB sealB textB lineB encOk encStr acOk acStr pieces mkB piecesB splitB upL behL cutA cutZ verOk verStr rcI rrI okI aheadS preS restS atS rcS rrS okS inR okByte printed hasByte fits someB cmdB recB
attribute [local irreducible] validB endsB logAt

/-- Bytes that can be read. -/
def BytesV (w : World) (a : Option Addr) (n : Nat) : Prop := n = 0 ∨ ∃ b o, a = some ⟨b, o, none⟩ ∧ ∀ i, i < n → ∃ x : Int, w.cell? ⟨b, o + i, none⟩ = some (.int .u8 x) ∧ 0 ≤ x ∧ x ≤ 255
/-- A cursor over bytes: in block g, with what is read counted up to lim. -/
structure Cur (w : World) (g : Nat) (a : Option Addr) (n k lim : Nat) : Prop where
  len : n ≤ maxLen
  bytes : BytesV w a n
  apart : ∀ b o, a = some ⟨b, o, none⟩ → 0 < n → b ≠ g
  cells : ∃ (i s : Int), w.cell? ⟨g, 0, none⟩ = some (.slice a n k) ∧ w.cell? ⟨g, 1, none⟩ = some (.int .i64 i) ∧ w.cell? ⟨g, 2, none⟩ = some (.int .u64 s) ∧ 0 ≤ i ∧ i ≤ lim ∧ 0 ≤ s ∧ s < 18446744073709551616
  free : ∀ o, w.frozen? ⟨g, o, none⟩ = false
theorem BytesV.kept {w w' : World} {a : Option Addr} {n : Nat} {r : Option Nat} (h : BytesV w a n) (hg : w.grownBy w' r) (hr : ∀ b o, a = some ⟨b, o, none⟩ → 0 < n → some b ≠ r) : BytesV w' a n := by
  rcases h with h | ⟨b, o, ha, h⟩
  · exact .inl h
  · refine .inr ⟨b, o, ha, fun i hi => ?_⟩
    obtain ⟨x, hx, hb⟩ := h i hi
    exact ⟨x, hg.cell hx (hr b o ha (by omega)), hb⟩
theorem u64_rng (x : Int) : 0 ≤ IntKind.u64.wrap x ∧ IntKind.u64.wrap x < 18446744073709551616 := by rw [IntKind.wrap_u64]; omega
theorem grownBy_set {w : World} (g o : Nat) (u : Value) : w.grownBy (w.setCell ⟨g, o, none⟩ u) (some g) :=
  ⟨rfl, rfl, rfl, by simp, fun k _ hk => heap_setCell_other w ⟨g, o, none⟩ k u (fun e => hk (by simp [e]))⟩
theorem grownBy_drewN {w w' : World} {r : Option Nat} (h : w.grownBy w' r) (m : Nat) : w.grownBy (w'.drewN m) r := ⟨h.os, h.tape, h.output, h.size, h.block⟩
theorem grownBy_of_drewN {w w' : World} {r : Option Nat} {m : Nat} (h : (w.drewN m).grownBy w' r) : w.grownBy w' r := ⟨h.os, h.tape, h.output, h.size, h.block⟩
theorem grownBy_refl (w : World) (r : Option Nat) : w.grownBy w r := ⟨rfl, rfl, rfl, Nat.le_refl _, fun _ _ _ => rfl⟩
theorem grown_set {w w' : World} {g : Nat} (h : w.grownBy w' (some g)) (o : Nat) (u : Value) : w.grownBy (w'.setCell ⟨g, o, none⟩ u) (some g) := grownBy_trans h (grownBy_set g o u)
theorem Cur.step {w w' : World} {g n k lim : Nat} {a : Option Addr} (hc : Cur w g a n k lim) (i s : Int) (hg : w.grownBy w' (some g)) (q0 : w'.cell? ⟨g, 0, none⟩ = some (.slice a n k)) (q1 : w'.cell? ⟨g, 1, none⟩ = some (.int .i64 i)) (q2 : w'.cell? ⟨g, 2, none⟩ = some (.int .u64 s)) (hf : ∀ o, w'.frozen? ⟨g, o, none⟩ = false) (i0 : 0 ≤ i) (i1 : i ≤ lim + 1) (hs : 0 ≤ s ∧ s < 18446744073709551616) : Cur w' g a n k (lim + 1) :=
  ⟨hc.len, hc.bytes.kept hg (fun b o h h0 => by simpa using hc.apart b o h h0), hc.apart, ⟨i, s, q0, q1, q2, i0, by omega, hs.1, hs.2⟩, hf⟩
theorem and255 (x : Int) (h0 : 0 ≤ x) (h1 : x < 18446744073709551616) : 0 ≤ wrap64 (bits .and .u64 x 255) ∧ wrap64 (bits .and .u64 x 255) ≤ 255 := by
  obtain ⟨n, rfl⟩ := Int.eq_ofNat_of_zero_le h0
  have e := bits_and_u64_nat n 255 (by omega) (by omega)
  have h : n &&& 255 ≤ 255 := Nat.and_le_right
  have e' : bits .and .u64 (n : Int) 255 = ((n &&& 255 : Nat) : Int) := e
  rw [e']
  unfold wrap64
  omega
set_option maxRecDepth 100000 in
set_option maxHeartbeats 1600000 in
theorem c_spec_l1Cur_next (g n k lim : Nat) (a : Option Addr) (w : World) (hc : Cur w g a n k lim) (hlim : lim ≤ 1000000000) :
    Calls Tryd.prog 79 #[.pointer (some ⟨g, 0, none⟩)] w fun e w' => ∃ x, e = .returned (.int .i64 x) ∧ 0 ≤ x ∧ x ≤ 255 ∧ Cur w' g a n k (lim + 1) ∧ w.grownBy w' (some g) := by
  obtain ⟨i, s, q0, q1, q2, i0, i1, s0, s1⟩ := hc.cells
  have f1 := hc.free 1
  have f2 := hc.free 2
  have hln := hc.len
  by_cases hlt : i < n
  · obtain ⟨b, o, rfl, hx⟩ : ∃ b o, a = some ⟨b, o, none⟩ ∧ ∀ i, i < n → ∃ x : Int, w.cell? ⟨b, o + i, none⟩ = some (.int .u8 x) ∧ 0 ≤ x ∧ x ≤ 255 := by
      rcases hc.bytes with h | h
      · omega
      · exact h
    obtain ⟨j, rfl⟩ := Int.eq_ofNat_of_zero_le i0
    obtain ⟨x, hx, x0, x1⟩ := hx j (by omega)
    go_enter Tryd.func79, Tryd.ntmps79
    go_wp2_with (go_quiet (fail))
    all_goals first | omega | skip
    have hsr := u64_rng (IntKind.u64.wrap (IntKind.u64.wrap (s * 6364136223846793005) + x) + 462197)
    go_ret
    refine ⟨x, rfl, x0, x1, hc.step (j + 1) _ ?_ ?_ ?_ ?_ ?_ (by omega) (by omega) hsr, ?_⟩
    · exact grownBy_drewN (grown_set (grown_set (grownBy_drewN (grownBy_refl _ _) _) _ _) _ _) _
    · simp [go_sem, q0]
    · simp [go_sem, q1]
    · simp [go_sem, q2]
    · intro o'; simp [go_sem, hc.free]
    · exact grownBy_drewN (grown_set (grown_set (grownBy_drewN (grownBy_refl _ _) _) _ _) _ _) _
  · go_enter Tryd.func79, Tryd.ntmps79
    go_wp2_with (go_quiet (fail))
    have hsr := u64_rng (IntKind.u64.wrap (IntKind.u64.wrap (s * 6364136223846793005)) + 462197)
    obtain ⟨y0, y1⟩ := and255 (IntKind.u64.wrap (IntKind.u64.wrap (IntKind.u64.wrap (s * 6364136223846793005)) + 462197) / 1099511627776) (by omega) (by omega)
    go_ret
    refine ⟨_, rfl, y0, y1, hc.step (i + 1) _ ?_ ?_ ?_ ?_ ?_ (by omega) (by omega) hsr, ?_⟩
    · exact grownBy_drewN (grown_set (grown_set (grownBy_drewN (grownBy_refl _ _) _) _ _) _ _) _
    · simp [go_sem, q0]
    · simp [go_sem, q1]
    · simp [go_sem, q2]
    · intro o'; simp [go_sem, hc.free]
    · exact grownBy_drewN (grown_set (grown_set (grownBy_drewN (grownBy_refl _ _) _) _ _) _ _) _
theorem Cur.more {w : World} {g n k lim lim' : Nat} {a : Option Addr} (hc : Cur w g a n k lim) (h : lim ≤ lim') : Cur w g a n k lim' := by
  obtain ⟨i, s, q0, q1, q2, i0, i1, s0, s1⟩ := hc.cells
  exact ⟨hc.len, hc.bytes, hc.apart, ⟨i, s, q0, q1, q2, i0, by omega, s0, s1⟩, hc.free⟩
theorem Cur.ext {w w' : World} {g n k lim : Nat} {a : Option Addr} (hc : Cur w g a n k lim) (h : Ext w w') : Cur w' g a n k lim := by
  obtain ⟨i, s, q0, q1, q2, i0, i1, s0, s1⟩ := hc.cells
  exact ⟨hc.len, hc.bytes.kept (r := none) ⟨h.os, h.tape, h.output, Below.size h, fun k hk _ => h.block k hk⟩ (fun _ _ _ _ => by simp), hc.apart, ⟨i, s, h.keep q0, h.keep q1, h.keep q2, i0, i1, s0, s1⟩, fun o => (Below.frozen (p := ⟨g, o, none⟩) h (World.block_lt_of_cell? w ⟨g, 0, none⟩ q0)).trans (hc.free o)⟩
set_option maxHeartbeats 800000 in
theorem c_spec_l1Cur_pick (g n k lim : Nat) (m : Int) (a : Option Addr) (w : World) (hc : Cur w g a n k lim) (hlim : lim ≤ 1000000) (hm : m ≤ 1000000000) :
    Calls Tryd.prog 61 #[.pointer (some ⟨g, 0, none⟩), .int .i64 m] w fun e w' => ∃ x, e = .returned (.int .i64 x) ∧ 0 ≤ x ∧ (m ≤ 1 → x = 0) ∧ (1 < m → x < m) ∧ Cur w' g a n k (lim + 2) ∧ w.grownBy w' (some g) := by
  by_cases h1 : m ≤ 1
  · go_enter Tryd.func61, Tryd.ntmps61
    go_wp2
    go_ret
    exact ⟨0, rfl, by omega, fun _ => rfl, fun h => by omega, hc.more (by omega), grownBy_refl _ _⟩
  · go_enter Tryd.func61, Tryd.ntmps61
    go_wp2_with fail
    refine (c_spec_l1Cur_next g n k lim a w hc (by omega)).mono ?_
    rintro e w1 ⟨x, rfl, x0, x1, hc1, hg1⟩
    have y0 := Int.emod_nonneg x (show m ≠ 0 by omega)
    have y1 := Int.emod_lt_of_pos x (show 0 < m by omega)
    go_wp2_with (go_at_call 79; refine (c_spec_l1Cur_next g n k (lim + 1) a w1 hc1 (by omega)).mono ?_; rintro e w2 ⟨z, rfl, z0, z1, hc2, hg2⟩)
    · have y2 := Int.emod_nonneg (x * 256 + z) (show m ≠ 0 by omega)
      have y3 := Int.emod_lt_of_pos (x * 256 + z) (show 0 < m by omega)
      go_ret
      exact ⟨_, rfl, y2, fun h => by omega, fun _ => y3, hc2.more (by omega), grownBy_trans hg1 hg2⟩
    · go_ret
      exact ⟨_, rfl, y0, fun h => by omega, fun _ => y1, hc1.more (by omega), hg1⟩
theorem c_spec_l1Cur_one (g n k lim : Nat) (m : Int) (a : Option Addr) (w : World) (hc : Cur w g a n k lim) (hlim : lim ≤ 1000000) (hm : m ≤ 1000000000) :
    Calls Tryd.prog 60 #[.pointer (some ⟨g, 0, none⟩), .int .i64 m] w fun e w' => ∃ x, e = .returned (.bool x) ∧ Cur w' g a n k (lim + 2) ∧ w.grownBy w' (some g) := by
  go_enter Tryd.func60, Tryd.ntmps60
  go_wp2_with fail
  refine (c_spec_l1Cur_pick g n k lim m a w hc hlim hm).mono ?_
  rintro e w1 ⟨x, rfl, x0, _, x1, hc1, hg1⟩
  go_wp2
  go_ret
  exact ⟨_, rfl, hc1, hg1⟩
theorem c_spec_l1Cur_among (P : Int → Prop) (g n k lim b m k' : Nat) (a : Option Addr) (w : World) (hc : Cur w g a n k lim) (hlim : lim ≤ 1000000) (hm0 : 0 < m) (hm : m ≤ 200) (hb : b ≠ g) (hl : ∀ i, i < m → ∃ x : Int, w.cell? ⟨b, i, none⟩ = some (.int .i64 x) ∧ P x) :
    Calls Tryd.prog 58 #[.pointer (some ⟨g, 0, none⟩), .slice (some ⟨b, 0, none⟩) m k'] w fun e w' => ∃ x, e = .returned (.int .i64 x) ∧ P x ∧ Cur w' g a n k (lim + 2) ∧ w.grownBy w' (some g) := by
  go_enter Tryd.func58, Tryd.ntmps58
  go_wp2_with fail
  refine (c_spec_l1Cur_pick g n k lim m a w hc hlim (by omega)).mono ?_
  rintro e w1 ⟨x, rfl, x0, x2, x1, hc1, hg1⟩
  have xm : x < m := by
    by_cases h : (m : Int) ≤ 1
    · have := x2 h; omega
    · exact x1 (by omega)
  clear x1 x2
  obtain ⟨j, rfl⟩ := Int.eq_ofNat_of_zero_le x0
  obtain ⟨y, hy, py⟩ := hl j (by omega)
  have hy1 := hg1.cell hy (by simpa using hb)
  go_wp2
  go_ret
  exact ⟨_, rfl, py, hc1, hg1⟩
theorem c_spec_l1Cur_of (P : ByteArray → Prop) (g n k lim b m k' : Nat) (a : Option Addr) (w : World) (hc : Cur w g a n k lim) (hlim : lim ≤ 1000000) (hm0 : 0 < m) (hm : m ≤ 200) (hb : b ≠ g) (hl : ∀ i, i < m → ∃ x : ByteArray, w.cell? ⟨b, i, none⟩ = some (.string x) ∧ P x) :
    Calls Tryd.prog 78 #[.pointer (some ⟨g, 0, none⟩), .slice (some ⟨b, 0, none⟩) m k'] w fun e w' => ∃ x, e = .returned (.string x) ∧ P x ∧ Cur w' g a n k (lim + 2) ∧ w.grownBy w' (some g) := by
  go_enter Tryd.func78, Tryd.ntmps78
  go_wp2_with fail
  refine (c_spec_l1Cur_pick g n k lim m a w hc hlim (by omega)).mono ?_
  rintro e w1 ⟨x, rfl, x0, x2, x1, hc1, hg1⟩
  have xm : x < m := by
    by_cases h : (m : Int) ≤ 1
    · have := x2 h; omega
    · exact x1 (by omega)
  clear x1 x2
  obtain ⟨j, rfl⟩ := Int.eq_ofNat_of_zero_le x0
  obtain ⟨y, hy, py⟩ := hl j (by omega)
  have hy1 := hg1.cell hy (by simpa using hb)
  go_wp2
  go_ret
  exact ⟨_, rfl, py, hc1, hg1⟩
set_option maxRecDepth 100000 in
set_option maxHeartbeats 1600000 in
theorem c_spec_l1Cur_spoilt (g n k lim : Nat) (t v : ByteArray) (a : Option Addr) (w : World) (hc : Cur w g a n k lim) (hlim : lim ≤ 100000) (ht : t.size ≤ 1048576) (hv0 : 0 < v.size) (hv : v.size ≤ 1000) :
    Calls Tryd.prog 65 #[.pointer (some ⟨g, 0, none⟩), .string t, .string v] w fun e w' => ∃ x, e = .returned (.string x) ∧ x.size ≤ t.size + 1 ∧ Cur w' g a n k (lim + 6) ∧ w.grownBy w' (some g) := by
  by_cases h0 : t.size = 0
  · have hE : t.toList.isEmpty = true := by
      have : t = ⟨#[]⟩ := ByteArray.ext (Array.eq_empty_of_size_eq_zero h0)
      rw [this]; exact (show (⟨#[]⟩ : ByteArray).toList.isEmpty = true by kernel_rfl)
    go_enter Tryd.func65, Tryd.ntmps65
    go_wp2_with fail
    go_ret
    exact ⟨_, rfl, by rw [ByteArray.size_extract]; omega, hc.more (by omega), grownBy_refl _ _⟩
  · have hE : t.toList.isEmpty = false := by
      cases hh : t.toList.isEmpty
      · rfl
      · have : t = ⟨#[]⟩ := eq_of_toList (b := ⟨#[]⟩) (by rw [List.isEmpty_iff.1 hh]; exact (show (([] : List UInt8) == (⟨#[]⟩ : ByteArray).toList) = true by kernel_rfl))
        rw [this] at h0
        exact absurd rfl h0
    go_enter Tryd.func65, Tryd.ntmps65
    go_wp2_with fail
    refine (c_spec_l1Cur_pick g n k lim t.size a w hc (by omega) (by omega)).mono ?_
    rintro e w1 ⟨x, rfl, x0, x2, x1, hc1, hg1⟩
    obtain ⟨j, rfl⟩ := Int.eq_ofNat_of_zero_le x0
    have hj : j < t.size := by
      by_cases h : (t.size : Int) ≤ 1
      · have := x2 h; omega
      · have := x1 (by omega); omega
    clear x0 x1 x2
    go_wp2_with fail
    refine (c_spec_l1Cur_pick g n k (lim + 2) v.size a w1 hc1 (by omega) (by omega)).mono ?_
    rintro e w2 ⟨x, rfl, x0, x2, x1, hc2, hg2⟩
    obtain ⟨z, rfl⟩ := Int.eq_ofNat_of_zero_le x0
    have hz : z < v.size := by
      by_cases h : (v.size : Int) ≤ 1
      · have := x2 h; omega
      · have := x1 (by omega); omega
    clear x0 x1 x2
    have e1 : (v.extract z v.size).size = v.size - z := by rw [ByteArray.size_extract]; omega
    have e2 : ((v.extract z v.size).extract 0 1).size = 1 := by rw [ByteArray.size_extract, e1]; omega
    have e3 : (t.extract 0 j).size = j := by rw [ByteArray.size_extract]; omega
    have e4 : (t.extract j t.size).size = t.size - j := by rw [ByteArray.size_extract]; omega
    have e5 : (t.extract (j + 1) t.size).size = t.size - j - 1 := by rw [ByteArray.size_extract]; omega
    go_wp2_with fail
    refine (c_spec_l1Cur_pick g n k (lim + 4) 3 a w2 hc2 (by omega) (by omega)).mono ?_
    rintro e w3 ⟨y, rfl, y0, _, y1, hc3, hg3⟩
    have hG := grownBy_trans (grownBy_trans hg1 hg2) hg3
    generalize (v.extract z v.size).extract 0 1 = vv at e2 ⊢
    clear e1 hg1 hg2 hg3 hc1 hc2 hE hc
    have jt : j ≤ t.size := by omega
    have jt1 : j + 1 ≤ t.size := by omega
    have jw : IntKind.i64.wrap ((j : Int) + 1) = (j : Int) + 1 := IntWalk.i64_in ((j : Int) + 1) (by omega)
    have jt2 : (j : Int) + 1 ≤ t.size := by omega
    have jt3 : 0 ≤ (j : Int) + 1 := by omega
    have n1 : ¬ 9223372036854775807 < j + vv.size := by omega
    have E1 : (t.extract 0 j ++ vv).size = j + 1 := by rw [ByteArray.size_append]; omega
    have n2 : ¬ 9223372036854775807 < j + vv.size + (t.size - j) := by omega
    have n3 : ¬ 9223372036854775807 < j + vv.size + (t.size - (j + 1)) := by omega
    have n4 : ¬ 9223372036854775807 < j + (t.size - (j + 1)) := by omega
    have z7 : (t.extract 0 j ++ vv ++ t.extract j t.size).size ≤ t.size + 1 := by rw [ByteArray.size_append]; omega
    have z9 : (t.extract 0 j ++ vv ++ t.extract (j + 1) t.size).size ≤ t.size + 1 := by rw [ByteArray.size_append]; omega
    have z10 : (t.extract 0 j ++ t.extract (j + 1) t.size).size ≤ t.size + 1 := by rw [ByteArray.size_append]; omega
    clear E1 e2 e3 e4 e5
    by_cases h0 : y = 0
    · subst h0
      go_wp2_with fail
      refine wp_region_held_drew (S := (fun w' => Ext w3 w')) (by kernel_rfl) ?_ (fun hHeld => ?_)
      · exact (Ext.refl w3).drew
      refine wpAnyH_take (i := 0) (v := ?_) rfl (by kernel_rfl) (by kernel_rfl) (by kernel_rfl) (fun _ _ _ h => h) (Or.inl ⟨by rfl, ?_⟩) (by assumption) ?_
      rotate_left
      · (intro w hSw; (try dsimp only at hSw); go_simp; (try with_reducible rfl))
      try simp only [Act.put, List.getElem_toArray, List.getElem_cons_zero, List.getElem_cons_succ, List.setIfInBounds_toArray, List.set_cons_zero, List.set_cons_succ]
      refine wpAnyH_take (i := 1) (v := ?_) rfl (by kernel_rfl) (by kernel_rfl) (by kernel_rfl) (fun _ _ _ h => h) (Or.inl ⟨by rfl, ?_⟩) (by assumption) ?_
      rotate_left
      · (intro w hSw; (try dsimp only at hSw); go_simp; (try with_reducible rfl))
      try simp only [Act.put, List.getElem_toArray, List.getElem_cons_zero, List.getElem_cons_succ, List.setIfInBounds_toArray, List.set_cons_zero, List.set_cons_succ]
      refine wpAnyH_take (i := 2) (v := ?_) rfl (by kernel_rfl) (by kernel_rfl) (by kernel_rfl) (fun _ _ _ h => h) (Or.inl ⟨by rfl, ?_⟩) (by assumption) ?_
      rotate_left
      · (intro w hSw; (try dsimp only at hSw); go_simp; (try with_reducible rfl))
      try simp only [Act.put, List.getElem_toArray, List.getElem_cons_zero, List.getElem_cons_succ, List.setIfInBounds_toArray, List.set_cons_zero, List.set_cons_succ]
      refine wpAnyH_take (i := 3) (v := ?_) rfl (by kernel_rfl) (by kernel_rfl) (by kernel_rfl) (fun _ _ _ h => h) (Or.inl ⟨by rfl, ?_⟩) (by assumption) ?_
      rotate_left
      · (intro w hSw; (try dsimp only at hSw); go_simp; (try with_reducible rfl))
      try simp only [Act.put, List.getElem_toArray, List.getElem_cons_zero, List.getElem_cons_succ, List.setIfInBounds_toArray, List.set_cons_zero, List.set_cons_succ]
      refine wpAnyH_take (i := 4) (v := ?_) rfl (by kernel_rfl) (by kernel_rfl) (by kernel_rfl) (fun _ _ _ h => h) (Or.inl ⟨by rfl, ?_⟩) (by assumption) ?_
      rotate_left
      · (intro w hSw; (try dsimp only at hSw); go_simp; (try with_reducible rfl))
      try simp only [Act.put, List.getElem_toArray, List.getElem_cons_zero, List.getElem_cons_succ, List.setIfInBounds_toArray, List.set_cons_zero, List.set_cons_succ]
      refine wpAnyH_take (i := 5) (v := ?_) rfl (by kernel_rfl) (by kernel_rfl) (by kernel_rfl) (fun _ _ _ h => h) (Or.inl ⟨by rfl, ?_⟩) (by assumption) ?_
      rotate_left
      · (intro w hSw; (try dsimp only at hSw); go_simp; (try with_reducible rfl))
      try simp only [Act.put, List.getElem_toArray, List.getElem_cons_zero, List.getElem_cons_succ, List.setIfInBounds_toArray, List.set_cons_zero, List.set_cons_succ]
      refine wpAnyH_take (i := 6) (v := ?_) rfl (by kernel_rfl) (by kernel_rfl) (by kernel_rfl) (fun _ _ _ h => h) (Or.inl ⟨by rfl, ?_⟩) (by assumption) ?_
      rotate_left
      · (intro w hSw; (try dsimp only at hSw); go_simp; (try with_reducible rfl))
      try simp only [Act.put, List.getElem_toArray, List.getElem_cons_zero, List.getElem_cons_succ, List.setIfInBounds_toArray, List.set_cons_zero, List.set_cons_succ]
      refine wpAnyH_take (i := 7) (v := ?_) rfl (by kernel_rfl) (by kernel_rfl) (by kernel_rfl) (fun _ _ _ h => h) (Or.inl ⟨by rfl, ?_⟩) (by assumption) ?_
      rotate_left
      · (intro w hSw; (try dsimp only at hSw); go_simp; (try with_reducible rfl))
      try simp only [Act.put, List.getElem_toArray, List.getElem_cons_zero, List.getElem_cons_succ, List.setIfInBounds_toArray, List.set_cons_zero, List.set_cons_succ]
      refine wpAnyH_take (i := 8) (v := ?_) rfl (by kernel_rfl) (by kernel_rfl) (by kernel_rfl) (fun _ _ _ h => h) (Or.inl ⟨by rfl, ?_⟩) (by assumption) ?_
      rotate_left
      · (intro w hSw; (try dsimp only at hSw); go_simp; (try with_reducible rfl))
      try simp only [Act.put, List.getElem_toArray, List.getElem_cons_zero, List.getElem_cons_succ, List.setIfInBounds_toArray, List.set_cons_zero, List.set_cons_succ]
      refine wpAnyH_take (i := 9) (v := ?_) rfl (by kernel_rfl) (by kernel_rfl) (by kernel_rfl) (fun _ _ _ h => h) (Or.inl ⟨by rfl, ?_⟩) (by assumption) ?_
      rotate_left
      · (intro w hSw; (try dsimp only at hSw); go_simp; (try with_reducible rfl))
      try simp only [Act.put, List.getElem_toArray, List.getElem_cons_zero, List.getElem_cons_succ, List.setIfInBounds_toArray, List.set_cons_zero, List.set_cons_succ]
      refine wpAnyH_done (by kernel_rfl) ?_ _
      go_wp2_with fail
      go_ret
      exact ⟨_, rfl, z7, hc3.ext hHeld, grownBy_trans hG (grownBy_ext hHeld)⟩
    · by_cases h1 : y = 1
      · subst h1
        go_wp2_with fail
        refine wp_region_held_drew (S := (fun w' => Ext w3 w')) (by kernel_rfl) ?_ (fun hHeld => ?_)
        · exact (Ext.refl w3).drew
        refine wpAnyH_take (i := 0) (v := ?_) rfl (by kernel_rfl) (by kernel_rfl) (by kernel_rfl) (fun _ _ _ h => h) (Or.inl ⟨by rfl, ?_⟩) (by assumption) ?_
        rotate_left
        · (intro w hSw; (try dsimp only at hSw); go_simp; (try with_reducible rfl))
        try simp only [Act.put, List.getElem_toArray, List.getElem_cons_zero, List.getElem_cons_succ, List.setIfInBounds_toArray, List.set_cons_zero, List.set_cons_succ]
        refine wpAnyH_take (i := 1) (v := ?_) rfl (by kernel_rfl) (by kernel_rfl) (by kernel_rfl) (fun _ _ _ h => h) (Or.inl ⟨by rfl, ?_⟩) (by assumption) ?_
        rotate_left
        · (intro w hSw; (try dsimp only at hSw); go_simp; (try with_reducible rfl))
        try simp only [Act.put, List.getElem_toArray, List.getElem_cons_zero, List.getElem_cons_succ, List.setIfInBounds_toArray, List.set_cons_zero, List.set_cons_succ]
        refine wpAnyH_take (i := 2) (v := ?_) rfl (by kernel_rfl) (by kernel_rfl) (by kernel_rfl) (fun _ _ _ h => h) (Or.inl ⟨by rfl, ?_⟩) (by assumption) ?_
        rotate_left
        · (intro w hSw; (try dsimp only at hSw); go_simp; (try with_reducible rfl))
        try simp only [Act.put, List.getElem_toArray, List.getElem_cons_zero, List.getElem_cons_succ, List.setIfInBounds_toArray, List.set_cons_zero, List.set_cons_succ]
        refine wpAnyH_take (i := 3) (v := ?_) rfl (by kernel_rfl) (by kernel_rfl) (by kernel_rfl) (fun _ _ _ h => h) (Or.inl ⟨by rfl, ?_⟩) (by assumption) ?_
        rotate_left
        · (intro w hSw; (try dsimp only at hSw); go_simp; (try with_reducible rfl))
        try simp only [Act.put, List.getElem_toArray, List.getElem_cons_zero, List.getElem_cons_succ, List.setIfInBounds_toArray, List.set_cons_zero, List.set_cons_succ]
        refine wpAnyH_take (i := 4) (v := ?_) rfl (by kernel_rfl) (by kernel_rfl) (by kernel_rfl) (fun _ _ _ h => h) (Or.inl ⟨by rfl, ?_⟩) (by assumption) ?_
        rotate_left
        · (intro w hSw; (try dsimp only at hSw); go_simp; (try with_reducible rfl))
        try simp only [Act.put, List.getElem_toArray, List.getElem_cons_zero, List.getElem_cons_succ, List.setIfInBounds_toArray, List.set_cons_zero, List.set_cons_succ]
        refine wpAnyH_take (i := 5) (v := ?_) rfl (by kernel_rfl) (by kernel_rfl) (by kernel_rfl) (fun _ _ _ h => h) (Or.inl ⟨by rfl, ?_⟩) (by assumption) ?_
        rotate_left
        · (intro w hSw; (try dsimp only at hSw); go_simp; (try with_reducible rfl))
        try simp only [Act.put, List.getElem_toArray, List.getElem_cons_zero, List.getElem_cons_succ, List.setIfInBounds_toArray, List.set_cons_zero, List.set_cons_succ]
        refine wpAnyH_take (i := 6) (v := ?_) rfl (by kernel_rfl) (by kernel_rfl) (by kernel_rfl) (fun _ _ _ h => h) (Or.inl ⟨by rfl, ?_⟩) (by assumption) ?_
        rotate_left
        · (intro w hSw; (try dsimp only at hSw); go_simp; (try with_reducible rfl))
        try simp only [Act.put, List.getElem_toArray, List.getElem_cons_zero, List.getElem_cons_succ, List.setIfInBounds_toArray, List.set_cons_zero, List.set_cons_succ]
        refine wpAnyH_take (i := 7) (v := ?_) rfl (by kernel_rfl) (by kernel_rfl) (by kernel_rfl) (fun _ _ _ h => h) (Or.inl ⟨by rfl, ?_⟩) (by assumption) ?_
        rotate_left
        · (intro w hSw; (try dsimp only at hSw); go_simp; (try with_reducible rfl))
        try simp only [Act.put, List.getElem_toArray, List.getElem_cons_zero, List.getElem_cons_succ, List.setIfInBounds_toArray, List.set_cons_zero, List.set_cons_succ]
        refine wpAnyH_take (i := 8) (v := ?_) rfl (by kernel_rfl) (by kernel_rfl) (by kernel_rfl) (fun _ _ _ h => h) (Or.inl ⟨by rfl, ?_⟩) (by assumption) ?_
        rotate_left
        · (intro w hSw; (try dsimp only at hSw); go_simp; (try with_reducible rfl))
        try simp only [Act.put, List.getElem_toArray, List.getElem_cons_zero, List.getElem_cons_succ, List.setIfInBounds_toArray, List.set_cons_zero, List.set_cons_succ]
        refine wpAnyH_take (i := 9) (v := ?_) rfl (by kernel_rfl) (by kernel_rfl) (by kernel_rfl) (fun _ _ _ h => h) (Or.inl ⟨by rfl, ?_⟩) (by assumption) ?_
        rotate_left
        · (intro w hSw; (try dsimp only at hSw); go_simp; (try with_reducible rfl))
        try simp only [Act.put, List.getElem_toArray, List.getElem_cons_zero, List.getElem_cons_succ, List.setIfInBounds_toArray, List.set_cons_zero, List.set_cons_succ]
        refine wpAnyH_take (i := 10) (v := ?_) rfl (by kernel_rfl) (by kernel_rfl) (by kernel_rfl) (fun _ _ _ h => h) (Or.inl ⟨by rfl, ?_⟩) (by assumption) ?_
        rotate_left
        · (intro w hSw; (try dsimp only at hSw); go_simp; (try with_reducible rfl))
        try simp only [Act.put, List.getElem_toArray, List.getElem_cons_zero, List.getElem_cons_succ, List.setIfInBounds_toArray, List.set_cons_zero, List.set_cons_succ]
        refine wpAnyH_done (by kernel_rfl) ?_ _
        go_wp2_with fail
        go_ret
        exact ⟨_, rfl, z9, hc3.ext hHeld, grownBy_trans hG (grownBy_ext hHeld)⟩
      · go_wp2_with fail
        refine wp_region_held_drew (S := (fun w' => Ext w3 w')) (by kernel_rfl) ?_ (fun hHeld => ?_)
        · exact (Ext.refl w3).drew
        refine wpAnyH_take (i := 0) (v := ?_) rfl (by kernel_rfl) (by kernel_rfl) (by kernel_rfl) (fun _ _ _ h => h) (Or.inl ⟨by rfl, ?_⟩) (by assumption) ?_
        rotate_left
        · (intro w hSw; (try dsimp only at hSw); go_simp; (try with_reducible rfl))
        try simp only [Act.put, List.getElem_toArray, List.getElem_cons_zero, List.getElem_cons_succ, List.setIfInBounds_toArray, List.set_cons_zero, List.set_cons_succ]
        refine wpAnyH_take (i := 1) (v := ?_) rfl (by kernel_rfl) (by kernel_rfl) (by kernel_rfl) (fun _ _ _ h => h) (Or.inl ⟨by rfl, ?_⟩) (by assumption) ?_
        rotate_left
        · (intro w hSw; (try dsimp only at hSw); go_simp; (try with_reducible rfl))
        try simp only [Act.put, List.getElem_toArray, List.getElem_cons_zero, List.getElem_cons_succ, List.setIfInBounds_toArray, List.set_cons_zero, List.set_cons_succ]
        refine wpAnyH_take (i := 2) (v := ?_) rfl (by kernel_rfl) (by kernel_rfl) (by kernel_rfl) (fun _ _ _ h => h) (Or.inl ⟨by rfl, ?_⟩) (by assumption) ?_
        rotate_left
        · (intro w hSw; (try dsimp only at hSw); go_simp; (try with_reducible rfl))
        try simp only [Act.put, List.getElem_toArray, List.getElem_cons_zero, List.getElem_cons_succ, List.setIfInBounds_toArray, List.set_cons_zero, List.set_cons_succ]
        refine wpAnyH_take (i := 3) (v := ?_) rfl (by kernel_rfl) (by kernel_rfl) (by kernel_rfl) (fun _ _ _ h => h) (Or.inl ⟨by rfl, ?_⟩) (by assumption) ?_
        rotate_left
        · (intro w hSw; (try dsimp only at hSw); go_simp; (try with_reducible rfl))
        try simp only [Act.put, List.getElem_toArray, List.getElem_cons_zero, List.getElem_cons_succ, List.setIfInBounds_toArray, List.set_cons_zero, List.set_cons_succ]
        refine wpAnyH_take (i := 4) (v := ?_) rfl (by kernel_rfl) (by kernel_rfl) (by kernel_rfl) (fun _ _ _ h => h) (Or.inl ⟨by rfl, ?_⟩) (by assumption) ?_
        rotate_left
        · (intro w hSw; (try dsimp only at hSw); go_simp; (try with_reducible rfl))
        try simp only [Act.put, List.getElem_toArray, List.getElem_cons_zero, List.getElem_cons_succ, List.setIfInBounds_toArray, List.set_cons_zero, List.set_cons_succ]
        refine wpAnyH_take (i := 5) (v := ?_) rfl (by kernel_rfl) (by kernel_rfl) (by kernel_rfl) (fun _ _ _ h => h) (Or.inl ⟨by rfl, ?_⟩) (by assumption) ?_
        rotate_left
        · (intro w hSw; (try dsimp only at hSw); go_simp; (try with_reducible rfl))
        try simp only [Act.put, List.getElem_toArray, List.getElem_cons_zero, List.getElem_cons_succ, List.setIfInBounds_toArray, List.set_cons_zero, List.set_cons_succ]
        refine wpAnyH_take (i := 6) (v := ?_) rfl (by kernel_rfl) (by kernel_rfl) (by kernel_rfl) (fun _ _ _ h => h) (Or.inl ⟨by rfl, ?_⟩) (by assumption) ?_
        rotate_left
        · (intro w hSw; (try dsimp only at hSw); go_simp; (try with_reducible rfl))
        try simp only [Act.put, List.getElem_toArray, List.getElem_cons_zero, List.getElem_cons_succ, List.setIfInBounds_toArray, List.set_cons_zero, List.set_cons_succ]
        refine wpAnyH_take (i := 7) (v := ?_) rfl (by kernel_rfl) (by kernel_rfl) (by kernel_rfl) (fun _ _ _ h => h) (Or.inl ⟨by rfl, ?_⟩) (by assumption) ?_
        rotate_left
        · (intro w hSw; (try dsimp only at hSw); go_simp; (try with_reducible rfl))
        try simp only [Act.put, List.getElem_toArray, List.getElem_cons_zero, List.getElem_cons_succ, List.setIfInBounds_toArray, List.set_cons_zero, List.set_cons_succ]
        refine wpAnyH_take (i := 8) (v := ?_) rfl (by kernel_rfl) (by kernel_rfl) (by kernel_rfl) (fun _ _ _ h => h) (Or.inl ⟨by rfl, ?_⟩) (by assumption) ?_
        rotate_left
        · (intro w hSw; (try dsimp only at hSw); go_simp; (try with_reducible rfl))
        try simp only [Act.put, List.getElem_toArray, List.getElem_cons_zero, List.getElem_cons_succ, List.setIfInBounds_toArray, List.set_cons_zero, List.set_cons_succ]
        refine wpAnyH_done (by kernel_rfl) ?_ _
        go_wp2_with fail
        go_ret
        exact ⟨_, rfl, z10, hc3.ext hHeld, grownBy_trans hG (grownBy_ext hHeld)⟩
end Go.Proofs.YteapfbfoegphkaaDoor
