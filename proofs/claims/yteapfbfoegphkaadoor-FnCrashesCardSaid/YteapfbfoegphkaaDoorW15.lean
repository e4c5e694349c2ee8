/-
  Walks: marks, rows of records compared, marked and held.
-/
import Derived.Test.YteapfbfoegphkaaDoorW14
namespace Go.Proofs.YteapfbfoegphkaaDoor
open Go.RowKit
set_option linter.unusedVariables false
set_option linter.unusedSimpArgs false
attribute [local irreducible] decS sumL sumB sealB textB lineB encOk encStr acOk acStr pieces mkB piecesB splitB upL behL cutA cutZ verOk verStr rcI rrI okI aheadS preS restS atS rcS rrS okS inR okByte printed hasByte fits someB cmdB recB
attribute [local irreducible] validB endsB logAt

/-- The text of a mark. -/
def markS (n : Int) : ByteArray := if n ≤ 0 then ⟨#[109, 48]⟩ else ⟨#[109]⟩ ++ decS n
/-- The digits that are still to come. -/
def restS' (r : Int) : ByteArray := if 0 < r then decS r else ⟨#[]⟩
theorem restS_step (r : Int) (h : 0 < r) : restS' r = restS' (r / 10) ++ decS (r % 10) := by
  unfold restS'
  rw [if_pos h]
  by_cases h1 : 10 ≤ r
  · rw [if_pos (by omega), decS_big r h1]
  · rw [if_neg (by omega), show r % 10 = r by omega]
    rfl
theorem digit_one (k : Int) (h0 : 0 ≤ k) (h : k < 10) : decS k = ⟨#[UInt8.ofNat (48 + k).toNat]⟩ := by
  rw [← decS_small k h0 h]
  have : k = 0 ∨ k = 1 ∨ k = 2 ∨ k = 3 ∨ k = 4 ∨ k = 5 ∨ k = 6 ∨ k = 7 ∨ k = 8 ∨ k = 9 := by omega
  rcases this with rfl | rfl | rfl | rfl | rfl | rfl | rfl | rfl | rfl | rfl <;> rfl
theorem lies_one (w : World) (x : Int) (t : TypeId) (h0 : 0 ≤ x) (h1 : x ≤ 255) : Lies (w.alloc (.cells #[.int .u8 x] t)) w.heap.size ⟨#[UInt8.ofNat x.toNat]⟩ := by
  intro j hj
  have hj0 : j = 0 := by simpa using hj
  subst hj0
  have e : ((UInt8.ofNat x.toNat).toNat : Int) = x := by
    have : (UInt8.ofNat x.toNat).toNat = x.toNat % 256 := rfl
    rw [this]
    omega
  rw [World.cell?_alloc_at #[.int .u8 x] t w.heap.size 0 rfl]
  simp [e]
  omega
attribute [local irreducible] restS' markS
set_option maxRecDepth 100000 in
set_option maxHeartbeats 800000 in
theorem c_laws_markText (n : Int) (w : World) (h0 : 0 ≤ n) (h1 : n ≤ 1000000000) :
    Calls Tryd.prog 56 #[.int .i64 n] w fun e w' => e = .returned (.string (markS n)) ∧ Ext w w' := by
  by_cases hn : n ≤ 0
  · go_enter Tryd.func56, Tryd.ntmps56
    go_wp2
    go_ret
    exact ⟨ret_str (by unfold markS; rw [if_pos hn]), by (repeat (first | with_reducible assumption | with_reducible exact Ext.refl _ | with_reducible refine Ext.alloc ?_ _ | with_reducible refine Ext.drew ?_ | with_reducible refine Ext.drewN ?_ _ | refine Ext.setCell ?_ (by first | (simp only [World.size_alloc, World.size_setCell]; omega) | omega) _ | with_reducible refine Ext.trans ?_ (by with_reducible assumption)))⟩
  · go_enter Tryd.func56, Tryd.ntmps56
    go_wp2
    go_loopw [0, 3] (fun a t wr => ∃ (r : Int) (s : ByteArray), a = .int .i64 r ∧ t = .string s ∧ 0 ≤ r ∧ r ≤ n ∧ Ext w wr ∧ Hid (decS n = restS' r ++ s)) (fun a _ _ => (intOf a).toNat)
    case atStart =>
      exact ⟨n, ⟨#[]⟩, rfl, rfl, h0, Int.le_refl _, by (repeat (first | with_reducible assumption | with_reducible exact Ext.refl _ | with_reducible refine Ext.alloc ?_ _ | with_reducible refine Ext.drew ?_ | with_reducible refine Ext.drewN ?_ _ | refine Ext.setCell ?_ (by first | (simp only [World.size_alloc, World.size_setCell]; omega) | omega) _ | with_reducible refine Ext.trans ?_ (by with_reducible assumption))), Lib.hid (by unfold restS'; rw [if_pos (by omega)]; exact (ByteArray.ext (by simp)))⟩
    case round =>
      obtain ⟨r, s, rfl, rfl, hr, hrn, hx, HD⟩ := hrel
      have hsz : s.size ≤ 21 := by
        have h2 := decS_len n (by omega) (by omega)
        rw [HD.out, ByteArray.size_append] at h2
        omega
      by_cases hp : 0 < r
      · have hdg := digit_one (r % 10) (by omega) (by omega)
        have hl := lies_one wr (48 + r % 10) 5 (by omega) (by omega)
        rw [← hdg] at hl
        have hds : (decS (r % 10)).size = 1 := by rw [hdg]; rfl
        have hst := Lib.hid (restS_step r hp)
        clear hdg
        go_wp2_with (refine wpList_back rfl 53 9 5 (.tmp 12) rfl hl 1 1 hds rfl Tryd.underlying53 Tryd.underlying5 Tryd.underlying9 ?_)
        go_roundw
        case rel => exact ⟨r / 10, decS (r % 10) ++ s, rfl, rfl, by omega, by omega, by (repeat (first | with_reducible assumption | with_reducible exact Ext.refl _ | with_reducible refine Ext.alloc ?_ _ | with_reducible refine Ext.drew ?_ | with_reducible refine Ext.drewN ?_ _ | refine Ext.setCell ?_ (by first | (simp only [World.size_alloc, World.size_setCell]; omega) | omega) _ | with_reducible refine Ext.trans ?_ (by with_reducible assumption))), Lib.hid (by rw [HD.out, hst.out, ByteArray.append_assoc])⟩
        · simp only [intOf]; omega
      · have hr0 : r = 0 := by omega
        have hms : Hid (markS n = ⟨#[109]⟩ ++ s) := Lib.hid (by unfold markS; rw [if_neg (by omega), HD.out]; unfold restS'; rw [if_neg hp]; exact congrArg _ (ByteArray.ext (by simp)))
        go_wp2
        go_ret
        exact ⟨ret_str hms.out.symm, by (repeat (first | with_reducible assumption | with_reducible exact Ext.refl _ | with_reducible refine Ext.alloc ?_ _ | with_reducible refine Ext.drew ?_ | with_reducible refine Ext.drewN ?_ _ | refine Ext.setCell ?_ (by first | (simp only [World.size_alloc, World.size_setCell]; omega) | omega) _ | with_reducible refine Ext.trans ?_ (by with_reducible assumption)))⟩
theorem recCells_get (L : List (ByteArray × ByteArray × Nat)) (i : Nat) (h : i < L.length) : (recCells L)[i * 2]? = some (.string (L[i]).1) ∧ (recCells L)[i * 2 + 1]? = some (.string (L[i]).2.1) := by
  induction L generalizing i with
  | nil => cases h
  | cons x L ih =>
    have e : recCells (x :: L) = .string x.1 :: .string x.2.1 :: recCells L := by simp [recCells]
    rw [e]
    cases i with
    | zero => exact ⟨rfl, rfl⟩
    | succ i =>
      have := ih i (by simpa using h)
      rw [show (i + 1) * 2 = (i * 2) + 1 + 1 by omega]
      simpa using this
theorem eqLogRecordS_none (a1 a2 : Option Addr) (k1 k2 : Nat) (w : World) :
    Calls Tryd.prog 31 #[.slice a1 0 k1, .slice a2 0 k2] w fun e w' => e = .returned (.bool true) ∧ Ext w w' := by
  go_enter Tryd.func31, Tryd.ntmps31
  go_wp2
  go_loopw [5] (fun a wr => a = .int .i64 0 ∧ Ext w wr) (fun a _ => 0)
  case atStart => exact ⟨rfl, by (repeat (first | with_reducible assumption | with_reducible exact Ext.refl _ | with_reducible refine Ext.alloc ?_ _ | with_reducible refine Ext.drew ?_ | with_reducible refine Ext.drewN ?_ _ | refine Ext.setCell ?_ (by first | (simp only [World.size_alloc, World.size_setCell]; omega) | omega) _ | with_reducible refine Ext.trans ?_ (by with_reducible assumption)))⟩
  case round =>
    obtain ⟨rfl, hx⟩ := hrel
    go_wp2
    go_ret
    exact ⟨rfl, by (repeat (first | with_reducible assumption | with_reducible exact Ext.refl _ | with_reducible refine Ext.alloc ?_ _ | with_reducible refine Ext.drew ?_ | with_reducible refine Ext.drewN ?_ _ | refine Ext.setCell ?_ (by first | (simp only [World.size_alloc, World.size_setCell]; omega) | omega) _ | with_reducible refine Ext.trans ?_ (by with_reducible assumption)))⟩
set_option maxRecDepth 100000 in
set_option maxHeartbeats 1600000 in
theorem eqLogRecordS_own (b1 b2 g1 g2 k1 k2 : Nat) (L : List (ByteArray × ByteArray × Nat)) (w : World) (own1 : w.ownsRow b1 27 2 (.slice (some ⟨g1, 0, none⟩) L.length k1) L.length (recCells L)) (own2 : w.ownsRow b2 27 2 (.slice (some ⟨g2, 0, none⟩) L.length k2) L.length (recCells L)) (hl : L.length ≤ 60) :
    Calls Tryd.prog 31 #[.slice (some ⟨g1, 0, none⟩) L.length k1, .slice (some ⟨g2, 0, none⟩) L.length k2] w fun e w' => e = .returned (.bool true) ∧ Ext w w' := by
  go_enter Tryd.func31, Tryd.ntmps31
  go_wp2
  go_loopw [5] (fun a wr => ∃ i : Nat, a = .int .i64 i ∧ i ≤ L.length ∧ Ext w wr) (fun a _ => L.length - (intOf a).toNat)
  case atStart => exact ⟨0, rfl, Nat.zero_le _, by (repeat (first | with_reducible assumption | with_reducible exact Ext.refl _ | with_reducible refine Ext.alloc ?_ _ | with_reducible refine Ext.drew ?_ | with_reducible refine Ext.drewN ?_ _ | refine Ext.setCell ?_ (by first | (simp only [World.size_alloc, World.size_setCell]; omega) | omega) _ | with_reducible refine Ext.trans ?_ (by with_reducible assumption)))⟩
  case round =>
    obtain ⟨i, rfl, hi, hx⟩ := hrel
    by_cases hlt : i < L.length
    · have c1 := recCells_get L i hlt
      have q0 := hx.keep (own_cell own1 (i * 2) _ c1.1)
      have q1 := hx.keep (own_cell own1 (i * 2 + 1) _ c1.2)
      have q2 := hx.keep (own_cell own2 (i * 2) _ c1.1)
      have q3 := hx.keep (own_cell own2 (i * 2 + 1) _ c1.2)
      go_wp2_with fail
      refine wp_region_held_drew (S := (fun w' => Ext wr w')) (by kernel_rfl) ?_ (fun hHeld => ?_)
      · exact (Ext.refl wr).drew
      refine wpAnyH_take (i := 0) (v := ?_) rfl (by kernel_rfl) (by kernel_rfl) (by kernel_rfl) (fun _ _ _ h => h) (Or.inl ⟨by rfl, ?_⟩) (by assumption) ?_
      rotate_left
      · (intro w hSw; (try dsimp only at hSw); have s0 := Ext.keep hSw q0; have s1 := Ext.keep hSw q1; have s2 := Ext.keep hSw q2; have s3 := Ext.keep hSw q3; go_simp; (try with_reducible rfl))
      try simp only [Act.put, List.getElem_toArray, List.getElem_cons_zero, List.getElem_cons_succ, List.setIfInBounds_toArray, List.set_cons_zero, List.set_cons_succ]
      refine wpAnyH_take (i := 1) (v := ?_) rfl (by kernel_rfl) (by kernel_rfl) (by kernel_rfl) (fun _ _ _ h => h) (Or.inl ⟨by rfl, ?_⟩) (by assumption) ?_
      rotate_left
      · (intro w hSw; (try dsimp only at hSw); have s0 := Ext.keep hSw q0; have s1 := Ext.keep hSw q1; have s2 := Ext.keep hSw q2; have s3 := Ext.keep hSw q3; go_simp; (try with_reducible rfl))
      try simp only [Act.put, List.getElem_toArray, List.getElem_cons_zero, List.getElem_cons_succ, List.setIfInBounds_toArray, List.set_cons_zero, List.set_cons_succ]
      refine wpAnyH_take (i := 2) (v := ?_) rfl (by kernel_rfl) (by kernel_rfl) (by kernel_rfl) (fun _ _ _ h => h) (Or.inl ⟨by rfl, ?_⟩) (by assumption) ?_
      rotate_left
      · (intro w hSw; (try dsimp only at hSw); have s0 := Ext.keep hSw q0; have s1 := Ext.keep hSw q1; have s2 := Ext.keep hSw q2; have s3 := Ext.keep hSw q3; go_simp; (try with_reducible rfl))
      try simp only [Act.put, List.getElem_toArray, List.getElem_cons_zero, List.getElem_cons_succ, List.setIfInBounds_toArray, List.set_cons_zero, List.set_cons_succ]
      refine wpAnyH_take (i := 3) (v := ?_) rfl (by kernel_rfl) (by kernel_rfl) (by kernel_rfl) (fun _ _ _ h => h) (Or.inl ⟨by rfl, ?_⟩) (by assumption) ?_
      rotate_left
      · (intro w hSw; (try dsimp only at hSw); have s0 := Ext.keep hSw q0; have s1 := Ext.keep hSw q1; have s2 := Ext.keep hSw q2; have s3 := Ext.keep hSw q3; go_simp; (try with_reducible rfl))
      try simp only [Act.put, List.getElem_toArray, List.getElem_cons_zero, List.getElem_cons_succ, List.setIfInBounds_toArray, List.set_cons_zero, List.set_cons_succ]
      refine wpAnyH_take (i := 4) (v := ?_) rfl (by kernel_rfl) (by kernel_rfl) (by kernel_rfl) (fun _ _ _ h => h) (Or.inl ⟨by rfl, ?_⟩) (by assumption) ?_
      rotate_left
      · (intro w hSw; (try dsimp only at hSw); have s0 := Ext.keep hSw q0; have s1 := Ext.keep hSw q1; have s2 := Ext.keep hSw q2; have s3 := Ext.keep hSw q3; go_simp; (try with_reducible rfl))
      try simp only [Act.put, List.getElem_toArray, List.getElem_cons_zero, List.getElem_cons_succ, List.setIfInBounds_toArray, List.set_cons_zero, List.set_cons_succ]
      refine wpAnyH_take (i := 5) (v := ?_) rfl (by kernel_rfl) (by kernel_rfl) (by kernel_rfl) (fun _ _ _ h => h) (Or.inl ⟨by rfl, ?_⟩) (by assumption) ?_
      rotate_left
      · (intro w hSw; (try dsimp only at hSw); have s0 := Ext.keep hSw q0; have s1 := Ext.keep hSw q1; have s2 := Ext.keep hSw q2; have s3 := Ext.keep hSw q3; go_simp; (try with_reducible rfl))
      try simp only [Act.put, List.getElem_toArray, List.getElem_cons_zero, List.getElem_cons_succ, List.setIfInBounds_toArray, List.set_cons_zero, List.set_cons_succ]
      refine wpAnyH_take (i := 6) (v := ?_) rfl (by kernel_rfl) (by kernel_rfl) (by kernel_rfl) (fun _ _ _ h => h) (Or.inl ⟨by rfl, ?_⟩) (by assumption) ?_
      rotate_left
      · (intro w hSw; (try dsimp only at hSw); have s0 := Ext.keep hSw q0; have s1 := Ext.keep hSw q1; have s2 := Ext.keep hSw q2; have s3 := Ext.keep hSw q3; go_simp; (try with_reducible rfl))
      try simp only [Act.put, List.getElem_toArray, List.getElem_cons_zero, List.getElem_cons_succ, List.setIfInBounds_toArray, List.set_cons_zero, List.set_cons_succ]
      refine wpAnyH_take (i := 7) (v := ?_) rfl (by kernel_rfl) (by kernel_rfl) (by kernel_rfl) (fun _ _ _ h => h) (Or.inl ⟨by rfl, ?_⟩) (by assumption) ?_
      rotate_left
      · (intro w hSw; (try dsimp only at hSw); have s0 := Ext.keep hSw q0; have s1 := Ext.keep hSw q1; have s2 := Ext.keep hSw q2; have s3 := Ext.keep hSw q3; go_simp; (try with_reducible rfl))
      try simp only [Act.put, List.getElem_toArray, List.getElem_cons_zero, List.getElem_cons_succ, List.setIfInBounds_toArray, List.set_cons_zero, List.set_cons_succ]
      refine wpAnyH_ready (rs := [8]) (by kernel_rfl) (by simp) ?_
      refine AllReadyH.cons rfl (fun K hK => ?_) AllReadyH.nil
      go_simp
      (go_at_call 55; refine (c_laws_eqLogRecord _ _ _).mono ?_; rintro e w3 ⟨rfl, hb3⟩)
      show K _ _
      refine hK.out _ _ (by exact hHeld.trans hb3) (fun hHeld => ?_)
      clear hK K
      try simp only [Act.put, List.getElem_toArray, List.getElem_cons_zero, List.getElem_cons_succ, List.setIfInBounds_toArray, List.set_cons_zero, List.set_cons_succ]
      refine wpAnyH_take (i := 9) (v := ?_) rfl (by kernel_rfl) (by kernel_rfl) (by kernel_rfl) (fun _ _ _ h => h) (Or.inl ⟨by rfl, ?_⟩) (by assumption) ?_
      rotate_left
      · (intro w hSw; (try dsimp only at hSw); have s0 := Ext.keep hSw q0; have s1 := Ext.keep hSw q1; have s2 := Ext.keep hSw q2; have s3 := Ext.keep hSw q3; go_simp; (try with_reducible rfl))
      try simp only [Act.put, List.getElem_toArray, List.getElem_cons_zero, List.getElem_cons_succ, List.setIfInBounds_toArray, List.set_cons_zero, List.set_cons_succ]
      refine wpAnyH_done (by kernel_rfl) ?_ _
      all_goals go_wp2
      all_goals go_roundw
      case rel => exact ⟨i + 1, rfl, by omega, by (repeat (first | with_reducible assumption | with_reducible exact Ext.refl _ | with_reducible refine Ext.alloc ?_ _ | with_reducible refine Ext.drew ?_ | with_reducible refine Ext.drewN ?_ _ | refine Ext.setCell ?_ (by first | (simp only [World.size_alloc, World.size_setCell]; omega) | omega) _ | with_reducible refine Ext.trans ?_ (by with_reducible assumption)))⟩
      all_goals (simp only [intOf]; omega)
    · go_wp2
      go_ret
      exact ⟨rfl, by (repeat (first | with_reducible assumption | with_reducible exact Ext.refl _ | with_reducible refine Ext.alloc ?_ _ | with_reducible refine Ext.drew ?_ | with_reducible refine Ext.drewN ?_ _ | refine Ext.setCell ?_ (by first | (simp only [World.size_alloc, World.size_setCell]; omega) | omega) _ | with_reducible refine Ext.trans ?_ (by with_reducible assumption)))⟩
theorem grownBy_trans {w w1 w2 : World} {g : Nat} (h : w.grownBy w1 (some g)) (k : w1.grownBy w2 (some g)) : w.grownBy w2 (some g) :=
  ⟨k.os.trans h.os, k.tape.trans h.tape, k.output.trans h.output, Nat.le_trans h.size k.size, fun j hj hne => (k.block j (Nat.lt_of_lt_of_le hj h.size) hne).trans (h.block j hj hne)⟩
theorem grownBy_ext {w w1 : World} {g : Nat} (h : Ext w w1) : w.grownBy w1 (some g) :=
  ⟨h.os, h.tape, h.output, Below.size h, fun k hk _ => h.block k hk⟩
theorem set_get {xs : List Value} {j k : Nat} {u v : Value} (h : xs[j]? = some v) (hne : k ≠ j) : (xs.set k u)[j]? = some v := by rw [List.getElem?_set_ne hne]; exact h
theorem set_at {xs : List Value} {j : Nat} (u : Value) (h : j < xs.length) : (xs.set j u)[j]? = some u := by simp [h]
set_option maxRecDepth 100000 in
set_option maxHeartbeats 1600000 in
theorem markLogRecordS_own (b g k n : Nat) (m : Int) (xs : List Value) (w : World) (own : w.ownsRow b 27 2 (.slice (some ⟨g, 0, none⟩) n k) n xs) (hn : n ≤ 60) (hm : 0 ≤ m) (hm1 : m ≤ 1000) :
    Calls Tryd.prog 32 #[.slice (some ⟨g, 0, none⟩) n k, .int .i64 m] w fun e w' => e = .returned (.int .i64 (m + 2 * n)) ∧ ∃ ys, w'.ownsRow b 27 2 (.slice (some ⟨g, 0, none⟩) n k) n ys ∧ (∀ j, j < 2 * n → ys[j]? = some (.string (markS (m + j)))) ∧ w.grownBy w' (some g) := by
  go_enter Tryd.func32, Tryd.ntmps32
  go_wp2
  go_loopw [1, 5] (fun c a wr => ∃ (i : Nat) (zs : List Value), c = .int .i64 (m + 2 * i) ∧ a = .int .i64 i ∧ i ≤ n ∧ wr.ownsRow b 27 2 (.slice (some ⟨g, 0, none⟩) n k) n zs ∧ (∀ j, j < 2 * i → zs[j]? = some (.string (markS (m + j)))) ∧ w.grownBy wr (some g)) (fun _ a _ => n - (intOf a).toNat)
  case atStart => exact ⟨0, xs, by simp, rfl, Nat.zero_le _, own, fun j hj => by omega, grownBy_ext (by (repeat (first | with_reducible assumption | with_reducible exact Ext.refl _ | with_reducible refine Ext.alloc ?_ _ | with_reducible refine Ext.drew ?_ | with_reducible refine Ext.drewN ?_ _ | refine Ext.setCell ?_ (by first | (simp only [World.size_alloc, World.size_setCell]; omega) | omega) _ | with_reducible refine Ext.trans ?_ (by with_reducible assumption))))⟩
  case round =>
    obtain ⟨i, zs, rfl, rfl, hi, hown, hz, hg⟩ := hrel
    have hzl : zs.length = n * 2 := hown.1
    by_cases hlt : i < n
    · go_wp2_with fail
      refine (c_laws_markText (m + 2 * i) _ (by omega) (by omega)).mono ?_
      rintro e w3 ⟨rfl, hb3⟩
      have own3 := ownsRow_ext hown hb3
      have q0 := own_cell own3 (i * 2) zs[i * 2] (by simp)
      have f0 := own3.frozenAt (i * 2)
      go_wp2_with fail
      obtain ⟨own4, hg4⟩ := own3.stored (i * 2) (.string (markS (m + 2 * i)))
      have hG4 := grownBy_trans (grownBy_trans hg (grownBy_ext hb3)) hg4
      have Z4 : ∀ j, j < 2 * i + 1 → (zs.set (i * 2) (.string (markS (m + 2 * i))))[j]? = some (.string (markS (m + j))) := by
        intro j hj
        by_cases h2 : j < 2 * i
        · exact set_get (hz j h2) (by omega)
        · have e : j = i * 2 := by omega
          subst e
          rw [set_at _ (by omega), show m + ((i * 2 : Nat) : Int) = m + 2 * i by omega]
      generalize w3.setCell ⟨g, i * 2, none⟩ (.string (markS (m + 2 * i))) = W4 at own4 hG4 ⊢
      generalize hzs4 : zs.set (i * 2) (.string (markS (m + 2 * i))) = zs4 at own4 Z4
      have hzl4 : zs4.length = n * 2 := own4.1
      clear hzs4 hg4 q0 f0 own3 hb3 hown hz hg hzl
      refine (c_laws_markText (m + 2 * i + 1) _ (by omega) (by omega)).mono ?_
      rintro e w5 ⟨rfl, hb5⟩
      have own5 := ownsRow_ext own4 hb5
      have q1 := own_cell own5 (i * 2 + 1) zs4[i * 2 + 1] (by simp)
      have f1 := own5.frozenAt (i * 2 + 1)
      go_wp2_with fail
      obtain ⟨own6, hg6⟩ := own5.stored (i * 2 + 1) (.string (markS (m + 2 * i + 1)))
      go_roundw
      case rel =>
        refine ⟨i + 1, _, ?_, rfl, by omega, own6, ?_, grownBy_trans (grownBy_trans hG4 (grownBy_ext hb5)) hg6⟩
        · rw [show m + 2 * ((i + 1 : Nat) : Int) = m + 2 * i + 1 + 1 by omega]
        · intro j hj
          by_cases h2 : j < 2 * i + 1
          · exact set_get (Z4 j h2) (by omega)
          · have e : j = i * 2 + 1 := by omega
            subst e
            rw [set_at _ (by omega), show m + ((i * 2 + 1 : Nat) : Int) = m + 2 * i + 1 by omega]
      · simp only [intOf]; omega
    · have hin : i = n := by omega
      subst hin
      go_wp2
      go_ret
      exact ⟨rfl, _, hown, hz, hg⟩
set_option maxRecDepth 100000 in
set_option maxHeartbeats 1600000 in
theorem heldLogRecordS_own (b g k n : Nat) (m : Int) (xs : List Value) (w : World) (own : w.ownsRow b 27 2 (.slice (some ⟨g, 0, none⟩) n k) n xs) (hx : ∀ j, j < 2 * n → xs[j]? = some (.string (markS (m + j)))) (hn : n ≤ 60) (hm : 0 ≤ m) (hm1 : m ≤ 1000) :
    Calls Tryd.prog 33 #[.slice (some ⟨g, 0, none⟩) n k, .int .i64 m] w fun e w' => e = .returned (.int .i64 (m + 2 * n)) ∧ Ext w w' := by
  go_enter Tryd.func33, Tryd.ntmps33
  go_wp2
  go_loopw [1, 5] (fun c a wr => ∃ i : Nat, c = .int .i64 (m + 2 * i) ∧ a = .int .i64 i ∧ i ≤ n ∧ Ext w wr) (fun _ a _ => n - (intOf a).toNat)
  case atStart => exact ⟨0, by simp, rfl, Nat.zero_le _, by (repeat (first | with_reducible assumption | with_reducible exact Ext.refl _ | with_reducible refine Ext.alloc ?_ _ | with_reducible refine Ext.drew ?_ | with_reducible refine Ext.drewN ?_ _ | refine Ext.setCell ?_ (by first | (simp only [World.size_alloc, World.size_setCell]; omega) | omega) _ | with_reducible refine Ext.trans ?_ (by with_reducible assumption)))⟩
  case round =>
    obtain ⟨i, rfl, rfl, hi, hext⟩ := hrel
    by_cases hlt : i < n
    · have q0 := hext.keep (own_cell own (i * 2) _ (hx (i * 2) (by omega)))
      have q1 := hext.keep (own_cell own (i * 2 + 1) _ (hx (i * 2 + 1) (by omega)))
      rw [show m + ((i * 2 : Nat) : Int) = m + 2 * i by omega] at q0
      rw [show m + ((i * 2 + 1 : Nat) : Int) = m + 2 * i + 1 by omega] at q1
      go_wp2_with fail
      refine wp_region_held_drew (S := (fun w' => Ext wr w')) (by kernel_rfl) ?_ (fun hHeld => ?_)
      · exact (Ext.refl wr).drew
      refine wpAnyH_take (i := 0) (v := ?_) rfl (by kernel_rfl) (by kernel_rfl) (by kernel_rfl) (fun _ _ _ h => h) (Or.inl ⟨by rfl, ?_⟩) (by assumption) ?_
      rotate_left
      · (intro w hSw; (try dsimp only at hSw); have s0 := Ext.keep hSw q0; have s1 := Ext.keep hSw q1; go_simp; (try with_reducible rfl))
      try simp only [Act.put, List.getElem_toArray, List.getElem_cons_zero, List.getElem_cons_succ, List.setIfInBounds_toArray, List.set_cons_zero, List.set_cons_succ]
      refine wpAnyH_take (i := 1) (v := ?_) rfl (by kernel_rfl) (by kernel_rfl) (by kernel_rfl) (fun _ _ _ h => h) (Or.inl ⟨by rfl, ?_⟩) (by assumption) ?_
      rotate_left
      · (intro w hSw; (try dsimp only at hSw); have s0 := Ext.keep hSw q0; have s1 := Ext.keep hSw q1; go_simp; (try with_reducible rfl))
      try simp only [Act.put, List.getElem_toArray, List.getElem_cons_zero, List.getElem_cons_succ, List.setIfInBounds_toArray, List.set_cons_zero, List.set_cons_succ]
      refine wpAnyH_take (i := 2) (v := ?_) rfl (by kernel_rfl) (by kernel_rfl) (by kernel_rfl) (fun _ _ _ h => h) (Or.inl ⟨by rfl, ?_⟩) (by assumption) ?_
      rotate_left
      · (intro w hSw; (try dsimp only at hSw); have s0 := Ext.keep hSw q0; have s1 := Ext.keep hSw q1; go_simp; (try with_reducible rfl))
      try simp only [Act.put, List.getElem_toArray, List.getElem_cons_zero, List.getElem_cons_succ, List.setIfInBounds_toArray, List.set_cons_zero, List.set_cons_succ]
      refine wpAnyH_take (i := 3) (v := ?_) rfl (by kernel_rfl) (by kernel_rfl) (by kernel_rfl) (fun _ _ _ h => h) (Or.inl ⟨by rfl, ?_⟩) (by assumption) ?_
      rotate_left
      · (intro w hSw; (try dsimp only at hSw); have s0 := Ext.keep hSw q0; have s1 := Ext.keep hSw q1; go_simp; (try with_reducible rfl))
      try simp only [Act.put, List.getElem_toArray, List.getElem_cons_zero, List.getElem_cons_succ, List.setIfInBounds_toArray, List.set_cons_zero, List.set_cons_succ]
      refine wpAnyH_take (i := 4) (v := ?_) rfl (by kernel_rfl) (by kernel_rfl) (by kernel_rfl) (fun _ _ _ h => h) (Or.inl ⟨by rfl, ?_⟩) (by assumption) ?_
      rotate_left
      · (intro w hSw; (try dsimp only at hSw); have s0 := Ext.keep hSw q0; have s1 := Ext.keep hSw q1; go_simp; (try with_reducible rfl))
      try simp only [Act.put, List.getElem_toArray, List.getElem_cons_zero, List.getElem_cons_succ, List.setIfInBounds_toArray, List.set_cons_zero, List.set_cons_succ]
      refine wpAnyH_take (i := 5) (v := ?_) rfl (by kernel_rfl) (by kernel_rfl) (by kernel_rfl) (fun _ _ _ h => h) (Or.inl ⟨by rfl, ?_⟩) (by assumption) ?_
      rotate_left
      · (intro w hSw; (try dsimp only at hSw); have s0 := Ext.keep hSw q0; have s1 := Ext.keep hSw q1; go_simp; (try with_reducible rfl))
      try simp only [Act.put, List.getElem_toArray, List.getElem_cons_zero, List.getElem_cons_succ, List.setIfInBounds_toArray, List.set_cons_zero, List.set_cons_succ]
      refine wpAnyH_ready (rs := [6]) (by kernel_rfl) (by simp) ?_
      refine AllReadyH.cons rfl (fun K hK => ?_) AllReadyH.nil
      go_simp
      (go_at_call 56; refine (c_laws_markText _ _ (by omega) (by omega)).mono ?_; rintro e w3 ⟨rfl, hb3⟩)
      show K _ _
      refine hK.out _ _ (by exact hHeld.trans hb3) (fun hHeld => ?_)
      clear hK K
      try simp only [Act.put, List.getElem_toArray, List.getElem_cons_zero, List.getElem_cons_succ, List.setIfInBounds_toArray, List.set_cons_zero, List.set_cons_succ]
      refine wpAnyH_take (i := 7) (v := ?_) rfl (by kernel_rfl) (by kernel_rfl) (by kernel_rfl) (fun _ _ _ h => h) (Or.inl ⟨by rfl, ?_⟩) (by assumption) ?_
      rotate_left
      · (intro w hSw; (try dsimp only at hSw); have s0 := Ext.keep hSw q0; have s1 := Ext.keep hSw q1; go_simp; (try with_reducible rfl))
      try simp only [Act.put, List.getElem_toArray, List.getElem_cons_zero, List.getElem_cons_succ, List.setIfInBounds_toArray, List.set_cons_zero, List.set_cons_succ]
      refine wpAnyH_done (by kernel_rfl) ?_ _
      go_wp2_with fail
      have r1 := hHeld.keep q1
      have hHeld3 := hHeld
      clear hHeld
      refine wp_region_held_drew (S := (fun w' => Ext w3 w')) (by kernel_rfl) ?_ (fun hHeld => ?_)
      · exact (Ext.refl w3).drew
      refine wpAnyH_take (i := 0) (v := ?_) rfl (by kernel_rfl) (by kernel_rfl) (by kernel_rfl) (fun _ _ _ h => h) (Or.inl ⟨by rfl, ?_⟩) (by assumption) ?_
      rotate_left
      · (intro w hSw; (try dsimp only at hSw); have s1 := Ext.keep hSw r1; go_simp; (try with_reducible rfl))
      try simp only [Act.put, List.getElem_toArray, List.getElem_cons_zero, List.getElem_cons_succ, List.setIfInBounds_toArray, List.set_cons_zero, List.set_cons_succ]
      refine wpAnyH_take (i := 1) (v := ?_) rfl (by kernel_rfl) (by kernel_rfl) (by kernel_rfl) (fun _ _ _ h => h) (Or.inl ⟨by rfl, ?_⟩) (by assumption) ?_
      rotate_left
      · (intro w hSw; (try dsimp only at hSw); have s1 := Ext.keep hSw r1; go_simp; (try with_reducible rfl))
      try simp only [Act.put, List.getElem_toArray, List.getElem_cons_zero, List.getElem_cons_succ, List.setIfInBounds_toArray, List.set_cons_zero, List.set_cons_succ]
      refine wpAnyH_take (i := 2) (v := ?_) rfl (by kernel_rfl) (by kernel_rfl) (by kernel_rfl) (fun _ _ _ h => h) (Or.inl ⟨by rfl, ?_⟩) (by assumption) ?_
      rotate_left
      · (intro w hSw; (try dsimp only at hSw); have s1 := Ext.keep hSw r1; go_simp; (try with_reducible rfl))
      try simp only [Act.put, List.getElem_toArray, List.getElem_cons_zero, List.getElem_cons_succ, List.setIfInBounds_toArray, List.set_cons_zero, List.set_cons_succ]
      refine wpAnyH_take (i := 3) (v := ?_) rfl (by kernel_rfl) (by kernel_rfl) (by kernel_rfl) (fun _ _ _ h => h) (Or.inl ⟨by rfl, ?_⟩) (by assumption) ?_
      rotate_left
      · (intro w hSw; (try dsimp only at hSw); have s1 := Ext.keep hSw r1; go_simp; (try with_reducible rfl))
      try simp only [Act.put, List.getElem_toArray, List.getElem_cons_zero, List.getElem_cons_succ, List.setIfInBounds_toArray, List.set_cons_zero, List.set_cons_succ]
      refine wpAnyH_take (i := 4) (v := ?_) rfl (by kernel_rfl) (by kernel_rfl) (by kernel_rfl) (fun _ _ _ h => h) (Or.inl ⟨by rfl, ?_⟩) (by assumption) ?_
      rotate_left
      · (intro w hSw; (try dsimp only at hSw); have s1 := Ext.keep hSw r1; go_simp; (try with_reducible rfl))
      try simp only [Act.put, List.getElem_toArray, List.getElem_cons_zero, List.getElem_cons_succ, List.setIfInBounds_toArray, List.set_cons_zero, List.set_cons_succ]
      refine wpAnyH_take (i := 5) (v := ?_) rfl (by kernel_rfl) (by kernel_rfl) (by kernel_rfl) (fun _ _ _ h => h) (Or.inl ⟨by rfl, ?_⟩) (by assumption) ?_
      rotate_left
      · (intro w hSw; (try dsimp only at hSw); have s1 := Ext.keep hSw r1; go_simp; (try with_reducible rfl))
      try simp only [Act.put, List.getElem_toArray, List.getElem_cons_zero, List.getElem_cons_succ, List.setIfInBounds_toArray, List.set_cons_zero, List.set_cons_succ]
      refine wpAnyH_ready (rs := [6]) (by kernel_rfl) (by simp) ?_
      refine AllReadyH.cons rfl (fun K hK => ?_) AllReadyH.nil
      go_simp
      (go_at_call 56; refine (c_laws_markText _ _ (by omega) (by omega)).mono ?_; rintro e w5 ⟨rfl, hb5⟩)
      show K _ _
      refine hK.out _ _ (by exact hHeld.trans hb5) (fun hHeld => ?_)
      clear hK K
      try simp only [Act.put, List.getElem_toArray, List.getElem_cons_zero, List.getElem_cons_succ, List.setIfInBounds_toArray, List.set_cons_zero, List.set_cons_succ]
      refine wpAnyH_take (i := 7) (v := ?_) rfl (by kernel_rfl) (by kernel_rfl) (by kernel_rfl) (fun _ _ _ h => h) (Or.inl ⟨by rfl, ?_⟩) (by assumption) ?_
      rotate_left
      · (intro w hSw; (try dsimp only at hSw); have s1 := Ext.keep hSw r1; go_simp; (try with_reducible rfl))
      try simp only [Act.put, List.getElem_toArray, List.getElem_cons_zero, List.getElem_cons_succ, List.setIfInBounds_toArray, List.set_cons_zero, List.set_cons_succ]
      refine wpAnyH_done (by kernel_rfl) ?_ _
      go_wp2_with fail
      go_roundw
      case rel =>
        refine ⟨i + 1, ?_, rfl, by omega, (hext.trans hHeld3).trans hHeld⟩
        rw [show m + 2 * ((i + 1 : Nat) : Int) = m + 2 * i + 1 + 1 by omega]
      · simp only [intOf]; omega
    · have hin : i = n := by omega
      subst hin
      go_wp2
      go_ret
      exact ⟨rfl, hext⟩
theorem heldLogRecordS_none (a : Option Addr) (k : Nat) (m : Int) (w : World) :
    Calls Tryd.prog 33 #[.slice a 0 k, .int .i64 m] w fun e w' => e = .returned (.int .i64 m) ∧ Ext w w' := by
  go_enter Tryd.func33, Tryd.ntmps33
  go_wp2
  go_loopw [1, 5] (fun c a wr => c = .int .i64 m ∧ a = .int .i64 0 ∧ Ext w wr) (fun _ a _ => 0)
  case atStart => exact ⟨rfl, rfl, by (repeat (first | with_reducible assumption | with_reducible exact Ext.refl _ | with_reducible refine Ext.alloc ?_ _ | with_reducible refine Ext.drew ?_ | with_reducible refine Ext.drewN ?_ _ | refine Ext.setCell ?_ (by first | (simp only [World.size_alloc, World.size_setCell]; omega) | omega) _ | with_reducible refine Ext.trans ?_ (by with_reducible assumption)))⟩
  case round =>
    obtain ⟨rfl, rfl, hx⟩ := hrel
    go_wp2
    go_ret
    exact ⟨rfl, hx⟩
theorem markLogRecordS_none (a : Option Addr) (k : Nat) (m : Int) (w : World) :
    Calls Tryd.prog 32 #[.slice a 0 k, .int .i64 m] w fun e w' => e = .returned (.int .i64 m) ∧ Ext w w' := by
  go_enter Tryd.func32, Tryd.ntmps32
  go_wp2
  go_loopw [1, 5] (fun c a wr => c = .int .i64 m ∧ a = .int .i64 0 ∧ Ext w wr) (fun _ a _ => 0)
  case atStart => exact ⟨rfl, rfl, by (repeat (first | with_reducible assumption | with_reducible exact Ext.refl _ | with_reducible refine Ext.alloc ?_ _ | with_reducible refine Ext.drew ?_ | with_reducible refine Ext.drewN ?_ _ | refine Ext.setCell ?_ (by first | (simp only [World.size_alloc, World.size_setCell]; omega) | omega) _ | with_reducible refine Ext.trans ?_ (by with_reducible assumption)))⟩
  case round =>
    obtain ⟨rfl, rfl, hx⟩ := hrel
    go_wp2
    go_ret
    exact ⟨rfl, hx⟩
end Go.Proofs.YteapfbfoegphkaaDoor
