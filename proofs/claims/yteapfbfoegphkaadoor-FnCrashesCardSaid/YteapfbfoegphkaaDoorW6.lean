/-
  Walks: the reference reads a record back.
-/
import Derived.Test.YteapfbfoegphkaaDoorW5
import Derived.Deep.RegionWith
import Derived.Deep.DrawnRows
import Derived.Deep.RegionHeld3
import Derived.Deep.DeepMust
namespace Go.Proofs.YteapfbfoegphkaaDoor
open Go.RowKit
set_option linter.unusedVariables false
set_option linter.unusedSimpArgs false
attribute [local irreducible] decS sumL sumB sealB textB lineB encOk encStr acOk acStr pieces mkB piecesB splitB upL behL cutA cutZ verOk verStr rcI rrI okI aheadS preS restS atS rcS rrS okS inR okByte printed hasByte fits someB cmdB recB

set_option maxHeartbeats 800000 in
theorem dec_a (k : Int) (s : ByteArray) (w : World)
    (h0 : 0 ≤ k) (h1 : k ≤ 59) (hs : s.size ≤ 1000000000) (hp : preS k s = false) :
    Calls Tryd.prog 74 #[.string s, .int .i64 k] w fun e w' => e = .returned (.tuple #[.agg #[.string (rcS k s), .string (rrS k s)], .bool (okS k s)]) ∧ Ext w w' := by
  have z0 := decS_len k (by omega) (by omega)
  have z1 := cutA_size s 35
  obtain ⟨r1, hr1, _⟩ := splitB_head s 35
  have HR1 := Lib.hid hr1
  have H1 := Lib.hid (show rcS k s = ⟨#[]⟩ by simp [rcS, atS, hp])
  have H2 := Lib.hid (show rrS k s = ⟨#[]⟩ by simp [rrS, atS, hp])
  have H3 := Lib.hid (show okS k s = false by simp [okS, atS, hp])
  have hq : ¬ (cutA s 35).size < (decS k).size + 1 → (((cutA s 35).extract 0 ((decS k).size + 1)).toList == (decS k ++ ⟨#[32]⟩ : ByteArray).toList) = false := by
    intro hn
    have := hp
    unfold preS at this
    rw [ahead_size] at this
    simpa [show (decS k).size + 1 ≤ (cutA s 35).size by omega, aheadS] using this
  have HQ := Lib.hid hq
  clear hp hq hr1
  by_cases hn : (cutA s 35).size < (decS k).size + 1
  all_goals
    (try have hq1 := HQ.out hn)
    go_enter Tryd.func74, Tryd.ntmps74
    go_wp2_with (first | (go_at_call 69; refine (l1NumX _ _ (by omega) (by omega)).mono ?_; rintro e w1 ⟨rfl, hb1⟩; obtain ⟨hc1, hf1, hz1⟩ := hb1.cells; (try simp only [World.size_alloc] at hc1 hf1 hz1)) | (go_at_call 73; refine (c_spec_l1Split _ _ _ hs).mono ?_; rintro e w2 ⟨g, cap, rfl, hown, hb2⟩; rw [HR1.out] at hown ⊢; have hcell := own_cell hown 0 (.string (cutA s 35)) rfl; obtain ⟨hc2, hf2, hz2⟩ := hb2.cells))
  all_goals refine bodyPost_ret (v := .tuple #[.agg #[.string (rcS k s), .string (rrS k s)], .bool (okS k s)]) ?_ rfl ⟨rfl, by (repeat (first | with_reducible assumption | with_reducible exact Ext.refl _ | with_reducible refine Ext.alloc ?_ _ | with_reducible refine Ext.drew ?_ | with_reducible refine Ext.drewN ?_ _ | refine Ext.setCell ?_ (by simp) _ | with_reducible refine Ext.trans ?_ (by with_reducible assumption)))⟩
  all_goals rw [H1.out, H2.out, H3.out]
  all_goals simp [results, Tryd.results74, go_sem, hc2, hc1, ↓IntWalk.iteOmega]
set_option maxHeartbeats 800000 in
theorem dec_b (k : Int) (s : ByteArray) (w : World)
    (h0 : 0 ≤ k) (h1 : k ≤ 59) (hs : s.size ≤ 1000000000) (hp : preS k s = true) (ha : atS k s = false) :
    Calls Tryd.prog 74 #[.string s, .int .i64 k] w fun e w' => e = .returned (.tuple #[.agg #[.string (rcS k s), .string (rrS k s)], .bool (okS k s)]) ∧ Ext w w' := by
  have z0 := decS_len k (by omega) (by omega)
  have z1 := cutA_size s 35
  obtain ⟨hn, hq1, hre⟩ := pre_parts hp
  have HRE := Lib.hid hre
  obtain ⟨r1, hr1, _⟩ := splitB_head s 35
  have HR1 := Lib.hid hr1
  obtain ⟨r2, hr2, _⟩ := splitB_head (restS k s) 64
  have HR2 := Lib.hid hr2
  have z2 := rest_size k s
  have z3 := cutA_size (restS k s) 64
  have H1 := Lib.hid (show rcS k s = ⟨#[]⟩ by simp [rcS, ha])
  have H2 := Lib.hid (show rrS k s = ⟨#[]⟩ by simp [rrS, ha])
  have H3 := Lib.hid (show okS k s = false by simp [okS, ha])
  have ht : ((((cutA (restS k s) 64).size : Nat) : Int) == (((restS k s).size : Nat) : Int)) = true := by
    unfold atS at ha
    rw [hp] at ha
    simp at ha
    simp [ha]
  clear hp ha hr1 hr2 hre
  go_enter Tryd.func74, Tryd.ntmps74
  go_wp2_with fail
  refine (l1NumX _ _ (by omega) (by omega)).mono ?_
  rintro e w1 ⟨rfl, hb1⟩
  obtain ⟨hc1, hf1, hz1⟩ := hb1.cells
  simp only [World.size_alloc] at hc1 hf1 hz1
  go_wp2_with fail
  refine (c_spec_l1Split _ _ _ hs).mono ?_
  rintro e w2 ⟨g, cap, rfl, hown, hb2⟩
  rw [HR1.out] at hown ⊢
  have hcell := own_cell hown 0 (.string (cutA s 35)) rfl
  obtain ⟨hc2, hf2, hz2⟩ := hb2.cells
  go_wp2_with fail
  rw [← HRE.out]
  refine (c_spec_l1Split _ _ _ (by omega)).mono ?_
  rintro e w3 ⟨g2, cap2, rfl, hown2, hb3⟩
  rw [HR2.out] at hown2 ⊢
  have hcell2 := own_cell hown2 0 (.string (cutA (restS k s) 64)) rfl
  obtain ⟨hc3, hf3, hz3⟩ := hb3.cells
  go_wp2
  refine bodyPost_ret (v := .tuple #[.agg #[.string (rcS k s), .string (rrS k s)], .bool (okS k s)]) ?_ rfl ⟨rfl, by (repeat (first | with_reducible assumption | with_reducible exact Ext.refl _ | with_reducible refine Ext.alloc ?_ _ | with_reducible refine Ext.drew ?_ | with_reducible refine Ext.drewN ?_ _ | refine Ext.setCell ?_ (by simp) _ | with_reducible refine Ext.trans ?_ (by with_reducible assumption)))⟩
  rw [H1.out, H2.out, H3.out]
  simp [results, Tryd.results74, go_sem, hc3, hc2, hc1, ↓IntWalk.iteOmega]
set_option maxHeartbeats 1600000 in
theorem dec_c (k : Int) (s : ByteArray) (w : World)
    (h0 : 0 ≤ k) (h1 : k ≤ 59) (hs : s.size ≤ 1000000000) (ha : atS k s = true) (hr : recB (rcS k s) (rrS k s) = false) :
    Calls Tryd.prog 74 #[.string s, .int .i64 k] w fun e w' => e = .returned (.tuple #[.agg #[.string (rcS k s), .string (rrS k s)], .bool (okS k s)]) ∧ Ext w w' := by
  have z0 := decS_len k (by omega) (by omega)
  have z1 := cutA_size s 35
  obtain ⟨hp, ht, hlt, hC, hR⟩ := at_parts ha
  obtain ⟨hn, hq1, hre⟩ := pre_parts hp
  have HRE := Lib.hid hre
  have HC := Lib.hid hC
  have HR := Lib.hid hR
  obtain ⟨r1, hr1, _⟩ := splitB_head s 35
  have HR1 := Lib.hid hr1
  obtain ⟨r2, hr2, _⟩ := splitB_head (restS k s) 64
  have HR2 := Lib.hid hr2
  have z2 := rest_size k s
  have z3 := cutA_size (restS k s) 64
  have H3 := Lib.hid (show okS k s = false by simp [okS, hr])
  have HRB := Lib.hid hr
  have zc : (rcS k s).size ≤ maxLen := by rw [hC]; unfold maxLen; omega
  have zr : (rrS k s).size ≤ maxLen := by rw [hR, ByteArray.size_extract]; unfold maxLen; omega
  clear hp ha hr hr1 hr2 hre hC hR
  go_enter Tryd.func74, Tryd.ntmps74
  go_wp2_with fail
  refine (l1NumX _ _ (by omega) (by omega)).mono ?_
  rintro e w1 ⟨rfl, hb1⟩
  obtain ⟨hc1, hf1, hz1⟩ := hb1.cells
  simp only [World.size_alloc] at hc1 hf1 hz1
  go_wp2_with fail
  refine (c_spec_l1Split _ _ _ hs).mono ?_
  rintro e w2 ⟨g, cap, rfl, hown, hb2⟩
  rw [HR1.out] at hown ⊢
  have hcell := own_cell hown 0 (.string (cutA s 35)) rfl
  obtain ⟨hc2, hf2, hz2⟩ := hb2.cells
  go_wp2_with fail
  rw [← HRE.out]
  refine (c_spec_l1Split _ _ _ (by omega)).mono ?_
  rintro e w3 ⟨g2, cap2, rfl, hown2, hb3⟩
  rw [HR2.out] at hown2 ⊢
  have hcell2 := own_cell hown2 0 (.string (cutA (restS k s) 64)) rfl
  obtain ⟨hc3, hf3, hz3⟩ := hb3.cells
  go_wp2_with fail
  rw [← HR.out, ← HC.out]
  have hx0 : Ext (w.alloc (.cells #[.string ⟨#[]⟩, .string ⟨#[]⟩] 27)) (w3.alloc (.cells #[.string (rcS k s), .string (rrS k s)] 27)) := by (repeat (first | with_reducible assumption | with_reducible exact Ext.refl _ | with_reducible refine Ext.alloc ?_ _ | with_reducible refine Ext.drew ?_ | with_reducible refine Ext.drewN ?_ _ | refine Ext.setCell ?_ (by simp) _ | with_reducible refine Ext.trans ?_ (by with_reducible assumption)))
  have e0 : (w3.alloc (.cells #[.string (rcS k s), .string (rrS k s)] 27)).cell? ⟨w3.heap.size, 0, none⟩ = some (.string (rcS k s)) := by simp
  have e1 : (w3.alloc (.cells #[.string (rcS k s), .string (rrS k s)] 27)).cell? ⟨w3.heap.size, 1, none⟩ = some (.string (rrS k s)) := by simp
  have hW : w3.heap.size < (w3.alloc (.cells #[.string (rcS k s), .string (rrS k s)] 27)).heap.size := by simp
  generalize w3.alloc (.cells #[.string (rcS k s), .string (rrS k s)] 27) = W at *
  have q0 := hx0.keep (p := ⟨w.heap.size, 0, none⟩) (v := .string ⟨#[]⟩) (by simp)
  have q1 := hx0.keep (p := ⟨w.heap.size, 1, none⟩) (v := .string ⟨#[]⟩) (by simp)
  have q2 := hx0.cells.2.1 w.heap.size 0
  have q3 := hx0.cells.2.1 w.heap.size 1
  simp at q2 q3
  clear hown hown2 hcell hcell2 hc1 hc2 hc3 hf1 hf2 hf3 HR1 HR2
  refine wp_region_held_drew (S := (fun w' => w'.cell? ⟨w3.heap.size, 0, none⟩ = some (.string (rcS k s)) ∧ w'.cell? ⟨w3.heap.size, 1, none⟩ = some (.string (rrS k s)))) (by kernel_rfl) ?_ (fun hHeld => ?_)
  · exact ⟨e0, e1⟩
  refine wpAnyH_take (i := 0) (v := ?_) rfl (by kernel_rfl) (by kernel_rfl) (by kernel_rfl) (fun _ _ _ h => h) (Or.inl ⟨by rfl, ?_⟩) (by assumption) ?_
  rotate_left
  · (intro w hSw; (try dsimp only at hSw); go_simp; (try with_reducible rfl))
  try simp only [Act.put, List.getElem_toArray, List.getElem_cons_zero, List.getElem_cons_succ, List.setIfInBounds_toArray, List.set_cons_zero, List.set_cons_succ]
  refine wpAnyH_take (i := 1) (v := ?_) rfl (by kernel_rfl) (by kernel_rfl) (by kernel_rfl) (fun _ _ _ h => h) (Or.inl ⟨by rfl, ?_⟩) (by assumption) ?_
  rotate_left
  · (intro w hSw; (try dsimp only at hSw); go_simp; (try with_reducible rfl))
  try simp only [Act.put, List.getElem_toArray, List.getElem_cons_zero, List.getElem_cons_succ, List.setIfInBounds_toArray, List.set_cons_zero, List.set_cons_succ]
  refine wpAnyH_ready (rs := [2]) (by kernel_rfl) (by simp) ?_
  refine AllReadyH.cons rfl (fun K hK => ?_) AllReadyH.nil
  go_simp
  (go_at_call 46; refine (c_spec_l13Record _ _ _ zc zr).mono ?_; rintro e w4 ⟨rfl, hb4⟩; rw [HRB.out]; have q4 := hb4.keep (p := ⟨w.heap.size, 0, none⟩) q0; have q5 := hb4.keep (p := ⟨w.heap.size, 1, none⟩) q1; have q6 := hb4.mark (b := w.heap.size) (o := 0) q0 q2; have q7 := hb4.mark (b := w.heap.size) (o := 1) q1 q3)
  show K _ _
  refine hK.out _ _ (by exact ⟨hb4.keep e0, hb4.keep e1⟩) (fun hHeld => ?_)
  clear hK K
  try simp only [Act.put, List.getElem_toArray, List.getElem_cons_zero, List.getElem_cons_succ, List.setIfInBounds_toArray, List.set_cons_zero, List.set_cons_succ]
  refine wpAnyH_take (i := 3) (v := ?_) rfl (by kernel_rfl) (by kernel_rfl) (by kernel_rfl) (fun _ _ _ h => h) (Or.inl ⟨by rfl, ?_⟩) (by assumption) ?_
  rotate_left
  · (intro w hSw; (try dsimp only at hSw); go_simp; (try with_reducible rfl))
  try simp only [Act.put, List.getElem_toArray, List.getElem_cons_zero, List.getElem_cons_succ, List.setIfInBounds_toArray, List.set_cons_zero, List.set_cons_succ]
  refine wpAnyH_take (i := 4) (v := undef) rfl (by kernel_rfl) (by kernel_rfl) (by kernel_rfl) (fun _ _ _ h => h) (Or.inr ⟨by rfl, rfl⟩) (by assumption) ?_
  try simp only [Act.put, List.getElem_toArray, List.getElem_cons_zero, List.getElem_cons_succ, List.setIfInBounds_toArray, List.set_cons_zero, List.set_cons_succ]
  refine wpAnyH_take (i := 5) (v := undef) rfl (by kernel_rfl) (by kernel_rfl) (by kernel_rfl) (fun _ _ _ h => h) (Or.inr ⟨by rfl, rfl⟩) (by assumption) ?_
  try simp only [Act.put, List.getElem_toArray, List.getElem_cons_zero, List.getElem_cons_succ, List.setIfInBounds_toArray, List.set_cons_zero, List.set_cons_succ]
  refine wpAnyH_take (i := 6) (v := undef) rfl (by kernel_rfl) (by kernel_rfl) (by kernel_rfl) (fun _ _ _ h => h) (Or.inr ⟨by rfl, rfl⟩) (by assumption) ?_
  try simp only [Act.put, List.getElem_toArray, List.getElem_cons_zero, List.getElem_cons_succ, List.setIfInBounds_toArray, List.set_cons_zero, List.set_cons_succ]
  refine wpAnyH_take (i := 7) (v := undef) rfl (by kernel_rfl) (by kernel_rfl) (by kernel_rfl) (fun _ _ _ h => h) (Or.inr ⟨by rfl, rfl⟩) (by assumption) ?_
  try simp only [Act.put, List.getElem_toArray, List.getElem_cons_zero, List.getElem_cons_succ, List.setIfInBounds_toArray, List.set_cons_zero, List.set_cons_succ]
  refine wpAnyH_take (i := 8) (v := undef) rfl (by kernel_rfl) (by kernel_rfl) (by kernel_rfl) (fun _ _ _ h => h) (Or.inr ⟨by rfl, rfl⟩) (by assumption) ?_
  try simp only [Act.put, List.getElem_toArray, List.getElem_cons_zero, List.getElem_cons_succ, List.setIfInBounds_toArray, List.set_cons_zero, List.set_cons_succ]
  refine wpAnyH_take (i := 9) (v := undef) rfl (by kernel_rfl) (by kernel_rfl) (by kernel_rfl) (fun _ _ _ h => h) (Or.inr ⟨by rfl, rfl⟩) (by assumption) ?_
  try simp only [Act.put, List.getElem_toArray, List.getElem_cons_zero, List.getElem_cons_succ, List.setIfInBounds_toArray, List.set_cons_zero, List.set_cons_succ]
  refine wpAnyH_take (i := 10) (v := ?_) rfl (by kernel_rfl) (by kernel_rfl) (by kernel_rfl) (fun _ _ _ h => h) (Or.inl ⟨by rfl, ?_⟩) (by assumption) ?_
  rotate_left
  · (intro w hSw; (try dsimp only at hSw); go_simp; (try with_reducible rfl))
  try simp only [Act.put, List.getElem_toArray, List.getElem_cons_zero, List.getElem_cons_succ, List.setIfInBounds_toArray, List.set_cons_zero, List.set_cons_succ]
  refine wpAnyH_ready (rs := [11]) (by kernel_rfl) (by simp) ?_
  refine AllReadyH.cons rfl (fun K hK => ?_) AllReadyH.nil
  go_simp
  refine hK.out _ _ (by exact ⟨store_keep (store_keep (hb4.keep e0) (by omega)) (by omega), store_keep (store_keep (hb4.keep e1) (by omega)) (by omega)⟩) (fun hHeld => ?_)
  clear hK K
  try simp only [Act.put, List.getElem_toArray, List.getElem_cons_zero, List.getElem_cons_succ, List.setIfInBounds_toArray, List.set_cons_zero, List.set_cons_succ]
  refine wpAnyH_take (i := 12) (v := ?_) rfl (by kernel_rfl) (by kernel_rfl) (by kernel_rfl) (fun _ _ _ h => h) (Or.inl ⟨by rfl, ?_⟩) (by assumption) ?_
  rotate_left
  · (intro w hSw; (try dsimp only at hSw); go_simp; (try with_reducible rfl))
  try simp only [Act.put, List.getElem_toArray, List.getElem_cons_zero, List.getElem_cons_succ, List.setIfInBounds_toArray, List.set_cons_zero, List.set_cons_succ]
  refine wpAnyH_done (by kernel_rfl) ?_ _
  go_wp2
  refine bodyPost_ret (v := .tuple #[.agg #[.string (rcS k s), .string (rrS k s)], .bool (okS k s)]) ?_ rfl ⟨rfl, by (repeat (first | with_reducible assumption | with_reducible exact Ext.refl _ | with_reducible refine Ext.alloc ?_ _ | with_reducible refine Ext.drew ?_ | with_reducible refine Ext.drewN ?_ _ | refine Ext.setCell ?_ (by simp) _ | with_reducible refine Ext.trans ?_ (by with_reducible assumption)))⟩
  rw [H3.out]
  simp [results, Tryd.results74, go_sem, q4, q5]
set_option maxHeartbeats 1600000 in
theorem dec_d (k : Int) (s : ByteArray) (w : World)
    (h0 : 0 ≤ k) (h1 : k ≤ 59) (hs : s.size ≤ 1000000000) (ha : atS k s = true) (hr : recB (rcS k s) (rrS k s) = true) :
    Calls Tryd.prog 74 #[.string s, .int .i64 k] w fun e w' => e = .returned (.tuple #[.agg #[.string (rcS k s), .string (rrS k s)], .bool (okS k s)]) ∧ Ext w w' := by
  have z0 := decS_len k (by omega) (by omega)
  have z1 := cutA_size s 35
  obtain ⟨hp, ht, hlt, hC, hR⟩ := at_parts ha
  obtain ⟨hn, hq1, hre⟩ := pre_parts hp
  have HRE := Lib.hid hre
  have HC := Lib.hid hC
  have HR := Lib.hid hR
  obtain ⟨r1, hr1, _⟩ := splitB_head s 35
  have HR1 := Lib.hid hr1
  obtain ⟨r2, hr2, _⟩ := splitB_head (restS k s) 64
  have HR2 := Lib.hid hr2
  have z2 := rest_size k s
  have z3 := cutA_size (restS k s) 64
  have H3 := Lib.hid (show okS k s = ((lineB k (rcS k s) (rrS k s)).toList == (s ++ ⟨#[10]⟩ : ByteArray).toList) by unfold okS; rw [ha, hr]; rfl)
  obtain ⟨y1, y2, _, _, _, _⟩ := recB_parts hr
  have n1 : ¬ 9223372036854775807 < s.size + 1 := by omega
  have HRB := Lib.hid hr
  have zc : (rcS k s).size ≤ maxLen := by rw [hC]; unfold maxLen; omega
  have zr : (rrS k s).size ≤ maxLen := by rw [hR, ByteArray.size_extract]; unfold maxLen; omega
  clear hp ha hr hr1 hr2 hre hC hR
  go_enter Tryd.func74, Tryd.ntmps74
  go_wp2_with fail
  refine (l1NumX _ _ (by omega) (by omega)).mono ?_
  rintro e w1 ⟨rfl, hb1⟩
  obtain ⟨hc1, hf1, hz1⟩ := hb1.cells
  simp only [World.size_alloc] at hc1 hf1 hz1
  go_wp2_with fail
  refine (c_spec_l1Split _ _ _ hs).mono ?_
  rintro e w2 ⟨g, cap, rfl, hown, hb2⟩
  rw [HR1.out] at hown ⊢
  have hcell := own_cell hown 0 (.string (cutA s 35)) rfl
  obtain ⟨hc2, hf2, hz2⟩ := hb2.cells
  go_wp2_with fail
  rw [← HRE.out]
  refine (c_spec_l1Split _ _ _ (by omega)).mono ?_
  rintro e w3 ⟨g2, cap2, rfl, hown2, hb3⟩
  rw [HR2.out] at hown2 ⊢
  have hcell2 := own_cell hown2 0 (.string (cutA (restS k s) 64)) rfl
  obtain ⟨hc3, hf3, hz3⟩ := hb3.cells
  go_wp2_with fail
  rw [← HR.out, ← HC.out]
  have hx0 : Ext (w.alloc (.cells #[.string ⟨#[]⟩, .string ⟨#[]⟩] 27)) (w3.alloc (.cells #[.string (rcS k s), .string (rrS k s)] 27)) := by (repeat (first | with_reducible assumption | with_reducible exact Ext.refl _ | with_reducible refine Ext.alloc ?_ _ | with_reducible refine Ext.drew ?_ | with_reducible refine Ext.drewN ?_ _ | refine Ext.setCell ?_ (by simp) _ | with_reducible refine Ext.trans ?_ (by with_reducible assumption)))
  have e0 : (w3.alloc (.cells #[.string (rcS k s), .string (rrS k s)] 27)).cell? ⟨w3.heap.size, 0, none⟩ = some (.string (rcS k s)) := by simp
  have e1 : (w3.alloc (.cells #[.string (rcS k s), .string (rrS k s)] 27)).cell? ⟨w3.heap.size, 1, none⟩ = some (.string (rrS k s)) := by simp
  have hW : w3.heap.size < (w3.alloc (.cells #[.string (rcS k s), .string (rrS k s)] 27)).heap.size := by simp
  generalize w3.alloc (.cells #[.string (rcS k s), .string (rrS k s)] 27) = W at *
  have q0 := hx0.keep (p := ⟨w.heap.size, 0, none⟩) (v := .string ⟨#[]⟩) (by simp)
  have q1 := hx0.keep (p := ⟨w.heap.size, 1, none⟩) (v := .string ⟨#[]⟩) (by simp)
  have q2 := hx0.cells.2.1 w.heap.size 0
  have q3 := hx0.cells.2.1 w.heap.size 1
  simp at q2 q3
  clear hown hown2 hcell hcell2 hc1 hc2 hc3 hf1 hf2 hf3 HR1 HR2
  refine wp_region_held_drew (S := (fun w' => w'.cell? ⟨w3.heap.size, 0, none⟩ = some (.string (rcS k s)) ∧ w'.cell? ⟨w3.heap.size, 1, none⟩ = some (.string (rrS k s)))) (by kernel_rfl) ?_ (fun hHeld => ?_)
  · exact ⟨e0, e1⟩
  refine wpAnyH_take (i := 0) (v := ?_) rfl (by kernel_rfl) (by kernel_rfl) (by kernel_rfl) (fun _ _ _ h => h) (Or.inl ⟨by rfl, ?_⟩) (by assumption) ?_
  rotate_left
  · (intro w hSw; (try dsimp only at hSw); go_simp; (try with_reducible rfl))
  try simp only [Act.put, List.getElem_toArray, List.getElem_cons_zero, List.getElem_cons_succ, List.setIfInBounds_toArray, List.set_cons_zero, List.set_cons_succ]
  refine wpAnyH_take (i := 1) (v := ?_) rfl (by kernel_rfl) (by kernel_rfl) (by kernel_rfl) (fun _ _ _ h => h) (Or.inl ⟨by rfl, ?_⟩) (by assumption) ?_
  rotate_left
  · (intro w hSw; (try dsimp only at hSw); go_simp; (try with_reducible rfl))
  try simp only [Act.put, List.getElem_toArray, List.getElem_cons_zero, List.getElem_cons_succ, List.setIfInBounds_toArray, List.set_cons_zero, List.set_cons_succ]
  refine wpAnyH_ready (rs := [2]) (by kernel_rfl) (by simp) ?_
  refine AllReadyH.cons rfl (fun K hK => ?_) AllReadyH.nil
  go_simp
  (go_at_call 46; refine (c_spec_l13Record _ _ _ zc zr).mono ?_; rintro e w4 ⟨rfl, hb4⟩; rw [HRB.out])
  show K _ _
  refine hK.out _ _ (by exact ⟨hb4.keep e0, hb4.keep e1⟩) (fun hHeld => ?_)
  clear hK K
  try simp only [Act.put, List.getElem_toArray, List.getElem_cons_zero, List.getElem_cons_succ, List.setIfInBounds_toArray, List.set_cons_zero, List.set_cons_succ]
  refine wpAnyH_take (i := 3) (v := ?_) rfl (by kernel_rfl) (by kernel_rfl) (by kernel_rfl) (fun _ _ _ h => h) (Or.inl ⟨by rfl, ?_⟩) (by assumption) ?_
  rotate_left
  · (intro w hSw; (try dsimp only at hSw); go_simp; (try with_reducible rfl))
  try simp only [Act.put, List.getElem_toArray, List.getElem_cons_zero, List.getElem_cons_succ, List.setIfInBounds_toArray, List.set_cons_zero, List.set_cons_succ]
  refine wpAnyH_take (i := 4) (v := ?_) rfl (by kernel_rfl) (by kernel_rfl) (by kernel_rfl) (fun _ _ _ h => h) (Or.inl ⟨by rfl, ?_⟩) (by assumption) ?_
  rotate_left
  · (intro w hSw; (try dsimp only at hSw); go_simp; (try with_reducible rfl))
  try simp only [Act.put, List.getElem_toArray, List.getElem_cons_zero, List.getElem_cons_succ, List.setIfInBounds_toArray, List.set_cons_zero, List.set_cons_succ]
  refine wpAnyH_take (i := 5) (v := ?_) rfl (by kernel_rfl) (by kernel_rfl) (by kernel_rfl) (fun _ _ _ h => h) (Or.inl ⟨by rfl, ?_⟩) (by assumption) ?_
  rotate_left
  · (intro w hSw; (try dsimp only at hSw); go_simp; (try with_reducible rfl))
  try simp only [Act.put, List.getElem_toArray, List.getElem_cons_zero, List.getElem_cons_succ, List.setIfInBounds_toArray, List.set_cons_zero, List.set_cons_succ]
  refine wpAnyH_take (i := 7) (v := ?_) rfl (by kernel_rfl) (by kernel_rfl) (by kernel_rfl) (fun _ _ _ h => h) (Or.inl ⟨by rfl, ?_⟩) (by assumption) ?_
  rotate_left
  · (intro w hSw; (try dsimp only at hSw); go_simp; (try with_reducible rfl))
  try simp only [Act.put, List.getElem_toArray, List.getElem_cons_zero, List.getElem_cons_succ, List.setIfInBounds_toArray, List.set_cons_zero, List.set_cons_succ]
  refine wpAnyH_take (i := 8) (v := ?_) rfl (by kernel_rfl) (by kernel_rfl) (by kernel_rfl) (fun _ _ _ h => h) (Or.inl ⟨by rfl, ?_⟩) (by assumption) ?_
  rotate_left
  · (intro w hSw; (try dsimp only at hSw); go_simp; (try with_reducible rfl))
  try simp only [Act.put, List.getElem_toArray, List.getElem_cons_zero, List.getElem_cons_succ, List.setIfInBounds_toArray, List.set_cons_zero, List.set_cons_succ]
  refine wpAnyH_ready (rs := [6]) (by kernel_rfl) (by simp) ?_
  refine AllReadyH.cons rfl (fun K hK => ?_) AllReadyH.nil
  go_simp
  (go_at_call 47; refine (c_spec_l13Line _ _ _ _ h0 (by omega) y1 y2).mono ?_; rintro e w5 ⟨rfl, hb5⟩; have hx5 := (Ext.trans (Ext.drew (Ext.refl W)) hb4).trans hb5; have q4 := hx5.keep (p := ⟨w.heap.size, 0, none⟩) q0; have q5 := hx5.keep (p := ⟨w.heap.size, 1, none⟩) q1; have q6 := hx5.mark (b := w.heap.size) (o := 0) q0 q2; have q7 := hx5.mark (b := w.heap.size) (o := 1) q1 q3)
  show K _ _
  refine hK.out _ _ (by exact ⟨hx5.keep e0, hx5.keep e1⟩) (fun hHeld => ?_)
  clear hK K
  try simp only [Act.put, List.getElem_toArray, List.getElem_cons_zero, List.getElem_cons_succ, List.setIfInBounds_toArray, List.set_cons_zero, List.set_cons_succ]
  refine wpAnyH_take (i := 9) (v := ?_) rfl (by kernel_rfl) (by kernel_rfl) (by kernel_rfl) (fun _ _ _ h => h) (Or.inl ⟨by rfl, ?_⟩) (by assumption) ?_
  rotate_left
  · (intro w hSw; (try dsimp only at hSw); go_simp; (try with_reducible rfl))
  try simp only [Act.put, List.getElem_toArray, List.getElem_cons_zero, List.getElem_cons_succ, List.setIfInBounds_toArray, List.set_cons_zero, List.set_cons_succ]
  refine wpAnyH_take (i := 10) (v := ?_) rfl (by kernel_rfl) (by kernel_rfl) (by kernel_rfl) (fun _ _ _ h => h) (Or.inl ⟨by rfl, ?_⟩) (by assumption) ?_
  rotate_left
  · (intro w hSw; (try dsimp only at hSw); go_simp; (try with_reducible rfl))
  try simp only [Act.put, List.getElem_toArray, List.getElem_cons_zero, List.getElem_cons_succ, List.setIfInBounds_toArray, List.set_cons_zero, List.set_cons_succ]
  refine wpAnyH_ready (rs := [11]) (by kernel_rfl) (by simp) ?_
  refine AllReadyH.cons rfl (fun K hK => ?_) AllReadyH.nil
  go_simp
  refine hK.out _ _ (by exact ⟨store_keep (store_keep (hx5.keep e0) (by omega)) (by omega), store_keep (store_keep (hx5.keep e1) (by omega)) (by omega)⟩) (fun hHeld => ?_)
  clear hK K
  try simp only [Act.put, List.getElem_toArray, List.getElem_cons_zero, List.getElem_cons_succ, List.setIfInBounds_toArray, List.set_cons_zero, List.set_cons_succ]
  refine wpAnyH_take (i := 12) (v := ?_) rfl (by kernel_rfl) (by kernel_rfl) (by kernel_rfl) (fun _ _ _ h => h) (Or.inl ⟨by rfl, ?_⟩) (by assumption) ?_
  rotate_left
  · (intro w hSw; (try dsimp only at hSw); go_simp; (try with_reducible rfl))
  try simp only [Act.put, List.getElem_toArray, List.getElem_cons_zero, List.getElem_cons_succ, List.setIfInBounds_toArray, List.set_cons_zero, List.set_cons_succ]
  refine wpAnyH_done (by kernel_rfl) ?_ _
  go_wp2
  refine bodyPost_ret (v := .tuple #[.agg #[.string (rcS k s), .string (rrS k s)], .bool (okS k s)]) ?_ rfl ⟨rfl, by (repeat (first | with_reducible assumption | with_reducible exact Ext.refl _ | with_reducible refine Ext.alloc ?_ _ | with_reducible refine Ext.drew ?_ | with_reducible refine Ext.drewN ?_ _ | refine Ext.setCell ?_ (by simp) _ | with_reducible refine Ext.trans ?_ (by with_reducible assumption)))⟩
  rw [H3.out]
  simp [results, Tryd.results74, go_sem, q4, q5]
theorem c_spec_l13Decode (k : Int) (s : ByteArray) (w : World) (h0 : 0 ≤ k) (h1 : k ≤ 59) (hs : s.size ≤ 1000000000) :
    Calls Tryd.prog 74 #[.string s, .int .i64 k] w fun e w' => e = .returned (.tuple #[.agg #[.string (rcS k s), .string (rrS k s)], .bool (okS k s)]) ∧ Ext w w' := by
  cases hp : preS k s
  · exact dec_a k s w h0 h1 hs hp
  · cases ha : atS k s
    · exact dec_b k s w h0 h1 hs hp ha
    · cases hr : recB (rcS k s) (rrS k s)
      · exact dec_c k s w h0 h1 hs ha hr
      · exact dec_d k s w h0 h1 hs ha hr
end Go.Proofs.YteapfbfoegphkaaDoor
