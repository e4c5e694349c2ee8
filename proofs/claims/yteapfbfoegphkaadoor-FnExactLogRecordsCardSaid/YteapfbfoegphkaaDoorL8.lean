/-
  The law FnExactLogRecords: its walk.
-/
import Derived.Test.YteapfbfoegphkaaDoorW15
import Derived.Test.YteapfbfoegphkaaDoorW1b
import Derived.Deep.DeepMust
namespace Go.Proofs.YteapfbfoegphkaaDoor
open Go.RowKit
set_option linter.unusedVariables false
set_option linter.unusedSimpArgs false
attribute [local irreducible] decS sumL sumB sealB textB lineB encOk encStr acOk acStr pieces mkB piecesB splitB upL behL cutA cutZ verOk verStr rcI rrI okI aheadS preS restS atS rcS rrS okS inR okByte printed hasByte fits someB cmdB recB
attribute [local irreducible] validB szRec logAt recCells markS

set_option maxRecDepth 100000 in
set_option maxHeartbeats 1600000 in
theorem law_FnExactLogRecords (d p : ByteArray) (n : Int) (w : World) (he : Env w) (hd : d.size ≤ maxLen) (hp : p.size ≤ maxLen) (hn : (Lit.int .i64 n).wf = true) :
    Calls Tryd.prog 9 #[.agg #[.string d, .string p, .int .i64 n]] w fun e w' => e = .returned (.bool true) ∧ Ext w w' := by
  by_cases hz : szRec d p 1048576 < 0
  · go_enter Tryd.func9, Tryd.ntmps9
    go_wp2_with (go_at_call 19; refine (c_laws_szLog _ _ _ _ _ hd hp (by decide) (by decide)).mono ?_; rintro e w1 ⟨rfl, hb1⟩; obtain ⟨hc1, hf1, hz1⟩ := hb1.cells; (try simp only [World.size_alloc] at hc1 hf1 hz1))
    go_ret
    exact ⟨rfl, by (repeat (first | with_reducible assumption | with_reducible exact Ext.refl _ | with_reducible refine Ext.alloc ?_ _ | with_reducible refine Ext.drew ?_ | with_reducible refine Ext.drewN ?_ _ | refine Ext.setCell ?_ (by first | (simp only [World.size_alloc, World.size_setCell]; omega) | omega) _ | with_reducible refine Ext.trans ?_ (by with_reducible assumption)))⟩
  · have hq := szRec_pos hz
    have hd' : d.size ≤ 1048576 := by omega
    have hp' : p.size ≤ 1048576 := by omega
    clear hq hn
    have hll := logAt_len (d ++ p)
    go_enter Tryd.func9, Tryd.ntmps9
    go_wp2_with (go_at_call 19; refine (c_laws_szLog _ _ _ _ _ hd hp (by decide) (by decide)).mono ?_; rintro e w1 ⟨rfl, hb1⟩; have q0 := hb1.keep (p := ⟨w.heap.size, 0, none⟩) (v := .string d) (by simp); have q1 := hb1.keep (p := ⟨w.heap.size, 1, none⟩) (v := .string p) (by simp); have q2 := hb1.keep (p := ⟨w.heap.size, 2, none⟩) (v := .int .i64 n) (by simp))
    clear hz
    have x1 : Ext w w1 := by (repeat (first | with_reducible assumption | with_reducible exact Ext.refl _ | with_reducible refine Ext.alloc ?_ _ | with_reducible refine Ext.drew ?_ | with_reducible refine Ext.drewN ?_ _ | refine Ext.setCell ?_ (by first | (simp only [World.size_alloc, World.size_setCell]; omega) | omega) _ | with_reducible refine Ext.trans ?_ (by with_reducible assumption)))
    have e1 : Env w1 := by (repeat (first | with_reducible assumption | with_reducible refine Env.alloc ?_ _ | with_reducible refine Env.drew ?_ | with_reducible refine Env.ext ?_ (by with_reducible assumption)))
    clear hb1
    refine (c_laws_toLog _ _ _ _).mono ?_
    rintro e w2 ⟨rfl, hb2⟩
    have e2 := Env.ext e1 hb2
    go_wp2_with fail
    refine (c_spec_LogRecords _ _ _ _ hd' hp').mono ?_
    rintro e w3 ⟨a3, m3, k3, rfl, hF3, hT3, hb3⟩
    have e3 := Env.ext e2 hb3
    have h3 := hb2.trans hb3
    have r0 := h3.keep q0
    have r1 := h3.keep q1
    have r2 := h3.keep q2
    go_wp2_with fail
    refine (c_laws_toLog _ _ _ _).mono ?_
    rintro e w4 ⟨rfl, hb4⟩
    have e4 := Env.ext e3 hb4
    go_wp2_with fail
    refine (c_impl_LogRecords _ _ _ _ e4 hd' hp').mono ?_
    rintro e w5 ⟨a5, m5, k5, rfl, hF5, hT5, hb5⟩
    have e5 := Env.ext e4 hb5
    have h5 := hb4.trans hb5
    have s0 := h5.keep r0
    have s1 := h5.keep r1
    have s2 := h5.keep r2
    cases hv : validB d p n
    · obtain rfl := hF3 hv
      obtain rfl := hF5 hv
      clear hF3 hF5 hT3 hT5
      go_wp2_with fail
      refine (eqLogRecordS_none _ _ _ _ _).mono ?_
      rintro e w6 ⟨rfl, hb6⟩
      go_wp2_with fail
      refine (markLogRecordS_none _ _ _ _).mono ?_
      rintro e w7 ⟨rfl, hb7⟩
      go_wp2_with fail
      refine (heldLogRecordS_none _ _ _ _).mono ?_
      rintro e w8 ⟨rfl, hb8⟩
      have h8 := (hb6.trans hb7).trans hb8
      have e8 := Env.ext e5 h8
      have t0 := h8.keep s0
      have t1 := h8.keep s1
      have t2 := h8.keep s2
      go_wp2_with fail
      refine (c_laws_toLog _ _ _ _).mono ?_
      rintro e w9 ⟨rfl, hb9⟩
      have e9 := Env.ext e8 hb9
      go_wp2_with fail
      refine (c_impl_LogRecords _ _ _ _ e9 hd' hp').mono ?_
      rintro e w10 ⟨a10, m10, k10, rfl, hF10, hT10, hb10⟩
      obtain rfl := hF10 hv
      clear hF10 hT10
      go_wp2_with fail
      refine (eqLogRecordS_none _ _ _ _ _).mono ?_
      rintro e w11 ⟨rfl, hb11⟩
      go_wp2_with fail
      refine (heldLogRecordS_none _ _ _ _).mono ?_
      rintro e w12 ⟨rfl, hb12⟩
      have hx := ((((x1.trans h3).trans h5).trans h8).trans (hb9.trans hb10)).trans (hb11.trans hb12)
      go_wp2_with fail
      go_ret
      exact ⟨rfl, by (repeat (first | with_reducible assumption | with_reducible exact Ext.refl _ | with_reducible refine Ext.alloc ?_ _ | with_reducible refine Ext.drew ?_ | with_reducible refine Ext.drewN ?_ _ | refine Ext.setCell ?_ (by first | (simp only [World.size_alloc, World.size_setCell]; omega) | omega) _ | with_reducible refine Ext.trans ?_ (by with_reducible assumption)))⟩
    · obtain ⟨rfl, g3, rfl, own3⟩ := hT3 hv
      obtain ⟨rfl, g5, rfl, own5⟩ := hT5 hv
      clear hF3 hF5 hT3 hT5
      have n3 := own_lt own3
      have n5 := own_lt own5
      have hz5 := Below.size hb4
      have hne : g3 ≠ g5 := by omega
      have hz1 := Below.size (x1.trans h3)
      have hw5 : w.heap.size ≤ w4.heap.size := by omega
      have hwg : w.heap.size < g5 := by
        have z1 : w.heap.size < w1.heap.size := World.block_lt_of_cell? _ _ q0
        have z2 := Below.size h3
        omega
      clear hz5 hz1 n3
      have own3' := ownsRow_ext own3 h5
      clear own3
      have x5 := (x1.trans h3).trans h5
      generalize hL : logAt (d ++ p) 0 0 = LL at hll own3' own5 ⊢
      go_wp2_with fail
      refine (eqLogRecordS_own _ _ _ _ _ _ _ _ own5 own3' hll).mono ?_
      rintro e w6 ⟨rfl, hb6⟩
      have own5_6 := ownsRow_ext own5 hb6
      have own3_6 := ownsRow_ext own3' hb6
      go_wp2_with fail
      refine (markLogRecordS_own _ _ _ _ 1 _ _ own5_6 hll (by decide) (by decide)).mono ?_
      rintro e w7 ⟨rfl, ys, own5_7, hys, hg7⟩
      have x7 : Ext w w7 := Ext.grown (v := .slice (some ⟨g5, 0, none⟩) LL.length k5) (x5.trans hb6) hg7 own5_6 hw5
      have own3_7 := own_kept (n' := 0) (cap' := 0) own3_6 hg7 hne
      have u0 := hg7.cell (hb6.keep s0) (by simp; omega)
      have u1 := hg7.cell (hb6.keep s1) (by simp; omega)
      have u2 := hg7.cell (hb6.keep s2) (by simp; omega)
      have e7 := Env.ext he x7
      clear hg7 own5_6 own3_6 own5 own3'
      go_wp2_with fail
      refine (heldLogRecordS_own _ _ _ _ 1 _ _ own5_7 hys hll (by decide) (by decide)).mono ?_
      rintro e w8 ⟨rfl, hb8⟩
      have e8 := Env.ext e7 hb8
      have t0 := hb8.keep u0
      have t1 := hb8.keep u1
      have t2 := hb8.keep u2
      go_wp2_with fail
      refine (c_laws_toLog _ _ _ _).mono ?_
      rintro e w9 ⟨rfl, hb9⟩
      have e9 := Env.ext e8 hb9
      go_wp2_with fail
      refine (c_impl_LogRecords _ _ _ _ e9 hd' hp').mono ?_
      rintro e w10 ⟨a10, m10, k10, rfl, hF10, hT10, hb10⟩
      obtain ⟨rfl, g10, rfl, own10⟩ := hT10 hv
      clear hF10 hT10
      rw [hL] at own10
      rw [hL]
      have h10 := (hb8.trans hb9).trans hb10
      have own3_10 := ownsRow_ext own3_7 h10
      have own5_10 := ownsRow_ext own5_7 h10
      go_wp2_with fail
      refine (eqLogRecordS_own _ _ _ _ _ _ _ _ own10 own3_10 hll).mono ?_
      rintro e w11 ⟨rfl, hb11⟩
      have own5_11 := ownsRow_ext own5_10 hb11
      go_wp2_with fail
      refine (heldLogRecordS_own _ _ _ _ 1 _ _ own5_11 hys hll (by decide) (by decide)).mono ?_
      rintro e w12 ⟨rfl, hb12⟩
      have hx := (x7.trans h10).trans (hb11.trans hb12)
      go_wp2_with fail
      go_ret
      exact ⟨rfl, by (repeat (first | with_reducible assumption | with_reducible exact Ext.refl _ | with_reducible refine Ext.alloc ?_ _ | with_reducible refine Ext.drew ?_ | with_reducible refine Ext.drewN ?_ _ | refine Ext.setCell ?_ (by first | (simp only [World.size_alloc, World.size_setCell]; omega) | omega) _ | with_reducible refine Ext.trans ?_ (by with_reducible assumption)))⟩
end Go.Proofs.YteapfbfoegphkaaDoor
