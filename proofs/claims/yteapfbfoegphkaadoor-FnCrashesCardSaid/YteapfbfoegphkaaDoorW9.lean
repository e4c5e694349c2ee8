/-
  Walks: recovering a log; equal logs.
-/
import Derived.Test.YteapfbfoegphkaaDoorW7
import Derived.Test.YteapfbfoegphkaaDoorW8
import Derived.Test.YteapfbfoegphkaaDoorP7
namespace Go.Proofs.YteapfbfoegphkaaDoor
open Go.RowKit
set_option linter.unusedVariables false
set_option linter.unusedSimpArgs false
attribute [local irreducible] decS sumL sumB sealB textB lineB encOk encStr acOk acStr pieces mkB piecesB splitB upL behL cutA cutZ verOk verStr rcI rrI okI aheadS preS restS atS rcS rrS okS inR okByte printed hasByte fits someB cmdB recB
attribute [local irreducible] fromB logFrom logAt stepB nextP endOf recCells endCells recOk recDur recNum recEnd

set_option maxRecDepth 100000 in
set_option maxHeartbeats 800000 in
theorem c_spec_RecoverLog (s : ByteArray) (w : World) (hs : s.size ≤ maxLen) :
    Calls Tryd.prog 16 #[.string s] w fun e w' => e = .returned (.tuple #[.agg #[.string (recDur s), .string ⟨#[]⟩, .int .i64 (recNum s)], .int .i64 (recEnd s), .bool (recOk s)]) ∧ Ext w w' := by
  by_cases h : s.size ≤ 30000
  · have h1 := Lib.hid (show recOk s = true by unfold recOk fits; simp; omega)
    have h2 := Lib.hid (show recDur s = s.extract 0 (endOf (logAt s 0 0)) by unfold recDur; rw [h1.out, if_pos rfl])
    have h3 := Lib.hid (show recNum s = ((logAt s 0 0).length : Int) by unfold recNum; rw [h1.out, if_pos rfl])
    have h4 := Lib.hid (show recEnd s = (endOf (logAt s 0 0) : Int) by unfold recEnd; rw [h1.out, if_pos rfl])
    have he := endOf_le s
    have hll := logAt_len s
    go_enter Tryd.func16, Tryd.ntmps16
    go_wp2_with fail
    refine (c_spec_l13Open s _ (by omega)).mono ?_
    rintro e w2 ⟨g, c, rfl, hown, hb2⟩
    have q0 := hb2.keep (p := ⟨w.heap.size, 0, none⟩) (v := .string ⟨#[]⟩) (by simp)
    have q1 := hb2.keep (p := ⟨w.heap.size, 1, none⟩) (v := .string ⟨#[]⟩) (by simp)
    have q2 := hb2.keep (p := ⟨w.heap.size, 2, none⟩) (v := .int .i64 0) (by simp)
    have f0 := hb2.mark (b := w.heap.size) (o := 0) (v := .string ⟨#[]⟩) (x := false) (by simp) (by simp)
    have f1 := hb2.mark (b := w.heap.size) (o := 1) (v := .string ⟨#[]⟩) (x := false) (by simp) (by simp)
    have f2 := hb2.mark (b := w.heap.size) (o := 2) (v := .int .i64 0) (x := false) (by simp) (by simp)
    go_wp2
    refine bodyPost_ret (v := .tuple #[.agg #[.string (recDur s), .string ⟨#[]⟩, .int .i64 (recNum s)], .int .i64 (recEnd s), .bool (recOk s)]) ?_ rfl ⟨rfl, by (repeat (first | with_reducible assumption | with_reducible exact Ext.refl _ | with_reducible refine Ext.alloc ?_ _ | with_reducible refine Ext.drew ?_ | with_reducible refine Ext.drewN ?_ _ | refine Ext.setCell ?_ (by simp) _ | with_reducible refine Ext.trans ?_ (by with_reducible assumption)))⟩
    rw [h1.out, h2.out, h3.out, h4.out]
    simp [results, Tryd.results16, go_sem, q0, q1, q2]
  · have h1 := Lib.hid (show recOk s = false by unfold recOk fits; simp; omega)
    have h2 := Lib.hid (show recDur s = ⟨#[]⟩ by unfold recDur; rw [h1.out]; rfl)
    have h3 := Lib.hid (show recNum s = 0 by unfold recNum; rw [h1.out]; rfl)
    have h4 := Lib.hid (show recEnd s = 0 by unfold recEnd; rw [h1.out]; rfl)
    go_enter Tryd.func16, Tryd.ntmps16
    go_wp2
    refine bodyPost_ret (v := .tuple #[.agg #[.string (recDur s), .string ⟨#[]⟩, .int .i64 (recNum s)], .int .i64 (recEnd s), .bool (recOk s)]) ?_ rfl ⟨rfl, by (repeat (first | with_reducible assumption | with_reducible exact Ext.refl _ | with_reducible refine Ext.alloc ?_ _ | with_reducible refine Ext.drew ?_ | with_reducible refine Ext.drewN ?_ _ | refine Ext.setCell ?_ (by simp) _ | with_reducible refine Ext.trans ?_ (by with_reducible assumption)))⟩
    rw [h1.out, h2.out, h3.out, h4.out]
    simp [results, Tryd.results16, go_sem]
set_option maxRecDepth 100000 in
set_option maxHeartbeats 800000 in
theorem c_impl_RecoverLog (s : ByteArray) (w : World) (hE : Env w) (hs : s.size ≤ maxLen) :
    Calls Tryd.prog 17 #[.string s] w fun e w' => e = .returned (.tuple #[.agg #[.string (recDur s), .string ⟨#[]⟩, .int .i64 (recNum s)], .int .i64 (recEnd s), .bool (recOk s)]) ∧ Ext w w' := by
  by_cases h : s.size ≤ 30000
  · have h1 := Lib.hid (show recOk s = true by unfold recOk fits; simp; omega)
    have h2 := Lib.hid (show recDur s = s.extract 0 (endOf (logAt s 0 0)) by unfold recDur; rw [h1.out, if_pos rfl])
    have h3 := Lib.hid (show recNum s = ((logAt s 0 0).length : Int) by unfold recNum; rw [h1.out, if_pos rfl])
    have h4 := Lib.hid (show recEnd s = (endOf (logAt s 0 0) : Int) by unfold recEnd; rw [h1.out, if_pos rfl])
    have he := endOf_le s
    have hll := logAt_len s
    by_cases hl : 0 < (logAt s 0 0).length
    · have hm := Lib.hid (endCells_last (logAt s 0 0) hl)
      go_enter Tryd.func17, Tryd.ntmps17
      go_wp2_with fail
      refine (c_impl_readRecords s _ (by (repeat (first | with_reducible assumption | with_reducible refine Env.alloc ?_ _ | with_reducible refine Env.drew ?_ | with_reducible refine Env.ext ?_ (by with_reducible assumption)))) (by omega)).mono ?_
      rintro e w2 ⟨g1, c1, g2, c2, rfl, own1, own2, hb2⟩
      have hcell := own_cell own2 _ _ hm.out
      have q0 := hb2.keep (p := ⟨w.heap.size, 0, none⟩) (v := .string ⟨#[]⟩) (by simp)
      have q1 := hb2.keep (p := ⟨w.heap.size, 1, none⟩) (v := .string ⟨#[]⟩) (by simp)
      have q2 := hb2.keep (p := ⟨w.heap.size, 2, none⟩) (v := .int .i64 0) (by simp)
      have f0 := hb2.mark (b := w.heap.size) (o := 0) (v := .string ⟨#[]⟩) (x := false) (by simp) (by simp)
      have f1 := hb2.mark (b := w.heap.size) (o := 1) (v := .string ⟨#[]⟩) (x := false) (by simp) (by simp)
      have f2 := hb2.mark (b := w.heap.size) (o := 2) (v := .int .i64 0) (x := false) (by simp) (by simp)
      go_wp2
      refine bodyPost_ret (v := .tuple #[.agg #[.string (recDur s), .string ⟨#[]⟩, .int .i64 (recNum s)], .int .i64 (recEnd s), .bool (recOk s)]) ?_ rfl ⟨rfl, by (repeat (first | with_reducible assumption | with_reducible exact Ext.refl _ | with_reducible refine Ext.alloc ?_ _ | with_reducible refine Ext.drew ?_ | with_reducible refine Ext.drewN ?_ _ | refine Ext.setCell ?_ (by simp) _ | with_reducible refine Ext.trans ?_ (by with_reducible assumption)))⟩
      rw [h1.out, h2.out, h3.out, h4.out]
      simp [results, Tryd.results17, go_sem, q0, q1, q2]
    · have h5 := Lib.hid (endOf_empty hl)
      go_enter Tryd.func17, Tryd.ntmps17
      go_wp2_with fail
      refine (c_impl_readRecords s _ (by (repeat (first | with_reducible assumption | with_reducible refine Env.alloc ?_ _ | with_reducible refine Env.drew ?_ | with_reducible refine Env.ext ?_ (by with_reducible assumption)))) (by omega)).mono ?_
      rintro e w2 ⟨g1, c1, g2, c2, rfl, own1, own2, hb2⟩
      have q0 := hb2.keep (p := ⟨w.heap.size, 0, none⟩) (v := .string ⟨#[]⟩) (by simp)
      have q1 := hb2.keep (p := ⟨w.heap.size, 1, none⟩) (v := .string ⟨#[]⟩) (by simp)
      have q2 := hb2.keep (p := ⟨w.heap.size, 2, none⟩) (v := .int .i64 0) (by simp)
      have f0 := hb2.mark (b := w.heap.size) (o := 0) (v := .string ⟨#[]⟩) (x := false) (by simp) (by simp)
      have f1 := hb2.mark (b := w.heap.size) (o := 1) (v := .string ⟨#[]⟩) (x := false) (by simp) (by simp)
      have f2 := hb2.mark (b := w.heap.size) (o := 2) (v := .int .i64 0) (x := false) (by simp) (by simp)
      go_wp2
      refine bodyPost_ret (v := .tuple #[.agg #[.string (recDur s), .string ⟨#[]⟩, .int .i64 (recNum s)], .int .i64 (recEnd s), .bool (recOk s)]) ?_ rfl ⟨rfl, by (repeat (first | with_reducible assumption | with_reducible exact Ext.refl _ | with_reducible refine Ext.alloc ?_ _ | with_reducible refine Ext.drew ?_ | with_reducible refine Ext.drewN ?_ _ | refine Ext.setCell ?_ (by simp) _ | with_reducible refine Ext.trans ?_ (by with_reducible assumption)))⟩
      rw [h1.out, h2.out, h3.out, h4.out, h5.out]
      simp [results, Tryd.results17, go_sem, q0, q1, q2]
  · have h1 := Lib.hid (show recOk s = false by unfold recOk fits; simp; omega)
    have h2 := Lib.hid (show recDur s = ⟨#[]⟩ by unfold recDur; rw [h1.out]; rfl)
    have h3 := Lib.hid (show recNum s = 0 by unfold recNum; rw [h1.out]; rfl)
    have h4 := Lib.hid (show recEnd s = 0 by unfold recEnd; rw [h1.out]; rfl)
    go_enter Tryd.func17, Tryd.ntmps17
    go_wp2
    refine bodyPost_ret (v := .tuple #[.agg #[.string (recDur s), .string ⟨#[]⟩, .int .i64 (recNum s)], .int .i64 (recEnd s), .bool (recOk s)]) ?_ rfl ⟨rfl, by (repeat (first | with_reducible assumption | with_reducible exact Ext.refl _ | with_reducible refine Ext.alloc ?_ _ | with_reducible refine Ext.drew ?_ | with_reducible refine Ext.drewN ?_ _ | refine Ext.setCell ?_ (by simp) _ | with_reducible refine Ext.trans ?_ (by with_reducible assumption)))⟩
    rw [h1.out, h2.out, h3.out, h4.out]
    simp [results, Tryd.results17, go_sem]
set_option maxRecDepth 100000 in
set_option maxHeartbeats 400000 in
theorem c_laws_eqLog (a b : ByteArray) (n : Int) (w : World) :
    Calls Tryd.prog 18 #[.agg #[.string a, .string b, .int .i64 n], .agg #[.string a, .string b, .int .i64 n]] w fun e w' => e = .returned (.bool true) ∧ Ext w w' := by
  go_enter Tryd.func18, Tryd.ntmps18
  go_wp2
  go_ret
  exact ⟨rfl, by (repeat (first | with_reducible assumption | with_reducible exact Ext.refl _ | with_reducible refine Ext.alloc ?_ _ | with_reducible refine Ext.drew ?_ | with_reducible refine Ext.drewN ?_ _ | refine Ext.setCell ?_ (by simp) _ | with_reducible refine Ext.trans ?_ (by with_reducible assumption)))⟩
end Go.Proofs.YteapfbfoegphkaaDoor
