/-
  Walks: the purse and the copies of the laws.
-/
import Derived.Test.YteapfbfoegphkaaDoorW1
namespace Go.Proofs.YteapfbfoegphkaaDoor
open Go.RowKit
set_option linter.unusedVariables false
set_option linter.unusedSimpArgs false

/-- What is left of a purse when a record has been paid. -/
def szRec (c r : ByteArray) (n : Int) : Int := if n - c.size < 0 then -1 else if n - c.size - r.size < 0 then -1 else n - c.size - r.size
theorem szRec_pos {c r : ByteArray} {n : Int} (h : ¬ szRec c r n < 0) : (c.size : Int) + r.size ≤ n := by
  unfold szRec at h
  (repeat' split at h) <;> omega
set_option maxHeartbeats 400000 in
theorem c_laws_szLogRecord (c r : ByteArray) (n : Int) (w : World) (hc : c.size ≤ maxLen) (hr : r.size ≤ maxLen) (h0 : -1 ≤ n) (h1 : n ≤ 1048576) :
    Calls Tryd.prog 12 #[.agg #[.string c, .string r], .int .i64 n] w fun e w' => e = .returned (.int .i64 (szRec c r n)) ∧ Ext w w' := by
  unfold maxLen at hc hr
  go_enter Tryd.func12, Tryd.ntmps12
  go_wp2
  all_goals (go_ret; refine ⟨ret_int ?_, (by (repeat (first | with_reducible assumption | with_reducible exact Ext.refl _ | with_reducible refine Ext.alloc ?_ _ | with_reducible refine Ext.drew ?_ | with_reducible refine Ext.drewN ?_ _ | refine Ext.setCell ?_ (by simp) _ | with_reducible refine Ext.trans ?_ (by with_reducible assumption))))⟩)
  all_goals (simp_all [szRec] <;> omega)
set_option maxHeartbeats 400000 in
theorem c_laws_toLogRecord (c r : ByteArray) (w : World) :
    Calls Tryd.prog 14 #[.agg #[.string c, .string r]] w fun e w' => e = .returned (.agg #[.string c, .string r]) ∧ Ext w w' := by
  go_enter Tryd.func14, Tryd.ntmps14
  go_wp2
  exact bodyPost_ret (v := .agg #[.string c, .string r]) (by simp [results, Tryd.results14, go_sem]) rfl ⟨rfl, by (repeat (first | with_reducible assumption | with_reducible exact Ext.refl _ | with_reducible refine Ext.alloc ?_ _ | with_reducible refine Ext.drew ?_ | with_reducible refine Ext.drewN ?_ _ | refine Ext.setCell ?_ (by simp) _ | with_reducible refine Ext.trans ?_ (by with_reducible assumption)))⟩
set_option maxHeartbeats 400000 in
theorem c_laws_szLog (c r : ByteArray) (k n : Int) (w : World) (hc : c.size ≤ maxLen) (hr : r.size ≤ maxLen) (h0 : -1 ≤ n) (h1 : n ≤ 1048576) :
    Calls Tryd.prog 19 #[.agg #[.string c, .string r, .int .i64 k], .int .i64 n] w fun e w' => e = .returned (.int .i64 (szRec c r n)) ∧ Ext w w' := by
  unfold maxLen at hc hr
  go_enter Tryd.func19, Tryd.ntmps19
  go_wp2
  all_goals (go_ret; refine ⟨ret_int ?_, (by (repeat (first | with_reducible assumption | with_reducible exact Ext.refl _ | with_reducible refine Ext.alloc ?_ _ | with_reducible refine Ext.drew ?_ | with_reducible refine Ext.drewN ?_ _ | refine Ext.setCell ?_ (by simp) _ | with_reducible refine Ext.trans ?_ (by with_reducible assumption))))⟩)
  all_goals (simp_all [szRec] <;> omega)
set_option maxHeartbeats 400000 in
theorem c_laws_toLog (c r : ByteArray) (n : Int) (w : World) :
    Calls Tryd.prog 21 #[.agg #[.string c, .string r, .int .i64 n]] w fun e w' => e = .returned (.agg #[.string c, .string r, .int .i64 n]) ∧ Ext w w' := by
  go_enter Tryd.func21, Tryd.ntmps21
  go_wp2
  exact bodyPost_ret (v := .agg #[.string c, .string r, .int .i64 n]) (by simp [results, Tryd.results21, go_sem]) rfl ⟨rfl, by (repeat (first | with_reducible assumption | with_reducible exact Ext.refl _ | with_reducible refine Ext.alloc ?_ _ | with_reducible refine Ext.drew ?_ | with_reducible refine Ext.drewN ?_ _ | refine Ext.setCell ?_ (by simp) _ | with_reducible refine Ext.trans ?_ (by with_reducible assumption)))⟩
end Go.Proofs.YteapfbfoegphkaaDoor
