/-
  The law FnExactIsValidRecord: its walk.
-/
import Derived.Test.YteapfbfoegphkaaW1
namespace Go.Proofs.Yteapfbfoegphkaa
open Go.RowKit
set_option linter.unusedVariables false
set_option linter.unusedSimpArgs false

/-- What is left of a purse when a record has been paid. -/
def szRec (c r : ByteArray) (n : Int) : Int := if n - c.size < 0 then -1 else if n - c.size - r.size < 0 then -1 else n - c.size - r.size
set_option maxHeartbeats 400000 in
theorem c_laws_szLogRecord (c r : ByteArray) (n : Int) (w : World) (hc : c.size ≤ maxLen) (hr : r.size ≤ maxLen) (h0 : -1 ≤ n) (h1 : n ≤ 1048576) :
    Calls Try.prog 4 #[.agg #[.string c, .string r], .int .i64 n] w fun e w' => e = .returned (.int .i64 (szRec c r n)) ∧ Ext w w' := by
  unfold maxLen at hc hr
  go_enter Try.func4, Try.ntmps4
  go_wp2
  all_goals (go_ret; refine ⟨ret_int ?_, (by (repeat (first | assumption | exact Ext.refl _ | refine Ext.alloc ?_ _ | refine Ext.drew ?_ | refine Ext.drewN ?_ _ | refine Ext.trans ?_ (by assumption))))⟩)
  all_goals (simp_all [szRec] <;> omega)
set_option maxHeartbeats 400000 in
theorem c_laws_toLogRecord (c r : ByteArray) (w : World) :
    Calls Try.prog 6 #[.agg #[.string c, .string r]] w fun e w' => e = .returned (.agg #[.string c, .string r]) ∧ Ext w w' := by
  go_enter Try.func6, Try.ntmps6
  go_wp2
  exact bodyPost_ret (v := .agg #[.string c, .string r]) (by simp [results, Try.results6, go_sem]) rfl ⟨rfl, by (repeat (first | assumption | exact Ext.refl _ | refine Ext.alloc ?_ _ | refine Ext.drew ?_ | refine Ext.drewN ?_ _ | refine Ext.trans ?_ (by assumption)))⟩
set_option maxHeartbeats 400000 in
theorem law_FnExactIsValidRecord (c r : ByteArray) (w : World) (hc : c.size ≤ maxLen) (hr : r.size ≤ maxLen) :
    Calls Try.prog 3 #[.agg #[.string c, .string r]] w fun e w' => e = .returned (.bool true) ∧ Ext w w' := by
  go_enter Try.func3, Try.ntmps3
  go_wp2_with fail
  refine (c_laws_szLogRecord c r _ _ hc hr (by decide) (by decide)).mono ?_
  rintro e w1 ⟨rfl, hb1⟩
  obtain ⟨hc1, hf1, hz1⟩ := hb1.cells
  simp only [World.size_alloc] at hc1 hf1 hz1
  go_wp2_with (first | (go_at_call 6; refine (c_laws_toLogRecord _ _ _).mono ?_; rintro e w1 ⟨rfl, hb1⟩; obtain ⟨hc1, hf1, hz1⟩ := hb1.cells; (try simp only [World.size_alloc] at hc1 hf1 hz1)) | (go_at_call 5; refine (c_spec_IsValidRecord _ _ _ (by assumption) (by assumption)).mono ?_; rintro e w1 ⟨rfl, hb1⟩; obtain ⟨hc1, hf1, hz1⟩ := hb1.cells; (try simp only [World.size_alloc] at hc1 hf1 hz1)) | (go_at_call 7; refine (c_impl_IsValidRecord _ _ _ (by assumption) (by assumption)).mono ?_; rintro e w1 ⟨rfl, hb1⟩; obtain ⟨hc1, hf1, hz1⟩ := hb1.cells; (try simp only [World.size_alloc] at hc1 hf1 hz1)))
  all_goals (go_ret; exact ⟨rfl, by (repeat (first | assumption | exact Ext.refl _ | refine Ext.alloc ?_ _ | refine Ext.drew ?_ | refine Ext.drewN ?_ _ | refine Ext.trans ?_ (by assumption)))⟩)
end Go.Proofs.Yteapfbfoegphkaa
