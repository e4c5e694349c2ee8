/-
  The law FnExactEncodeRecord: its walk.
-/
import Derived.Test.YteapfbfoegphkaaDoorW1b
import Derived.Test.YteapfbfoegphkaaDoorW3
namespace Go.Proofs.YteapfbfoegphkaaDoor
open Go.RowKit
set_option linter.unusedVariables false
set_option linter.unusedSimpArgs false

set_option maxHeartbeats 400000 in
theorem law_FnExactEncodeRecord (k : Int) (c r : ByteArray) (w : World) (he : Env w) (hc : c.size ≤ maxLen) (hr : r.size ≤ maxLen) :
    Calls Tryd.prog 3 #[.int .i64 k, .agg #[.string c, .string r]] w fun e w' => e = .returned (.bool true) ∧ Ext w w' := by
  have hE := Lib.hid he
  clear he
  go_enter Tryd.func3, Tryd.ntmps3
  go_wp2_with fail
  refine (c_laws_szLogRecord c r _ _ hc hr (by decide) (by decide)).mono ?_
  rintro e w1 ⟨rfl, hb1⟩
  obtain ⟨hc1, hf1, hz1⟩ := hb1.cells
  simp only [World.size_alloc] at hc1 hf1 hz1
  have hE1 := Lib.hid ((hE.out.alloc (.cells #[.string c, .string r] 23)).ext hb1)
  go_wp2_with (first | (go_at_call 14; refine (c_laws_toLogRecord _ _ _).mono ?_; rintro e w1 ⟨rfl, hb1⟩; obtain ⟨hc1, hf1, hz1⟩ := hb1.cells; (try simp only [World.size_alloc] at hc1 hf1 hz1); have hE1 := Lib.hid (hE1.out.ext hb1)) | (go_at_call 13; refine (c_spec_EncodeRecord _ _ _ _ hc hr).mono ?_; rintro e w1 ⟨rfl, hb1⟩; obtain ⟨hc1, hf1, hz1⟩ := hb1.cells; (try simp only [World.size_alloc] at hc1 hf1 hz1); have hE1 := Lib.hid (hE1.out.ext hb1)) | (go_at_call 15; refine (c_impl_EncodeRecord _ _ _ _ hE1.out hc hr).mono ?_; rintro e w1 ⟨rfl, hb1⟩; obtain ⟨hc1, hf1, hz1⟩ := hb1.cells; (try simp only [World.size_alloc] at hc1 hf1 hz1); have hE1 := Lib.hid (hE1.out.ext hb1)))
  all_goals (go_ret; exact ⟨rfl, by (repeat (first | assumption | exact Ext.refl _ | refine Ext.alloc ?_ _ | refine Ext.drew ?_ | refine Ext.drewN ?_ _ | refine Ext.trans ?_ (by assumption)))⟩)
end Go.Proofs.YteapfbfoegphkaaDoor
