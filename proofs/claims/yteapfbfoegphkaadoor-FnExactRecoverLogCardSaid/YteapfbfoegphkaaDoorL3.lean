/-
  The law FnExactRecoverLog: its walk.
-/
import Derived.Test.YteapfbfoegphkaaDoorW9
import Derived.Deep.DeepMust
namespace Go.Proofs.YteapfbfoegphkaaDoor
open Go.RowKit
set_option linter.unusedVariables false
set_option linter.unusedSimpArgs false
attribute [local irreducible] decS sumL sumB sealB textB lineB encOk encStr acOk acStr pieces mkB piecesB splitB upL behL cutA cutZ verOk verStr rcI rrI okI aheadS preS restS atS rcS rrS okS inR okByte printed hasByte fits someB cmdB recB
attribute [local irreducible] recOk recDur recNum recEnd

set_option maxRecDepth 100000 in
set_option maxHeartbeats 400000 in
theorem law_FnExactRecoverLog (s : ByteArray) (w : World) (he : Env w) (hs : s.size ≤ maxLen) :
    Calls Tryd.prog 4 #[.string s] w fun e w' => e = .returned (.bool true) ∧ Ext w w' := by
  go_enter Tryd.func4, Tryd.ntmps4
  go_wp2_with (first | (go_at_call 16; go_must (refine (c_spec_RecoverLog s _ hs).mono ?_; rintro e w1 ⟨rfl, hb1⟩)) | (go_at_call 17; go_must (refine (c_impl_RecoverLog s _ (by (repeat (first | with_reducible assumption | with_reducible refine Env.alloc ?_ _ | with_reducible refine Env.drew ?_ | with_reducible refine Env.ext ?_ (by with_reducible assumption)))) hs).mono ?_; rintro e w2 ⟨rfl, hb2⟩; have hx2 := ((hb1.alloc (.cells #[.string (recDur s), .string ⟨#[]⟩, .int .i64 (recNum s)] 31)).trans hb2); obtain ⟨hc2, hf2, hz2⟩ := hb2.cells; simp only [World.size_alloc] at hc2 hf2 hz2)) | (go_at_call 18; refine (c_laws_eqLog _ _ _ _).mono ?_; rintro e w1 ⟨rfl, hb1⟩; obtain ⟨hc1, hf1, hz1⟩ := hb1.cells; (try simp only [World.size_alloc] at hc1 hf1 hz1)))
  all_goals (go_ret; exact ⟨rfl, by (repeat (first | with_reducible assumption | with_reducible exact Ext.refl _ | with_reducible refine Ext.alloc ?_ _ | with_reducible refine Ext.drew ?_ | with_reducible refine Ext.drewN ?_ _ | refine Ext.setCell ?_ (by simp) _ | with_reducible refine Ext.trans ?_ (by with_reducible assumption)))⟩)
end Go.Proofs.YteapfbfoegphkaaDoor
