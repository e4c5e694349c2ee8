/-
  The law FnExactCrashLog: its walk.
-/
import Derived.Test.YteapfbfoegphkaaDoorW12
import Derived.Test.YteapfbfoegphkaaDoorW1b
import Derived.Deep.DeepMust
namespace Go.Proofs.YteapfbfoegphkaaDoor
open Go.RowKit
set_option linter.unusedVariables false
set_option linter.unusedSimpArgs false
attribute [local irreducible] decS sumL sumB sealB textB lineB encOk encStr acOk acStr pieces mkB piecesB splitB upL behL cutA cutZ verOk verStr rcI rrI okI aheadS preS restS atS rcS rrS okS inR okByte printed hasByte fits someB cmdB recB
attribute [local irreducible] validB szRec crashS crashOk

set_option maxRecDepth 100000 in
set_option maxHeartbeats 800000 in
theorem law_FnExactCrashLog (d p : ByteArray) (n k : Int) (b : Bool) (w : World) (he : Env w) (hd : d.size ≤ maxLen) (hp : p.size ≤ maxLen) (hn : (Lit.int .i64 n).wf = true) :
    Calls Tryd.prog 6 #[.agg #[.string d, .string p, .int .i64 n], .int .i64 k, .bool b] w fun e w' => e = .returned (.bool true) ∧ Ext w w' := by
  by_cases hz : szRec d p 1048576 < 0
  · go_enter Tryd.func6, Tryd.ntmps6
    go_wp2_with (go_at_call 19; refine (c_laws_szLog _ _ _ _ _ hd hp (by decide) (by decide)).mono ?_; rintro e w1 ⟨rfl, hb1⟩; obtain ⟨hc1, hf1, hz1⟩ := hb1.cells; (try simp only [World.size_alloc] at hc1 hf1 hz1))
    go_ret
    exact ⟨rfl, by (repeat (first | with_reducible assumption | with_reducible exact Ext.refl _ | with_reducible refine Ext.alloc ?_ _ | with_reducible refine Ext.drew ?_ | with_reducible refine Ext.drewN ?_ _ | refine Ext.setCell ?_ (by simp) _ | with_reducible refine Ext.trans ?_ (by with_reducible assumption)))⟩
  · have hq := szRec_pos hz
    have hd' : d.size ≤ 1048576 := by omega
    have hp' : p.size ≤ 1048576 := by omega
    go_enter Tryd.func6, Tryd.ntmps6
    go_wp2_with (first | (go_at_call 19; refine (c_laws_szLog _ _ _ _ _ hd hp (by decide) (by decide)).mono ?_; rintro e w1 ⟨rfl, hb1⟩; obtain ⟨hc1, hf1, hz1⟩ := hb1.cells; (try simp only [World.size_alloc] at hc1 hf1 hz1)) | (go_at_call 21; refine (c_laws_toLog _ _ _ _).mono ?_; rintro e w1 ⟨rfl, hb1⟩; obtain ⟨hc1, hf1, hz1⟩ := hb1.cells; (try simp only [World.size_alloc] at hc1 hf1 hz1)) | (go_at_call 23; refine (c_spec_CrashLog _ _ _ _ _ _ hd' hp').mono ?_; rintro e w1 ⟨rfl, hb1⟩; obtain ⟨hc1, hf1, hz1⟩ := hb1.cells; (try simp only [World.size_alloc] at hc1 hf1 hz1)) | (go_at_call 24; refine (c_impl_CrashLog _ _ _ _ _ _ (by (repeat (first | with_reducible assumption | with_reducible refine Env.alloc ?_ _ | with_reducible refine Env.drew ?_ | with_reducible refine Env.ext ?_ (by with_reducible assumption)))) hd' hp').mono ?_; rintro e w1 ⟨rfl, hb1⟩; obtain ⟨hc1, hf1, hz1⟩ := hb1.cells; (try simp only [World.size_alloc] at hc1 hf1 hz1)))
    all_goals (go_ret; exact ⟨rfl, by (repeat (first | with_reducible assumption | with_reducible exact Ext.refl _ | with_reducible refine Ext.alloc ?_ _ | with_reducible refine Ext.drew ?_ | with_reducible refine Ext.drewN ?_ _ | refine Ext.setCell ?_ (by simp) _ | with_reducible refine Ext.trans ?_ (by with_reducible assumption)))⟩)
end Go.Proofs.YteapfbfoegphkaaDoor
