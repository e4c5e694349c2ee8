/-
  Walks: syncing a log.
-/
import Derived.Test.YteapfbfoegphkaaDoorW10
import Derived.Test.YteapfbfoegphkaaDoorP9
import Derived.Deep.DeepMust
namespace Go.Proofs.YteapfbfoegphkaaDoor
open Go.RowKit
set_option linter.unusedVariables false
set_option linter.unusedSimpArgs false
attribute [local irreducible] decS sumL sumB sealB textB lineB encOk encStr acOk acStr pieces mkB piecesB splitB upL behL cutA cutZ verOk verStr rcI rrI okI aheadS preS restS atS rcS rrS okS inR okByte printed hasByte fits someB cmdB recB
attribute [local irreducible] validB endsB logAt

set_option maxHeartbeats 800000 in
theorem c_spec_SyncLog (d p : ByteArray) (n : Int) (w : World) (hd : d.size ≤ 1048576) (hp : p.size ≤ 1048576) :
    Calls Tryd.prog 25 #[.agg #[.string d, .string p, .int .i64 n]] w fun e w' => e = .returned (.tuple #[.agg #[.string (syncD d p n), .string ⟨#[]⟩, .int .i64 (syncN d p n)], .bool (validB d p n)]) ∧ Ext w w' := by
  cases hv : validB d p n
  · have h1 := Lib.hid (show syncD d p n = ⟨#[]⟩ by unfold syncD; rw [hv]; rfl)
    have h2 := Lib.hid (show syncN d p n = 0 by unfold syncN; rw [hv]; rfl)
    have HV := Lib.hid hv
    clear hv
    go_enter Tryd.func25, Tryd.ntmps25
    go_wp2_with (go_at_call 53; refine (c_spec_l13Valid _ _ _ _ hd hp).mono ?_; rintro e w1 ⟨rfl, hb1⟩; rw [HV.out]; obtain ⟨hc1, hf1, hz1⟩ := hb1.cells; (try simp only [World.size_alloc] at hc1 hf1 hz1))
    refine bodyPost_ret (v := .tuple #[.agg #[.string (syncD d p n), .string ⟨#[]⟩, .int .i64 (syncN d p n)], .bool false]) ?_ rfl ⟨rfl, by (repeat (first | with_reducible assumption | with_reducible exact Ext.refl _ | with_reducible refine Ext.alloc ?_ _ | with_reducible refine Ext.drew ?_ | with_reducible refine Ext.drewN ?_ _ | refine Ext.setCell ?_ (by simp) _ | with_reducible refine Ext.trans ?_ (by with_reducible assumption)))⟩
    rw [h1.out, h2.out]
    simp [results, Tryd.results25, go_sem, hc1, hf1]
  · have h1 := Lib.hid (show syncD d p n = d ++ p by unfold syncD; rw [hv]; rfl)
    have h2 := Lib.hid (show syncN d p n = n by unfold syncN; rw [hv]; rfl)
    have HV := Lib.hid hv
    have hl := (validB_le hv).1
    clear hv
    go_enter Tryd.func25, Tryd.ntmps25
    go_wp2_with (go_at_call 53; refine (c_spec_l13Valid _ _ _ _ hd hp).mono ?_; rintro e w1 ⟨rfl, hb1⟩; rw [HV.out]; obtain ⟨hc1, hf1, hz1⟩ := hb1.cells; (try simp only [World.size_alloc] at hc1 hf1 hz1))
    refine bodyPost_ret (v := .tuple #[.agg #[.string (syncD d p n), .string ⟨#[]⟩, .int .i64 (syncN d p n)], .bool true]) ?_ rfl ⟨rfl, by (repeat (first | with_reducible assumption | with_reducible exact Ext.refl _ | with_reducible refine Ext.alloc ?_ _ | with_reducible refine Ext.drew ?_ | with_reducible refine Ext.drewN ?_ _ | refine Ext.setCell ?_ (by simp) _ | with_reducible refine Ext.trans ?_ (by with_reducible assumption)))⟩
    rw [h1.out, h2.out]
    simp [results, Tryd.results25, go_sem, hc1, hf1]
set_option maxHeartbeats 800000 in
theorem c_impl_SyncLog (d p : ByteArray) (n : Int) (w : World) (hE : Env w) (hd : d.size ≤ 1048576) (hp : p.size ≤ 1048576) :
    Calls Tryd.prog 26 #[.agg #[.string d, .string p, .int .i64 n]] w fun e w' => e = .returned (.tuple #[.agg #[.string (syncD d p n), .string ⟨#[]⟩, .int .i64 (syncN d p n)], .bool (validB d p n)]) ∧ Ext w w' := by
  cases hv : validB d p n
  · have h1 := Lib.hid (show syncD d p n = ⟨#[]⟩ by unfold syncD; rw [hv]; rfl)
    have h2 := Lib.hid (show syncN d p n = 0 by unfold syncN; rw [hv]; rfl)
    have HV := Lib.hid hv
    clear hv
    go_enter Tryd.func26, Tryd.ntmps26
    go_wp2_with (go_at_call 22; refine (c_impl_IsValidLog _ _ _ _ (by (repeat (first | with_reducible assumption | with_reducible refine Env.alloc ?_ _ | with_reducible refine Env.drew ?_ | with_reducible refine Env.ext ?_ (by with_reducible assumption)))) hd hp).mono ?_; rintro e w1 ⟨rfl, hb1⟩; rw [HV.out]; obtain ⟨hc1, hf1, hz1⟩ := hb1.cells; (try simp only [World.size_alloc] at hc1 hf1 hz1))
    refine bodyPost_ret (v := .tuple #[.agg #[.string (syncD d p n), .string ⟨#[]⟩, .int .i64 (syncN d p n)], .bool false]) ?_ rfl ⟨rfl, by (repeat (first | with_reducible assumption | with_reducible exact Ext.refl _ | with_reducible refine Ext.alloc ?_ _ | with_reducible refine Ext.drew ?_ | with_reducible refine Ext.drewN ?_ _ | refine Ext.setCell ?_ (by simp) _ | with_reducible refine Ext.trans ?_ (by with_reducible assumption)))⟩
    rw [h1.out, h2.out]
    simp [results, Tryd.results26, go_sem, hc1, hf1]
  · have h1 := Lib.hid (show syncD d p n = d ++ p by unfold syncD; rw [hv]; rfl)
    have h2 := Lib.hid (show syncN d p n = n by unfold syncN; rw [hv]; rfl)
    have HV := Lib.hid hv
    have hl := (validB_le hv).1
    clear hv
    go_enter Tryd.func26, Tryd.ntmps26
    go_wp2_with (go_at_call 22; refine (c_impl_IsValidLog _ _ _ _ (by (repeat (first | with_reducible assumption | with_reducible refine Env.alloc ?_ _ | with_reducible refine Env.drew ?_ | with_reducible refine Env.ext ?_ (by with_reducible assumption)))) hd hp).mono ?_; rintro e w1 ⟨rfl, hb1⟩; rw [HV.out]; obtain ⟨hc1, hf1, hz1⟩ := hb1.cells; (try simp only [World.size_alloc] at hc1 hf1 hz1))
    refine bodyPost_ret (v := .tuple #[.agg #[.string (syncD d p n), .string ⟨#[]⟩, .int .i64 (syncN d p n)], .bool true]) ?_ rfl ⟨rfl, by (repeat (first | with_reducible assumption | with_reducible exact Ext.refl _ | with_reducible refine Ext.alloc ?_ _ | with_reducible refine Ext.drew ?_ | with_reducible refine Ext.drewN ?_ _ | refine Ext.setCell ?_ (by simp) _ | with_reducible refine Ext.trans ?_ (by with_reducible assumption)))⟩
    rw [h1.out, h2.out]
    simp [results, Tryd.results26, go_sem, hc1, hf1]
end Go.Proofs.YteapfbfoegphkaaDoor
