/-
  Walks: the records of a log; rows of records compared.
-/
import Derived.Test.YteapfbfoegphkaaDoorW10
import Derived.Test.YteapfbfoegphkaaDoorP10
import Derived.Deep.DeepMust
namespace Go.Proofs.YteapfbfoegphkaaDoor
open Go.RowKit
set_option linter.unusedVariables false
set_option linter.unusedSimpArgs false
attribute [local irreducible] decS sumL sumB sealB textB lineB encOk encStr acOk acStr pieces mkB piecesB splitB upL behL cutA cutZ verOk verStr rcI rrI okI aheadS preS restS atS rcS rrS okS inR okByte printed hasByte fits someB cmdB recB
attribute [local irreducible] validB endsB logAt recCells

set_option maxHeartbeats 400000 in
theorem c_laws_eqLogRecord (c r : ByteArray) (w : World) :
    Calls Tryd.prog 55 #[.agg #[.string c, .string r], .agg #[.string c, .string r]] w fun e w' => e = .returned (.bool true) ∧ Ext w w' := by
  go_enter Tryd.func55, Tryd.ntmps55
  go_wp2
  go_ret
  exact ⟨rfl, by (repeat (first | with_reducible assumption | with_reducible exact Ext.refl _ | with_reducible refine Ext.alloc ?_ _ | with_reducible refine Ext.drew ?_ | with_reducible refine Ext.drewN ?_ _ | refine Ext.setCell ?_ (by first | (simp only [World.size_alloc, World.size_setCell]; omega) | omega) _ | with_reducible refine Ext.trans ?_ (by with_reducible assumption)))⟩
set_option maxRecDepth 100000 in
set_option maxHeartbeats 800000 in
theorem c_spec_LogRecords (d p : ByteArray) (n : Int) (w : World) (hd : d.size ≤ 1048576) (hp : p.size ≤ 1048576) :
    Calls Tryd.prog 29 #[.agg #[.string d, .string p, .int .i64 n]] w fun e w' => ∃ a m k, e = .returned (.tuple #[.slice a m k, .bool (validB d p n)]) ∧ (validB d p n = false → m = 0) ∧
      (validB d p n = true → m = (logAt (d ++ p) 0 0).length ∧ ∃ g, a = some ⟨g, 0, none⟩ ∧ w'.ownsRow w.heap.size 27 2 (.slice (some ⟨g, 0, none⟩) m k) m (recCells (logAt (d ++ p) 0 0))) ∧ Ext w w' := by
  have hs : (d ++ p).size = d.size + p.size := ByteArray.size_append
  cases hv : validB d p n
  · have HV := Lib.hid hv
    clear hv
    go_enter Tryd.func29, Tryd.ntmps29
    go_wp2_with (go_at_call 53; refine (c_spec_l13Valid _ _ _ _ hd hp).mono ?_; rintro e w1 ⟨rfl, hb1⟩; rw [HV.out])
    exact bodyPost_ret (v := .tuple #[.slice (some ⟨w1.heap.size, 0, none⟩) 0 0, .bool false]) (by simp [results, Tryd.results29, go_sem]) rfl ⟨_, _, _, rfl, fun _ => rfl, fun h => absurd h (by decide), by (repeat (first | with_reducible assumption | with_reducible exact Ext.refl _ | with_reducible refine Ext.alloc ?_ _ | with_reducible refine Ext.drew ?_ | with_reducible refine Ext.drewN ?_ _ | refine Ext.setCell ?_ (by first | (simp only [World.size_alloc, World.size_setCell]; omega) | omega) _ | with_reducible refine Ext.trans ?_ (by with_reducible assumption)))⟩
  · have HV := Lib.hid hv
    have hl := (validB_le hv).1
    have HS := Lib.hid hs
    clear hv
    go_enter Tryd.func29, Tryd.ntmps29
    go_wp2_with (go_at_call 53; refine (c_spec_l13Valid _ _ _ _ hd hp).mono ?_; rintro e w1 ⟨rfl, hb1⟩; rw [HV.out]; have q0 := hb1.keep (p := ⟨w.heap.size, 0, none⟩) (v := .string d) (by simp); have q1 := hb1.keep (p := ⟨w.heap.size, 1, none⟩) (v := .string p) (by simp))
    refine (c_spec_l13Open (d ++ p) _ (by rw [HS.out]; omega)).mono ?_
    rintro e w2 ⟨g, k, rfl, own, hb2⟩
    go_wp2
    exact bodyPost_ret (v := .tuple #[.slice (some ⟨g, 0, none⟩) (logAt (d ++ p) 0 0).length k, .bool true]) (by simp [results, Tryd.results29, go_sem]) rfl ⟨_, _, _, rfl, fun h => absurd h (by decide), fun _ => ⟨rfl, _, rfl, own_le own (by have := Below.size hb1; simp at this; omega)⟩, by (repeat (first | with_reducible assumption | with_reducible exact Ext.refl _ | with_reducible refine Ext.alloc ?_ _ | with_reducible refine Ext.drew ?_ | with_reducible refine Ext.drewN ?_ _ | refine Ext.setCell ?_ (by first | (simp only [World.size_alloc, World.size_setCell]; omega) | omega) _ | with_reducible refine Ext.trans ?_ (by with_reducible assumption)))⟩
set_option maxHeartbeats 800000 in
theorem c_impl_LogRecords (d p : ByteArray) (n : Int) (w : World) (hE : Env w) (hd : d.size ≤ 1048576) (hp : p.size ≤ 1048576) :
    Calls Tryd.prog 30 #[.agg #[.string d, .string p, .int .i64 n]] w fun e w' => ∃ a m k, e = .returned (.tuple #[.slice a m k, .bool (validB d p n)]) ∧ (validB d p n = false → m = 0) ∧
      (validB d p n = true → m = (logAt (d ++ p) 0 0).length ∧ ∃ g, a = some ⟨g, 0, none⟩ ∧ w'.ownsRow w.heap.size 27 2 (.slice (some ⟨g, 0, none⟩) m k) m (recCells (logAt (d ++ p) 0 0))) ∧ Ext w w' := by
  go_enter Tryd.func30, Tryd.ntmps30
  go_wp2_with fail
  refine (c_impl_recordsOf d p n _ (by (repeat (first | with_reducible assumption | with_reducible refine Env.alloc ?_ _ | with_reducible refine Env.drew ?_ | with_reducible refine Env.ext ?_ (by with_reducible assumption)))) hd hp).mono ?_
  rintro e w2 ⟨v, rfl, hf, ht, hb2⟩
  go_wp2
  cases hv : validB d p n
  · obtain rfl := hf hv
    exact bodyPost_ret (v := .tuple #[.slice none 0 0, .bool false]) (by simp [results, Tryd.results30, go_sem]) rfl ⟨_, _, _, rfl, fun _ => rfl, fun h => absurd h (by decide), by (repeat (first | with_reducible assumption | with_reducible exact Ext.refl _ | with_reducible refine Ext.alloc ?_ _ | with_reducible refine Ext.drew ?_ | with_reducible refine Ext.drewN ?_ _ | refine Ext.setCell ?_ (by first | (simp only [World.size_alloc, World.size_setCell]; omega) | omega) _ | with_reducible refine Ext.trans ?_ (by with_reducible assumption)))⟩
  · obtain ⟨g, k, rfl, own⟩ := ht hv
    exact bodyPost_ret (v := .tuple #[.slice (some ⟨g, 0, none⟩) (logAt (d ++ p) 0 0).length k, .bool true]) (by simp [results, Tryd.results30, go_sem]) rfl ⟨_, _, _, rfl, fun h => absurd h (by decide), fun _ => ⟨rfl, _, rfl, own_le own (by simp)⟩, by (repeat (first | with_reducible assumption | with_reducible exact Ext.refl _ | with_reducible refine Ext.alloc ?_ _ | with_reducible refine Ext.drew ?_ | with_reducible refine Ext.drewN ?_ _ | refine Ext.setCell ?_ (by first | (simp only [World.size_alloc, World.size_setCell]; omega) | omega) _ | with_reducible refine Ext.trans ?_ (by with_reducible assumption)))⟩
end Go.Proofs.YteapfbfoegphkaaDoor
