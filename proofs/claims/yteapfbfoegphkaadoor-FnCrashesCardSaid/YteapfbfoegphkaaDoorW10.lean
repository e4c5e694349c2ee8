/-
  Walks: valid logs.
-/
import Derived.Test.YteapfbfoegphkaaDoorW9
import Derived.Test.YteapfbfoegphkaaDoorP8
import Derived.Deep.DeepMust
namespace Go.Proofs.YteapfbfoegphkaaDoor
open Go.RowKit
set_option linter.unusedVariables false
set_option linter.unusedSimpArgs false
attribute [local irreducible] decS sumL sumB sealB textB lineB encOk encStr acOk acStr pieces mkB piecesB splitB upL behL cutA cutZ verOk verStr rcI rrI okI aheadS preS restS atS rcS rrS okS inR okByte printed hasByte fits someB cmdB recB
attribute [local irreducible] fromB logFrom logAt stepB nextP endOf recCells endCells recOk recDur recNum recEnd

set_option maxRecDepth 100000 in
set_option maxHeartbeats 1600000 in
theorem c_spec_l13Valid (d p : ByteArray) (n : Int) (w : World) (hd : d.size ≤ 1048576) (hp : p.size ≤ 1048576) :
    Calls Tryd.prog 53 #[.agg #[.string d, .string p, .int .i64 n]] w fun e w' => e = .returned (.bool (validB d p n)) ∧ Ext w w' := by
  rw [← validS_eq]
  have hs : (d ++ p).size = d.size + p.size := ByteArray.size_append
  have HS := Lib.hid hs
  clear hs
  by_cases h30 : d.size + p.size ≤ 30000
  · go_enter Tryd.func53, Tryd.ntmps53
    go_wp2_with fail
    refine (c_spec_l13Open (d ++ p) _ (by rw [HS.out]; omega)).mono ?_
    rintro e w1 ⟨g, c, rfl, own1, hb1⟩
    obtain ⟨hc1, hf1, hz1⟩ := hb1.cells
    simp only [World.size_alloc] at hc1 hf1 hz1
    go_wp2_with fail
    refine (c_spec_l13Open d _ (by omega)).mono ?_
    rintro e w2 ⟨g2, c2, rfl, own2, hb2⟩
    obtain ⟨hc2, hf2, hz2⟩ := hb2.cells
    go_wp2
    all_goals (go_ret; refine ⟨ret_bool ?_, by (repeat (first | with_reducible assumption | with_reducible exact Ext.refl _ | with_reducible refine Ext.alloc ?_ _ | with_reducible refine Ext.drew ?_ | with_reducible refine Ext.drewN ?_ _ | refine Ext.setCell ?_ (by simp) _ | with_reducible refine Ext.trans ?_ (by with_reducible assumption)))⟩)
    all_goals simp_all [validS]
  · go_enter Tryd.func53, Tryd.ntmps53
    go_wp2
    go_ret
    exact ⟨ret_bool (by simp [validS, h30]), by (repeat (first | with_reducible assumption | with_reducible exact Ext.refl _ | with_reducible refine Ext.alloc ?_ _ | with_reducible refine Ext.drew ?_ | with_reducible refine Ext.drewN ?_ _ | refine Ext.setCell ?_ (by simp) _ | with_reducible refine Ext.trans ?_ (by with_reducible assumption)))⟩
theorem own_le {w : World} {base base' : Nat} {e : TypeId} {size : Nat} {v : Value} {n : Nat} {xs : List Value} (h : w.ownsRow base e size v n xs) (hb : base' ≤ base) : w.ownsRow base' e size v n xs :=
  ⟨h.1, h.2.imp id fun ⟨g, cap, cur, a, b, r⟩ => ⟨g, cap, cur, a, Nat.le_trans hb b, r⟩⟩
theorem infoInt' : (Tryd.prog.info? 3).map (fun i => (i.zero, i.size, i.bytes)) = some (some (.int .i64 0), 1, 8) := by kernel_rfl
theorem endsB_len (s : ByteArray) : (endsB s).length = 1 + (logAt s 0 0).length := by simp [endsB]; omega
theorem endsB_cells (s : ByteArray) : [Value.int .i64 0] ++ endCells (logAt s 0 0) = (endsB s).map (Value.int .i64) := by
  unfold endsB endCells
  simp
theorem endsB_last (s : ByteArray) : (endsB s)[(logAt s 0 0).length]? = some (endOf (logAt s 0 0) : Int) := by
  unfold endsB endOf
  cases h : logAt s 0 0 with
  | nil => rfl
  | cons y l =>
    rw [List.length_cons, List.getElem?_cons_succ, List.getElem?_map, List.getLast?_eq_getElem?]
    simp
theorem cells_endsB {w : World} {base g n cap : Nat} {s : ByteArray} (h : w.ownsRow base 3 1 (.slice (some ⟨g, 0, none⟩) n cap) n ((endsB s).map (Value.int .i64))) : ∀ j, j < (endsB s).length → w.cell? ⟨g, 0 + j, none⟩ = some (.int .i64 ((endsB s).getD j 0)) := by
  intro j hj
  rw [Nat.zero_add]
  refine own_cell h j _ ?_
  rw [List.getElem?_map, List.getElem?_eq_getElem hj, List.getD_eq_getElem?_getD, List.getElem?_eq_getElem hj]
  rfl
attribute [local irreducible] endsB
set_option maxRecDepth 100000 in
set_option maxHeartbeats 1600000 in
theorem c_impl_recordsOf (d p : ByteArray) (n : Int) (w : World) (hE : Env w) (hd : d.size ≤ 1048576) (hp : p.size ≤ 1048576) :
    Calls Tryd.prog 54 #[.agg #[.string d, .string p, .int .i64 n]] w fun e w' => ∃ v, e = .returned (.tuple #[v, .bool (validB d p n)]) ∧ (validB d p n = false → v = .slice none 0 0) ∧
      (validB d p n = true → ∃ g c, v = .slice (some ⟨g, 0, none⟩) (logAt (d ++ p) 0 0).length c ∧ w'.ownsRow w.heap.size 27 2 v (logAt (d ++ p) 0 0).length (recCells (logAt (d ++ p) 0 0))) ∧ Ext w w' := by
  have hs : (d ++ p).size = d.size + p.size := ByteArray.size_append
  by_cases h30 : d.size + p.size ≤ 30000
  · obtain ⟨j0, hj, hy0, hy1, hy2⟩ := info_parts infoInt'
    have hle := logAt_len (d ++ p)
    have heo := endOf_le (d ++ p)
    have hel := endsB_len (d ++ p)
    have hlast := Lib.hid (endsB_last (d ++ p))
    have hcl := Lib.hid (endsB_cells (d ++ p))
    have hV : Hid (validB d p n = (decide (endOf (logAt (d ++ p) 0 0) = (d ++ p).size) && ((endsB (d ++ p)).contains (d.size : Int) && (n == ((logAt (d ++ p) 0 0).length : Int))))) := Lib.hid (by unfold validB; simp [h30])
    have hVt : Hid (validB d p n = true ↔ ((endOf (logAt (d ++ p) 0 0) : Int) = (d.size : Int) + (p.size : Int) ∧ (d.size : Int) ∈ endsB (d ++ p) ∧ (n != ((logAt (d ++ p) 0 0).length : Int)) = false)) := Lib.hid (by
      rw [hV.out, Bool.and_eq_true, Bool.and_eq_true, decide_eq_true_eq, List.contains_iff_mem, bne_eq_false_iff_eq, beq_iff_eq, hs]
      constructor
      · rintro ⟨a, b, c⟩; exact ⟨by omega, b, c⟩
      · rintro ⟨a, b, c⟩; exact ⟨by omega, b, c⟩)
    go_enter Tryd.func54, Tryd.ntmps54
    go_wp2_with fail
    refine (c_impl_readRecords (d ++ p) _ (by (repeat (first | with_reducible assumption | with_reducible refine Env.alloc ?_ _ | with_reducible refine Env.drew ?_ | with_reducible refine Env.ext ?_ (by with_reducible assumption)))) (by omega)).mono ?_
    rintro e w2 ⟨g1, c1, g2, c2, rfl, own1, own2, hb2⟩
    have l1 := own_lt own1
    have l2 := own_lt own2
    go_wp2_with (first | (at_builtin; refine wpList_append_own_at _ rfl (.tmp 25) (.tmp 26) 71 rfl w.heap.size 3 j0 _ 1 8 Tryd.underlying71 hj hy0 hy1 hy2 rfl (by decide) (.slice (some ⟨w2.heap.size, 0, none⟩) 1 1) 1 [.int .i64 0] rfl (World.ownsRow_lit w2 #[.int .i64 0] 1 (by have := Below.size hb2; simp at this; omega) (by decide) rfl) ⟨g2, 0, none⟩ _ c2 (endCells (logAt (d ++ p) 0 0)) rfl (by simp [endCells]) (by have := (own2.alloc (.cells #[.int .i64 0] 3)).cells rfl; exact this) (by unfold endCells; intro u hu; obtain ⟨x, _, rfl⟩ := List.mem_map.1 hu; rfl) (by unfold maxLen; omega) (by omega) (by have := Below.size hb2; simp at this; simp; omega) ?_; intro v3 w3 own3 grow3 hnil3 hat3; (obtain ⟨g3, c3, rfl, _, _⟩ := own3.form (by omega); rw [Nat.add_comm] at own3; rw [hcl.out] at own3; have k3 := own_lt own3; have hlc := own_cell own3 (logAt (d ++ p) 0 0).length _ (by rw [List.getElem?_map, hlast.out]; rfl); have hb3 := Ext.grown (hb2.alloc (.cells #[.int .i64 0] 3)) grow3 (World.ownsRow_lit (base := w.heap.size + 1) (e := 3) (size := 1) w2 #[.int .i64 0] 1 (by have := Below.size hb2; simp at this; omega) (by decide) rfl) (by simp); have q0 := hb3.keep (p := ⟨w.heap.size, 0, none⟩) (v := .string d) (by simp); have q2 := hb3.keep (p := ⟨w.heap.size, 2, none⟩) (v := .int .i64 n) (by simp); have own1' := (ownsRow_ext own1 (Ext.grown ((Ext.refl w2).alloc (.cells #[.int .i64 0] 3)) grow3 (World.ownsRow_lit (base := w2.heap.size) (e := 3) (size := 1) w2 #[.int .i64 0] 1 (Nat.le_refl _) (by decide) rfl) (Nat.le_refl _))); have hcc := Lib.hid (cells_endsB own3))) | (refine (Tryd.slices_Contains_int g3 0 _ c3 (endsB (d ++ p)) _ _ (by omega) (by omega) hcc.out).mono ?_; rintro e w4 ⟨rfl, rfl⟩; rw [List.take_of_length_le (by omega)]))
    all_goals first | (have hv : validB d p n = false := (Bool.eq_false_iff.2 fun h => by obtain ⟨q1, q2, q3⟩ := hVt.out.1 h; first | contradiction | (exact absurd ‹(n != _) = true› (by rw [q3]; decide))); refine bodyPost_ret (v := .tuple #[.slice none 0 0, .bool (validB d p n)]) (by rw [hv]; simp [results, Tryd.results54, go_sem]) rfl ⟨_, rfl, fun _ => rfl, fun h => absurd h (by rw [hv]; decide), by (repeat (first | with_reducible assumption | with_reducible exact Ext.refl _ | with_reducible refine Ext.alloc ?_ _ | with_reducible refine Ext.drew ?_ | with_reducible refine Ext.drewN ?_ _ | refine Ext.setCell ?_ (by simp) _ | with_reducible refine Ext.trans ?_ (by with_reducible assumption)))⟩) | (have hv : validB d p n = true := hVt.out.2 ⟨by assumption, by assumption, by assumption⟩; refine bodyPost_ret (v := .tuple #[.slice (some ⟨g1, 0, none⟩) (logAt (d ++ p) 0 0).length c1, .bool (validB d p n)]) (by rw [hv]; simp [results, Tryd.results54, go_sem]) rfl ⟨_, rfl, fun h => absurd h (by rw [hv]; decide), fun _ => ⟨_, _, rfl, own_le own1' (by simp)⟩, by (repeat (first | with_reducible assumption | with_reducible exact Ext.refl _ | with_reducible refine Ext.alloc ?_ _ | with_reducible refine Ext.drew ?_ | with_reducible refine Ext.drewN ?_ _ | refine Ext.setCell ?_ (by simp) _ | with_reducible refine Ext.trans ?_ (by with_reducible assumption)))⟩)
  · go_enter Tryd.func54, Tryd.ntmps54
    go_wp2
    have hV : validB d p n = false := by unfold validB; simp [h30]
    refine bodyPost_ret (v := .tuple #[.slice none 0 0, .bool (validB d p n)]) ?_ rfl ⟨_, rfl, fun _ => rfl, fun h => absurd h (by rw [hV]; decide), by (repeat (first | with_reducible assumption | with_reducible exact Ext.refl _ | with_reducible refine Ext.alloc ?_ _ | with_reducible refine Ext.drew ?_ | with_reducible refine Ext.drewN ?_ _ | refine Ext.setCell ?_ (by simp) _ | with_reducible refine Ext.trans ?_ (by with_reducible assumption)))⟩
    rw [hV]
    simp [results, Tryd.results54, go_sem]
set_option maxHeartbeats 400000 in
theorem c_spec_IsValidLog (d p : ByteArray) (n : Int) (w : World) (hd : d.size ≤ 1048576) (hp : p.size ≤ 1048576) :
    Calls Tryd.prog 20 #[.agg #[.string d, .string p, .int .i64 n]] w fun e w' => e = .returned (.bool (validB d p n)) ∧ Ext w w' := by
  go_enter Tryd.func20, Tryd.ntmps20
  go_wp2_with (go_at_call 53; refine (c_spec_l13Valid _ _ _ _ hd hp).mono ?_; rintro e w1 ⟨rfl, hb1⟩; obtain ⟨hc1, hf1, hz1⟩ := hb1.cells; (try simp only [World.size_alloc] at hc1 hf1 hz1))
  go_ret
  exact ⟨rfl, by (repeat (first | with_reducible assumption | with_reducible exact Ext.refl _ | with_reducible refine Ext.alloc ?_ _ | with_reducible refine Ext.drew ?_ | with_reducible refine Ext.drewN ?_ _ | refine Ext.setCell ?_ (by simp) _ | with_reducible refine Ext.trans ?_ (by with_reducible assumption)))⟩
set_option maxHeartbeats 400000 in
theorem c_impl_IsValidLog (d p : ByteArray) (n : Int) (w : World) (hE : Env w) (hd : d.size ≤ 1048576) (hp : p.size ≤ 1048576) :
    Calls Tryd.prog 22 #[.agg #[.string d, .string p, .int .i64 n]] w fun e w' => e = .returned (.bool (validB d p n)) ∧ Ext w w' := by
  go_enter Tryd.func22, Tryd.ntmps22
  go_wp2_with (go_at_call 54; refine (c_impl_recordsOf d p n _ (by (repeat (first | with_reducible assumption | with_reducible refine Env.alloc ?_ _ | with_reducible refine Env.drew ?_ | with_reducible refine Env.ext ?_ (by with_reducible assumption)))) hd hp).mono ?_; rintro e w1 ⟨v, rfl, _, _, hb1⟩)
  go_ret
  exact ⟨rfl, by (repeat (first | with_reducible assumption | with_reducible exact Ext.refl _ | with_reducible refine Ext.alloc ?_ _ | with_reducible refine Ext.drew ?_ | with_reducible refine Ext.drewN ?_ _ | refine Ext.setCell ?_ (by simp) _ | with_reducible refine Ext.trans ?_ (by with_reducible assumption)))⟩
end Go.Proofs.YteapfbfoegphkaaDoor
