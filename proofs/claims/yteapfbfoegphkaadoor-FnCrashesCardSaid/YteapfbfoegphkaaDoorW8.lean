/-
  Walks: the reference reads the records at the beginning of bytes.
-/
import Derived.Test.YteapfbfoegphkaaDoorW6
import Derived.Test.YteapfbfoegphkaaDoorP6
import Derived.Deep.DeepMust
namespace Go.Proofs.YteapfbfoegphkaaDoor
open Go.RowKit
set_option linter.unusedVariables false
set_option linter.unusedSimpArgs false
attribute [local irreducible] decS sumL sumB sealB textB lineB encOk encStr acOk acStr pieces mkB piecesB splitB upL behL cutA cutZ verOk verStr rcI rrI okI aheadS preS restS atS rcS rrS okS inR okByte printed hasByte fits someB cmdB recB
attribute [local irreducible] fromB logFrom logAt stepB nextP endOf recCells endCells

theorem infoRecS : (Tryd.prog.info? 27).map (fun i => (i.zero, i.size, i.bytes)) = some (some (.agg #[.string ⟨#[]⟩, .string ⟨#[]⟩]), 2, 32) := by kernel_rfl
/-- What the loop holds at its head. -/
def OpenRel (s : ByteArray) (w : World) (v a : Value) (wr : World) : Prop :=
  ∃ (p : Nat) (L : List (ByteArray × ByteArray × Nat)) (g1 c1 : Nat), v = .slice (some ⟨g1, 0, none⟩) L.length c1 ∧ a = .int .i64 p ∧ p ≤ s.size ∧ L.length ≤ 60 ∧
    wr.ownsRow w.heap.size 27 2 (.slice (some ⟨g1, 0, none⟩) L.length c1) L.length (recCells L) ∧ Ext w wr ∧ Hid (logAt s 0 0 = L ++ logAt s p L.length) ∧ Hid (p = endOf L)
/-- What the call hands back. -/
def OpenPost (s : ByteArray) (w : World) (e : Ending) (w' : World) : Prop :=
  ∃ g c, e = .returned (.tuple #[.slice (some ⟨g, 0, none⟩) (logAt s 0 0).length c, .int .i64 (endOf (logAt s 0 0))]) ∧
      w'.ownsRow w.heap.size 27 2 (.slice (some ⟨g, 0, none⟩) (logAt s 0 0).length c) (logAt s 0 0).length (recCells (logAt s 0 0)) ∧ Ext w w'
theorem open_stop {s : ByteArray} {w wr w' : World} {L : List (ByteArray × ByteArray × Nat)} {p g1 c1 : Nat} (hL : logAt s p L.length = []) (own : wr.ownsRow w.heap.size 27 2 (.slice (some ⟨g1, 0, none⟩) L.length c1) L.length (recCells L))
    (HL : Hid (logAt s 0 0 = L ++ logAt s p L.length)) (HE : Hid (p = endOf L)) (hx : Ext w wr) (hb : Ext wr w') : OpenPost s w (.returned (.tuple #[.slice (some ⟨g1, 0, none⟩) L.length c1, .int .i64 p])) w' := by
  have e : logAt s 0 0 = L := by rw [HL.out, hL, List.append_nil]
  unfold OpenPost
  rw [e, ← HE.out]
  exact ⟨g1, c1, rfl, ownsRow_ext own hb, hx.trans hb⟩
set_option maxRecDepth 100000 in
set_option maxHeartbeats 1600000 in
theorem c_spec_l13Open (s : ByteArray) (w : World) (hs : s.size ≤ 1000000000) :
    Calls Tryd.prog 51 #[.string s] w (OpenPost s w) := by
  obtain ⟨i0, hi, hz0, hz1, hz2⟩ := info_parts infoRecS
  go_enter Tryd.func51, Tryd.ntmps51
  go_wp2
  go_loopw [4, 5] (fun v a wr => OpenRel s w v a wr) (fun _ a _ => s.size - (intOf a).toNat)
  case atStart =>
    exact ⟨0, [], w.heap.size, 0, rfl, rfl, Nat.zero_le _, by decide, by rw [recCells_nil]; exact World.ownsRow_made _ #[] 0 (Nat.le_refl _) (by decide) rfl, (Ext.refl _).alloc _, Lib.hid rfl, Lib.hid (by rw [endOf_nil])⟩
  case round =>
    obtain ⟨p, L, g1, c1, rfl, rfl, hp, hL, own1, hx, HL, HE⟩ := hrel
    have hz := fromB_size s p
    have ha := cutA_size (fromB s p) 10
    by_cases hlt : p < s.size
    · by_cases h60 : L.length < 60
      · obtain ⟨r1, hr1, hr2⟩ := splitB_head (fromB s p) 10
        have HR1 := Lib.hid hr1
        obtain ⟨hok, hrr⟩ := okS_okI (k := L.length) (cutA (fromB s p) 10) (by omega) (by omega)
        clear hr1
        cases h1 : hasByte (fromB s p) 10
        · have hr0 : r1 = [] := hr2.2 h1
          subst hr0
          have HS := Lib.hid (logAt_stop s p L.length hp (by unfold stepB; rw [h1]; rfl))
          clear h1 hr2 hok hrr
          go_wp2_with (first | (go_at_call 73; go_must (rw [fromB_eq]; refine (c_spec_l1Split _ _ _ (by omega)).mono ?_; rintro e w2 ⟨g, cap, rfl, hown, hb2⟩; rw [HR1.out] at hown ⊢; have hcell := own_cell hown 0 (.string (cutA (fromB s p) 10)) rfl)) | (go_at_call 74; go_must (refine (c_spec_l13Decode _ _ _ (by omega) (by omega) (by omega)).mono ?_; rintro e w3 ⟨rfl, hb3⟩)))
          all_goals go_ret2
          all_goals exact open_stop HS.out own1 HL HE hx ((hb2.trans hb3).alloc _)
        · have hne : r1 ≠ [] := fun h => by rw [hr2.1 h] at h1; cases h1
          have hlen : ¬ ((r1.length : Int) + 1 < 2) := by
            have : r1.length ≠ 0 := fun h => hne (List.eq_nil_of_length_eq_zero h)
            omega
          cases h2 : okI L.length (cutA (fromB s p) 10)
          · have H2 := Lib.hid (hok.trans h2)
            have HS := Lib.hid (logAt_stop s p L.length hp (by unfold stepB; rw [h1, h2]; rfl))
            clear h1 h2 hr2 hok hrr hne
            go_wp2_with (first | (go_at_call 73; go_must (rw [fromB_eq]; refine (c_spec_l1Split _ _ _ (by omega)).mono ?_; rintro e w2 ⟨g, cap, rfl, hown, hb2⟩; rw [HR1.out] at hown ⊢; have hcell := own_cell hown 0 (.string (cutA (fromB s p) 10)) rfl)) | (go_at_call 74; go_must (refine (c_spec_l13Decode _ _ _ (by omega) (by omega) (by omega)).mono ?_; rintro e w3 ⟨rfl, hb3⟩; rw [H2.out])))
            all_goals go_ret2
            all_goals exact open_stop HS.out own1 HL HE hx ((hb2.trans hb3).alloc _)
          · have H2 := Lib.hid (hok.trans h2)
            have HC := Lib.hid (hrr h2).1
            have HR := Lib.hid (hrr h2).2
            have HS := Lib.hid (logAt_step s p L.length hp (by unfold stepB; rw [h1, h2]; rfl))
            have HN := Lib.hid (nextP_eq s p)
            have hn := nextP_le s p hp h1
            have l1 := own_lt own1
            have hsz := Below.size hx
            clear h1 h2 hr2 hok hrr hne
            go_wp2_with (first | (go_at_call 73; go_must (rw [fromB_eq]; refine (c_spec_l1Split _ _ _ (by omega)).mono ?_; rintro e w2 ⟨g, cap, rfl, hown, hb2⟩; rw [HR1.out] at hown ⊢; have hcell := own_cell hown 0 (.string (cutA (fromB s p) 10)) rfl; have lg := own_lt hown)) | (go_at_call 74; go_must (refine (c_spec_l13Decode _ _ _ (by omega) (by omega) (by omega)).mono ?_; rintro e w3 ⟨rfl, hb3⟩; rw [H2.out, HC.out, HR.out]; have hcell3 := hb3.keep hcell; have hsz3 := Below.size (hb2.trans hb3); have lg3 := own_lt (ownsRow_ext hown hb3))) | (at_builtin; go_must (refine wpList_append_lies _ rfl (.tmp 39) (.tmp 41) 48 rfl w.heap.size 27 i0 _ 2 32 Tryd.underlying48 hi hz0 hz1 hz2 rfl (by decide) (.slice (some ⟨g1, 0, none⟩) L.length c1) L.length _ rfl (((ownsRow_ext own1 (hb2.trans hb3)).alloc _).alloc _) ⟨w3.heap.size + 1, 0, none⟩ 1 1 [.string (rcI (cutA (fromB s p) 10)), .string (rrI (cutA (fromB s p) 10))] rfl rfl (one_cell (by simp)) (by simp [Value.oneCell']) (by decide) (by unfold maxLen; omega) (by omega) (by simp; omega) (w3.heap.size + 2) (by simp) ?_; intro g4 c4 w4 own4 grow4 hat4 hlt4; have hsz4 := grow4.size; simp only [World.size_alloc] at hsz4; have hcell4 := grow4.cell (a := ⟨g, 0, none⟩) (v := .string (cutA (fromB s p) 10)) ((((Ext.refl _).alloc _).alloc _).keep hcell3) (by simp only [Value.ownBlock, ne_eq, Option.some.injEq]; omega))))
            have k4 := own_lt own4
            have e1 : (L ++ [(rcI (cutA (fromB s p) 10), rrI (cutA (fromB s p) 10), nextP s p)]).length = L.length + 1 := by simp
            go_roundw
            case rel =>
              refine ⟨nextP s p, L ++ [(rcI (cutA (fromB s p) 10), rrI (cutA (fromB s p) 10), nextP s p)], g4, c4, ?_, ?_, hn, by rw [e1]; omega, ?_, ?_, Lib.hid ?_, Lib.hid ?_⟩
              · rw [e1]
              · rw [HN.out]; go_num
              · rw [e1, recCells_snoc]; exact own4
              · exact ((((hx.trans hb2).trans hb3).alloc _).alloc _).grown grow4 (((ownsRow_ext own1 (hb2.trans hb3)).alloc _).alloc _) (Nat.le_refl _)
              · rw [HL.out, HS.out, e1]; simp
              · rw [endOf_snoc]
            case measure =>
              have := HN.out
              simp [intOf]
              omega
      · have HS := Lib.hid (logAt_stop s p L.length hp (stepB_big s p L.length (by omega)))
        go_wp2
        go_ret2
        exact open_stop HS.out own1 HL HE hx (Ext.refl _)
    · have HS := Lib.hid (logAt_stop s p L.length hp (stepB_end s p L.length (by omega)))
      go_wp2
      go_ret2
      exact open_stop HS.out own1 HL HE hx (Ext.refl _)
end Go.Proofs.YteapfbfoegphkaaDoor
