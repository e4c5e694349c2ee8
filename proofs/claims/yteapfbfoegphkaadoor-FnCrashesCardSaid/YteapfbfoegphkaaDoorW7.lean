/-
  Walks: the program reads the records at the beginning of bytes.
-/
import Derived.Test.YteapfbfoegphkaaDoorW5
import Derived.Test.YteapfbfoegphkaaDoorP6
import Derived.Deep.DeepMust
namespace Go.Proofs.YteapfbfoegphkaaDoor
open Go.RowKit
set_option linter.unusedVariables false
set_option linter.unusedSimpArgs false
attribute [local irreducible] decS sumL sumB sealB textB lineB encOk encStr acOk acStr pieces mkB piecesB splitB upL behL cutA cutZ verOk verStr rcI rrI okI aheadS preS restS atS rcS rrS okS inR okByte printed hasByte fits someB cmdB recB
attribute [local irreducible] fromB logFrom logAt stepB nextP endOf recCells endCells

theorem infoRec : (Tryd.prog.info? 27).map (fun i => (i.zero, i.size, i.bytes)) = some (some (.agg #[.string ⟨#[]⟩, .string ⟨#[]⟩]), 2, 32) := by kernel_rfl
theorem infoInt : (Tryd.prog.info? 3).map (fun i => (i.zero, i.size, i.bytes)) = some (some (.int .i64 0), 1, 8) := by kernel_rfl
set_option maxHeartbeats 1600000 in
theorem c_impl_readRecords (s : ByteArray) (w : World) (he : Env w) (hs : s.size ≤ 1000000000) :
    Calls Tryd.prog 52 #[.string s] w fun e w' => ∃ g1 c1 g2 c2, e = .returned (.tuple #[.slice (some ⟨g1, 0, none⟩) (logAt s 0 0).length c1, .slice (some ⟨g2, 0, none⟩) (logAt s 0 0).length c2]) ∧
      w'.ownsRow w.heap.size 27 2 (.slice (some ⟨g1, 0, none⟩) (logAt s 0 0).length c1) (logAt s 0 0).length (recCells (logAt s 0 0)) ∧
      w'.ownsRow w.heap.size 3 1 (.slice (some ⟨g2, 0, none⟩) (logAt s 0 0).length c2) (logAt s 0 0).length (endCells (logAt s 0 0)) ∧ Ext w w' := by
  obtain ⟨i0, hi, hz0, hz1, hz2⟩ := info_parts infoRec
  obtain ⟨j0, hj, hy0, hy1, hy2⟩ := info_parts infoInt
  go_enter Tryd.func52, Tryd.ntmps52
  go_wp2
  go_loopw [4, 5, 6] (fun v1 v2 a wr => ∃ (p : Nat) (L : List (ByteArray × ByteArray × Nat)) (g1 c1 g2 c2 : Nat), v1 = .slice (some ⟨g1, 0, none⟩) L.length c1 ∧ v2 = .slice (some ⟨g2, 0, none⟩) L.length c2 ∧ a = .int .i64 p ∧ p ≤ s.size ∧ L.length ≤ 60 ∧
      wr.ownsRow w.heap.size 27 2 (.slice (some ⟨g1, 0, none⟩) L.length c1) L.length (recCells L) ∧ wr.ownsRow w.heap.size 3 1 (.slice (some ⟨g2, 0, none⟩) L.length c2) L.length (endCells L) ∧ g1 ≠ g2 ∧ Ext w wr ∧ Hid (logAt s 0 0 = L ++ logAt s p L.length))
    (fun _ _ a _ => s.size - (intOf a).toNat)
  case atStart =>
    exact ⟨0, [], w.heap.size, 0, w.heap.size + 1, 0, rfl, rfl, rfl, Nat.zero_le _, by decide, by rw [recCells_nil]; exact (World.ownsRow_made _ #[] 0 (Nat.le_refl _) (by decide) rfl).alloc _, by have h := World.ownsRow_made (e := 3) (size := 1) (base := w.heap.size) (w.alloc (.cells #[] 27)) #[] 0 (by simp) (by decide) rfl; rw [endCells_nil]; simpa using h, by omega, by (repeat (first | with_reducible assumption | with_reducible exact Ext.refl _ | with_reducible refine Ext.alloc ?_ _ | with_reducible refine Ext.drew ?_ | with_reducible refine Ext.drewN ?_ _ | refine Ext.setCell ?_ (by simp) _ | with_reducible refine Ext.trans ?_ (by with_reducible assumption))), Lib.hid rfl⟩
  case round =>
    obtain ⟨p, L, g1, c1, g2, c2, rfl, rfl, rfl, hp, hL, own1, own2, hg, hx, HL⟩ := hrel
    have hew : Env wr := he.ext hx
    have hz := fromB_size s p
    have ha := cutA_size (fromB s p) 10
    cases h1 : hasByte (fromB s p) 10
    · have H1 := Lib.hid h1
      have HS := Lib.hid (logAt_stop s p L.length hp (by unfold stepB; rw [h1]; rfl))
      clear h1
      go_wp2_with (go_at_call 75; rw [fromB_eq]; refine (cut1 _ 10 _ hew (by omega)).mono ?_; rintro e w1 ⟨rfl, hb1⟩; (try rw [show ((10 : UInt8).toNat : Int) = 10 from rfl]); rw [H1.out])
      go_ret2
      rw [show logAt s 0 0 = L by rw [HL.out, HS.out, List.append_nil]]
      exact ⟨g1, c1, g2, c2, rfl, ownsRow_ext own1 hb1, ownsRow_ext own2 hb1, hx.trans hb1⟩
    · have H1 := Lib.hid h1
      cases h2 : okI L.length (cutA (fromB s p) 10)
      · have H2 := Lib.hid h2
        have HS := Lib.hid (logAt_stop s p L.length hp (by unfold stepB; rw [h2, Bool.and_false]))
        clear h1 h2
        go_wp2_with (first | (go_at_call 75; rw [fromB_eq]; refine (cut1 _ 10 _ hew (by omega)).mono ?_; rintro e w1 ⟨rfl, hb1⟩; (try rw [show ((10 : UInt8).toNat : Int) = 10 from rfl]); rw [H1.out]; have hew1 := hew.ext hb1) | (go_at_call 76; refine (c_impl_readRecord _ _ _ hew1 (by omega)).mono ?_; rintro e w2 ⟨rfl, hb2⟩; rw [H2.out]))
        go_ret2
        rw [show logAt s 0 0 = L by rw [HL.out, HS.out, List.append_nil]]
        have hbb := (hb1.trans hb2).alloc (.cells #[.string (rcI (cutA (fromB s p) 10)), .string (rrI (cutA (fromB s p) 10))] 27)
        exact ⟨g1, c1, g2, c2, rfl, ownsRow_ext own1 hbb, ownsRow_ext own2 hbb, hx.trans hbb⟩
      · have H2 := Lib.hid h2
        have hk := okI_range h2
        have HS := Lib.hid (logAt_step s p L.length hp (by unfold stepB; rw [h1, h2]; rfl))
        have HN := Lib.hid (nextP_eq s p)
        have hn := nextP_le s p hp h1
        have hL59 : L.length ≤ 59 := by omega
        clear h1 h2 hk
        have l1 := own_lt own1
        have l2 := own_lt own2
        have hsz := Below.size hx
        have hb12 : ∀ {a b : World}, Ext wr a → Ext a b → Ext wr b := fun x y => x.trans y
        go_wp2_with (first | (go_at_call 75; rw [fromB_eq]; refine (cut1 _ 10 _ hew (by omega)).mono ?_; rintro e w1 ⟨rfl, hb1⟩; (try rw [show ((10 : UInt8).toNat : Int) = 10 from rfl]); rw [H1.out]; have hew1 := hew.ext hb1) | (go_at_call 76; refine (c_impl_readRecord _ _ _ hew1 (by omega)).mono ?_; rintro e w2 ⟨rfl, hb2⟩; rw [H2.out]; have hsz2 := Below.size (hb1.trans hb2)) | (at_builtin; refine wpList_append_lies _ rfl (.tmp 41) (.tmp 43) 48 rfl w.heap.size 27 i0 _ 2 32 Tryd.underlying48 hi hz0 hz1 hz2 rfl (by decide) (.slice (some ⟨g1, 0, none⟩) L.length c1) L.length _ rfl (((ownsRow_ext own1 (hb1.trans hb2)).alloc _).alloc _) ⟨w2.heap.size + 1, 0, none⟩ 1 1 [.string (rcI (cutA (fromB s p) 10)), .string (rrI (cutA (fromB s p) 10))] rfl rfl (one_cell (by simp)) (by simp [Value.oneCell']) (by decide) (by unfold maxLen; omega) (by omega) (by simp; omega) (w2.heap.size + 2) (by simp) ?_; intro g3 c3 w3 own3 grow3 hat3 hlt3; have hsz3 := grow3.size; simp only [World.size_alloc] at hsz3) | (at_builtin; refine wpList_append_lies _ rfl (.tmp 45) (.tmp 47) 71 rfl w.heap.size 3 j0 _ 1 8 Tryd.underlying71 hj hy0 hy1 hy2 rfl (by decide) (.slice (some ⟨g2, 0, none⟩) L.length c2) L.length _ rfl ((own_kept (((ownsRow_ext own2 (hb1.trans hb2)).alloc _).alloc _) grow3 (Ne.symm hg)).alloc _) ⟨w3.heap.size, 0, none⟩ 1 1 [.int .i64 (↑p + (↑(cutA (fromB s p) 10).size + 1))] rfl rfl (one_cell rfl) (by simp [Value.oneCell']) (by decide) (by unfold maxLen; omega) (by omega) (by simp; omega) (w3.heap.size + 1) (by simp) ?_; intro g4 c4 w4 own4 grow4 hat4 hlt4; have hsz4 := grow4.size; simp only [World.size_alloc] at hsz4))
        have k3 := own_lt own3
        have k4 := own_lt own4
        simp only [Value.ownBlock, Option.some.injEq] at hat3 hat4
        have ne34 : g3 ≠ g4 := by omega
        have e1 : (L ++ [(rcI (cutA (fromB s p) 10), rrI (cutA (fromB s p) 10), nextP s p)]).length = L.length + 1 := by simp
        go_roundw
        case rel =>
          refine ⟨nextP s p, L ++ [(rcI (cutA (fromB s p) 10), rrI (cutA (fromB s p) 10), nextP s p)], g3, c3, g4, c4, ?_, ?_, ?_, hn, by rw [e1]; omega, ?_, ?_, ne34, ?_, ?_⟩
          · rw [e1]
          · rw [e1]
          · rw [HN.out]; go_num
          · rw [e1, recCells_snoc]; exact own_kept (own3.alloc _) grow4 (by omega)
          · rw [e1, endCells_snoc, HN.out]
            have e2 : ((p : Int) + (((cutA (fromB s p) 10).size : Int) + 1)) = ((p + (cutA (fromB s p) 10).size + 1 : Nat) : Int) := by omega
            rw [← e2]
            exact own4
          · have hx2 : Ext w w2 := (hx.trans hb1).trans hb2
            have hx3 : Ext w w3 := (((hx2.alloc _).alloc _).grown grow3 (((ownsRow_ext own1 (hb1.trans hb2)).alloc _).alloc _) (Nat.le_refl _))
            exact (hx3.alloc _).grown grow4 ((own_kept (((ownsRow_ext own2 (hb1.trans hb2)).alloc _).alloc _) grow3 (Ne.symm hg)).alloc _) (Nat.le_refl _)
          · refine Lib.hid ?_
            rw [HL.out, HS.out, e1]
            simp
        case measure =>
          have := HN.out
          simp [intOf]
          omega
end Go.Proofs.YteapfbfoegphkaaDoor
