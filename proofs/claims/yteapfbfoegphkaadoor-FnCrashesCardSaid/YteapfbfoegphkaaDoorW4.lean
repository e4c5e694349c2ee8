/-
  Walks: splitting.
-/
import Derived.Test.YteapfbfoegphkaaDoorW3
import Derived.Test.YteapfbfoegphkaaDoorP3
namespace Go.Proofs.YteapfbfoegphkaaDoor
open Go.RowKit
set_option linter.unusedVariables false
set_option linter.unusedSimpArgs false

theorem infoStr : (Tryd.prog.info? 9).map (fun i => (i.zero, i.size, i.bytes)) = some (some (.string ⟨#[]⟩), 1, 16) := by kernel_rfl
set_option maxHeartbeats 1000000 in
theorem c_spec_l1Split (s : ByteArray) (b : Int) (w : World) (hs : s.size ≤ 1000000000) :
    Calls Tryd.prog 73 #[.string s, .int .u8 b] w fun e w' => ∃ g cap, e = .returned (.slice (some ⟨g, 0, none⟩) (splitB s b).length cap) ∧
      w'.ownsRow w.heap.size 9 1 (.slice (some ⟨g, 0, none⟩) (splitB s b).length cap) (splitB s b).length ((splitB s b).map .string) ∧ Ext w w' := by
  obtain ⟨i0, hi, hz0, hz1, hz2⟩ := info_parts infoStr
  go_enter Tryd.func73, Tryd.ntmps73
  go_wp2
  go_loopw [5, 6, 7] (fun v fr i wr => ∃ (k f : Nat) (L : List ByteArray), k ≤ s.size ∧ f ≤ k ∧ fr = .int .i64 f ∧ i = .int .i64 k ∧ wr.ownsRow w.heap.size 9 1 v L.length (L.map .string) ∧ L.length ≤ k ∧ Ext w wr ∧ Hid (splitB s b = L ++ piecesB s b f k)) (fun _ _ i _ => s.size - (intOf i).toNat)
  case atStart => exact ⟨0, 0, [], Nat.zero_le _, Nat.le_refl _, rfl, rfl, World.ownsRow_made _ #[] 0 (Nat.le_refl _) (by decide) rfl, Nat.le_refl _, (Ext.refl _).alloc _, Lib.hid rfl⟩
  case round =>
    obtain ⟨k, f, L, hk, hf, rfl, rfl, hown, hL, hx, HP⟩ := hrel
    by_cases hlt : k < s.size
    · have hb0 := byte_lt s k hlt
      cases h2 : (s[k].toNat : Int) == b
      · have HM := Lib.hid (piecesB_miss s b f k hlt hf h2)
        go_wp2
        go_roundw
        case rel => exact ⟨k + 1, f, L, by omega, by omega, rfl, by go_num, hown, by omega, hx, Lib.hid (by rw [HP.out, HM.out])⟩
        case measure => simp [intOf]; omega
      · have HM := Lib.hid (piecesB_hit s b f k hlt h2)
        go_wp2_with (at_builtin; refine wpList_append_lies _ rfl _ _ 90 rfl w.heap.size 9 i0 _ 1 16 Tryd.underlying90 hi hz0 hz1 hz2 rfl (by decide) _ L.length _ rfl (hown.alloc _) ⟨wr.heap.size, 0, none⟩ 1 1 [.string (s.extract f k)] rfl rfl (one_cell rfl) (by simp [Value.oneCell']) (by decide) (by unfold maxLen; omega) (by omega) (by have := Below.size hx; simp; omega) (wr.heap.size + 1) (by simp) ?_; intro g cap w1 hown1 hgrow hat hlt1)
        go_roundw
        case rel =>
          refine ⟨k + 1, k + 1, L ++ [s.extract f k], by omega, by omega, by go_num, by go_num, ?_, by simp; omega, (hx.alloc _).grown hgrow (hown.alloc _) (Nat.le_refl _), Lib.hid (by rw [HP.out, HM.out]; simp)⟩
          rw [List.length_append, List.map_append]; exact hown1
        case measure => simp [intOf]; omega
    · have HM := Lib.hid (piecesB_end s b f k hlt hk)
      have hfs : f ≤ s.size := by omega
      go_wp2_with (at_builtin; refine wpList_append_lies _ rfl _ _ 90 rfl w.heap.size 9 i0 _ 1 16 Tryd.underlying90 hi hz0 hz1 hz2 rfl (by decide) _ L.length _ rfl (hown.alloc _) ⟨wr.heap.size, 0, none⟩ 1 1 [.string (s.extract f s.size)] rfl rfl (one_cell rfl) (by simp [Value.oneCell']) (by decide) (by unfold maxLen; omega) (by omega) (by have := Below.size hx; simp; omega) (wr.heap.size + 1) (by simp) ?_; intro g cap w1 hown1 hgrow hat hlt1)
      go_ret
      have e : splitB s b = L ++ [s.extract f s.size] := by rw [HP.out, HM.out]
      rw [e]
      refine ⟨g, cap, by simp, ?_, (hx.alloc _).grown hgrow (hown.alloc _) (Nat.le_refl _)⟩
      rw [List.length_append, List.map_append]; exact hown1
end Go.Proofs.YteapfbfoegphkaaDoor
