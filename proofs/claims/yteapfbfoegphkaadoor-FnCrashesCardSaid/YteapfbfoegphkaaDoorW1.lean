/-
  Walks: strings, numbers in ranges, records.
-/
import Derived.Test.YteapfbfoegphkaaDoorRows
import Derived.Test.YteapfbfoegphkaaDoorShelf
import Derived.Test.YteapfbfoegphkaaDoorP1
import Derived.WalkSpells
import Derived.WalkLawsBesides
namespace Go.Proofs.YteapfbfoegphkaaDoor
open Go.RowKit
set_option linter.unusedVariables false
set_option linter.unusedSimpArgs false

theorem contains1 (s : ByteArray) (c : UInt8) (w : World) :
    Calls Tryd.prog 70 #[.string s, .string ⟨#[c]⟩] w fun e w' => e = .returned (.bool (hasByte s (c.toNat : Int))) ∧ w = w' :=
  (Tryd.strings_Contains_one s c w).mono fun _ _ ⟨h, k⟩ => ⟨by rw [h, contains_one], k.symm⟩
set_option maxHeartbeats 400000 in
theorem c_impl_within (n a b : Int) (w : World) :
    Calls Tryd.prog 48 #[.int .i64 n, .int .i64 a, .int .i64 b] w fun e w' => e = .returned (.bool (inR n a b)) ∧ w = w' := by
  by_cases h : a ≤ n
  · go_enter Tryd.func48, Tryd.ntmps48
    go_wp2
    go_ret
    exact ⟨by simp [inR, h], rfl⟩
  · go_enter Tryd.func48, Tryd.ntmps48
    go_wp2
    go_ret
    exact ⟨by simp [inR]; omega, rfl⟩
set_option maxHeartbeats 400000 in
theorem c_spec_l1In (n a b : Int) (w : World) :
    Calls Tryd.prog 45 #[.int .i64 n, .int .i64 a, .int .i64 b] w fun e w' => e = .returned (.bool (inR n a b)) ∧ w = w' := by
  by_cases h : a ≤ n
  · go_enter Tryd.func45, Tryd.ntmps45
    go_wp2
    go_ret
    exact ⟨by simp [inR, h], rfl⟩
  · go_enter Tryd.func45, Tryd.ntmps45
    go_wp2
    go_ret
    exact ⟨by simp [inR]; omega, rfl⟩

set_option maxHeartbeats 400000 in
theorem c_impl_isPrinted (s : ByteArray) (w : World) (hs : s.size ≤ maxLen) :
    Calls Tryd.prog 63 #[.string s] w fun e w' => e = .returned (.bool (printed s)) ∧ w = w' := by
  unfold maxLen at hs
  go_enter Tryd.func63, Tryd.ntmps63
  go_wp2
  go_loop [3, 6] (fun _ i => ∃ k : Nat, k ≤ s.size ∧ i = .int .i64 k ∧ (s.data.toList.take k).all okByte = true) (fun _ i => s.size - (intOf i).toNat)
  case atStart => exact ⟨0, Nat.zero_le _, rfl, by simp⟩
  case round =>
    obtain ⟨k, hk, rfl, hp⟩ := hrel
    have HP := Lib.hid hp
    clear hp
    by_cases hlt : k < s.size
    · have hb := byte_lt s k hlt
      cases h1 : inR (s[k].toNat : Int) 32 126
      · have H1 := Lib.hid h1
        clear h1
        go_wp2_with (go_at_call 48; refine (c_impl_within _ _ _ _).mono ?_; rintro e w' ⟨rfl, rfl⟩; rw [H1.out])
        go_ret
        exact ⟨ret_bool (all_at s okByte k hlt (by simp [okByte, H1.out])).symm, rfl⟩
      · have H1 := Lib.hid h1
        clear h1
        cases h2 : (s[k].toNat : Int) == 35
        · go_wp2_with (go_at_call 48; refine (c_impl_within _ _ _ _).mono ?_; rintro e w' ⟨rfl, rfl⟩; rw [H1.out])
          go_round
          case rel => exact ⟨k + 1, by omega, by go_num, by rw [take_snoc s k hlt, List.all_append, HP.out]; simp [okByte, H1.out, h2]⟩
          case measure => simp [intOf]; omega
        · go_wp2_with (go_at_call 48; refine (c_impl_within _ _ _ _).mono ?_; rintro e w' ⟨rfl, rfl⟩; rw [H1.out])
          go_ret
          exact ⟨ret_bool (all_at s okByte k hlt (by simp [okByte, h2])).symm, rfl⟩
    · go_wp2
      go_ret
      exact ⟨ret_bool (by rw [printed, ← take_all s k hlt, HP.out]), rfl⟩

set_option maxHeartbeats 400000 in
theorem c_spec_l13Bytes (s : ByteArray) (m : Int) (w : World) (hs : s.size ≤ maxLen) :
    Calls Tryd.prog 66 #[.string s, .int .i64 m] w fun e w' => e = .returned (.bool (printed s && fits s m)) ∧ w = w' := by
  unfold maxLen at hs
  go_enter Tryd.func66, Tryd.ntmps66
  go_wp2
  go_loop [5] (fun i => ∃ k : Nat, k ≤ s.size ∧ i = .int .i64 k ∧ (s.data.toList.take k).all okByte = true) (fun i => s.size - (intOf i).toNat)
  case atStart => exact ⟨0, Nat.zero_le _, rfl, by simp⟩
  case round =>
    obtain ⟨k, hk, rfl, hp⟩ := hrel
    have HP := Lib.hid hp
    clear hp
    by_cases hlt : k < s.size
    · have hb := byte_lt s k hlt
      cases h1 : inR (s[k].toNat : Int) 32 126
      · have H1 := Lib.hid h1
        clear h1
        go_wp2_with (go_at_call 45; refine (c_spec_l1In _ _ _ _).mono ?_; rintro e w' ⟨rfl, rfl⟩; rw [H1.out])
        go_ret
        exact ⟨ret_bool (by rw [printed, all_at s okByte k hlt (by simp [okByte, H1.out])]; rfl), rfl⟩
      · have H1 := Lib.hid h1
        clear h1
        cases h2 : (s[k].toNat : Int) == 35
        · go_wp2_with (go_at_call 45; refine (c_spec_l1In _ _ _ _).mono ?_; rintro e w' ⟨rfl, rfl⟩; rw [H1.out])
          go_round
          case rel => exact ⟨k + 1, by omega, by go_num, by rw [take_snoc s k hlt, List.all_append, HP.out]; simp [okByte, H1.out, h2]⟩
          case measure => simp [intOf]; omega
        · go_wp2_with (go_at_call 45; refine (c_spec_l1In _ _ _ _).mono ?_; rintro e w' ⟨rfl, rfl⟩; rw [H1.out])
          go_ret
          exact ⟨ret_bool (by rw [printed, all_at s okByte k hlt (by simp [okByte, h2])]; rfl), rfl⟩
    · go_wp2
      go_ret
      exact ⟨ret_bool (by rw [printed, ← take_all s k hlt, HP.out]; simp [fits]), rfl⟩

set_option maxHeartbeats 400000 in
theorem c_spec_l1Stands (s : ByteArray) (b : Int) (w : World) (hs : s.size ≤ maxLen) :
    Calls Tryd.prog 67 #[.string s, .int .u8 b] w fun e w' => e = .returned (.bool (hasByte s b)) ∧ w = w' := by
  unfold maxLen at hs
  go_enter Tryd.func67, Tryd.ntmps67
  go_wp2
  go_loop [5] (fun i => ∃ k : Nat, k ≤ s.size ∧ i = .int .i64 k ∧ (s.data.toList.take k).any (fun c => (c.toNat : Int) == b) = false) (fun i => s.size - (intOf i).toNat)
  case atStart => exact ⟨0, Nat.zero_le _, rfl, by simp⟩
  case round =>
    obtain ⟨k, hk, rfl, hp⟩ := hrel
    have HP := Lib.hid hp
    clear hp
    by_cases hlt : k < s.size
    · cases h2 : (s[k].toNat : Int) == b
      · go_wp2
        go_round
        case rel => exact ⟨k + 1, by omega, by go_num, by rw [take_snoc s k hlt, List.any_append, HP.out]; simp [h2]⟩
        case measure => simp [intOf]; omega
      · go_wp2
        go_ret
        exact ⟨ret_bool (any_at s _ k hlt (by simp [h2])).symm, rfl⟩
    · go_wp2
      go_ret
      exact ⟨ret_bool (by rw [hasByte, ← take_all s k hlt, HP.out]), rfl⟩

set_option maxHeartbeats 400000 in
theorem c_spec_l13Record (c r : ByteArray) (w : World) (hc : c.size ≤ maxLen) (hr : r.size ≤ maxLen) :
    Calls Tryd.prog 46 #[.agg #[.string c, .string r]] w fun e w' => e = .returned (.bool (recB c r)) ∧ Ext w w' := by
  go_enter Tryd.func46, Tryd.ntmps46
  go_wp2_with (first | (go_at_call 66; refine (c_spec_l13Bytes _ _ _ (by assumption)).mono ?_; rintro e w' ⟨rfl, rfl⟩) | (go_at_call 67; refine (c_spec_l1Stands _ _ _ (by assumption)).mono ?_; rintro e w' ⟨rfl, rfl⟩))
  all_goals (go_ret; refine ⟨ret_bool ?_, (Ext.refl _).alloc _⟩)
  all_goals (rw [recB_spec]; unfold someB; rw [← Lib.toList_data]; simp_all)
set_option maxHeartbeats 400000 in
theorem c_impl_isCommand (s : ByteArray) (w : World) (hs : s.size ≤ maxLen) :
    Calls Tryd.prog 62 #[.string s] w fun e w' => e = .returned (.bool (cmdB s)) ∧ w = w' := by
  have hs' := hs
  unfold maxLen at hs'
  go_enter Tryd.func62, Tryd.ntmps62
  go_wp2_with (first | (go_at_call 48; refine (c_impl_within _ _ _ _).mono ?_; rintro e w' ⟨rfl, rfl⟩) | (go_at_call 63; refine (c_impl_isPrinted _ _ (by assumption)).mono ?_; rintro e w' ⟨rfl, rfl⟩) | (go_at_call 70; refine (contains1 _ 64 _).mono ?_; rintro e w' ⟨rfl, rfl⟩))
  all_goals (go_ret; refine ⟨ret_bool ?_, rfl⟩)
  all_goals simp_all [cmdB]
set_option maxHeartbeats 400000 in
theorem c_impl_IsValidRecord (c r : ByteArray) (w : World) (hc : c.size ≤ maxLen) (hr : r.size ≤ maxLen) :
    Calls Tryd.prog 40 #[.agg #[.string c, .string r]] w fun e w' => e = .returned (.bool (recB c r)) ∧ Ext w w' := by
  go_enter Tryd.func40, Tryd.ntmps40
  go_wp2_with (first | (go_at_call 62; refine (c_impl_isCommand _ _ (by assumption)).mono ?_; rintro e w' ⟨rfl, rfl⟩) | (go_at_call 63; refine (c_impl_isPrinted _ _ (by assumption)).mono ?_; rintro e w' ⟨rfl, rfl⟩))
  all_goals (go_ret; refine ⟨ret_bool ?_, (Ext.refl _).alloc _⟩)
  all_goals (simp_all [recB, fits] <;> omega)
set_option maxHeartbeats 400000 in
theorem c_spec_IsValidRecord (c r : ByteArray) (w : World) (hc : c.size ≤ maxLen) (hr : r.size ≤ maxLen) :
    Calls Tryd.prog 41 #[.agg #[.string c, .string r]] w fun e w' => e = .returned (.bool (recB c r)) ∧ Ext w w' := by
  go_enter Tryd.func41, Tryd.ntmps41
  go_wp2_with fail
  refine (c_spec_l13Record c r _ hc hr).mono ?_
  rintro e w' ⟨rfl, hb⟩
  go_wp2
  go_ret
  exact ⟨rfl, ((Ext.refl _).alloc _).trans hb⟩
end Go.Proofs.YteapfbfoegphkaaDoor
