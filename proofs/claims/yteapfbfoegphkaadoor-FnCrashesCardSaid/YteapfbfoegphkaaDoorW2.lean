/-
  Walks: decimals and checksums.
-/
import Derived.Test.YteapfbfoegphkaaDoorW1
import Derived.Test.YteapfbfoegphkaaDoorP2
import Derived.Deep.RegionHeld3
import Derived.Deep.DrawnRows
import Derived.Deep.DeepMust
import Derived.Deep.DeepFit
namespace Go.Proofs.YteapfbfoegphkaaDoor
open Go.RowKit
set_option linter.unusedVariables false
set_option linter.unusedSimpArgs false

/-- What the library reads of its own variables. -/
def Env (w : World) : Prop := Lib.TabIs Tryd.prog w "internal/strconv.uint64pow10" .u64 Lib.pow10Tab ∧ ∃ m, w.cell? ⟨0, 0, none⟩ = some (.int .i64 m)
theorem pow10At : Tryd.prog.globalNamed "internal/strconv.uint64pow10" = some 1 := by kernel_rfl
theorem Env.ext {a w : World} (h : Env a) (hb : Ext a w) : Env w := ⟨hb.var pow10At h.1, by obtain ⟨m, hm⟩ := h.2; exact ⟨m, hb.keep hm⟩⟩
theorem Env.alloc {w : World} (h : Env w) (o : Obj) : Env (w.alloc o) := h.ext ((Ext.refl _).alloc o)
theorem Env.drew {w : World} (h : Env w) : Env w.drew := h.ext ((Ext.refl _).drew)
set_option maxHeartbeats 400000 in
theorem c_impl_dec (n : Int) (w : World) (he : Env w) (h0 : -9223372036854775808 ≤ n) (h1 : n ≤ 9223372036854775807) :
    Calls Tryd.prog 50 #[.int .i64 n] w fun e w' => e = .returned (.string (decS n)) ∧ Ext w w' := by
  have hE := Lib.hid he
  have H0 := Lib.hid h0
  have H1 := Lib.hid h1
  clear he h0 h1
  go_enter Tryd.func50, Tryd.ntmps50
  go_wp2_with fail
  refine (Tryd.strconv_Itoa n H0.out H1.out _ hE.out.1).mono ?_
  rintro e w' ⟨rfl, k, os, rfl⟩
  go_wp2
  go_ret
  exact ⟨rfl, ((Ext.refl _).drewN k).grow os⟩
set_option maxHeartbeats 400000 in
theorem l1Num_pos (fuel : Nat) : ∀ (u : Int) (w : World), u < fuel → 0 ≤ u → u ≤ 9223372036854775807 →
    Calls Tryd.prog 69 #[.int .i64 u] w fun e w' => e = .returned (.string (decS u)) ∧ ∃ n, w' = w.drewN n := by
  induction fuel with
  | zero => intro u w h; omega
  | succ fuel ih =>
    intro u w hu h0 hm
    have IH := Lib.hid ih
    clear ih
    obtain ⟨k, rfl⟩ := Int.eq_ofNat_of_zero_le h0
    by_cases h10 : k < 10
    · have hp := Lib.hid (decS_small k h0 (by omega))
      go_enter Tryd.func69, Tryd.ntmps69
      go_wp2_with fail
      go_ret
      exact ⟨ret_str (by have h := hp.out; rw [Int.toNat_natCast] at h; exact h), 0, rfl⟩
    · have hp := Lib.hid (decS_big k (by omega))
      have e1 := IntWalk.i64_in ((k : Int) / 10) (by omega)
      have e2 : (k : Int).tmod 10 = (k : Int) % 10 := Int.tmod_eq_emod_of_nonneg (by omega)
      have e3 := IntWalk.i64_in ((k : Int) % 10 + 1) (by omega)
      have z1 := decS_len ((k : Int) / 10) (by omega) (by omega)
      have z2 := decS_len ((k : Int) % 10) (by omega) (by omega)
      have hsl : ∀ wx, (Instr.slice 9 (.string ⟨#[48, 49, 50, 51, 52, 53, 54, 55, 56, 57]⟩) (some (.int .i64 ((k : Int) % 10))) (some (.int .i64 ((k : Int) % 10 + 1))) none).run Tryd.prog wx = .ok (.string (decS ((k : Int) % 10))) wx := by
        intro wx
        rw [run_slice_string wx 9 _ .i64 .i64 ((k : Int) % 10) ((k : Int) % 10 + 1) Tryd.underlying9 (by omega) (by omega) (by show (_ : Int) ≤ ((10 : Nat) : Int); omega), ← decS_small ((k : Int) % 10) (by omega) (by omega), show ((k : Int) % 10 + 1).toNat = ((k : Int) % 10).toNat + 1 by omega]
      go_enter Tryd.func69, Tryd.ntmps69
      go_wp2_with fail
      go_quiet ((go_at_call 69; refine Calls.quiet_of (IH.out _ _ (by omega) (by omega) (by omega))))
      go_wp2
      go_ret
      exact ⟨ret_str hp.out, _, rfl⟩
theorem c_spec_l1Num (u : Int) (w : World) (h0 : -9223372036854775807 ≤ u) (h1 : u ≤ 9223372036854775807) :
    Calls Tryd.prog 69 #[.int .i64 u] w fun e w' => e = .returned (.string (decS u)) ∧ ∃ n, w' = w.drewN n := by
  by_cases h : 0 ≤ u
  · exact l1Num_pos (u.toNat + 1) u w (by omega) h h1
  · have hp := Lib.hid (decS_neg u (by omega))
    have z1 := decS_len (-u) (by omega) (by omega)
    have hneg : u < 0 := by omega
    go_enter Tryd.func69, Tryd.ntmps69
    go_wp2_with fail
    refine (l1Num_pos ((-u).toNat + 1) (-u) _ (by omega) (by omega) (by omega)).mono ?_
    rintro e w' ⟨rfl, n, rfl⟩
    go_wp2
    go_ret
    exact ⟨ret_str hp.out, n, rfl⟩
theorem l1NumX (u : Int) (w : World) (h0 : -9223372036854775807 ≤ u) (h1 : u ≤ 9223372036854775807) :
    Calls Tryd.prog 69 #[.int .i64 u] w fun e w' => e = .returned (.string (decS u)) ∧ Ext w w' :=
  (c_spec_l1Num u w h0 h1).mono fun _ _ ⟨h, n, k⟩ => ⟨h, by rw [k]; exact (Ext.refl w).drewN n⟩
set_option maxHeartbeats 400000 in
theorem c_spec_l1Sum (s : ByteArray) (w : World) (hs : s.size ≤ maxLen) :
    Calls Tryd.prog 80 #[.string s] w fun e w' => e = .returned (.int .i64 (sumB s)) ∧ w = w' := by
  unfold maxLen at hs
  go_enter Tryd.func80, Tryd.ntmps80
  go_wp2
  go_loop [3, 4] (fun h i => ∃ k : Nat, k ≤ s.size ∧ i = .int .i64 k ∧ h = .int .i64 (sumL 7 (s.data.toList.take k))) (fun _ i => s.size - (intOf i).toNat)
  case atStart => exact ⟨0, Nat.zero_le _, rfl, rfl⟩
  case round =>
    obtain ⟨k, hk, rfl, rfl⟩ := hrel
    have hd := sumL_bd 7 (s.data.toList.take k) (by decide) (by decide)
    obtain ⟨hd0, hd1⟩ := hd
    by_cases hlt : k < s.size
    · have hb := byte_lt s k hlt
      have HS : Hid (sumL 7 (s.data.toList.take (k + 1)) = (41 * sumL 7 (s.data.toList.take k) + (s[k].toNat : Int) + 1) % 999979) := by rw [take_snoc s k hlt]; exact sumL_snoc _ _ _
      go_wp2
      go_round
      case rel => exact ⟨k + 1, by omega, by go_num, by rw [HS.out]⟩
      case measure => simp [intOf]; omega
    · go_wp2
      go_ret
      exact ⟨ret_int (by rw [take_all s k hlt]; rfl), rfl⟩
set_option maxHeartbeats 400000 in
theorem c_impl_checksum (s : ByteArray) (w : World) (hs : s.size ≤ maxLen) :
    Calls Tryd.prog 71 #[.string s] w fun e w' => e = .returned (.int .i64 (sumB s)) ∧ w = w' := by
  unfold maxLen at hs
  go_enter Tryd.func71, Tryd.ntmps71
  go_wp2
  go_loop [3, 4, 7] (fun h _ i => ∃ k : Nat, k ≤ s.size ∧ i = .int .i64 k ∧ h = .int .i64 (sumL 7 (s.data.toList.take k))) (fun _ _ i => s.size - (intOf i).toNat)
  case atStart => exact ⟨0, Nat.zero_le _, rfl, rfl⟩
  case round =>
    obtain ⟨k, hk, rfl, rfl⟩ := hrel
    have hd := sumL_bd 7 (s.data.toList.take k) (by decide) (by decide)
    obtain ⟨hd0, hd1⟩ := hd
    by_cases hlt : k < s.size
    · have hb := byte_lt s k hlt
      have HS : Hid (sumL 7 (s.data.toList.take (k + 1)) = (41 * sumL 7 (s.data.toList.take k) + (s[k].toNat : Int) + 1) % 999979) := by rw [take_snoc s k hlt]; exact sumL_snoc _ _ _
      go_wp2
      go_round
      case rel => exact ⟨k + 1, by omega, by go_num, by rw [HS.out]⟩
      case measure => simp [intOf]; omega
    · go_wp2
      go_ret
      exact ⟨ret_int (by rw [take_all s k hlt]; rfl), rfl⟩
set_option maxHeartbeats 400000 in
theorem c_spec_l1Seal (s : ByteArray) (w : World) (hs : s.size ≤ 1000000000) :
    Calls Tryd.prog 68 #[.string s] w fun e w' => e = .returned (.string (sealB s)) ∧ ∃ n, w' = w.drewN n := by
  have hb := sumB_bd s
  obtain ⟨hb0, hb1⟩ := hb
  have z1 := decS_len (sumB s) (by omega) (by omega)
  have hs' : s.size ≤ maxLen := by unfold maxLen; omega
  go_enter Tryd.func68, Tryd.ntmps68
  go_wp2_with (first | (go_at_call 80; refine (c_spec_l1Sum _ _ hs').mono ?_; rintro e w' ⟨rfl, rfl⟩) | (go_at_call 69; refine (c_spec_l1Num _ _ (by omega) (by omega)).mono ?_; rintro e w' ⟨rfl, n, rfl⟩))
  go_ret
  exact ⟨rfl, _, rfl⟩
set_option maxHeartbeats 400000 in
theorem c_impl_AppendChecksum (s : ByteArray) (w : World) (he : Env w) (hs : s.size ≤ maxLen) :
    Calls Tryd.prog 49 #[.string s] w fun e w' => e = .returned (.tuple #[.string (acStr s), .bool (acOk s)]) ∧ Ext w w' := by
  have hb := sumB_bd s
  obtain ⟨hb0, hb1⟩ := hb
  have z1 := decS_len (sumB s) (by omega) (by omega)
  have hE := Lib.hid he
  clear he
  have hs' : s.size ≤ 9223372036854775807 := by unfold maxLen at hs; omega
  go_enter Tryd.func49, Tryd.ntmps49
  go_wp2_with (first | (go_at_call 71; refine (c_impl_checksum _ _ hs).mono ?_; rintro e w' ⟨rfl, rfl⟩) | (go_at_call 70; refine (contains1 _ 35 _).mono ?_; rintro e w' ⟨rfl, rfl⟩) | (go_at_call 50; refine (c_impl_dec _ _ hE.out (by omega) (by omega)).mono ?_; rintro e w1 ⟨rfl, hb1⟩; obtain ⟨hc1, hf1, hz1⟩ := hb1.cells; (try simp only [World.size_alloc] at hc1 hf1 hz1)))
  all_goals (go_ret2; refine ⟨ret_sb ?_ ?_, by (repeat (first | with_reducible assumption | with_reducible exact Ext.refl _ | with_reducible refine Ext.alloc ?_ _ | with_reducible refine Ext.drew ?_ | with_reducible refine Ext.drewN ?_ _ | refine Ext.setCell ?_ (by simp) _ | with_reducible refine Ext.trans ?_ (by with_reducible assumption)))⟩)
  all_goals simp only [acStr, acOk, fits, sealB_size, Array.getD]
  all_goals simp_all
  all_goals grind [sealB]
end Go.Proofs.YteapfbfoegphkaaDoor
