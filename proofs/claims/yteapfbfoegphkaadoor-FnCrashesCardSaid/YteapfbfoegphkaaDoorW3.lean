/-
  Walks: the encodings of records.
-/
import Derived.Test.YteapfbfoegphkaaDoorW2
namespace Go.Proofs.YteapfbfoegphkaaDoor
open Go.RowKit
set_option linter.unusedVariables false
set_option linter.unusedSimpArgs false

set_option maxHeartbeats 400000 in
theorem c_spec_l13Line (k : Int) (c r : ByteArray) (w : World) (hk : 0 ≤ k) (hk1 : k ≤ 1000000) (hc : c.size ≤ 160) (hr : r.size ≤ 200) :
    Calls Tryd.prog 47 #[.int .i64 k, .agg #[.string c, .string r]] w fun e w' => e = .returned (.string (lineB k c r)) ∧ Ext w w' := by
  have z1 := decS_len k (by omega) (by omega)
  have z2 := textB_le (k := k) (by omega) (by omega) hc hr
  have b := sumB_bd (textB k c r)
  have z3 := decS_len (sumB (textB k c r)) (by omega) (by omega)
  have e2 := sealB_size (textB k c r)
  have z4 : (sealB (textB k c r)).size ≤ 500 := by omega
  have HT := Lib.hid (show textB k c r = decS k ++ ⟨#[32]⟩ ++ c ++ ⟨#[64]⟩ ++ r from rfl)
  have Z2 := Lib.hid z2
  clear e2 b z3
  go_enter Tryd.func47, Tryd.ntmps47
  go_wp2_with fail
  go_quiet (first | ((go_at_call 69; refine Calls.quiet_of (c_spec_l1Num _ _ (by omega) (by omega)))) | ((go_at_call 68; rw [← HT.out]; refine Calls.quiet_of (c_spec_l1Seal _ _ (by omega)))))
  go_wp2
  go_ret
  exact ⟨rfl, by (repeat (first | with_reducible assumption | with_reducible exact Ext.refl _ | with_reducible refine Ext.alloc ?_ _ | with_reducible refine Ext.drew ?_ | with_reducible refine Ext.drewN ?_ _ | refine Ext.setCell ?_ (by simp) _ | with_reducible refine Ext.trans ?_ (by with_reducible assumption)))⟩
set_option maxHeartbeats 400000 in
theorem c_spec_EncodeRecord (k : Int) (c r : ByteArray) (w : World) (hc : c.size ≤ maxLen) (hr : r.size ≤ maxLen) :
    Calls Tryd.prog 13 #[.int .i64 k, .agg #[.string c, .string r]] w fun e w' => e = .returned (.tuple #[.string (encStr k c r), .bool (encOk k c r)]) ∧ Ext w w' := by
  cases h1 : inR k 0 59
  · have H1 := Lib.hid h1
    clear h1
    go_enter Tryd.func13, Tryd.ntmps13
    go_wp2_with (first | (go_at_call 45; refine (c_spec_l1In _ _ _ _).mono ?_; rintro e w' ⟨rfl, rfl⟩; rw [H1.out]) | (go_at_call 46; refine (c_spec_l13Record _ _ _ hc hr).mono ?_; rintro e w1 ⟨rfl, hb1⟩; obtain ⟨hc1, hf1, hz1⟩ := hb1.cells; (try simp only [World.size_alloc] at hc1 hf1 hz1)))
    all_goals (go_ret2; refine ⟨ret_sb ?_ ?_, by (repeat (first | with_reducible assumption | with_reducible exact Ext.refl _ | with_reducible refine Ext.alloc ?_ _ | with_reducible refine Ext.drew ?_ | with_reducible refine Ext.drewN ?_ _ | refine Ext.setCell ?_ (by simp) _ | with_reducible refine Ext.trans ?_ (by with_reducible assumption)))⟩)
    all_goals simp [encStr, encOk, H1.out]
  · have H1 := Lib.hid h1
    have hk : 0 ≤ k ∧ k ≤ 59 := by simpa [inR] using h1
    clear h1
    obtain ⟨hk0, hk1⟩ := hk
    cases h2 : recB c r
    · have H2 := Lib.hid h2
      clear h2
      go_enter Tryd.func13, Tryd.ntmps13
      go_wp2_with (first | (go_at_call 45; refine (c_spec_l1In _ _ _ _).mono ?_; rintro e w' ⟨rfl, rfl⟩; rw [H1.out]) | (go_at_call 46; refine (c_spec_l13Record _ _ _ hc hr).mono ?_; rintro e w1 ⟨rfl, hb1⟩; rw [H2.out]))
      all_goals (go_ret2; refine ⟨ret_sb ?_ ?_, by (repeat (first | with_reducible assumption | with_reducible exact Ext.refl _ | with_reducible refine Ext.alloc ?_ _ | with_reducible refine Ext.drew ?_ | with_reducible refine Ext.drewN ?_ _ | refine Ext.setCell ?_ (by simp) _ | with_reducible refine Ext.trans ?_ (by with_reducible assumption)))⟩)
      all_goals simp [encStr, encOk, H2.out]
    · have H2 := Lib.hid h2
      obtain ⟨q1, q2, _, _, _, _⟩ := recB_parts h2
      clear h2
      go_enter Tryd.func13, Tryd.ntmps13
      go_wp2_with (first | (go_at_call 45; refine (c_spec_l1In _ _ _ _).mono ?_; rintro e w' ⟨rfl, rfl⟩; rw [H1.out]) | (go_at_call 46; refine (c_spec_l13Record _ _ _ hc hr).mono ?_; rintro e w1 ⟨rfl, hb1⟩; rw [H2.out]; obtain ⟨hc1, hf1, hz1⟩ := hb1.cells; simp only [World.size_alloc] at hc1 hf1 hz1) | (go_at_call 47; refine (c_spec_l13Line _ _ _ _ (by omega) (by omega) q1 q2).mono ?_; rintro e w1 ⟨rfl, hb1⟩; obtain ⟨hc1, hf1, hz1⟩ := hb1.cells; (try simp only [World.size_alloc] at hc1 hf1 hz1)))
      all_goals (go_ret2; refine ⟨ret_sb ?_ ?_, by (repeat (first | with_reducible assumption | with_reducible exact Ext.refl _ | with_reducible refine Ext.alloc ?_ _ | with_reducible refine Ext.drew ?_ | with_reducible refine Ext.drewN ?_ _ | refine Ext.setCell ?_ (by simp) _ | with_reducible refine Ext.trans ?_ (by with_reducible assumption)))⟩)
      all_goals simp [encStr, encOk, H1.out, H2.out]
set_option maxHeartbeats 400000 in
theorem c_impl_EncodeRecord (k : Int) (c r : ByteArray) (w : World) (he : Env w) (hc : c.size ≤ maxLen) (hr : r.size ≤ maxLen) :
    Calls Tryd.prog 15 #[.int .i64 k, .agg #[.string c, .string r]] w fun e w' => e = .returned (.tuple #[.string (encStr k c r), .bool (encOk k c r)]) ∧ Ext w w' := by
  have hE := Lib.hid he
  clear he
  cases h1 : inR k 0 59
  · have H1 := Lib.hid h1
    clear h1
    go_enter Tryd.func15, Tryd.ntmps15
    go_wp2_with (first | (go_at_call 48; refine (c_impl_within _ _ _ _).mono ?_; rintro e w' ⟨rfl, rfl⟩; rw [H1.out]))
    all_goals (go_ret2; refine ⟨ret_sb ?_ ?_, by (repeat (first | with_reducible assumption | with_reducible exact Ext.refl _ | with_reducible refine Ext.alloc ?_ _ | with_reducible refine Ext.drew ?_ | with_reducible refine Ext.drewN ?_ _ | refine Ext.setCell ?_ (by simp) _ | with_reducible refine Ext.trans ?_ (by with_reducible assumption)))⟩)
    all_goals simp [encStr, encOk, H1.out]
  · have H1 := Lib.hid h1
    have hk : 0 ≤ k ∧ k ≤ 59 := by simpa [inR] using h1
    obtain ⟨hk0, hk1⟩ := hk
    cases h2 : recB c r
    · have H2 := Lib.hid h2
      clear h1 h2
      go_enter Tryd.func15, Tryd.ntmps15
      go_wp2_with (first | (go_at_call 48; refine (c_impl_within _ _ _ _).mono ?_; rintro e w' ⟨rfl, rfl⟩; rw [H1.out]) | (go_at_call 40; refine (c_impl_IsValidRecord _ _ _ hc hr).mono ?_; rintro e w1 ⟨rfl, hb1⟩; rw [H2.out]))
      all_goals (go_ret2; refine ⟨ret_sb ?_ ?_, by (repeat (first | with_reducible assumption | with_reducible exact Ext.refl _ | with_reducible refine Ext.alloc ?_ _ | with_reducible refine Ext.drew ?_ | with_reducible refine Ext.drewN ?_ _ | refine Ext.setCell ?_ (by simp) _ | with_reducible refine Ext.trans ?_ (by with_reducible assumption)))⟩)
      all_goals simp [encStr, encOk, H2.out]
    · have H2 := Lib.hid h2
      obtain ⟨q1, q2, _, _, _, _⟩ := recB_parts h2
      have HO := Lib.hid (textB_ok (k := k) (c := c) (r := r) (by unfold encOk; rw [h1, h2]; rfl))
      clear h1 h2
      have z1 := decS_len k (by omega) (by omega)
      have HT := Lib.hid (show textB k c r = decS k ++ ⟨#[32]⟩ ++ c ++ ⟨#[64]⟩ ++ r from rfl)
      have Z2 := Lib.hid (textB_le (k := k) (by omega) (by omega) q1 q2)
      go_enter Tryd.func15, Tryd.ntmps15
      go_wp2_with (first | (go_at_call 48; refine (c_impl_within _ _ _ _).mono ?_; rintro e w' ⟨rfl, rfl⟩; rw [H1.out]) | (go_at_call 40; refine (c_impl_IsValidRecord _ _ _ hc hr).mono ?_; rintro e w1 ⟨rfl, hb1⟩; rw [H2.out]))
      have hE1 := Lib.hid ((hE.out.alloc (.cells #[.string c, .string r] 27)).ext hb1)
      have g0 := hb1.keep (show (w.alloc (.cells #[.string c, .string r] 27)).cell? ⟨w.heap.size, 0, none⟩ = some (.string c) by simp)
      have g1 := hb1.keep (show (w.alloc (.cells #[.string c, .string r] 27)).cell? ⟨w.heap.size, 1, none⟩ = some (.string r) by simp)
      have n1 : ¬ 9223372036854775807 < (decS k).size + 1 := by omega
      have n2 : ¬ 9223372036854775807 < (decS k).size + 1 + c.size := by omega
      have n3 : ¬ 9223372036854775807 < (decS k).size + 1 + c.size + 1 := by omega
      have n4 : ¬ 9223372036854775807 < (decS k).size + 1 + c.size + 1 + r.size := by omega
      have z5 := acStr_size (textB k c r)
      go_region_held3 (fun w' => w'.cell? ⟨w.heap.size, 0, none⟩ = some (.string c) ∧ w'.cell? ⟨w.heap.size, 1, none⟩ = some (.string r) ∧ Env w' ∧ Ext w w')
        (first | exact ⟨g0, g1, hE1.out.drew, (((Ext.refl _).alloc _).trans hb1).drew⟩ | exact ⟨(hb2.keep g0), (hb2.keep g1), hE1.out.drew.ext hb2, (((Ext.refl _).alloc _).trans hb1).drew.trans hb2⟩ | exact ⟨hb3.keep g2, hb3.keep g3, hE2.ext hb3, hx2.trans hb3⟩ | fail)
        (first | (go_at_call 50; refine (c_impl_dec _ _ (hE1.out.drew) (by omega) (by omega)).mono ?_; rintro e w2 ⟨rfl, hb2⟩) | (go_at_call 49; rw [← HT.out]; refine (c_impl_AppendChecksum _ _ (hE1.out.drew.ext hb2) (by have := Z2.out; unfold maxLen; omega)).mono ?_; rintro e w3 ⟨rfl, hb3⟩; have g2 := hb2.keep g0; have g3 := hb2.keep g1; have hE2 := hE1.out.drew.ext hb2; have hx2 := (((Ext.refl w).alloc (.cells #[.string c, .string r] 27)).trans hb1).drew.trans hb2))
      go_wp2
      go_ret2
      refine ⟨ret_sb ?_ ?_, hx2.trans hb3⟩
      · rw [encStr, encOk, H1.out, H2.out]
        show acStr (textB k c r) ++ _ = lineB k c r
        rw [acStr, HO.out]
        rfl
      · rw [encOk, H1.out, H2.out]
        exact HO.out
end Go.Proofs.YteapfbfoegphkaaDoor
