/-
  Walks: reading a record back.
-/
import Derived.Test.YteapfbfoegphkaaDoorW4
import Derived.Test.YteapfbfoegphkaaDoorP5
namespace Go.Proofs.YteapfbfoegphkaaDoor
open Go.RowKit
set_option linter.unusedVariables false
set_option linter.unusedSimpArgs false

theorem cut1 (s : ByteArray) (c : UInt8) (w : World) (he : Env w) (hs : s.size ≤ 1000000000) :
    Calls Tryd.prog 75 #[.string s, .string ⟨#[c]⟩] w fun e w' => e = .returned (.tuple #[.string (cutA s (c.toNat : Int)), .string (cutZ s (c.toNat : Int)), .bool (hasByte s (c.toNat : Int))]) ∧ Ext w w' := by
  obtain ⟨m, hm⟩ := he.2
  refine (Tryd.strings_Cut s ⟨#[c]⟩ m w (by omega) hm).mono fun e w' ⟨h, n, k⟩ => ?_
  rw [k]
  refine ⟨?_, (Ext.refl w).drewN n⟩
  rw [h, show (⟨#[c]⟩ : ByteArray).data.toList = [c] from rfl, cut_up]
  rfl
set_option maxHeartbeats 400000 in
theorem c_impl_VerifyChecksum (s : ByteArray) (w : World) (he : Env w) (hs : s.size ≤ 1000000000) :
    Calls Tryd.prog 84 #[.string s] w fun e w' => e = .returned (.tuple #[.string (verStr s), .bool (verOk s)]) ∧ Ext w w' := by
  have hE := Lib.hid he
  clear he
  have hz := cutA_size s 35
  have hm : (cutA s 35).size ≤ maxLen := by unfold maxLen; omega
  go_enter Tryd.func84, Tryd.ntmps84
  go_wp2_with (first | (go_at_call 75; refine (cut1 _ 35 _ hE.out (by omega)).mono ?_; rintro e w1 ⟨rfl, hb1⟩; have hE1 := Lib.hid (hE.out.ext hb1)) | (go_at_call 49; refine (c_impl_AppendChecksum _ _ hE1.out hm).mono ?_; rintro e w2 ⟨rfl, hb2⟩))
  all_goals (go_ret2; refine ⟨ret_sb ?_ ?_, by (repeat (first | with_reducible assumption | with_reducible exact Ext.refl _ | with_reducible refine Ext.alloc ?_ _ | with_reducible refine Ext.drew ?_ | with_reducible refine Ext.drewN ?_ _ | refine Ext.setCell ?_ (by simp) _ | with_reducible refine Ext.trans ?_ (by with_reducible assumption)))⟩)
  all_goals simp only [verStr, verOk, fits, Array.getD]
  all_goals simp_all
  all_goals (first | done | grind)
set_option maxHeartbeats 800000 in
theorem c_impl_readRecord (k : Int) (s : ByteArray) (w : World) (he : Env w) (hs : s.size ≤ 1000000000) :
    Calls Tryd.prog 76 #[.int .i64 k, .string s] w fun e w' => e = .returned (.tuple #[.agg #[.string (rcI s), .string (rrI s)], .bool (okI k s)]) ∧ Ext w w' := by
  have hE := Lib.hid he
  clear he
  cases hv : verOk s
  · have HV := Lib.hid hv
    have e1 := Lib.hid (show rcI s = ⟨#[]⟩ by simp [rcI, hv])
    have e2 := Lib.hid (show rrI s = ⟨#[]⟩ by simp [rrI, hv])
    have e3 := Lib.hid (show okI k s = false by simp [okI, hv])
    clear hv
    go_enter Tryd.func76, Tryd.ntmps76
    go_wp2_with (go_at_call 84; refine (c_impl_VerifyChecksum _ _ (hE.out.alloc _) hs).mono ?_; rintro e w1 ⟨rfl, hb1⟩; rw [HV.out]; obtain ⟨hc1, hf1, hz1⟩ := hb1.cells; simp only [World.size_alloc] at hc1 hf1 hz1)
    refine bodyPost_ret (v := .tuple #[.agg #[.string (rcI s), .string (rrI s)], .bool (okI k s)]) ?_ rfl ⟨rfl, by (repeat (first | with_reducible assumption | with_reducible exact Ext.refl _ | with_reducible refine Ext.alloc ?_ _ | with_reducible refine Ext.drew ?_ | with_reducible refine Ext.drewN ?_ _ | refine Ext.setCell ?_ (by simp) _ | with_reducible refine Ext.trans ?_ (by with_reducible assumption)))⟩
    rw [e1.out, e2.out, e3.out]
    simp [results, Tryd.results76, go_sem, hc1]
  · have HV := Lib.hid hv
    have e1 := Lib.hid (show rcI s = cutA (cutZ (cutA s 35) 32) 64 by simp [rcI, hv])
    have e2 := Lib.hid (show rrI s = cutZ (cutZ (cutA s 35) 32) 64 by simp [rrI, hv])
    have e4 := Lib.hid (show verStr s = cutA s 35 by simp [verStr, hv])
    have e3 := Lib.hid (show okI k s = (encOk k (cutA (cutZ (cutA s 35) 32) 64) (cutZ (cutZ (cutA s 35) 32) 64) && ((encStr k (cutA (cutZ (cutA s 35) 32) 64) (cutZ (cutZ (cutA s 35) 32) 64)).toList == (s ++ ⟨#[10]⟩ : ByteArray).toList)) by unfold okI; rw [e1.out, e2.out, hv, Bool.true_and])
    clear hv
    have z1 := cutA_size s 35
    have z2 := cutZ_size (cutA s 35) 32
    have z3 := cutA_size (cutZ (cutA s 35) 32) 64
    have z4 := cutZ_size (cutZ (cutA s 35) 32) 64
    go_enter Tryd.func76, Tryd.ntmps76
    go_wp2_with fail
    refine (c_impl_VerifyChecksum _ _ (hE.out.alloc _) hs).mono ?_
    rintro e w1 ⟨rfl, hb1⟩
    rw [HV.out, e4.out]
    obtain ⟨hc1, hf1, hz1⟩ := hb1.cells
    simp only [World.size_alloc] at hc1 hf1 hz1
    have hE1 := Lib.hid ((hE.out.alloc (.cells #[.string ⟨#[]⟩, .string ⟨#[]⟩] 27)).ext hb1)
    go_wp2_with fail
    refine (cut1 _ 32 _ hE1.out (by omega)).mono ?_
    rintro e w2 ⟨rfl, hb2⟩
    obtain ⟨hc2, hf2, hz2⟩ := hb2.cells
    have hE2 := Lib.hid (hE1.out.ext hb2)
    go_wp2_with fail
    refine (cut1 _ 64 _ hE2.out (by show (cutZ (cutA s 35) 32).size ≤ _; omega)).mono ?_
    rintro e w3 ⟨rfl, hb3⟩
    obtain ⟨hc3, hf3, hz3⟩ := hb3.cells
    have hE3 := Lib.hid ((hE2.out.ext hb3).alloc (.cells #[.string (cutA (cutZ (cutA s 35) 32) 64), .string (cutZ (cutZ (cutA s 35) 32) 64)] 27))
    go_wp2_with fail
    refine (c_impl_EncodeRecord _ _ _ _ hE3.out (by unfold maxLen; show (cutA (cutZ (cutA s 35) 32) 64).size ≤ _; omega) (by unfold maxLen; show (cutZ (cutZ (cutA s 35) 32) 64).size ≤ _; omega)).mono ?_
    rintro e w4 ⟨rfl, hb4⟩
    obtain ⟨hc4, hf4, hz4⟩ := hb4.cells
    simp only [World.size_alloc] at hc4 hf4 hz4
    have hx : Ext (w.alloc (.cells #[.string ⟨#[]⟩, .string ⟨#[]⟩] 27)) w4 := by (repeat (first | with_reducible assumption | with_reducible exact Ext.refl _ | with_reducible refine Ext.alloc ?_ _ | with_reducible refine Ext.drew ?_ | with_reducible refine Ext.drewN ?_ _ | refine Ext.setCell ?_ (by simp) _ | with_reducible refine Ext.trans ?_ (by with_reducible assumption)))
    have g0 := hx.keep (p := ⟨w.heap.size, 0, none⟩) (v := .string ⟨#[]⟩) (by simp)
    have g1 := hx.keep (p := ⟨w.heap.size, 1, none⟩) (v := .string ⟨#[]⟩) (by simp)
    go_wp2
    all_goals refine bodyPost_ret (v := .tuple #[.agg #[.string (rcI s), .string (rrI s)], .bool (okI k s)]) ?_ rfl ⟨rfl, by (repeat (first | with_reducible assumption | with_reducible exact Ext.refl _ | with_reducible refine Ext.alloc ?_ _ | with_reducible refine Ext.drew ?_ | with_reducible refine Ext.drewN ?_ _ | refine Ext.setCell ?_ (by simp) _ | with_reducible refine Ext.trans ?_ (by with_reducible assumption)))⟩
    all_goals rw [e1.out, e2.out, e3.out]
    all_goals simp_all [results, Tryd.results76, go_sem]
end Go.Proofs.YteapfbfoegphkaaDoor
