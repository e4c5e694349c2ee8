/-
  The law FnCrashes: its walk.
-/
import Derived.Test.YteapfbfoegphkaaDoorL9
import Derived.Test.YteapfbfoegphkaaDoorW12
namespace Go.Proofs.YteapfbfoegphkaaDoor
open Go.RowKit
set_option linter.unusedVariables false
set_option linter.unusedSimpArgs false
attribute [local irreducible] decS sumL sumB sealB textB lineB encOk encStr acOk acStr pieces mkB piecesB splitB upL behL cutA cutZ verOk verStr rcI rrI okI aheadS preS restS atS rcS rrS okS inR okByte printed hasByte fits someB cmdB recB
attribute [local irreducible] validB endsB logAt recCells recDur recNum recEnd recOk crashS crashOk byteAt setB spoil

theorem recDur_size (s : ByteArray) : (recDur s).size ≤ s.size := by
  unfold recDur
  split
  · rw [ByteArray.size_extract]; omega
  · exact Nat.zero_le _
set_option maxRecDepth 100000 in
set_option maxHeartbeats 3200000 in
theorem law_FnCrashes (a : Option Addr) (n k : Nat) (w : World) (he : Env w) (hb : BytesV w a n) (hk : n ≤ k) (hkm : k ≤ maxLen) (ha : a = none → k = 0) :
    Calls Tryd.prog 11 #[.slice a n k] w fun e w' => e = .returned (.bool true) ∧ Ext w w' := by
  by_cases hbig : 65536 < n
  · go_enter Tryd.func11, Tryd.ntmps11
    go_wp2_with (go_at_call 34; refine (c_laws_vBig _ _ _ _).mono ?_; rintro e w1 ⟨rfl, hb1⟩)
    go_ret
    exact ⟨rfl, by (repeat (first | with_reducible assumption | with_reducible exact Ext.refl _ | with_reducible refine Ext.alloc ?_ _ | with_reducible refine Ext.drew ?_ | with_reducible refine Ext.drewN ?_ _ | refine Ext.setCell ?_ (by first | (simp only [World.size_alloc, World.size_setCell]; omega) | omega) _ | with_reducible refine Ext.trans ?_ (by with_reducible assumption)))⟩
  · have ml : 8 ≤ maxLen := by decide
    have mL : 80000 ≤ maxLen := by decide
    have hnm : n ≤ maxLen := by omega
    go_enter Tryd.func11, Tryd.ntmps11
    go_wp2_with fail
    refine (c_laws_vBig _ _ _ _).mono ?_
    rintro e w1 ⟨rfl, x1⟩
    have b1 := hb.ext x1
    go_wp2_with fail
    refine (c_spec_DrawCrashLog _ _ _ _ b1 hnm).mono ?_
    rintro e w2 ⟨d, p, m, x, t, rfl, d1, p1, m0, m1, xx0, xx1, hx2⟩
    obtain ⟨q0, q1, q2, _, _, _⟩ := LogAt.new w2 31 d p m w2.heap.size rfl
    have x2 := (x1.trans hx2).alloc (.cells #[.string d, .string p, .int .i64 m] 31)
    go_wp2_with fail
    generalize w2.alloc (.cells #[.string d, .string p, .int .i64 m] 31) = W2 at q0 q1 q2 x2 ⊢
    clear b1 x1 hx2
    refine (c_impl_CrashLog d p m x t _ (Env.ext he x2) (by omega) (by omega)).mono ?_
    rintro e w3 ⟨rfl, hx3⟩
    replace q0 := hx3.keep q0
    replace q1 := hx3.keep q1
    replace q2 := hx3.keep q2
    go_wp2_with fail
    refine (c_spec_CrashLog d p m x t _ (by omega) (by omega)).mono ?_
    rintro e w4 ⟨rfl, hx4⟩
    replace q0 := hx4.keep q0
    replace q1 := hx4.keep q1
    replace q2 := hx4.keep q2
    have x4 := x2.trans (hx3.trans hx4)
    clear hx3 hx4 x2
    go_wp2_with fail
    refine (c_laws_vCut a n k 1 _ (hb.ext x4) (by omega) hk hkm ha (by decide)).mono ?_
    rintro e w5 ⟨g5, n5, k5, rfl, hn5, b5, hx5⟩
    go_wp2_with fail
    refine (c_spec_DrawRecoverLog _ _ _ _ b5 (by omega)).mono ?_
    rintro e w6 ⟨s', rfl, hs', hx6⟩
    have y6 := hx5.trans hx6
    have x6 := x4.trans y6
    replace q0 := y6.keep q0
    replace q1 := y6.keep q1
    replace q2 := y6.keep q2
    clear hx5 hx6 y6 x4 b5
    go_wp2_with fail
    refine (c_impl_RecoverLog s' _ (Env.ext he x6) (by omega)).mono ?_
    rintro e w7 ⟨rfl, hx7⟩
    obtain ⟨u0, u1, u2, _, _, _⟩ := LogAt.new w7 31 (recDur s') ⟨#[]⟩ (recNum s') w7.heap.size rfl
    have y7 := hx7.alloc (.cells #[.string (recDur s'), .string ⟨#[]⟩, .int .i64 (recNum s')] 31)
    have x7 := x6.trans y7
    replace q0 := y7.keep q0
    replace q1 := y7.keep q1
    replace q2 := y7.keep q2
    go_wp2_with fail
    generalize w7.alloc (.cells #[.string (recDur s'), .string ⟨#[]⟩, .int .i64 (recNum s')] 31) = W7 at u0 u1 u2 q0 q1 q2 x7 y7 ⊢
    clear x6 y7 hx7
    refine (c_spec_RecoverLog s' _ (by omega)).mono ?_
    rintro e w8 ⟨rfl, hx8⟩
    obtain ⟨v0, v1, v2, _, _, _⟩ := LogAt.new w8 31 (recDur s') ⟨#[]⟩ (recNum s') w8.heap.size rfl
    have y8 := hx8.alloc (.cells #[.string (recDur s'), .string ⟨#[]⟩, .int .i64 (recNum s')] 31)
    have x8 := x7.trans y8
    replace q0 := y8.keep q0
    replace q1 := y8.keep q1
    replace q2 := y8.keep q2
    replace u0 := y8.keep u0
    replace u1 := y8.keep u1
    replace u2 := y8.keep u2
    cases hok : crashOk d p m x
    · go_wp2_with fail
      go_ret
      exact ⟨rfl, x8⟩
    · obtain ⟨hcs, hcp, hpre, heq⟩ := crash_read t hok
      obtain ⟨hr0, hr1, hr2, hr3, hr4⟩ := rec_valid hcs
      have hv : validB d p m = true := by unfold crashOk at hok; rw [Bool.and_eq_true] at hok; exact hok.1
      have hge := end_ge hcp (validB_all hv).2.2.1
      have hrs := recDur_size (crashS d p m x t)
      have HR1 := Lib.hid hr1
      have HR2 := Lib.hid hr2
      have HR4 := Lib.hid hr4
      have HEQ := Lib.hid heq
      clear hr1 hr2 hr4 heq hcp
      go_wp2_with fail
      generalize w8.alloc (.cells #[.string (recDur s'), .string ⟨#[]⟩, .int .i64 (recNum s')] 31) = W8 at v0 v1 v2 u0 u1 u2 q0 q1 q2 x8 y8 ⊢
      clear x7 y8 hx8 v0 v1 v2 u0 u1 u2
      generalize hS : crashS d p m x t = S at hcs hpre hr0 hr3 hge hrs HR1 HR2 HR4 HEQ ⊢
      have hpl := hpre.length_le
      have hgt : ∀ i (h1 : i < (logAt S 0 0).length) (h2 : i < (logAt (d ++ p) 0 0).length), i < (logAt S 0 0).length → (logAt S 0 0)[i].1 = (logAt (d ++ p) 0 0)[i].1 ∧ (logAt S 0 0)[i].2.1 = (logAt (d ++ p) 0 0)[i].2.1 := by
        intro i h1 h2 _
        rw [hpre.getElem h1]
        exact ⟨rfl, rfl⟩
      have hll := logAt_len (d ++ p)
      refine (c_impl_RecoverLog S _ (Env.ext he x8) (by omega)).mono ?_
      rintro e w9 ⟨rfl, hx9⟩
      rw [hr0, HR4.out, ← HR1.out]
      rw [← HR1.out] at hge
      obtain ⟨u0, u1, u2, u3, u4, u5⟩ := LogAt.new w9 31 (recDur S) ⟨#[]⟩ (recNum S) w9.heap.size rfl
      have y9 := hx9.alloc (.cells #[.string (recDur S), .string ⟨#[]⟩, .int .i64 (recNum S)] 31)
      have x9 := x8.trans y9
      replace q0 := y9.keep q0
      replace q1 := y9.keep q1
      replace q2 := y9.keep q2
      go_wp2_with fail
      generalize w9.alloc (.cells #[.string (recDur S), .string ⟨#[]⟩, .int .i64 (recNum S)] 31) = W9 at u0 u1 u2 u3 u4 u5 q0 q1 q2 x9 y9 ⊢
      clear x8 y9 hx9
      refine (c_impl_IsValidLog (recDur S) ⟨#[]⟩ (recNum S) _ (Env.ext he x9) (by omega) (by decide)).mono ?_
      rintro e w10 ⟨rfl, hx10⟩
      rw [hr3]
      replace q0 := hx10.keep q0
      replace q1 := hx10.keep q1
      replace q2 := hx10.keep q2
      replace u0 := hx10.keep u0
      replace u1 := hx10.keep u1
      replace u2 := hx10.keep u2
      have x10 := x9.trans hx10
      clear x9 hx10
      go_wp2_with fail
      refine (c_impl_LogRecords d p m _ (Env.ext he x10) (by omega) (by omega)).mono ?_
      rintro e w11 ⟨a11, m11, k11, rfl, _, hT11, hx11⟩
      obtain ⟨rfl, g11, rfl, o11⟩ := hT11 hv
      clear hT11
      rw [hv]
      replace q0 := hx11.keep q0
      replace q1 := hx11.keep q1
      replace q2 := hx11.keep q2
      replace u0 := hx11.keep u0
      replace u1 := hx11.keep u1
      replace u2 := hx11.keep u2
      have x11 := x10.trans hx11
      clear x10
      go_wp2_with fail
      refine (c_impl_LogRecords (recDur S) ⟨#[]⟩ (recNum S) _ (Env.ext he x11) (by omega) (by decide)).mono ?_
      rintro e w12 ⟨a12, m12, k12, rfl, _, hT12, hx12⟩
      obtain ⟨rfl, g12, rfl, o12⟩ := hT12 hr3
      clear hT12
      rw [hr3]
      rw [app_nil', HR2.out] at o12
      rw [app_nil', HR2.out]
      replace q0 := hx12.keep q0
      replace q1 := hx12.keep q1
      replace q2 := hx12.keep q2
      replace o11 := ownsRow_ext o11 hx12
      have x12 := x11.trans hx12
      clear x11
      have hc11 := own_cap o11
      have c0 : (logAt S 0 0).length ≤ k11 := by omega
      cases t
      · by_cases hxp : x < p.size
        · go_wp2_with (go_at_call 42; refine (vRecords_own _ _ _ _ _ _ (logAt S 0 0).length _ _ _ _ _ _ _ o12 o11 (by omega) (Nat.le_refl _) hpl hgt).mono ?_; rintro e w13 ⟨rfl, hx13⟩; replace q1 := hx13.keep q1)
          go_ret
          exact ⟨rfl, x12.trans hx13⟩
        · have hle : x ≤ p.size := by unfold crashOk at hok; simp only [Bool.and_eq_true, decide_eq_true_eq] at hok; exact hok.2.2
          have heq := HEQ.out rfl (by omega)
          rw [heq] at o12 c0 ⊢
          clear heq hgt hpl HEQ
          go_wp2_with (go_at_call 42; refine (vRecords_own _ _ _ _ _ _ (logAt (d ++ p) 0 0).length _ _ _ _ _ _ _ o12 o11 hll (Nat.le_refl _) (Nat.le_refl _) (fun _ _ _ _ => ⟨rfl, rfl⟩)).mono ?_; rintro e w13 ⟨rfl, hx13⟩; replace q1 := hx13.keep q1)
          go_ret
          exact ⟨rfl, x12.trans hx13⟩
      · go_wp2_with (go_at_call 42; refine (vRecords_own _ _ _ _ _ _ (logAt S 0 0).length _ _ _ _ _ _ _ o12 o11 (by omega) (Nat.le_refl _) hpl hgt).mono ?_; rintro e w13 ⟨rfl, hx13⟩; replace q1 := hx13.keep q1)
        go_ret
        exact ⟨rfl, x12.trans hx13⟩
end Go.Proofs.YteapfbfoegphkaaDoor
