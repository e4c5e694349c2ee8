/-
  The law FnLogs: its walk.
-/
import Derived.Test.YteapfbfoegphkaaDoorW20
import Derived.Test.YteapfbfoegphkaaDoorW15
import Derived.Test.YteapfbfoegphkaaDoorW1b
import Derived.Test.YteapfbfoegphkaaDoorP13
import Derived.Deep.DeepMust
namespace Go.Proofs.YteapfbfoegphkaaDoor
open Go.RowKit
set_option linter.unusedVariables false
set_option linter.unusedSimpArgs false
attribute [local irreducible] decS sumL sumB sealB textB lineB encOk encStr acOk acStr pieces mkB piecesB splitB upL behL cutA cutZ verOk verStr rcI rrI okI aheadS preS restS atS rcS rrS okS inR okByte printed hasByte fits someB cmdB recB
attribute [local irreducible] validB endsB logAt appP appN appK syncD syncN recCells

theorem own_cap {w : World} {base g cap : Nat} {e : TypeId} {size n : Nat} {xs : List Value} (h : w.ownsRow base e size (.slice (some ⟨g, 0, none⟩) n cap) n xs) : n ≤ cap ∧ cap ≤ maxLen := by
  rcases h.2 with ⟨h', _⟩ | ⟨g', cap', cur, h', _, _, h1, h2, _⟩
  · simp at h'
  · simp only [Value.slice.injEq, Option.some.injEq, Addr.mk.injEq, and_true, true_and] at h'
    obtain ⟨rfl, rfl⟩ := h'
    exact ⟨h1, h2⟩
theorem recCells_last (L : List (ByteArray × ByteArray × Nat)) (c r : ByteArray) (e : Nat) : (recCells (L ++ [(c, r, e)]))[L.length * 2]? = some (.string c) ∧ (recCells (L ++ [(c, r, e)]))[L.length * 2 + 1]? = some (.string r) := by
  have h := recCells_length L
  rw [recCells_snoc]
  constructor
  · rw [List.getElem?_append_right (by omega), show L.length * 2 - (recCells L).length = 0 by omega]; rfl
  · rw [List.getElem?_append_right (by omega), show L.length * 2 + 1 - (recCells L).length = 1 by omega]; rfl
set_option maxRecDepth 100000 in
set_option maxHeartbeats 3200000 in
theorem law_FnLogs (a : Option Addr) (n k : Nat) (w : World) (he : Env w) (hb : BytesV w a n) (hk : n ≤ k) (hkm : k ≤ maxLen) (ha : a = none → k = 0) :
    Calls Tryd.prog 10 #[.slice a n k] w fun e w' => e = .returned (.bool true) ∧ Ext w w' := by
  by_cases hbig : 65536 < n
  · go_enter Tryd.func10, Tryd.ntmps10
    go_wp2_with (go_at_call 34; refine (c_laws_vBig _ _ _ _).mono ?_; rintro e w1 ⟨rfl, hb1⟩)
    go_ret
    exact ⟨rfl, by (repeat (first | with_reducible assumption | with_reducible exact Ext.refl _ | with_reducible refine Ext.alloc ?_ _ | with_reducible refine Ext.drew ?_ | with_reducible refine Ext.drewN ?_ _ | refine Ext.setCell ?_ (by first | (simp only [World.size_alloc, World.size_setCell]; omega) | omega) _ | with_reducible refine Ext.trans ?_ (by with_reducible assumption)))⟩
  · have ml : 8 ≤ maxLen := by decide
    have mL : 65537 ≤ maxLen := by decide
    have hnm : n ≤ maxLen := by omega
    go_enter Tryd.func10, Tryd.ntmps10
    go_wp2_with fail
    refine (c_laws_vBig _ _ _ _).mono ?_
    rintro e w1 ⟨rfl, x1⟩
    have b1 := hb.ext x1
    go_wp2_with fail
    refine (c_spec_DrawIsValidRecord _ _ _ _ b1 hnm).mono ?_
    rintro e w2 ⟨ec, er, rfl, ec8, er8, hx2⟩
    have E2 := RecAt.new w2 27 ec er w2.heap.size rfl
    have x2 := (x1.trans hx2).alloc (.cells #[.string ec, .string er] 27)
    go_wp2_with fail
    generalize w2.alloc (.cells #[.string ec, .string er] 27) = W2 at E2 x2 ⊢
    clear b1 x1 hx2
    -- the number and the record to be encoded
    refine (c_laws_vCut a n k 1 _ (hb.ext x2) (by omega) hk hkm ha (by decide)).mono ?_
    rintro e w3 ⟨g3, n3, k3, rfl, hn3, b3, hx3⟩
    go_wp2_with fail
    refine (c_spec_DrawEncodeRecord _ _ _ _ b3 (by omega)).mono ?_
    rintro e w4 ⟨kk, fc, fr, rfl, kk0, kk1, fc8, fr8, hx4⟩
    have F4 := RecAt.new w4 27 fc fr w4.heap.size rfl
    have y4 := (hx3.trans hx4).alloc (.cells #[.string fc, .string fr] 27)
    have x4 := x2.trans y4
    replace E2 := E2.ext y4
    obtain ⟨f0, f1, _, _⟩ := F4
    go_wp2_with fail
    generalize w4.alloc (.cells #[.string fc, .string fr] 27) = W4 at f0 f1 E2 x4 y4 ⊢
    clear b3 hx3 hx4 y4 x2
    refine (c_impl_EncodeRecord kk fc fr _ (Env.ext he x4) (by omega) (by omega)).mono ?_
    rintro e w5 ⟨rfl, hx5⟩
    replace f0 := hx5.keep f0
    replace f1 := hx5.keep f1
    go_wp2_with fail
    refine (c_spec_EncodeRecord kk fc fr _ (by omega) (by omega)).mono ?_
    rintro e w6 ⟨rfl, hx6⟩
    have x6 := x4.trans (hx5.trans hx6)
    replace E2 := E2.ext (hx5.trans hx6)
    clear f0 f1 hx5 hx6 x4
    go_wp2_with fail
    -- a log
    refine (c_laws_vCut a n k 2 _ (hb.ext x6) (by omega) hk hkm ha (by decide)).mono ?_
    rintro e w7 ⟨g7, n7, k7, rfl, hn7, b7, hx7⟩
    go_wp2_with fail
    refine (c_spec_DrawIsValidLog _ _ _ _ b7 (by omega)).mono ?_
    rintro e w8 ⟨ld, lp, lm, rfl, ld1, lp1, lm0, lm1, hx8⟩
    have L8 := LogAt.new w8 31 ld lp lm w8.heap.size rfl
    have y8 := (hx7.trans hx8).alloc (.cells #[.string ld, .string lp, .int .i64 lm] 31)
    have x8 := x6.trans y8
    replace E2 := E2.ext y8
    go_wp2_with fail
    generalize w8.alloc (.cells #[.string ld, .string lp, .int .i64 lm] 31) = W8 at L8 E2 x8 y8 ⊢
    clear b7 hx7 hx8 y8 x6
    -- a log and a record to be appended
    refine (c_laws_vCut a n k 3 _ (hb.ext x8) (by omega) hk hkm ha (by decide)).mono ?_
    rintro e w9 ⟨g9, n9, k9, rfl, hn9, b9, hx9⟩
    go_wp2_with fail
    refine (c_spec_DrawAppendRecord _ _ _ _ b9 (by omega)).mono ?_
    rintro e w10 ⟨d, p, m, c, r, rfl, d1, p1, m0, m1, c8, r8, hx10⟩
    have M10 := (LogAt.new w10 31 d p m w10.heap.size rfl).ext ((Ext.refl _).alloc (.cells #[.string c, .string r] 27))
    have R10 := RecAt.new (w10.alloc (.cells #[.string d, .string p, .int .i64 m] 31)) 27 c r (w10.heap.size + 1) (by simp)
    have y10 := ((hx9.trans hx10).alloc (.cells #[.string d, .string p, .int .i64 m] 31)).alloc (.cells #[.string c, .string r] 27)
    have x10 := x8.trans y10
    replace E2 := E2.ext y10
    replace L8 := L8.ext y10
    go_wp2_with fail
    generalize (w10.alloc (.cells #[.string d, .string p, .int .i64 m] 31)).alloc (.cells #[.string c, .string r] 27) = W10 at M10 R10 L8 E2 x10 y10 ⊢
    clear b9 hx9 hx10 y10 x8
    refine (c_impl_AppendRecord d p m c r _ (Env.ext he x10) (by omega) (by omega) (by omega) (by omega)).mono ?_
    rintro e w11 ⟨rfl, hx11⟩
    have N11 := LogAt.new w11 31 d (appP d p m c r) (appN d p m c r) w11.heap.size rfl
    have y11 := hx11.alloc (.cells #[.string d, .string (appP d p m c r), .int .i64 (appN d p m c r)] 31)
    have x11 := x10.trans y11
    replace E2 := E2.ext y11
    replace L8 := L8.ext y11
    obtain ⟨q0, q1, q2, q3, q4, q5⟩ := M10.ext y11
    obtain ⟨r0, r1, r2, r3⟩ := R10.ext y11
    go_wp2_with fail
    generalize w11.alloc (.cells #[.string d, .string (appP d p m c r), .int .i64 (appN d p m c r)] 31) = W11 at N11 q0 q1 q2 q3 q4 q5 r0 r1 r2 r3 L8 E2 x11 y11 ⊢
    clear M10 R10 x10 y11 hx11
    refine (c_spec_AppendRecord d p m c r _ (by omega) (by omega) (by omega) (by omega)).mono ?_
    rintro e w12 ⟨rfl, hx12⟩
    have S12 := LogAt.new w12 31 d (appP d p m c r) (appN d p m c r) w12.heap.size rfl
    have y12 := hx12.alloc (.cells #[.string d, .string (appP d p m c r), .int .i64 (appN d p m c r)] 31)
    have x12 := x11.trans y12
    replace E2 := E2.ext y12
    replace L8 := L8.ext y12
    replace N11 := N11.ext y12
    have M12 := LogAt.ext ⟨q0, q1, q2, q3, q4, q5⟩ y12
    have R12 := RecAt.ext ⟨r0, r1, r2, r3⟩ y12
    clear q0 q1 q2 q3 q4 q5 r0 r1 r2 r3
    go_wp2_with fail
    generalize w12.alloc (.cells #[.string d, .string (appP d p m c r), .int .i64 (appN d p m c r)] 31) = W12 at N11 S12 M12 R12 L8 E2 x12 y12 ⊢
    clear x11 y12 hx12
    have hE12 := Env.ext he x12
    obtain ⟨e0, e1, _, _⟩ := E2
    obtain ⟨l0, l1, l2, _, _, _⟩ := L8
    obtain ⟨u0, u1, u2, u3, u4, u5⟩ := N11
    obtain ⟨v0, v1, v2, _, _, _⟩ := S12
    refine wp_region_held_drew (S := (fun w' => Ext W12 w')) (by kernel_rfl) ?_ (fun hHeld => ?_)
    · exact (Ext.refl W12).drew
    refine wpAnyH_take (i := 0) (v := ?_) rfl (by kernel_rfl) (by kernel_rfl) (by kernel_rfl) (fun _ _ _ h => h) (Or.inl ⟨by rfl, ?_⟩) (by assumption) ?_
    rotate_left
    · (intro w hSw; (try dsimp only at hSw); have s0 := Ext.keep hSw e0; have s1 := Ext.keep hSw e1; have s2 := Ext.keep hSw l0; have s3 := Ext.keep hSw l1; have s4 := Ext.keep hSw l2; have s5 := Ext.keep hSw u0; have s6 := Ext.keep hSw u1; have s7 := Ext.keep hSw u2; have s8 := Ext.keep hSw v0; have s9 := Ext.keep hSw v1; have s10 := Ext.keep hSw v2; go_simp; (try with_reducible rfl))
    try simp only [Act.put, List.getElem_toArray, List.getElem_cons_zero, List.getElem_cons_succ, List.setIfInBounds_toArray, List.set_cons_zero, List.set_cons_succ]
    refine wpAnyH_take (i := 2) (v := ?_) rfl (by kernel_rfl) (by kernel_rfl) (by kernel_rfl) (fun _ _ _ h => h) (Or.inl ⟨by rfl, ?_⟩) (by assumption) ?_
    rotate_left
    · (intro w hSw; (try dsimp only at hSw); have s0 := Ext.keep hSw e0; have s1 := Ext.keep hSw e1; have s2 := Ext.keep hSw l0; have s3 := Ext.keep hSw l1; have s4 := Ext.keep hSw l2; have s5 := Ext.keep hSw u0; have s6 := Ext.keep hSw u1; have s7 := Ext.keep hSw u2; have s8 := Ext.keep hSw v0; have s9 := Ext.keep hSw v1; have s10 := Ext.keep hSw v2; go_simp; (try with_reducible rfl))
    try simp only [Act.put, List.getElem_toArray, List.getElem_cons_zero, List.getElem_cons_succ, List.setIfInBounds_toArray, List.set_cons_zero, List.set_cons_succ]
    refine wpAnyH_ready (rs := [1]) (by kernel_rfl) (by simp) ?_
    refine AllReadyH.cons rfl (fun K hK => ?_) AllReadyH.nil
    go_simp
    (go_at_call 40; refine (c_impl_IsValidRecord _ _ _ (by omega) (by omega)).mono ?_; rintro e w13 ⟨rfl, hx13⟩)
    show K _ _
    refine hK.out _ _ (by exact hHeld.trans hx13) (fun hHeld => ?_)
    clear hK K
    try simp only [Act.put, List.getElem_toArray, List.getElem_cons_zero, List.getElem_cons_succ, List.setIfInBounds_toArray, List.set_cons_zero, List.set_cons_succ]
    refine wpAnyH_ready (rs := [3]) (by kernel_rfl) (by simp) ?_
    refine AllReadyH.cons rfl (fun K hK => ?_) AllReadyH.nil
    go_simp
    (go_at_call 41; refine (c_spec_IsValidRecord _ _ _ (by omega) (by omega)).mono ?_; rintro e w14 ⟨rfl, hx14⟩)
    show K _ _
    refine hK.out _ _ (by exact hHeld.trans hx14) (fun hHeld => ?_)
    clear hK K
    try simp only [Act.put, List.getElem_toArray, List.getElem_cons_zero, List.getElem_cons_succ, List.setIfInBounds_toArray, List.set_cons_zero, List.set_cons_succ]
    refine wpAnyH_take (i := 4) (v := ?_) rfl (by kernel_rfl) (by kernel_rfl) (by kernel_rfl) (fun _ _ _ h => h) (Or.inl ⟨by rfl, ?_⟩) (by assumption) ?_
    rotate_left
    · (intro w hSw; (try dsimp only at hSw); have s0 := Ext.keep hSw e0; have s1 := Ext.keep hSw e1; have s2 := Ext.keep hSw l0; have s3 := Ext.keep hSw l1; have s4 := Ext.keep hSw l2; have s5 := Ext.keep hSw u0; have s6 := Ext.keep hSw u1; have s7 := Ext.keep hSw u2; have s8 := Ext.keep hSw v0; have s9 := Ext.keep hSw v1; have s10 := Ext.keep hSw v2; go_simp; (try with_reducible rfl))
    try simp only [Act.put, List.getElem_toArray, List.getElem_cons_zero, List.getElem_cons_succ, List.setIfInBounds_toArray, List.set_cons_zero, List.set_cons_succ]
    refine wpAnyH_take (i := 5) (v := ?_) rfl (by kernel_rfl) (by kernel_rfl) (by kernel_rfl) (fun _ _ _ h => h) (Or.inl ⟨by rfl, ?_⟩) (by assumption) ?_
    rotate_left
    · (intro w hSw; (try dsimp only at hSw); have s0 := Ext.keep hSw e0; have s1 := Ext.keep hSw e1; have s2 := Ext.keep hSw l0; have s3 := Ext.keep hSw l1; have s4 := Ext.keep hSw l2; have s5 := Ext.keep hSw u0; have s6 := Ext.keep hSw u1; have s7 := Ext.keep hSw u2; have s8 := Ext.keep hSw v0; have s9 := Ext.keep hSw v1; have s10 := Ext.keep hSw v2; go_simp; (try with_reducible rfl))
    try simp only [Act.put, List.getElem_toArray, List.getElem_cons_zero, List.getElem_cons_succ, List.setIfInBounds_toArray, List.set_cons_zero, List.set_cons_succ]
    refine wpAnyH_take (i := 6) (v := ?_) rfl (by kernel_rfl) (by kernel_rfl) (by kernel_rfl) (fun _ _ _ h => h) (Or.inl ⟨by rfl, ?_⟩) (by assumption) ?_
    rotate_left
    · (intro w hSw; (try dsimp only at hSw); have s0 := Ext.keep hSw e0; have s1 := Ext.keep hSw e1; have s2 := Ext.keep hSw l0; have s3 := Ext.keep hSw l1; have s4 := Ext.keep hSw l2; have s5 := Ext.keep hSw u0; have s6 := Ext.keep hSw u1; have s7 := Ext.keep hSw u2; have s8 := Ext.keep hSw v0; have s9 := Ext.keep hSw v1; have s10 := Ext.keep hSw v2; go_simp; (try with_reducible rfl))
    try simp only [Act.put, List.getElem_toArray, List.getElem_cons_zero, List.getElem_cons_succ, List.setIfInBounds_toArray, List.set_cons_zero, List.set_cons_succ]
    refine wpAnyH_take (i := 7) (v := ?_) rfl (by kernel_rfl) (by kernel_rfl) (by kernel_rfl) (fun _ _ _ h => h) (Or.inl ⟨by rfl, ?_⟩) (by assumption) ?_
    rotate_left
    · (intro w hSw; (try dsimp only at hSw); have s0 := Ext.keep hSw e0; have s1 := Ext.keep hSw e1; have s2 := Ext.keep hSw l0; have s3 := Ext.keep hSw l1; have s4 := Ext.keep hSw l2; have s5 := Ext.keep hSw u0; have s6 := Ext.keep hSw u1; have s7 := Ext.keep hSw u2; have s8 := Ext.keep hSw v0; have s9 := Ext.keep hSw v1; have s10 := Ext.keep hSw v2; go_simp; (try with_reducible rfl))
    try simp only [Act.put, List.getElem_toArray, List.getElem_cons_zero, List.getElem_cons_succ, List.setIfInBounds_toArray, List.set_cons_zero, List.set_cons_succ]
    refine wpAnyH_take (i := 8) (v := ?_) rfl (by kernel_rfl) (by kernel_rfl) (by kernel_rfl) (fun _ _ _ h => h) (Or.inl ⟨by rfl, ?_⟩) (by assumption) ?_
    rotate_left
    · (intro w hSw; (try dsimp only at hSw); have s0 := Ext.keep hSw e0; have s1 := Ext.keep hSw e1; have s2 := Ext.keep hSw l0; have s3 := Ext.keep hSw l1; have s4 := Ext.keep hSw l2; have s5 := Ext.keep hSw u0; have s6 := Ext.keep hSw u1; have s7 := Ext.keep hSw u2; have s8 := Ext.keep hSw v0; have s9 := Ext.keep hSw v1; have s10 := Ext.keep hSw v2; go_simp; (try with_reducible rfl))
    try simp only [Act.put, List.getElem_toArray, List.getElem_cons_zero, List.getElem_cons_succ, List.setIfInBounds_toArray, List.set_cons_zero, List.set_cons_succ]
    refine wpAnyH_take (i := 9) (v := ?_) rfl (by kernel_rfl) (by kernel_rfl) (by kernel_rfl) (fun _ _ _ h => h) (Or.inl ⟨by rfl, ?_⟩) (by assumption) ?_
    rotate_left
    · (intro w hSw; (try dsimp only at hSw); have s0 := Ext.keep hSw e0; have s1 := Ext.keep hSw e1; have s2 := Ext.keep hSw l0; have s3 := Ext.keep hSw l1; have s4 := Ext.keep hSw l2; have s5 := Ext.keep hSw u0; have s6 := Ext.keep hSw u1; have s7 := Ext.keep hSw u2; have s8 := Ext.keep hSw v0; have s9 := Ext.keep hSw v1; have s10 := Ext.keep hSw v2; go_simp; (try with_reducible rfl))
    try simp only [Act.put, List.getElem_toArray, List.getElem_cons_zero, List.getElem_cons_succ, List.setIfInBounds_toArray, List.set_cons_zero, List.set_cons_succ]
    refine wpAnyH_take (i := 10) (v := ?_) rfl (by kernel_rfl) (by kernel_rfl) (by kernel_rfl) (fun _ _ _ h => h) (Or.inl ⟨by rfl, ?_⟩) (by assumption) ?_
    rotate_left
    · (intro w hSw; (try dsimp only at hSw); have s0 := Ext.keep hSw e0; have s1 := Ext.keep hSw e1; have s2 := Ext.keep hSw l0; have s3 := Ext.keep hSw l1; have s4 := Ext.keep hSw l2; have s5 := Ext.keep hSw u0; have s6 := Ext.keep hSw u1; have s7 := Ext.keep hSw u2; have s8 := Ext.keep hSw v0; have s9 := Ext.keep hSw v1; have s10 := Ext.keep hSw v2; go_simp; (try with_reducible rfl))
    try simp only [Act.put, List.getElem_toArray, List.getElem_cons_zero, List.getElem_cons_succ, List.setIfInBounds_toArray, List.set_cons_zero, List.set_cons_succ]
    refine wpAnyH_take (i := 11) (v := ?_) rfl (by kernel_rfl) (by kernel_rfl) (by kernel_rfl) (fun _ _ _ h => h) (Or.inl ⟨by rfl, ?_⟩) (by assumption) ?_
    rotate_left
    · (intro w hSw; (try dsimp only at hSw); have s0 := Ext.keep hSw e0; have s1 := Ext.keep hSw e1; have s2 := Ext.keep hSw l0; have s3 := Ext.keep hSw l1; have s4 := Ext.keep hSw l2; have s5 := Ext.keep hSw u0; have s6 := Ext.keep hSw u1; have s7 := Ext.keep hSw u2; have s8 := Ext.keep hSw v0; have s9 := Ext.keep hSw v1; have s10 := Ext.keep hSw v2; go_simp; (try with_reducible rfl))
    try simp only [Act.put, List.getElem_toArray, List.getElem_cons_zero, List.getElem_cons_succ, List.setIfInBounds_toArray, List.set_cons_zero, List.set_cons_succ]
    refine wpAnyH_take (i := 12) (v := ?_) rfl (by kernel_rfl) (by kernel_rfl) (by kernel_rfl) (fun _ _ _ h => h) (Or.inl ⟨by rfl, ?_⟩) (by assumption) ?_
    rotate_left
    · (intro w hSw; (try dsimp only at hSw); have s0 := Ext.keep hSw e0; have s1 := Ext.keep hSw e1; have s2 := Ext.keep hSw l0; have s3 := Ext.keep hSw l1; have s4 := Ext.keep hSw l2; have s5 := Ext.keep hSw u0; have s6 := Ext.keep hSw u1; have s7 := Ext.keep hSw u2; have s8 := Ext.keep hSw v0; have s9 := Ext.keep hSw v1; have s10 := Ext.keep hSw v2; go_simp; (try with_reducible rfl))
    try simp only [Act.put, List.getElem_toArray, List.getElem_cons_zero, List.getElem_cons_succ, List.setIfInBounds_toArray, List.set_cons_zero, List.set_cons_succ]
    refine wpAnyH_take (i := 13) (v := ?_) rfl (by kernel_rfl) (by kernel_rfl) (by kernel_rfl) (fun _ _ _ h => h) (Or.inl ⟨by rfl, ?_⟩) (by assumption) ?_
    rotate_left
    · (intro w hSw; (try dsimp only at hSw); have s0 := Ext.keep hSw e0; have s1 := Ext.keep hSw e1; have s2 := Ext.keep hSw l0; have s3 := Ext.keep hSw l1; have s4 := Ext.keep hSw l2; have s5 := Ext.keep hSw u0; have s6 := Ext.keep hSw u1; have s7 := Ext.keep hSw u2; have s8 := Ext.keep hSw v0; have s9 := Ext.keep hSw v1; have s10 := Ext.keep hSw v2; go_simp; (try with_reducible rfl))
    try simp only [Act.put, List.getElem_toArray, List.getElem_cons_zero, List.getElem_cons_succ, List.setIfInBounds_toArray, List.set_cons_zero, List.set_cons_succ]
    refine wpAnyH_take (i := 14) (v := ?_) rfl (by kernel_rfl) (by kernel_rfl) (by kernel_rfl) (fun _ _ _ h => h) (Or.inl ⟨by rfl, ?_⟩) (by assumption) ?_
    rotate_left
    · (intro w hSw; (try dsimp only at hSw); have s0 := Ext.keep hSw e0; have s1 := Ext.keep hSw e1; have s2 := Ext.keep hSw l0; have s3 := Ext.keep hSw l1; have s4 := Ext.keep hSw l2; have s5 := Ext.keep hSw u0; have s6 := Ext.keep hSw u1; have s7 := Ext.keep hSw u2; have s8 := Ext.keep hSw v0; have s9 := Ext.keep hSw v1; have s10 := Ext.keep hSw v2; go_simp; (try with_reducible rfl))
    try simp only [Act.put, List.getElem_toArray, List.getElem_cons_zero, List.getElem_cons_succ, List.setIfInBounds_toArray, List.set_cons_zero, List.set_cons_succ]
    refine wpAnyH_take (i := 15) (v := ?_) rfl (by kernel_rfl) (by kernel_rfl) (by kernel_rfl) (fun _ _ _ h => h) (Or.inl ⟨by rfl, ?_⟩) (by assumption) ?_
    rotate_left
    · (intro w hSw; (try dsimp only at hSw); have s0 := Ext.keep hSw e0; have s1 := Ext.keep hSw e1; have s2 := Ext.keep hSw l0; have s3 := Ext.keep hSw l1; have s4 := Ext.keep hSw l2; have s5 := Ext.keep hSw u0; have s6 := Ext.keep hSw u1; have s7 := Ext.keep hSw u2; have s8 := Ext.keep hSw v0; have s9 := Ext.keep hSw v1; have s10 := Ext.keep hSw v2; go_simp; (try with_reducible rfl))
    try simp only [Act.put, List.getElem_toArray, List.getElem_cons_zero, List.getElem_cons_succ, List.setIfInBounds_toArray, List.set_cons_zero, List.set_cons_succ]
    refine wpAnyH_take (i := 16) (v := ?_) rfl (by kernel_rfl) (by kernel_rfl) (by kernel_rfl) (fun _ _ _ h => h) (Or.inl ⟨by rfl, ?_⟩) (by assumption) ?_
    rotate_left
    · (intro w hSw; (try dsimp only at hSw); have s0 := Ext.keep hSw e0; have s1 := Ext.keep hSw e1; have s2 := Ext.keep hSw l0; have s3 := Ext.keep hSw l1; have s4 := Ext.keep hSw l2; have s5 := Ext.keep hSw u0; have s6 := Ext.keep hSw u1; have s7 := Ext.keep hSw u2; have s8 := Ext.keep hSw v0; have s9 := Ext.keep hSw v1; have s10 := Ext.keep hSw v2; go_simp; (try with_reducible rfl))
    try simp only [Act.put, List.getElem_toArray, List.getElem_cons_zero, List.getElem_cons_succ, List.setIfInBounds_toArray, List.set_cons_zero, List.set_cons_succ]
    refine wpAnyH_take (i := 18) (v := ?_) rfl (by kernel_rfl) (by kernel_rfl) (by kernel_rfl) (fun _ _ _ h => h) (Or.inl ⟨by rfl, ?_⟩) (by assumption) ?_
    rotate_left
    · (intro w hSw; (try dsimp only at hSw); have s0 := Ext.keep hSw e0; have s1 := Ext.keep hSw e1; have s2 := Ext.keep hSw l0; have s3 := Ext.keep hSw l1; have s4 := Ext.keep hSw l2; have s5 := Ext.keep hSw u0; have s6 := Ext.keep hSw u1; have s7 := Ext.keep hSw u2; have s8 := Ext.keep hSw v0; have s9 := Ext.keep hSw v1; have s10 := Ext.keep hSw v2; go_simp; (try with_reducible rfl))
    try simp only [Act.put, List.getElem_toArray, List.getElem_cons_zero, List.getElem_cons_succ, List.setIfInBounds_toArray, List.set_cons_zero, List.set_cons_succ]
    refine wpAnyH_ready (rs := [17]) (by kernel_rfl) (by simp) ?_
    refine AllReadyH.cons rfl (fun K hK => ?_) AllReadyH.nil
    go_simp
    (go_at_call 22; refine (c_impl_IsValidLog _ _ _ _ (Env.ext hE12 hHeld) (by omega) (by omega)).mono ?_; rintro e w15 ⟨rfl, hx15⟩)
    show K _ _
    refine hK.out _ _ (by exact hHeld.trans hx15) (fun hHeld => ?_)
    clear hK K
    try simp only [Act.put, List.getElem_toArray, List.getElem_cons_zero, List.getElem_cons_succ, List.setIfInBounds_toArray, List.set_cons_zero, List.set_cons_succ]
    refine wpAnyH_ready (rs := [19]) (by kernel_rfl) (by simp) ?_
    refine AllReadyH.cons rfl (fun K hK => ?_) AllReadyH.nil
    go_simp
    (go_at_call 20; refine (c_spec_IsValidLog _ _ _ _ (by omega) (by omega)).mono ?_; rintro e w16 ⟨rfl, hx16⟩)
    show K _ _
    refine hK.out _ _ (by exact hHeld.trans hx16) (fun hHeld => ?_)
    clear hK K
    try simp only [Act.put, List.getElem_toArray, List.getElem_cons_zero, List.getElem_cons_succ, List.setIfInBounds_toArray, List.set_cons_zero, List.set_cons_succ]
    refine wpAnyH_take (i := 20) (v := ?_) rfl (by kernel_rfl) (by kernel_rfl) (by kernel_rfl) (fun _ _ _ h => h) (Or.inl ⟨by rfl, ?_⟩) (by assumption) ?_
    rotate_left
    · (intro w hSw; (try dsimp only at hSw); have s0 := Ext.keep hSw e0; have s1 := Ext.keep hSw e1; have s2 := Ext.keep hSw l0; have s3 := Ext.keep hSw l1; have s4 := Ext.keep hSw l2; have s5 := Ext.keep hSw u0; have s6 := Ext.keep hSw u1; have s7 := Ext.keep hSw u2; have s8 := Ext.keep hSw v0; have s9 := Ext.keep hSw v1; have s10 := Ext.keep hSw v2; go_simp; (try with_reducible rfl))
    try simp only [Act.put, List.getElem_toArray, List.getElem_cons_zero, List.getElem_cons_succ, List.setIfInBounds_toArray, List.set_cons_zero, List.set_cons_succ]
    refine wpAnyH_take (i := 21) (v := ?_) rfl (by kernel_rfl) (by kernel_rfl) (by kernel_rfl) (fun _ _ _ h => h) (Or.inl ⟨by rfl, ?_⟩) (by assumption) ?_
    rotate_left
    · (intro w hSw; (try dsimp only at hSw); have s0 := Ext.keep hSw e0; have s1 := Ext.keep hSw e1; have s2 := Ext.keep hSw l0; have s3 := Ext.keep hSw l1; have s4 := Ext.keep hSw l2; have s5 := Ext.keep hSw u0; have s6 := Ext.keep hSw u1; have s7 := Ext.keep hSw u2; have s8 := Ext.keep hSw v0; have s9 := Ext.keep hSw v1; have s10 := Ext.keep hSw v2; go_simp; (try with_reducible rfl))
    try simp only [Act.put, List.getElem_toArray, List.getElem_cons_zero, List.getElem_cons_succ, List.setIfInBounds_toArray, List.set_cons_zero, List.set_cons_succ]
    refine wpAnyH_take (i := 22) (v := ?_) rfl (by kernel_rfl) (by kernel_rfl) (by kernel_rfl) (fun _ _ _ h => h) (Or.inl ⟨by rfl, ?_⟩) (by assumption) ?_
    rotate_left
    · (intro w hSw; (try dsimp only at hSw); have s0 := Ext.keep hSw e0; have s1 := Ext.keep hSw e1; have s2 := Ext.keep hSw l0; have s3 := Ext.keep hSw l1; have s4 := Ext.keep hSw l2; have s5 := Ext.keep hSw u0; have s6 := Ext.keep hSw u1; have s7 := Ext.keep hSw u2; have s8 := Ext.keep hSw v0; have s9 := Ext.keep hSw v1; have s10 := Ext.keep hSw v2; go_simp; (try with_reducible rfl))
    try simp only [Act.put, List.getElem_toArray, List.getElem_cons_zero, List.getElem_cons_succ, List.setIfInBounds_toArray, List.set_cons_zero, List.set_cons_succ]
    refine wpAnyH_take (i := 23) (v := ?_) rfl (by kernel_rfl) (by kernel_rfl) (by kernel_rfl) (fun _ _ _ h => h) (Or.inl ⟨by rfl, ?_⟩) (by assumption) ?_
    rotate_left
    · (intro w hSw; (try dsimp only at hSw); have s0 := Ext.keep hSw e0; have s1 := Ext.keep hSw e1; have s2 := Ext.keep hSw l0; have s3 := Ext.keep hSw l1; have s4 := Ext.keep hSw l2; have s5 := Ext.keep hSw u0; have s6 := Ext.keep hSw u1; have s7 := Ext.keep hSw u2; have s8 := Ext.keep hSw v0; have s9 := Ext.keep hSw v1; have s10 := Ext.keep hSw v2; go_simp; (try with_reducible rfl))
    try simp only [Act.put, List.getElem_toArray, List.getElem_cons_zero, List.getElem_cons_succ, List.setIfInBounds_toArray, List.set_cons_zero, List.set_cons_succ]
    refine wpAnyH_take (i := 24) (v := ?_) rfl (by kernel_rfl) (by kernel_rfl) (by kernel_rfl) (fun _ _ _ h => h) (Or.inl ⟨by rfl, ?_⟩) (by assumption) ?_
    rotate_left
    · (intro w hSw; (try dsimp only at hSw); have s0 := Ext.keep hSw e0; have s1 := Ext.keep hSw e1; have s2 := Ext.keep hSw l0; have s3 := Ext.keep hSw l1; have s4 := Ext.keep hSw l2; have s5 := Ext.keep hSw u0; have s6 := Ext.keep hSw u1; have s7 := Ext.keep hSw u2; have s8 := Ext.keep hSw v0; have s9 := Ext.keep hSw v1; have s10 := Ext.keep hSw v2; go_simp; (try with_reducible rfl))
    try simp only [Act.put, List.getElem_toArray, List.getElem_cons_zero, List.getElem_cons_succ, List.setIfInBounds_toArray, List.set_cons_zero, List.set_cons_succ]
    refine wpAnyH_take (i := 25) (v := ?_) rfl (by kernel_rfl) (by kernel_rfl) (by kernel_rfl) (fun _ _ _ h => h) (Or.inl ⟨by rfl, ?_⟩) (by assumption) ?_
    rotate_left
    · (intro w hSw; (try dsimp only at hSw); have s0 := Ext.keep hSw e0; have s1 := Ext.keep hSw e1; have s2 := Ext.keep hSw l0; have s3 := Ext.keep hSw l1; have s4 := Ext.keep hSw l2; have s5 := Ext.keep hSw u0; have s6 := Ext.keep hSw u1; have s7 := Ext.keep hSw u2; have s8 := Ext.keep hSw v0; have s9 := Ext.keep hSw v1; have s10 := Ext.keep hSw v2; go_simp; (try with_reducible rfl))
    try simp only [Act.put, List.getElem_toArray, List.getElem_cons_zero, List.getElem_cons_succ, List.setIfInBounds_toArray, List.set_cons_zero, List.set_cons_succ]
    refine wpAnyH_take (i := 26) (v := ?_) rfl (by kernel_rfl) (by kernel_rfl) (by kernel_rfl) (fun _ _ _ h => h) (Or.inl ⟨by rfl, ?_⟩) (by assumption) ?_
    rotate_left
    · (intro w hSw; (try dsimp only at hSw); have s0 := Ext.keep hSw e0; have s1 := Ext.keep hSw e1; have s2 := Ext.keep hSw l0; have s3 := Ext.keep hSw l1; have s4 := Ext.keep hSw l2; have s5 := Ext.keep hSw u0; have s6 := Ext.keep hSw u1; have s7 := Ext.keep hSw u2; have s8 := Ext.keep hSw v0; have s9 := Ext.keep hSw v1; have s10 := Ext.keep hSw v2; go_simp; (try with_reducible rfl))
    try simp only [Act.put, List.getElem_toArray, List.getElem_cons_zero, List.getElem_cons_succ, List.setIfInBounds_toArray, List.set_cons_zero, List.set_cons_succ]
    refine wpAnyH_take (i := 27) (v := ?_) rfl (by kernel_rfl) (by kernel_rfl) (by kernel_rfl) (fun _ _ _ h => h) (Or.inl ⟨by rfl, ?_⟩) (by assumption) ?_
    rotate_left
    · (intro w hSw; (try dsimp only at hSw); have s0 := Ext.keep hSw e0; have s1 := Ext.keep hSw e1; have s2 := Ext.keep hSw l0; have s3 := Ext.keep hSw l1; have s4 := Ext.keep hSw l2; have s5 := Ext.keep hSw u0; have s6 := Ext.keep hSw u1; have s7 := Ext.keep hSw u2; have s8 := Ext.keep hSw v0; have s9 := Ext.keep hSw v1; have s10 := Ext.keep hSw v2; go_simp; (try with_reducible rfl))
    try simp only [Act.put, List.getElem_toArray, List.getElem_cons_zero, List.getElem_cons_succ, List.setIfInBounds_toArray, List.set_cons_zero, List.set_cons_succ]
    refine wpAnyH_take (i := 28) (v := ?_) rfl (by kernel_rfl) (by kernel_rfl) (by kernel_rfl) (fun _ _ _ h => h) (Or.inl ⟨by rfl, ?_⟩) (by assumption) ?_
    rotate_left
    · (intro w hSw; (try dsimp only at hSw); have s0 := Ext.keep hSw e0; have s1 := Ext.keep hSw e1; have s2 := Ext.keep hSw l0; have s3 := Ext.keep hSw l1; have s4 := Ext.keep hSw l2; have s5 := Ext.keep hSw u0; have s6 := Ext.keep hSw u1; have s7 := Ext.keep hSw u2; have s8 := Ext.keep hSw v0; have s9 := Ext.keep hSw v1; have s10 := Ext.keep hSw v2; go_simp; (try with_reducible rfl))
    try simp only [Act.put, List.getElem_toArray, List.getElem_cons_zero, List.getElem_cons_succ, List.setIfInBounds_toArray, List.set_cons_zero, List.set_cons_succ]
    refine wpAnyH_take (i := 29) (v := ?_) rfl (by kernel_rfl) (by kernel_rfl) (by kernel_rfl) (fun _ _ _ h => h) (Or.inl ⟨by rfl, ?_⟩) (by assumption) ?_
    rotate_left
    · (intro w hSw; (try dsimp only at hSw); have s0 := Ext.keep hSw e0; have s1 := Ext.keep hSw e1; have s2 := Ext.keep hSw l0; have s3 := Ext.keep hSw l1; have s4 := Ext.keep hSw l2; have s5 := Ext.keep hSw u0; have s6 := Ext.keep hSw u1; have s7 := Ext.keep hSw u2; have s8 := Ext.keep hSw v0; have s9 := Ext.keep hSw v1; have s10 := Ext.keep hSw v2; go_simp; (try with_reducible rfl))
    try simp only [Act.put, List.getElem_toArray, List.getElem_cons_zero, List.getElem_cons_succ, List.setIfInBounds_toArray, List.set_cons_zero, List.set_cons_succ]
    refine wpAnyH_take (i := 30) (v := ?_) rfl (by kernel_rfl) (by kernel_rfl) (by kernel_rfl) (fun _ _ _ h => h) (Or.inl ⟨by rfl, ?_⟩) (by assumption) ?_
    rotate_left
    · (intro w hSw; (try dsimp only at hSw); have s0 := Ext.keep hSw e0; have s1 := Ext.keep hSw e1; have s2 := Ext.keep hSw l0; have s3 := Ext.keep hSw l1; have s4 := Ext.keep hSw l2; have s5 := Ext.keep hSw u0; have s6 := Ext.keep hSw u1; have s7 := Ext.keep hSw u2; have s8 := Ext.keep hSw v0; have s9 := Ext.keep hSw v1; have s10 := Ext.keep hSw v2; go_simp; (try with_reducible rfl))
    try simp only [Act.put, List.getElem_toArray, List.getElem_cons_zero, List.getElem_cons_succ, List.setIfInBounds_toArray, List.set_cons_zero, List.set_cons_succ]
    refine wpAnyH_take (i := 31) (v := ?_) rfl (by kernel_rfl) (by kernel_rfl) (by kernel_rfl) (fun _ _ _ h => h) (Or.inl ⟨by rfl, ?_⟩) (by assumption) ?_
    rotate_left
    · (intro w hSw; (try dsimp only at hSw); have s0 := Ext.keep hSw e0; have s1 := Ext.keep hSw e1; have s2 := Ext.keep hSw l0; have s3 := Ext.keep hSw l1; have s4 := Ext.keep hSw l2; have s5 := Ext.keep hSw u0; have s6 := Ext.keep hSw u1; have s7 := Ext.keep hSw u2; have s8 := Ext.keep hSw v0; have s9 := Ext.keep hSw v1; have s10 := Ext.keep hSw v2; go_simp; (try with_reducible rfl))
    try simp only [Act.put, List.getElem_toArray, List.getElem_cons_zero, List.getElem_cons_succ, List.setIfInBounds_toArray, List.set_cons_zero, List.set_cons_succ]
    refine wpAnyH_done (by kernel_rfl) ?_ _
    have M16 := M12.ext hHeld
    have N16 := LogAt.ext ⟨u0, u1, u2, u3, u4, u5⟩ hHeld
    have R16 := R12.ext hHeld
    have x16 := x12.trans hHeld
    have e16 := Env.ext hE12 hHeld
    clear hx13 hx14 hx15 hx16 hHeld e0 e1 l0 l1 l2 u0 u1 u2 u3 u4 u5 v0 v1 v2 M12 R12 x12 hE12
    obtain ⟨q0, q1, q2, q3, q4, q5⟩ := M16
    go_wp2_with fail
    refine (c_impl_SyncLog d p m _ e16 (by omega) (by omega)).mono ?_
    rintro e w17 ⟨rfl, hx17⟩
    have T17 := LogAt.new w17 31 (syncD d p m) ⟨#[]⟩ (syncN d p m) w17.heap.size rfl
    have y17 := hx17.alloc (.cells #[.string (syncD d p m), .string ⟨#[]⟩, .int .i64 (syncN d p m)] 31)
    have x17 := x16.trans y17
    replace N16 := N16.ext y17
    replace R16 := R16.ext y17
    replace q0 := y17.keep q0
    replace q1 := y17.keep q1
    replace q2 := y17.keep q2
    go_wp2_with fail
    generalize w17.alloc (.cells #[.string (syncD d p m), .string ⟨#[]⟩, .int .i64 (syncN d p m)] 31) = W17 at T17 N16 R16 q0 q1 q2 x17 y17 ⊢
    clear x16 y17 hx17 e16
    refine (c_spec_SyncLog d p m _ (by omega) (by omega)).mono ?_
    rintro e w18 ⟨rfl, hx18⟩
    have V18 := LogAt.new w18 31 (syncD d p m) ⟨#[]⟩ (syncN d p m) w18.heap.size rfl
    have y18 := hx18.alloc (.cells #[.string (syncD d p m), .string ⟨#[]⟩, .int .i64 (syncN d p m)] 31)
    have x18 := x17.trans y18
    replace N16 := N16.ext y18
    replace R16 := R16.ext y18
    replace T17 := T17.ext y18
    replace q0 := y18.keep q0
    replace q1 := y18.keep q1
    replace q2 := y18.keep q2
    go_wp2_with fail
    generalize w18.alloc (.cells #[.string (syncD d p m), .string ⟨#[]⟩, .int .i64 (syncN d p m)] 31) = W18 at T17 V18 N16 R16 q0 q1 q2 x18 y18 ⊢
    clear x17 y18 hx18
    refine (c_impl_LogRecords d p m _ (Env.ext he x18) (by omega) (by omega)).mono ?_
    rintro e w19 ⟨a19, m19, k19, rfl, hF19, hT19, hx19⟩
    replace q0 := hx19.keep q0
    replace q1 := hx19.keep q1
    replace q2 := hx19.keep q2
    go_wp2_with fail
    refine (c_spec_LogRecords d p m _ (by omega) (by omega)).mono ?_
    rintro e w20 ⟨a20, m20, k20, rfl, hF20, hT20, hx20⟩
    have hx1920 := hx19.trans hx20
    have x20 := x18.trans hx1920
    replace N16 := N16.ext hx1920
    replace R16 := R16.ext hx1920
    obtain ⟨t0, t1, t2, t3, t4, t5⟩ := T17.ext hx1920
    obtain ⟨v0, v1, v2, v3, v4, v5⟩ := V18.ext hx1920
    replace q0 := hx20.keep q0
    replace q1 := hx20.keep q1
    replace q2 := hx20.keep q2
    clear T17 V18
    cases hv : validB d p m
    · obtain rfl := hF19 hv
      obtain rfl := hF20 hv
      clear hF19 hF20 hT19 hT20
      go_wp2_with fail
      refine (vRecords_none _ _ _ _ _).mono ?_
      rintro e w21 ⟨rfl, hx21⟩
      have x21 := x20.trans hx21
      obtain ⟨a1, a2, a3⟩ := app_bad (show appOk d p m c r = false by unfold appOk; rw [hv]; rfl)
      rw [a1, a2] at N16
      replace N16 := N16.ext hx21
      replace t0 := hx21.keep t0
      replace t1 := hx21.keep t1
      replace t2 := hx21.keep t2
      replace q0 := hx21.keep q0
      replace q1 := hx21.keep q1
      replace q2 := hx21.keep q2
      have hds := syncD_size d p m
      rw [a3]
      clear a1 a2 a3
      go_wp2_with fail
      refine (c_impl_LogRecords (syncD d p m) ⟨#[]⟩ (syncN d p m) _ (Env.ext he x21) (by omega) (by decide)).mono ?_
      rintro e w22 ⟨a22, m22, k22, rfl, _, _, hx22⟩
      replace q0 := hx22.keep q0
      replace q1 := hx22.keep q1
      replace q2 := hx22.keep q2
      obtain ⟨n0, n1, n2, _, _, _⟩ := N16.ext hx22
      have x22 := x21.trans hx22
      go_wp2_with fail
      go_ret
      exact ⟨rfl, x22⟩
    · obtain ⟨rfl, g19, rfl, o19⟩ := hT19 hv
      obtain ⟨rfl, g20, rfl, o20⟩ := hT20 hv
      clear hF19 hF20 hT19 hT20
      have hll := logAt_len (d ++ p)
      replace o19 := ownsRow_ext o19 hx20
      go_wp2_with fail
      refine (vRecords_own _ _ _ _ _ _ _ _ _ _ _ _ _ _ o19 o20 hll (Nat.le_refl _) (Nat.le_refl _) (fun _ _ _ _ => ⟨rfl, rfl⟩)).mono ?_
      rintro e w21 ⟨rfl, hx21⟩
      have x21 := x20.trans hx21
      replace N16 := N16.ext hx21
      replace R16 := R16.ext hx21
      replace t0 := hx21.keep t0
      replace t1 := hx21.keep t1
      replace t2 := hx21.keep t2
      replace q0 := hx21.keep q0
      replace q1 := hx21.keep q1
      replace q2 := hx21.keep q2
      replace o19 := ownsRow_ext o19 hx21
      have hsd : syncD d p m = d ++ p := by unfold syncD; rw [if_pos hv]
      have hsn : syncN d p m = m := by unfold syncN; rw [if_pos hv]
      have hzz : (d ++ p).size ≤ 80000 := by rw [ByteArray.size_append]; omega
      have hvs := valid_sync hv
      rw [hsd] at t0
      rw [hsn] at t2
      clear o20
      go_wp2_with fail
      refine (c_impl_LogRecords (d ++ p) ⟨#[]⟩ m _ (Env.ext he x21) (by omega) (by decide)).mono ?_
      rintro e w22 ⟨a22, m22, k22, rfl, _, hT22, hx22⟩
      obtain ⟨rfl, g22, rfl, o22⟩ := hT22 hvs
      rw [app_nil'] at o22
      rw [app_nil']
      replace o19 := ownsRow_ext o19 hx22
      replace N16 := N16.ext hx22
      replace R16 := R16.ext hx22
      replace q0 := hx22.keep q0
      replace q1 := hx22.keep q1
      replace q2 := hx22.keep q2
      have x22 := x21.trans hx22
      clear hT22 t0 t1 t2 t3 t4 t5 v0 v1 v2 v3 v4 v5
      go_wp2_with fail
      refine (vRecords_own _ _ _ _ _ _ _ _ _ _ _ _ _ _ o22 o19 hll (Nat.le_refl _) (Nat.le_refl _) (fun _ _ _ _ => ⟨rfl, rfl⟩)).mono ?_
      rintro e w23 ⟨rfl, hx23⟩
      have x23 := x22.trans hx23
      replace o19 := ownsRow_ext o19 hx23
      replace N16 := N16.ext hx23
      replace R16 := R16.ext hx23
      replace q0 := hx23.keep q0
      replace q1 := hx23.keep q1
      replace q2 := hx23.keep q2
      clear o22
      cases hgo : appGo d p m c r
      · have a1 : appP d p m c r = p := by unfold appP; rw [hgo]; rfl
        have a2 : appN d p m c r = m := by unfold appN; rw [hgo]; rfl
        have a3 : appK d p m c r = 1 ∨ appK d p m c r = 2 := by
          unfold appK
          unfold appGo at hgo
          cases ho : appOk d p m c r
          · exact .inl rfl
          · rw [ho] at hgo
            simp at hgo
            rw [if_pos rfl, if_pos hgo]
            exact .inr rfl
        rw [a1, a2] at N16
        obtain ⟨n0, n1, n2, _, _, _⟩ := N16
        rcases a3 with a3 | a3
        · rw [a3]
          go_wp2_with fail
          go_ret
          exact ⟨rfl, x23⟩
        · rw [a3]
          go_wp2_with fail
          go_ret
          exact ⟨rfl, x23⟩
      · have a1 : appP d p m c r = p ++ lineB m c r := by unfold appP; rw [hgo]; rfl
        have a2 : appN d p m c r = m + 1 := by unfold appN; rw [hgo]; rfl
        have a3 : appK d p m c r = 0 := by
          unfold appK
          unfold appGo at hgo
          simp only [Bool.and_eq_true, Bool.not_eq_true', decide_eq_false_iff_not] at hgo
          rw [hgo.1, if_pos rfl, if_neg hgo.2]
        obtain ⟨hva, ee, hla⟩ := valid_app hgo
        have hps := appP_size d p m c r m0 (by omega) (by omega) (by omega)
        rw [a1] at hps
        rw [a1, a2] at N16
        rw [a3]
        generalize p ++ lineB m c r = pp at N16 hps hva hla
        clear a1 a2 a3
        obtain ⟨n0, n1, n2, _, _, _⟩ := N16
        go_wp2_with fail
        refine (c_impl_LogRecords d pp (m + 1) _ (Env.ext he x23) (by omega) (by omega)).mono ?_
        rintro e w24 ⟨a24, m24, k24, rfl, _, hT24, hx24⟩
        obtain ⟨rfl, g24, rfl, o24⟩ := hT24 hva
        clear hT24
        have x24 := x23.trans hx24
        replace n0 := hx24.keep n0
        replace n1 := hx24.keep n1
        replace n2 := hx24.keep n2
        obtain ⟨r0, r1, _, _⟩ := R16.ext hx24
        replace o19 := ownsRow_ext o19 hx24
        rw [hla, List.length_append, List.length_singleton] at o24
        rw [hla, List.length_append, List.length_singleton, hva]
        have o24c := own_cap o24
        have hlast := recCells_last (logAt (d ++ p) 0 0) c r ee
        have h0 := own_cell o24 _ _ hlast.1
        have h1 := own_cell o24 _ _ hlast.2
        have hwl := IntWalk.i64_in (((logAt (d ++ p) 0 0).length : Int) + 1) (by omega)
        have hE24 := Env.ext he x24
        generalize hL : logAt (d ++ p) 0 0 = LL at o19 o24 o24c h0 h1 hwl hll ⊢
        have c0 : LL.length ≤ k24 := by omega
        have c1 : (LL.length : Int) < (LL.length : Int) + 1 := by omega
        clear hlast hla
        go_wp2_with fail
        refine wp_region_held_drew (S := (fun w' => Ext w24 w')) (by kernel_rfl) ?_ (fun hHeld => ?_)
        · exact (Ext.refl w24).drew
        refine wpAnyH_take (i := 0) (v := ?_) rfl (by kernel_rfl) (by kernel_rfl) (by kernel_rfl) (fun _ _ _ h => h) (Or.inl ⟨by rfl, ?_⟩) (by assumption) ?_
        rotate_left
        · (intro w hSw; (try dsimp only at hSw); have s0 := Ext.keep hSw n0; have s1 := Ext.keep hSw n1; have s2 := Ext.keep hSw n2; have s3 := Ext.keep hSw h0; have s4 := Ext.keep hSw h1; have s5 := Ext.keep hSw r0; have s6 := Ext.keep hSw r1; go_simp; (try with_reducible rfl))
        try simp only [Act.put, List.getElem_toArray, List.getElem_cons_zero, List.getElem_cons_succ, List.setIfInBounds_toArray, List.set_cons_zero, List.set_cons_succ]
        refine wpAnyH_ready (rs := [1]) (by kernel_rfl) (by simp) ?_
        refine AllReadyH.cons rfl (fun K hK => ?_) AllReadyH.nil
        go_simp
        (go_at_call 22; refine (c_impl_IsValidLog _ _ _ _ (Env.ext hE24 hHeld) (by omega) (by omega)).mono ?_; rintro e w25 ⟨rfl, hx25⟩; rw [hva])
        show K _ _
        refine hK.out _ _ (by exact hHeld.trans hx25) (fun hHeld => ?_)
        clear hK K
        try simp only [Act.put, List.getElem_toArray, List.getElem_cons_zero, List.getElem_cons_succ, List.setIfInBounds_toArray, List.set_cons_zero, List.set_cons_succ]
        refine wpAnyH_take (i := 2) (v := ?_) rfl (by kernel_rfl) (by kernel_rfl) (by kernel_rfl) (fun _ _ _ h => h) (Or.inl ⟨by rfl, ?_⟩) (by assumption) ?_
        rotate_left
        · (intro w hSw; (try dsimp only at hSw); have s0 := Ext.keep hSw n0; have s1 := Ext.keep hSw n1; have s2 := Ext.keep hSw n2; have s3 := Ext.keep hSw h0; have s4 := Ext.keep hSw h1; have s5 := Ext.keep hSw r0; have s6 := Ext.keep hSw r1; go_simp; (try with_reducible rfl))
        try simp only [Act.put, List.getElem_toArray, List.getElem_cons_zero, List.getElem_cons_succ, List.setIfInBounds_toArray, List.set_cons_zero, List.set_cons_succ]
        refine wpAnyH_take (i := 3) (v := ?_) rfl (by kernel_rfl) (by kernel_rfl) (by kernel_rfl) (fun _ _ _ h => h) (Or.inl ⟨by rfl, ?_⟩) (by assumption) ?_
        rotate_left
        · (intro w hSw; (try dsimp only at hSw); have s0 := Ext.keep hSw n0; have s1 := Ext.keep hSw n1; have s2 := Ext.keep hSw n2; have s3 := Ext.keep hSw h0; have s4 := Ext.keep hSw h1; have s5 := Ext.keep hSw r0; have s6 := Ext.keep hSw r1; go_simp; (try with_reducible rfl))
        try simp only [Act.put, List.getElem_toArray, List.getElem_cons_zero, List.getElem_cons_succ, List.setIfInBounds_toArray, List.set_cons_zero, List.set_cons_succ]
        refine wpAnyH_take (i := 4) (v := ?_) rfl (by kernel_rfl) (by kernel_rfl) (by kernel_rfl) (fun _ _ _ h => h) (Or.inl ⟨by rfl, ?_⟩) (by assumption) ?_
        rotate_left
        · (intro w hSw; (try dsimp only at hSw); have s0 := Ext.keep hSw n0; have s1 := Ext.keep hSw n1; have s2 := Ext.keep hSw n2; have s3 := Ext.keep hSw h0; have s4 := Ext.keep hSw h1; have s5 := Ext.keep hSw r0; have s6 := Ext.keep hSw r1; go_simp; (try with_reducible rfl))
        try simp only [Act.put, List.getElem_toArray, List.getElem_cons_zero, List.getElem_cons_succ, List.setIfInBounds_toArray, List.set_cons_zero, List.set_cons_succ]
        refine wpAnyH_take (i := 5) (v := ?_) rfl (by kernel_rfl) (by kernel_rfl) (by kernel_rfl) (fun _ _ _ h => h) (Or.inl ⟨by rfl, ?_⟩) (by assumption) ?_
        rotate_left
        · (intro w hSw; (try dsimp only at hSw); have s0 := Ext.keep hSw n0; have s1 := Ext.keep hSw n1; have s2 := Ext.keep hSw n2; have s3 := Ext.keep hSw h0; have s4 := Ext.keep hSw h1; have s5 := Ext.keep hSw r0; have s6 := Ext.keep hSw r1; go_simp; (try with_reducible rfl))
        try simp only [Act.put, List.getElem_toArray, List.getElem_cons_zero, List.getElem_cons_succ, List.setIfInBounds_toArray, List.set_cons_zero, List.set_cons_succ]
        refine wpAnyH_take (i := 6) (v := ?_) rfl (by kernel_rfl) (by kernel_rfl) (by kernel_rfl) (fun _ _ _ h => h) (Or.inl ⟨by rfl, ?_⟩) (by assumption) ?_
        rotate_left
        · (intro w hSw; (try dsimp only at hSw); have s0 := Ext.keep hSw n0; have s1 := Ext.keep hSw n1; have s2 := Ext.keep hSw n2; have s3 := Ext.keep hSw h0; have s4 := Ext.keep hSw h1; have s5 := Ext.keep hSw r0; have s6 := Ext.keep hSw r1; go_simp; (try with_reducible rfl))
        try simp only [Act.put, List.getElem_toArray, List.getElem_cons_zero, List.getElem_cons_succ, List.setIfInBounds_toArray, List.set_cons_zero, List.set_cons_succ]
        refine wpAnyH_take (i := 7) (v := ?_) rfl (by kernel_rfl) (by kernel_rfl) (by kernel_rfl) (fun _ _ _ h => h) (Or.inl ⟨by rfl, ?_⟩) (by assumption) ?_
        rotate_left
        · (intro w hSw; (try dsimp only at hSw); have s0 := Ext.keep hSw n0; have s1 := Ext.keep hSw n1; have s2 := Ext.keep hSw n2; have s3 := Ext.keep hSw h0; have s4 := Ext.keep hSw h1; have s5 := Ext.keep hSw r0; have s6 := Ext.keep hSw r1; go_simp; (try with_reducible rfl))
        try simp only [Act.put, List.getElem_toArray, List.getElem_cons_zero, List.getElem_cons_succ, List.setIfInBounds_toArray, List.set_cons_zero, List.set_cons_succ]
        refine wpAnyH_take (i := 8) (v := ?_) rfl (by kernel_rfl) (by kernel_rfl) (by kernel_rfl) (fun _ _ _ h => h) (Or.inl ⟨by rfl, ?_⟩) (by assumption) ?_
        rotate_left
        · (intro w hSw; (try dsimp only at hSw); have s0 := Ext.keep hSw n0; have s1 := Ext.keep hSw n1; have s2 := Ext.keep hSw n2; have s3 := Ext.keep hSw h0; have s4 := Ext.keep hSw h1; have s5 := Ext.keep hSw r0; have s6 := Ext.keep hSw r1; go_simp; (try with_reducible rfl))
        try simp only [Act.put, List.getElem_toArray, List.getElem_cons_zero, List.getElem_cons_succ, List.setIfInBounds_toArray, List.set_cons_zero, List.set_cons_succ]
        refine wpAnyH_take (i := 9) (v := ?_) rfl (by kernel_rfl) (by kernel_rfl) (by kernel_rfl) (fun _ _ _ h => h) (Or.inl ⟨by rfl, ?_⟩) (by assumption) ?_
        rotate_left
        · (intro w hSw; (try dsimp only at hSw); have s0 := Ext.keep hSw n0; have s1 := Ext.keep hSw n1; have s2 := Ext.keep hSw n2; have s3 := Ext.keep hSw h0; have s4 := Ext.keep hSw h1; have s5 := Ext.keep hSw r0; have s6 := Ext.keep hSw r1; go_simp; (try with_reducible rfl))
        try simp only [Act.put, List.getElem_toArray, List.getElem_cons_zero, List.getElem_cons_succ, List.setIfInBounds_toArray, List.set_cons_zero, List.set_cons_succ]
        refine wpAnyH_take (i := 10) (v := ?_) rfl (by kernel_rfl) (by kernel_rfl) (by kernel_rfl) (fun _ _ _ h => h) (Or.inl ⟨by rfl, ?_⟩) (by assumption) ?_
        rotate_left
        · (intro w hSw; (try dsimp only at hSw); have s0 := Ext.keep hSw n0; have s1 := Ext.keep hSw n1; have s2 := Ext.keep hSw n2; have s3 := Ext.keep hSw h0; have s4 := Ext.keep hSw h1; have s5 := Ext.keep hSw r0; have s6 := Ext.keep hSw r1; go_simp; (try with_reducible rfl))
        try simp only [Act.put, List.getElem_toArray, List.getElem_cons_zero, List.getElem_cons_succ, List.setIfInBounds_toArray, List.set_cons_zero, List.set_cons_succ]
        refine wpAnyH_take (i := 11) (v := ?_) rfl (by kernel_rfl) (by kernel_rfl) (by kernel_rfl) (fun _ _ _ h => h) (Or.inl ⟨by rfl, ?_⟩) (by assumption) ?_
        rotate_left
        · (intro w hSw; (try dsimp only at hSw); have s0 := Ext.keep hSw n0; have s1 := Ext.keep hSw n1; have s2 := Ext.keep hSw n2; have s3 := Ext.keep hSw h0; have s4 := Ext.keep hSw h1; have s5 := Ext.keep hSw r0; have s6 := Ext.keep hSw r1; go_simp; (try with_reducible rfl))
        try simp only [Act.put, List.getElem_toArray, List.getElem_cons_zero, List.getElem_cons_succ, List.setIfInBounds_toArray, List.set_cons_zero, List.set_cons_succ]
        refine wpAnyH_take (i := 12) (v := ?_) rfl (by kernel_rfl) (by kernel_rfl) (by kernel_rfl) (fun _ _ _ h => h) (Or.inl ⟨by rfl, ?_⟩) (by assumption) ?_
        rotate_left
        · (intro w hSw; (try dsimp only at hSw); have s0 := Ext.keep hSw n0; have s1 := Ext.keep hSw n1; have s2 := Ext.keep hSw n2; have s3 := Ext.keep hSw h0; have s4 := Ext.keep hSw h1; have s5 := Ext.keep hSw r0; have s6 := Ext.keep hSw r1; go_simp; (try with_reducible rfl))
        try simp only [Act.put, List.getElem_toArray, List.getElem_cons_zero, List.getElem_cons_succ, List.setIfInBounds_toArray, List.set_cons_zero, List.set_cons_succ]
        refine wpAnyH_take (i := 13) (v := ?_) rfl (by kernel_rfl) (by kernel_rfl) (by kernel_rfl) (fun _ _ _ h => h) (Or.inl ⟨by rfl, ?_⟩) (by assumption) ?_
        rotate_left
        · (intro w hSw; (try dsimp only at hSw); have s0 := Ext.keep hSw n0; have s1 := Ext.keep hSw n1; have s2 := Ext.keep hSw n2; have s3 := Ext.keep hSw h0; have s4 := Ext.keep hSw h1; have s5 := Ext.keep hSw r0; have s6 := Ext.keep hSw r1; go_simp; (try with_reducible rfl))
        try simp only [Act.put, List.getElem_toArray, List.getElem_cons_zero, List.getElem_cons_succ, List.setIfInBounds_toArray, List.set_cons_zero, List.set_cons_succ]
        refine wpAnyH_take (i := 14) (v := ?_) rfl (by kernel_rfl) (by kernel_rfl) (by kernel_rfl) (fun _ _ _ h => h) (Or.inl ⟨by rfl, ?_⟩) (by assumption) ?_
        rotate_left
        · (intro w hSw; (try dsimp only at hSw); have s0 := Ext.keep hSw n0; have s1 := Ext.keep hSw n1; have s2 := Ext.keep hSw n2; have s3 := Ext.keep hSw h0; have s4 := Ext.keep hSw h1; have s5 := Ext.keep hSw r0; have s6 := Ext.keep hSw r1; go_simp; (try with_reducible rfl))
        try simp only [Act.put, List.getElem_toArray, List.getElem_cons_zero, List.getElem_cons_succ, List.setIfInBounds_toArray, List.set_cons_zero, List.set_cons_succ]
        refine wpAnyH_take (i := 15) (v := ?_) rfl (by kernel_rfl) (by kernel_rfl) (by kernel_rfl) (fun _ _ _ h => h) (Or.inl ⟨by rfl, ?_⟩) (by assumption) ?_
        rotate_left
        · (intro w hSw; (try dsimp only at hSw); have s0 := Ext.keep hSw n0; have s1 := Ext.keep hSw n1; have s2 := Ext.keep hSw n2; have s3 := Ext.keep hSw h0; have s4 := Ext.keep hSw h1; have s5 := Ext.keep hSw r0; have s6 := Ext.keep hSw r1; go_simp; (try with_reducible rfl))
        try simp only [Act.put, List.getElem_toArray, List.getElem_cons_zero, List.getElem_cons_succ, List.setIfInBounds_toArray, List.set_cons_zero, List.set_cons_succ]
        refine wpAnyH_ready (rs := [16]) (by kernel_rfl) (by simp) ?_
        refine AllReadyH.cons rfl (fun K hK => ?_) AllReadyH.nil
        go_simp
        (go_at_call 42; refine (vRecords_own _ _ _ _ _ _ LL.length _ _ _ _ _ _ _ (ownsRow_ext o24 hHeld) (ownsRow_ext o19 hHeld) hll (by simp) (Nat.le_refl _) (fun i h1 h2 _ => by rw [List.getElem_append_left h2]; exact ⟨rfl, rfl⟩)).mono ?_; rintro e w26 ⟨rfl, hx26⟩)
        show K _ _
        refine hK.out _ _ (by exact hHeld.trans hx26) (fun hHeld => ?_)
        clear hK K
        try simp only [Act.put, List.getElem_toArray, List.getElem_cons_zero, List.getElem_cons_succ, List.setIfInBounds_toArray, List.set_cons_zero, List.set_cons_succ]
        refine wpAnyH_take (i := 17) (v := ?_) rfl (by kernel_rfl) (by kernel_rfl) (by kernel_rfl) (fun _ _ _ h => h) (Or.inl ⟨by rfl, ?_⟩) (by assumption) ?_
        rotate_left
        · (intro w hSw; (try dsimp only at hSw); have s0 := Ext.keep hSw n0; have s1 := Ext.keep hSw n1; have s2 := Ext.keep hSw n2; have s3 := Ext.keep hSw h0; have s4 := Ext.keep hSw h1; have s5 := Ext.keep hSw r0; have s6 := Ext.keep hSw r1; go_simp; (try with_reducible rfl))
        try simp only [Act.put, List.getElem_toArray, List.getElem_cons_zero, List.getElem_cons_succ, List.setIfInBounds_toArray, List.set_cons_zero, List.set_cons_succ]
        refine wpAnyH_take (i := 18) (v := ?_) rfl (by kernel_rfl) (by kernel_rfl) (by kernel_rfl) (fun _ _ _ h => h) (Or.inl ⟨by rfl, ?_⟩) (by assumption) ?_
        rotate_left
        · (intro w hSw; (try dsimp only at hSw); have s0 := Ext.keep hSw n0; have s1 := Ext.keep hSw n1; have s2 := Ext.keep hSw n2; have s3 := Ext.keep hSw h0; have s4 := Ext.keep hSw h1; have s5 := Ext.keep hSw r0; have s6 := Ext.keep hSw r1; go_simp; (try with_reducible rfl))
        try simp only [Act.put, List.getElem_toArray, List.getElem_cons_zero, List.getElem_cons_succ, List.setIfInBounds_toArray, List.set_cons_zero, List.set_cons_succ]
        refine wpAnyH_take (i := 19) (v := ?_) rfl (by kernel_rfl) (by kernel_rfl) (by kernel_rfl) (fun _ _ _ h => h) (Or.inl ⟨by rfl, ?_⟩) (by assumption) ?_
        rotate_left
        · (intro w hSw; (try dsimp only at hSw); have s0 := Ext.keep hSw n0; have s1 := Ext.keep hSw n1; have s2 := Ext.keep hSw n2; have s3 := Ext.keep hSw h0; have s4 := Ext.keep hSw h1; have s5 := Ext.keep hSw r0; have s6 := Ext.keep hSw r1; go_simp; (try with_reducible rfl))
        try simp only [Act.put, List.getElem_toArray, List.getElem_cons_zero, List.getElem_cons_succ, List.setIfInBounds_toArray, List.set_cons_zero, List.set_cons_succ]
        refine wpAnyH_take (i := 20) (v := ?_) rfl (by kernel_rfl) (by kernel_rfl) (by kernel_rfl) (fun _ _ _ h => h) (Or.inl ⟨by rfl, ?_⟩) (by assumption) ?_
        rotate_left
        · (intro w hSw; (try dsimp only at hSw); have s0 := Ext.keep hSw n0; have s1 := Ext.keep hSw n1; have s2 := Ext.keep hSw n2; have s3 := Ext.keep hSw h0; have s4 := Ext.keep hSw h1; have s5 := Ext.keep hSw r0; have s6 := Ext.keep hSw r1; go_simp; (try with_reducible rfl))
        try simp only [Act.put, List.getElem_toArray, List.getElem_cons_zero, List.getElem_cons_succ, List.setIfInBounds_toArray, List.set_cons_zero, List.set_cons_succ]
        refine wpAnyH_take (i := 21) (v := ?_) rfl (by kernel_rfl) (by kernel_rfl) (by kernel_rfl) (fun _ _ _ h => h) (Or.inl ⟨by rfl, ?_⟩) (by assumption) ?_
        rotate_left
        · (intro w hSw; (try dsimp only at hSw); have s0 := Ext.keep hSw n0; have s1 := Ext.keep hSw n1; have s2 := Ext.keep hSw n2; have s3 := Ext.keep hSw h0; have s4 := Ext.keep hSw h1; have s5 := Ext.keep hSw r0; have s6 := Ext.keep hSw r1; go_simp; (try with_reducible rfl))
        try simp only [Act.put, List.getElem_toArray, List.getElem_cons_zero, List.getElem_cons_succ, List.setIfInBounds_toArray, List.set_cons_zero, List.set_cons_succ]
        refine wpAnyH_take (i := 22) (v := ?_) rfl (by kernel_rfl) (by kernel_rfl) (by kernel_rfl) (fun _ _ _ h => h) (Or.inl ⟨by rfl, ?_⟩) (by assumption) ?_
        rotate_left
        · (intro w hSw; (try dsimp only at hSw); have s0 := Ext.keep hSw n0; have s1 := Ext.keep hSw n1; have s2 := Ext.keep hSw n2; have s3 := Ext.keep hSw h0; have s4 := Ext.keep hSw h1; have s5 := Ext.keep hSw r0; have s6 := Ext.keep hSw r1; go_simp; (try with_reducible rfl))
        try simp only [Act.put, List.getElem_toArray, List.getElem_cons_zero, List.getElem_cons_succ, List.setIfInBounds_toArray, List.set_cons_zero, List.set_cons_succ]
        refine wpAnyH_take (i := 23) (v := ?_) rfl (by kernel_rfl) (by kernel_rfl) (by kernel_rfl) (fun _ _ _ h => h) (Or.inl ⟨by rfl, ?_⟩) (by assumption) ?_
        rotate_left
        · (intro w hSw; (try dsimp only at hSw); have s0 := Ext.keep hSw n0; have s1 := Ext.keep hSw n1; have s2 := Ext.keep hSw n2; have s3 := Ext.keep hSw h0; have s4 := Ext.keep hSw h1; have s5 := Ext.keep hSw r0; have s6 := Ext.keep hSw r1; go_simp; (try with_reducible rfl))
        try simp only [Act.put, List.getElem_toArray, List.getElem_cons_zero, List.getElem_cons_succ, List.setIfInBounds_toArray, List.set_cons_zero, List.set_cons_succ]
        refine wpAnyH_take (i := 24) (v := ?_) rfl (by kernel_rfl) (by kernel_rfl) (by kernel_rfl) (fun _ _ _ h => h) (Or.inl ⟨by rfl, ?_⟩) (by assumption) ?_
        rotate_left
        · (intro w hSw; (try dsimp only at hSw); have s0 := Ext.keep hSw n0; have s1 := Ext.keep hSw n1; have s2 := Ext.keep hSw n2; have s3 := Ext.keep hSw h0; have s4 := Ext.keep hSw h1; have s5 := Ext.keep hSw r0; have s6 := Ext.keep hSw r1; go_simp; (try with_reducible rfl))
        try simp only [Act.put, List.getElem_toArray, List.getElem_cons_zero, List.getElem_cons_succ, List.setIfInBounds_toArray, List.set_cons_zero, List.set_cons_succ]
        refine wpAnyH_take (i := 25) (v := ?_) rfl (by kernel_rfl) (by kernel_rfl) (by kernel_rfl) (fun _ _ _ h => h) (Or.inl ⟨by rfl, ?_⟩) (by assumption) ?_
        rotate_left
        · (intro w hSw; (try dsimp only at hSw); have s0 := Ext.keep hSw n0; have s1 := Ext.keep hSw n1; have s2 := Ext.keep hSw n2; have s3 := Ext.keep hSw h0; have s4 := Ext.keep hSw h1; have s5 := Ext.keep hSw r0; have s6 := Ext.keep hSw r1; go_simp; (try with_reducible rfl))
        try simp only [Act.put, List.getElem_toArray, List.getElem_cons_zero, List.getElem_cons_succ, List.setIfInBounds_toArray, List.set_cons_zero, List.set_cons_succ]
        refine wpAnyH_take (i := 26) (v := ?_) rfl (by kernel_rfl) (by kernel_rfl) (by kernel_rfl) (fun _ _ _ h => h) (Or.inl ⟨by rfl, ?_⟩) (by assumption) ?_
        rotate_left
        · (intro w hSw; (try dsimp only at hSw); have s0 := Ext.keep hSw n0; have s1 := Ext.keep hSw n1; have s2 := Ext.keep hSw n2; have s3 := Ext.keep hSw h0; have s4 := Ext.keep hSw h1; have s5 := Ext.keep hSw r0; have s6 := Ext.keep hSw r1; go_simp; (try with_reducible rfl))
        try simp only [Act.put, List.getElem_toArray, List.getElem_cons_zero, List.getElem_cons_succ, List.setIfInBounds_toArray, List.set_cons_zero, List.set_cons_succ]
        refine wpAnyH_take (i := 27) (v := ?_) rfl (by kernel_rfl) (by kernel_rfl) (by kernel_rfl) (fun _ _ _ h => h) (Or.inl ⟨by rfl, ?_⟩) (by assumption) ?_
        rotate_left
        · (intro w hSw; (try dsimp only at hSw); have s0 := Ext.keep hSw n0; have s1 := Ext.keep hSw n1; have s2 := Ext.keep hSw n2; have s3 := Ext.keep hSw h0; have s4 := Ext.keep hSw h1; have s5 := Ext.keep hSw r0; have s6 := Ext.keep hSw r1; go_simp; (try with_reducible rfl))
        try simp only [Act.put, List.getElem_toArray, List.getElem_cons_zero, List.getElem_cons_succ, List.setIfInBounds_toArray, List.set_cons_zero, List.set_cons_succ]
        refine wpAnyH_done (by kernel_rfl) ?_ _
        go_wp2_with fail
        go_ret
        exact ⟨rfl, x24.trans hHeld⟩
end Go.Proofs.YteapfbfoegphkaaDoor
