/-
  The law FnExactAppendRecord: its walk.
-/
import Derived.Test.YteapfbfoegphkaaDoorW13
import Derived.Test.YteapfbfoegphkaaDoorW1b
import Derived.Deep.DeepMust
namespace Go.Proofs.YteapfbfoegphkaaDoor
open Go.RowKit
set_option linter.unusedVariables false
set_option linter.unusedSimpArgs false
attribute [local irreducible] decS sumL sumB sealB textB lineB encOk encStr acOk acStr pieces mkB piecesB splitB upL behL cutA cutZ verOk verStr rcI rrI okI aheadS preS restS atS rcS rrS okS inR okByte printed hasByte fits someB cmdB recB
attribute [local irreducible] validB szRec appP appN appK

/-- A new log's block, in a region that draws its order. -/
theorem alloc_log {K : Act → World → Prop} {a : Act} {w : World} {T : TypeId} (h : ∀ w', Ext w w' → w'.heap.size = w.heap.size + 1 → w'.cell? ⟨w.heap.size, 0, none⟩ = some (.string ⟨#[]⟩) → w'.cell? ⟨w.heap.size, 1, none⟩ = some (.string ⟨#[]⟩) → w'.cell? ⟨w.heap.size, 2, none⟩ = some (.int .i64 0) →
    w'.frozen? ⟨w.heap.size, 0, none⟩ = false → w'.frozen? ⟨w.heap.size, 1, none⟩ = false → w'.frozen? ⟨w.heap.size, 2, none⟩ = false → K a w') : K a (w.alloc (.cells #[.string ⟨#[]⟩, .string ⟨#[]⟩, .int .i64 0] T)) :=
  h _ ((Ext.refl w).alloc _) (by simp) (by simp) (by simp) (by simp) (by simp) (by simp) (by simp)
theorem alloc_log_drew {K : Act → World → Prop} {a : Act} {w : World} {T : TypeId} (h : ∀ w', Ext w w' → w'.heap.size = w.heap.size + 1 → w'.cell? ⟨w.heap.size, 0, none⟩ = some (.string ⟨#[]⟩) → w'.cell? ⟨w.heap.size, 1, none⟩ = some (.string ⟨#[]⟩) → w'.cell? ⟨w.heap.size, 2, none⟩ = some (.int .i64 0) →
    w'.frozen? ⟨w.heap.size, 0, none⟩ = false → w'.frozen? ⟨w.heap.size, 1, none⟩ = false → w'.frozen? ⟨w.heap.size, 2, none⟩ = false → K a w') : K a (w.alloc (.cells #[.string ⟨#[]⟩, .string ⟨#[]⟩, .int .i64 0] T)).drew :=
  h _ ((Ext.refl w).alloc _).drew (by simp) (by simp) (by simp) (by simp) (by simp) (by simp) (by simp)
/-- A log is stored into its block. -/
theorem store_log {K : Act → World → Prop} {a : Act} {W w : World} {G : Nat} {u0 u1 u2 v0 v1 v2 : Value} (hx : Ext W w) (hG : W.heap.size ≤ G) (g0 : w.cell? ⟨G, 0, none⟩ = some u0) (g1 : w.cell? ⟨G, 1, none⟩ = some u1) (g2 : w.cell? ⟨G, 2, none⟩ = some u2)
    (h : ∀ w', Ext W w' → w'.heap.size = w.heap.size → w'.cell? ⟨G, 0, none⟩ = some v0 → w'.cell? ⟨G, 1, none⟩ = some v1 → w'.cell? ⟨G, 2, none⟩ = some v2 → K a w') :
    K a (((w.setCell ⟨G, 0, none⟩ v0).setCell ⟨G, 1, none⟩ v1).setCell ⟨G, 2, none⟩ v2) := by
  refine h _ (((hx.setCell hG _).setCell hG _).setCell hG _) (by simp) ?_ ?_ ?_
  · exact cell_other (cell_other (World.cell?_setCell_same _ _ _ g0) (by simp)) (by simp)
  · exact cell_other (World.cell?_setCell_same _ _ _ (cell_other g1 (by simp))) (by simp)
  · exact World.cell?_setCell_same _ _ _ (cell_other (cell_other g2 (by simp)) (by simp))

theorem szRec_le (c r : ByteArray) (n : Int) (h : -1 ≤ n) : szRec c r n ≤ n ∨ szRec c r n = -1 := by
  unfold szRec
  split
  · exact .inr rfl
  · split
    · exact .inr rfl
    · left; omega
set_option maxRecDepth 100000 in
set_option maxHeartbeats 8000000 in
theorem law_FnExactAppendRecord (d p : ByteArray) (n : Int) (c r : ByteArray) (w : World) (he : Env w) (hd : d.size ≤ maxLen) (hp : p.size ≤ maxLen) (hn : (Lit.int .i64 n).wf = true) (hc : c.size ≤ maxLen) (hr : r.size ≤ maxLen) :
    Calls Tryd.prog 8 #[.agg #[.string d, .string p, .int .i64 n], .agg #[.string c, .string r]] w fun e w' => e = .returned (.bool true) ∧ Ext w w' := by
  by_cases hz : szRec d p 1048576 < 0
  · go_enter Tryd.func8, Tryd.ntmps8
    go_wp2_with (go_at_call 19; refine (c_laws_szLog _ _ _ _ _ hd hp (by decide) (by decide)).mono ?_; rintro e w1 ⟨rfl, hb1⟩; obtain ⟨hc1, hf1, hz1⟩ := hb1.cells; (try simp only [World.size_alloc] at hc1 hf1 hz1))
    go_ret
    exact ⟨rfl, by (repeat (first | with_reducible assumption | with_reducible exact Ext.refl _ | with_reducible refine Ext.alloc ?_ _ | with_reducible refine Ext.drew ?_ | with_reducible refine Ext.drewN ?_ _ | refine Ext.setCell ?_ (by first | (simp only [World.size_alloc, World.size_setCell]; omega) | omega) _ | with_reducible refine Ext.trans ?_ (by with_reducible assumption)))⟩
  · have hq := szRec_pos hz
    have hd' : d.size ≤ 1048576 := by omega
    have hp' : p.size ≤ 1048576 := by omega
    have ha1 : -1 ≤ szRec d p 1048576 := by omega
    have ha2 : szRec d p 1048576 ≤ 1048576 := by have := szRec_le d p 1048576 (by decide); omega
    by_cases hy : szRec c r (szRec d p 1048576) < 0
    · go_enter Tryd.func8, Tryd.ntmps8
      go_wp2_with (first | (go_at_call 19; refine (c_laws_szLog _ _ _ _ _ hd hp (by decide) (by decide)).mono ?_; rintro e w1 ⟨rfl, hb1⟩; obtain ⟨hc1, hf1, hz1⟩ := hb1.cells; (try simp only [World.size_alloc] at hc1 hf1 hz1)) | (go_at_call 12; refine (c_laws_szLogRecord _ _ _ _ hc hr ha1 ha2).mono ?_; rintro e w1 ⟨rfl, hb1⟩; obtain ⟨hc1, hf1, hz1⟩ := hb1.cells; (try simp only [World.size_alloc] at hc1 hf1 hz1)))
      go_ret
      exact ⟨rfl, by (repeat (first | with_reducible assumption | with_reducible exact Ext.refl _ | with_reducible refine Ext.alloc ?_ _ | with_reducible refine Ext.drew ?_ | with_reducible refine Ext.drewN ?_ _ | refine Ext.setCell ?_ (by first | (simp only [World.size_alloc, World.size_setCell]; omega) | omega) _ | with_reducible refine Ext.trans ?_ (by with_reducible assumption)))⟩
    · go_enter Tryd.func8, Tryd.ntmps8
      go_wp2_with (first | (go_at_call 19; refine (c_laws_szLog _ _ _ _ _ hd hp (by decide) (by decide)).mono ?_; rintro e w1 ⟨rfl, hb1⟩; obtain ⟨hc1, hf1, hz1⟩ := hb1.cells; (try simp only [World.size_alloc] at hc1 hf1 hz1)) | (go_at_call 12; refine (c_laws_szLogRecord _ _ _ _ hc hr ha1 ha2).mono ?_; rintro e w2 ⟨rfl, hb2⟩; have hx2 := hb1.trans hb2; have hE2 := Lib.hid (((he.alloc (.cells #[.string d, .string p, .int .i64 n] 36)).alloc (.cells #[.string c, .string r] 23)).ext hx2); obtain ⟨hc2, hf2, hz2⟩ := hx2.cells; (try simp only [World.size_alloc] at hc2 hf2 hz2)))
      have q0 : w2.cell? ⟨w.heap.size, 0, none⟩ = some (.string d) := by rw [hc2, if_pos (by omega)]; simp [go_sem]
      have q1 : w2.cell? ⟨w.heap.size, 1, none⟩ = some (.string p) := by rw [hc2, if_pos (by omega)]; simp [go_sem]
      have q2 : w2.cell? ⟨w.heap.size, 2, none⟩ = some (.int .i64 n) := by rw [hc2, if_pos (by omega)]; simp [go_sem]
      have e0 : w2.cell? ⟨w.heap.size + 1, 0, none⟩ = some (.string c) := by rw [hc2, if_pos (by omega)]; simp [go_sem]
      have e1 : w2.cell? ⟨w.heap.size + 1, 1, none⟩ = some (.string r) := by rw [hc2, if_pos (by omega)]; simp [go_sem]
      clear hc1 hf1 hc2 hf2
      refine wp_region_held_drew (S := (fun w' => Ext w2 w')) (by kernel_rfl) ?_ (fun hHeld => ?_)
      · exact (Ext.refl w2).drew
      refine wpAnyH_take (i := 0) (v := ?_) rfl (by kernel_rfl) (by kernel_rfl) (by kernel_rfl) (fun _ _ _ h => h) (Or.inl ⟨by rfl, ?_⟩) (by assumption) ?_
      rotate_left
      · (intro w hSw; (try dsimp only at hSw); have s0 := Ext.keep hSw q0; have s1 := Ext.keep hSw q1; have s2 := Ext.keep hSw q2; have s3 := Ext.keep hSw e0; have s4 := Ext.keep hSw e1; go_simp; (try with_reducible rfl))
      try simp only [Act.put, List.getElem_toArray, List.getElem_cons_zero, List.getElem_cons_succ, List.setIfInBounds_toArray, List.set_cons_zero, List.set_cons_succ]
      refine wpAnyH_take (i := 2) (v := ?_) rfl (by kernel_rfl) (by kernel_rfl) (by kernel_rfl) (fun _ _ _ h => h) (Or.inl ⟨by rfl, ?_⟩) (by assumption) ?_
      rotate_left
      · (intro w hSw; (try dsimp only at hSw); have s0 := Ext.keep hSw q0; have s1 := Ext.keep hSw q1; have s2 := Ext.keep hSw q2; have s3 := Ext.keep hSw e0; have s4 := Ext.keep hSw e1; go_simp; (try with_reducible rfl))
      try simp only [Act.put, List.getElem_toArray, List.getElem_cons_zero, List.getElem_cons_succ, List.setIfInBounds_toArray, List.set_cons_zero, List.set_cons_succ]
      refine wpAnyH_ready (rs := [1, 8]) (by kernel_rfl) (by simp) ?_
      refine AllReadyH.cons rfl (fun K hK => ?_) (AllReadyH.cons rfl (fun K hK => ?_) (AllReadyH.nil))
      focus
        go_simp
        (go_at_call 21; refine (c_laws_toLog _ _ _ _).mono ?_; rintro e w3 ⟨rfl, hb3⟩; have hz3 := Below.size hb3; (try simp only [World.size_drew] at hz3); try (have m0 := hb3.mark g0 m0; have m1 := hb3.mark g1 m1; have m2 := hb3.mark g2 m2; have g0 := hb3.keep g0; have g1 := hb3.keep g1; have g2 := hb3.keep g2))
        show K _ _
        refine hK.out _ _ (by exact hHeld.trans hb3) (fun hHeld => ?_)
        clear hK K
        try simp only [Act.put, List.getElem_toArray, List.getElem_cons_zero, List.getElem_cons_succ, List.setIfInBounds_toArray, List.set_cons_zero, List.set_cons_succ]
        refine wpAnyH_ready (rs := [3, 8]) (by kernel_rfl) (by simp) ?_
        refine AllReadyH.cons rfl (fun K hK => ?_) (AllReadyH.cons rfl (fun K hK => ?_) (AllReadyH.nil))
        focus
          go_simp
          (go_at_call 14; refine (c_laws_toLogRecord _ _ _).mono ?_; rintro e w4 ⟨rfl, hb4⟩; have hz4 := Below.size hb4; (try simp only [World.size_drew] at hz4); try (have m0 := hb4.mark g0 m0; have m1 := hb4.mark g1 m1; have m2 := hb4.mark g2 m2; have g0 := hb4.keep g0; have g1 := hb4.keep g1; have g2 := hb4.keep g2))
          show K _ _
          refine hK.out _ _ (by exact hHeld.trans hb4) (fun hHeld => ?_)
          clear hK K
          try simp only [Act.put, List.getElem_toArray, List.getElem_cons_zero, List.getElem_cons_succ, List.setIfInBounds_toArray, List.set_cons_zero, List.set_cons_succ]
          refine wpAnyH_ready (rs := [4, 8]) (by kernel_rfl) (by simp) ?_
          refine AllReadyH.cons rfl (fun K hK => ?_) (AllReadyH.cons rfl (fun K hK => ?_) (AllReadyH.nil))
          focus
            go_simp
            (go_at_call 27; refine (c_spec_AppendRecord _ _ _ _ _ _ hd' hp' hc hr).mono ?_; rintro e w5 ⟨rfl, hb5⟩; have hz5 := Below.size hb5; (try simp only [World.size_drew] at hz5); try (have m0 := hb5.mark g0 m0; have m1 := hb5.mark g1 m1; have m2 := hb5.mark g2 m2; have g0 := hb5.keep g0; have g1 := hb5.keep g1; have g2 := hb5.keep g2))
            show K _ _
            refine hK.out _ _ (by exact hHeld.trans hb5) (fun hHeld => ?_)
            clear hK K
            try simp only [Act.put, List.getElem_toArray, List.getElem_cons_zero, List.getElem_cons_succ, List.setIfInBounds_toArray, List.set_cons_zero, List.set_cons_succ]
            refine wpAnyH_take (i := 5) (v := ?_) rfl (by kernel_rfl) (by kernel_rfl) (by kernel_rfl) (fun _ _ _ h => h) (Or.inl ⟨by rfl, ?_⟩) (by assumption) ?_
            rotate_left
            · (intro w hSw; (try dsimp only at hSw); have s0 := Ext.keep hSw q0; have s1 := Ext.keep hSw q1; have s2 := Ext.keep hSw q2; have s3 := Ext.keep hSw e0; have s4 := Ext.keep hSw e1; go_simp; (try with_reducible rfl))
            try simp only [Act.put, List.getElem_toArray, List.getElem_cons_zero, List.getElem_cons_succ, List.setIfInBounds_toArray, List.set_cons_zero, List.set_cons_succ]
            refine wpAnyH_take (i := 6) (v := ?_) rfl (by kernel_rfl) (by kernel_rfl) (by kernel_rfl) (fun _ _ _ h => h) (Or.inl ⟨by rfl, ?_⟩) (by assumption) ?_
            rotate_left
            · (intro w hSw; (try dsimp only at hSw); have s0 := Ext.keep hSw q0; have s1 := Ext.keep hSw q1; have s2 := Ext.keep hSw q2; have s3 := Ext.keep hSw e0; have s4 := Ext.keep hSw e1; go_simp; (try with_reducible rfl))
            try simp only [Act.put, List.getElem_toArray, List.getElem_cons_zero, List.getElem_cons_succ, List.setIfInBounds_toArray, List.set_cons_zero, List.set_cons_succ]
            refine wpAnyH_take (i := 7) (v := ?_) rfl (by kernel_rfl) (by kernel_rfl) (by kernel_rfl) (fun _ _ _ h => h) (Or.inl ⟨by rfl, ?_⟩) (by assumption) ?_
            rotate_left
            · (intro w hSw; (try dsimp only at hSw); have s0 := Ext.keep hSw q0; have s1 := Ext.keep hSw q1; have s2 := Ext.keep hSw q2; have s3 := Ext.keep hSw e0; have s4 := Ext.keep hSw e1; go_simp; (try with_reducible rfl))
            try simp only [Act.put, List.getElem_toArray, List.getElem_cons_zero, List.getElem_cons_succ, List.setIfInBounds_toArray, List.set_cons_zero, List.set_cons_succ]
            refine wpAnyH_ready (rs := [8]) (by kernel_rfl) (by simp) ?_
            refine AllReadyH.cons rfl (fun K hK => ?_) AllReadyH.nil
            go_simp
            (first | refine alloc_log ?_ | refine alloc_log_drew ?_); (intro w8 hb8 hz8 g0 g1 g2 m0 m1 m2; (try simp only [World.size_drew] at hz8 g0 g1 g2 m0 m1 m2))
            show K _ _
            refine hK.out _ _ (by first | exact hHeld.trans hb8 | exact hb8) (fun hHeld => ?_)
            clear hK K
            try simp only [Act.put, List.getElem_toArray, List.getElem_cons_zero, List.getElem_cons_succ, List.setIfInBounds_toArray, List.set_cons_zero, List.set_cons_succ]
            refine wpAnyH_ready (rs := [9]) (by kernel_rfl) (by simp) ?_
            refine AllReadyH.cons rfl (fun K hK => ?_) AllReadyH.nil
            go_simp
            (refine store_log hHeld (by omega) g0 g1 g2 ?_; intro w9 hx9 hz9 c0 c1 c2)
            show K _ _
            refine hK.out _ _ (by exact hx9) (fun hHeld => ?_)
            clear hK K
            try simp only [Act.put, List.getElem_toArray, List.getElem_cons_zero, List.getElem_cons_succ, List.setIfInBounds_toArray, List.set_cons_zero, List.set_cons_succ]
            refine wpAnyH_take (i := 10) (v := ?_) rfl (by kernel_rfl) (by kernel_rfl) (by kernel_rfl) (fun _ _ _ h => h) (Or.inl ⟨by rfl, ?_⟩) (by assumption) ?_
            rotate_left
            · (intro w hSw; (try dsimp only at hSw); have s0 := Ext.keep hSw q0; have s1 := Ext.keep hSw q1; have s2 := Ext.keep hSw q2; have s3 := Ext.keep hSw e0; have s4 := Ext.keep hSw e1; go_simp; (try with_reducible rfl))
            try simp only [Act.put, List.getElem_toArray, List.getElem_cons_zero, List.getElem_cons_succ, List.setIfInBounds_toArray, List.set_cons_zero, List.set_cons_succ]
            refine wpAnyH_done (by kernel_rfl) ?_ _
          rotate_left 1
          focus
            go_simp
            (first | refine alloc_log ?_ | refine alloc_log_drew ?_); (intro w8 hb8 hz8 g0 g1 g2 m0 m1 m2; (try simp only [World.size_drew] at hz8 g0 g1 g2 m0 m1 m2))
            show K _ _
            refine hK.out _ _ (by first | exact hHeld.trans hb8 | exact hb8) (fun hHeld => ?_)
            clear hK K
            try simp only [Act.put, List.getElem_toArray, List.getElem_cons_zero, List.getElem_cons_succ, List.setIfInBounds_toArray, List.set_cons_zero, List.set_cons_succ]
            refine wpAnyH_ready (rs := [4]) (by kernel_rfl) (by simp) ?_
            refine AllReadyH.cons rfl (fun K hK => ?_) AllReadyH.nil
            go_simp
            (go_at_call 27; refine (c_spec_AppendRecord _ _ _ _ _ _ hd' hp' hc hr).mono ?_; rintro e w5 ⟨rfl, hb5⟩; have hz5 := Below.size hb5; (try simp only [World.size_drew] at hz5); try (have m0 := hb5.mark g0 m0; have m1 := hb5.mark g1 m1; have m2 := hb5.mark g2 m2; have g0 := hb5.keep g0; have g1 := hb5.keep g1; have g2 := hb5.keep g2))
            show K _ _
            refine hK.out _ _ (by exact hHeld.trans hb5) (fun hHeld => ?_)
            clear hK K
            try simp only [Act.put, List.getElem_toArray, List.getElem_cons_zero, List.getElem_cons_succ, List.setIfInBounds_toArray, List.set_cons_zero, List.set_cons_succ]
            refine wpAnyH_take (i := 5) (v := ?_) rfl (by kernel_rfl) (by kernel_rfl) (by kernel_rfl) (fun _ _ _ h => h) (Or.inl ⟨by rfl, ?_⟩) (by assumption) ?_
            rotate_left
            · (intro w hSw; (try dsimp only at hSw); have s0 := Ext.keep hSw q0; have s1 := Ext.keep hSw q1; have s2 := Ext.keep hSw q2; have s3 := Ext.keep hSw e0; have s4 := Ext.keep hSw e1; go_simp; (try with_reducible rfl))
            try simp only [Act.put, List.getElem_toArray, List.getElem_cons_zero, List.getElem_cons_succ, List.setIfInBounds_toArray, List.set_cons_zero, List.set_cons_succ]
            refine wpAnyH_take (i := 6) (v := ?_) rfl (by kernel_rfl) (by kernel_rfl) (by kernel_rfl) (fun _ _ _ h => h) (Or.inl ⟨by rfl, ?_⟩) (by assumption) ?_
            rotate_left
            · (intro w hSw; (try dsimp only at hSw); have s0 := Ext.keep hSw q0; have s1 := Ext.keep hSw q1; have s2 := Ext.keep hSw q2; have s3 := Ext.keep hSw e0; have s4 := Ext.keep hSw e1; go_simp; (try with_reducible rfl))
            try simp only [Act.put, List.getElem_toArray, List.getElem_cons_zero, List.getElem_cons_succ, List.setIfInBounds_toArray, List.set_cons_zero, List.set_cons_succ]
            refine wpAnyH_take (i := 7) (v := ?_) rfl (by kernel_rfl) (by kernel_rfl) (by kernel_rfl) (fun _ _ _ h => h) (Or.inl ⟨by rfl, ?_⟩) (by assumption) ?_
            rotate_left
            · (intro w hSw; (try dsimp only at hSw); have s0 := Ext.keep hSw q0; have s1 := Ext.keep hSw q1; have s2 := Ext.keep hSw q2; have s3 := Ext.keep hSw e0; have s4 := Ext.keep hSw e1; go_simp; (try with_reducible rfl))
            try simp only [Act.put, List.getElem_toArray, List.getElem_cons_zero, List.getElem_cons_succ, List.setIfInBounds_toArray, List.set_cons_zero, List.set_cons_succ]
            refine wpAnyH_ready (rs := [9]) (by kernel_rfl) (by simp) ?_
            refine AllReadyH.cons rfl (fun K hK => ?_) AllReadyH.nil
            go_simp
            (refine store_log hHeld (by omega) g0 g1 g2 ?_; intro w9 hx9 hz9 c0 c1 c2)
            show K _ _
            refine hK.out _ _ (by exact hx9) (fun hHeld => ?_)
            clear hK K
            try simp only [Act.put, List.getElem_toArray, List.getElem_cons_zero, List.getElem_cons_succ, List.setIfInBounds_toArray, List.set_cons_zero, List.set_cons_succ]
            refine wpAnyH_take (i := 10) (v := ?_) rfl (by kernel_rfl) (by kernel_rfl) (by kernel_rfl) (fun _ _ _ h => h) (Or.inl ⟨by rfl, ?_⟩) (by assumption) ?_
            rotate_left
            · (intro w hSw; (try dsimp only at hSw); have s0 := Ext.keep hSw q0; have s1 := Ext.keep hSw q1; have s2 := Ext.keep hSw q2; have s3 := Ext.keep hSw e0; have s4 := Ext.keep hSw e1; go_simp; (try with_reducible rfl))
            try simp only [Act.put, List.getElem_toArray, List.getElem_cons_zero, List.getElem_cons_succ, List.setIfInBounds_toArray, List.set_cons_zero, List.set_cons_succ]
            refine wpAnyH_done (by kernel_rfl) ?_ _
          rotate_left 1
        rotate_left 2
        focus
          go_simp
          (first | refine alloc_log ?_ | refine alloc_log_drew ?_); (intro w8 hb8 hz8 g0 g1 g2 m0 m1 m2; (try simp only [World.size_drew] at hz8 g0 g1 g2 m0 m1 m2))
          show K _ _
          refine hK.out _ _ (by first | exact hHeld.trans hb8 | exact hb8) (fun hHeld => ?_)
          clear hK K
          try simp only [Act.put, List.getElem_toArray, List.getElem_cons_zero, List.getElem_cons_succ, List.setIfInBounds_toArray, List.set_cons_zero, List.set_cons_succ]
          refine wpAnyH_ready (rs := [3]) (by kernel_rfl) (by simp) ?_
          refine AllReadyH.cons rfl (fun K hK => ?_) AllReadyH.nil
          go_simp
          (go_at_call 14; refine (c_laws_toLogRecord _ _ _).mono ?_; rintro e w4 ⟨rfl, hb4⟩; have hz4 := Below.size hb4; (try simp only [World.size_drew] at hz4); try (have m0 := hb4.mark g0 m0; have m1 := hb4.mark g1 m1; have m2 := hb4.mark g2 m2; have g0 := hb4.keep g0; have g1 := hb4.keep g1; have g2 := hb4.keep g2))
          show K _ _
          refine hK.out _ _ (by exact hHeld.trans hb4) (fun hHeld => ?_)
          clear hK K
          try simp only [Act.put, List.getElem_toArray, List.getElem_cons_zero, List.getElem_cons_succ, List.setIfInBounds_toArray, List.set_cons_zero, List.set_cons_succ]
          refine wpAnyH_ready (rs := [4]) (by kernel_rfl) (by simp) ?_
          refine AllReadyH.cons rfl (fun K hK => ?_) AllReadyH.nil
          go_simp
          (go_at_call 27; refine (c_spec_AppendRecord _ _ _ _ _ _ hd' hp' hc hr).mono ?_; rintro e w5 ⟨rfl, hb5⟩; have hz5 := Below.size hb5; (try simp only [World.size_drew] at hz5); try (have m0 := hb5.mark g0 m0; have m1 := hb5.mark g1 m1; have m2 := hb5.mark g2 m2; have g0 := hb5.keep g0; have g1 := hb5.keep g1; have g2 := hb5.keep g2))
          show K _ _
          refine hK.out _ _ (by exact hHeld.trans hb5) (fun hHeld => ?_)
          clear hK K
          try simp only [Act.put, List.getElem_toArray, List.getElem_cons_zero, List.getElem_cons_succ, List.setIfInBounds_toArray, List.set_cons_zero, List.set_cons_succ]
          refine wpAnyH_take (i := 5) (v := ?_) rfl (by kernel_rfl) (by kernel_rfl) (by kernel_rfl) (fun _ _ _ h => h) (Or.inl ⟨by rfl, ?_⟩) (by assumption) ?_
          rotate_left
          · (intro w hSw; (try dsimp only at hSw); have s0 := Ext.keep hSw q0; have s1 := Ext.keep hSw q1; have s2 := Ext.keep hSw q2; have s3 := Ext.keep hSw e0; have s4 := Ext.keep hSw e1; go_simp; (try with_reducible rfl))
          try simp only [Act.put, List.getElem_toArray, List.getElem_cons_zero, List.getElem_cons_succ, List.setIfInBounds_toArray, List.set_cons_zero, List.set_cons_succ]
          refine wpAnyH_take (i := 6) (v := ?_) rfl (by kernel_rfl) (by kernel_rfl) (by kernel_rfl) (fun _ _ _ h => h) (Or.inl ⟨by rfl, ?_⟩) (by assumption) ?_
          rotate_left
          · (intro w hSw; (try dsimp only at hSw); have s0 := Ext.keep hSw q0; have s1 := Ext.keep hSw q1; have s2 := Ext.keep hSw q2; have s3 := Ext.keep hSw e0; have s4 := Ext.keep hSw e1; go_simp; (try with_reducible rfl))
          try simp only [Act.put, List.getElem_toArray, List.getElem_cons_zero, List.getElem_cons_succ, List.setIfInBounds_toArray, List.set_cons_zero, List.set_cons_succ]
          refine wpAnyH_take (i := 7) (v := ?_) rfl (by kernel_rfl) (by kernel_rfl) (by kernel_rfl) (fun _ _ _ h => h) (Or.inl ⟨by rfl, ?_⟩) (by assumption) ?_
          rotate_left
          · (intro w hSw; (try dsimp only at hSw); have s0 := Ext.keep hSw q0; have s1 := Ext.keep hSw q1; have s2 := Ext.keep hSw q2; have s3 := Ext.keep hSw e0; have s4 := Ext.keep hSw e1; go_simp; (try with_reducible rfl))
          try simp only [Act.put, List.getElem_toArray, List.getElem_cons_zero, List.getElem_cons_succ, List.setIfInBounds_toArray, List.set_cons_zero, List.set_cons_succ]
          refine wpAnyH_ready (rs := [9]) (by kernel_rfl) (by simp) ?_
          refine AllReadyH.cons rfl (fun K hK => ?_) AllReadyH.nil
          go_simp
          (refine store_log hHeld (by omega) g0 g1 g2 ?_; intro w9 hx9 hz9 c0 c1 c2)
          show K _ _
          refine hK.out _ _ (by exact hx9) (fun hHeld => ?_)
          clear hK K
          try simp only [Act.put, List.getElem_toArray, List.getElem_cons_zero, List.getElem_cons_succ, List.setIfInBounds_toArray, List.set_cons_zero, List.set_cons_succ]
          refine wpAnyH_take (i := 10) (v := ?_) rfl (by kernel_rfl) (by kernel_rfl) (by kernel_rfl) (fun _ _ _ h => h) (Or.inl ⟨by rfl, ?_⟩) (by assumption) ?_
          rotate_left
          · (intro w hSw; (try dsimp only at hSw); have s0 := Ext.keep hSw q0; have s1 := Ext.keep hSw q1; have s2 := Ext.keep hSw q2; have s3 := Ext.keep hSw e0; have s4 := Ext.keep hSw e1; go_simp; (try with_reducible rfl))
          try simp only [Act.put, List.getElem_toArray, List.getElem_cons_zero, List.getElem_cons_succ, List.setIfInBounds_toArray, List.set_cons_zero, List.set_cons_succ]
          refine wpAnyH_done (by kernel_rfl) ?_ _
        rotate_left 1
      rotate_left 3
      focus
        go_simp
        (first | refine alloc_log ?_ | refine alloc_log_drew ?_); (intro w8 hb8 hz8 g0 g1 g2 m0 m1 m2; (try simp only [World.size_drew] at hz8 g0 g1 g2 m0 m1 m2))
        show K _ _
        refine hK.out _ _ (by first | exact hHeld.trans hb8 | exact hb8) (fun hHeld => ?_)
        clear hK K
        try simp only [Act.put, List.getElem_toArray, List.getElem_cons_zero, List.getElem_cons_succ, List.setIfInBounds_toArray, List.set_cons_zero, List.set_cons_succ]
        refine wpAnyH_ready (rs := [1]) (by kernel_rfl) (by simp) ?_
        refine AllReadyH.cons rfl (fun K hK => ?_) AllReadyH.nil
        go_simp
        (go_at_call 21; refine (c_laws_toLog _ _ _ _).mono ?_; rintro e w3 ⟨rfl, hb3⟩; have hz3 := Below.size hb3; (try simp only [World.size_drew] at hz3); try (have m0 := hb3.mark g0 m0; have m1 := hb3.mark g1 m1; have m2 := hb3.mark g2 m2; have g0 := hb3.keep g0; have g1 := hb3.keep g1; have g2 := hb3.keep g2))
        show K _ _
        refine hK.out _ _ (by exact hHeld.trans hb3) (fun hHeld => ?_)
        clear hK K
        try simp only [Act.put, List.getElem_toArray, List.getElem_cons_zero, List.getElem_cons_succ, List.setIfInBounds_toArray, List.set_cons_zero, List.set_cons_succ]
        refine wpAnyH_ready (rs := [3]) (by kernel_rfl) (by simp) ?_
        refine AllReadyH.cons rfl (fun K hK => ?_) AllReadyH.nil
        go_simp
        (go_at_call 14; refine (c_laws_toLogRecord _ _ _).mono ?_; rintro e w4 ⟨rfl, hb4⟩; have hz4 := Below.size hb4; (try simp only [World.size_drew] at hz4); try (have m0 := hb4.mark g0 m0; have m1 := hb4.mark g1 m1; have m2 := hb4.mark g2 m2; have g0 := hb4.keep g0; have g1 := hb4.keep g1; have g2 := hb4.keep g2))
        show K _ _
        refine hK.out _ _ (by exact hHeld.trans hb4) (fun hHeld => ?_)
        clear hK K
        try simp only [Act.put, List.getElem_toArray, List.getElem_cons_zero, List.getElem_cons_succ, List.setIfInBounds_toArray, List.set_cons_zero, List.set_cons_succ]
        refine wpAnyH_ready (rs := [4]) (by kernel_rfl) (by simp) ?_
        refine AllReadyH.cons rfl (fun K hK => ?_) AllReadyH.nil
        go_simp
        (go_at_call 27; refine (c_spec_AppendRecord _ _ _ _ _ _ hd' hp' hc hr).mono ?_; rintro e w5 ⟨rfl, hb5⟩; have hz5 := Below.size hb5; (try simp only [World.size_drew] at hz5); try (have m0 := hb5.mark g0 m0; have m1 := hb5.mark g1 m1; have m2 := hb5.mark g2 m2; have g0 := hb5.keep g0; have g1 := hb5.keep g1; have g2 := hb5.keep g2))
        show K _ _
        refine hK.out _ _ (by exact hHeld.trans hb5) (fun hHeld => ?_)
        clear hK K
        try simp only [Act.put, List.getElem_toArray, List.getElem_cons_zero, List.getElem_cons_succ, List.setIfInBounds_toArray, List.set_cons_zero, List.set_cons_succ]
        refine wpAnyH_take (i := 5) (v := ?_) rfl (by kernel_rfl) (by kernel_rfl) (by kernel_rfl) (fun _ _ _ h => h) (Or.inl ⟨by rfl, ?_⟩) (by assumption) ?_
        rotate_left
        · (intro w hSw; (try dsimp only at hSw); have s0 := Ext.keep hSw q0; have s1 := Ext.keep hSw q1; have s2 := Ext.keep hSw q2; have s3 := Ext.keep hSw e0; have s4 := Ext.keep hSw e1; go_simp; (try with_reducible rfl))
        try simp only [Act.put, List.getElem_toArray, List.getElem_cons_zero, List.getElem_cons_succ, List.setIfInBounds_toArray, List.set_cons_zero, List.set_cons_succ]
        refine wpAnyH_take (i := 6) (v := ?_) rfl (by kernel_rfl) (by kernel_rfl) (by kernel_rfl) (fun _ _ _ h => h) (Or.inl ⟨by rfl, ?_⟩) (by assumption) ?_
        rotate_left
        · (intro w hSw; (try dsimp only at hSw); have s0 := Ext.keep hSw q0; have s1 := Ext.keep hSw q1; have s2 := Ext.keep hSw q2; have s3 := Ext.keep hSw e0; have s4 := Ext.keep hSw e1; go_simp; (try with_reducible rfl))
        try simp only [Act.put, List.getElem_toArray, List.getElem_cons_zero, List.getElem_cons_succ, List.setIfInBounds_toArray, List.set_cons_zero, List.set_cons_succ]
        refine wpAnyH_take (i := 7) (v := ?_) rfl (by kernel_rfl) (by kernel_rfl) (by kernel_rfl) (fun _ _ _ h => h) (Or.inl ⟨by rfl, ?_⟩) (by assumption) ?_
        rotate_left
        · (intro w hSw; (try dsimp only at hSw); have s0 := Ext.keep hSw q0; have s1 := Ext.keep hSw q1; have s2 := Ext.keep hSw q2; have s3 := Ext.keep hSw e0; have s4 := Ext.keep hSw e1; go_simp; (try with_reducible rfl))
        try simp only [Act.put, List.getElem_toArray, List.getElem_cons_zero, List.getElem_cons_succ, List.setIfInBounds_toArray, List.set_cons_zero, List.set_cons_succ]
        refine wpAnyH_ready (rs := [9]) (by kernel_rfl) (by simp) ?_
        refine AllReadyH.cons rfl (fun K hK => ?_) AllReadyH.nil
        go_simp
        (refine store_log hHeld (by omega) g0 g1 g2 ?_; intro w9 hx9 hz9 c0 c1 c2)
        show K _ _
        refine hK.out _ _ (by exact hx9) (fun hHeld => ?_)
        clear hK K
        try simp only [Act.put, List.getElem_toArray, List.getElem_cons_zero, List.getElem_cons_succ, List.setIfInBounds_toArray, List.set_cons_zero, List.set_cons_succ]
        refine wpAnyH_take (i := 10) (v := ?_) rfl (by kernel_rfl) (by kernel_rfl) (by kernel_rfl) (fun _ _ _ h => h) (Or.inl ⟨by rfl, ?_⟩) (by assumption) ?_
        rotate_left
        · (intro w hSw; (try dsimp only at hSw); have s0 := Ext.keep hSw q0; have s1 := Ext.keep hSw q1; have s2 := Ext.keep hSw q2; have s3 := Ext.keep hSw e0; have s4 := Ext.keep hSw e1; go_simp; (try with_reducible rfl))
        try simp only [Act.put, List.getElem_toArray, List.getElem_cons_zero, List.getElem_cons_succ, List.setIfInBounds_toArray, List.set_cons_zero, List.set_cons_succ]
        refine wpAnyH_done (by kernel_rfl) ?_ _
      rotate_left 1
      all_goals
        have p0 := hx9.keep q0
        have p1 := hx9.keep q1
        have p2 := hx9.keep q2
        have p3 := hx9.keep e0
        have p4 := hx9.keep e1
        have hE9 := Lib.hid (hE2.out.ext hx9)
        clear hHeld hz8 hz9 g0 g1 g2 m0 m1 m2 hb8 hb3 hb4 hb5 q0 q1 q2 e0 e1
        go_wp2_with fail
        refine wp_region_held_drew (S := (fun w' => Ext w9 w')) (by kernel_rfl) ?_ (fun hHeld => ?_)
        · exact (Ext.refl w9).drew
        refine wpAnyH_take (i := 0) (v := ?_) rfl (by kernel_rfl) (by kernel_rfl) (by kernel_rfl) (fun _ _ _ h => h) (Or.inl ⟨by rfl, ?_⟩) (by assumption) ?_
        rotate_left
        · (intro w hSw; (try dsimp only at hSw); have s0 := Ext.keep hSw p0; have s1 := Ext.keep hSw p1; have s2 := Ext.keep hSw p2; have s3 := Ext.keep hSw p3; have s4 := Ext.keep hSw p4; go_simp; (try with_reducible rfl))
        try simp only [Act.put, List.getElem_toArray, List.getElem_cons_zero, List.getElem_cons_succ, List.setIfInBounds_toArray, List.set_cons_zero, List.set_cons_succ]
        refine wpAnyH_take (i := 2) (v := ?_) rfl (by kernel_rfl) (by kernel_rfl) (by kernel_rfl) (fun _ _ _ h => h) (Or.inl ⟨by rfl, ?_⟩) (by assumption) ?_
        rotate_left
        · (intro w hSw; (try dsimp only at hSw); have s0 := Ext.keep hSw p0; have s1 := Ext.keep hSw p1; have s2 := Ext.keep hSw p2; have s3 := Ext.keep hSw p3; have s4 := Ext.keep hSw p4; go_simp; (try with_reducible rfl))
        try simp only [Act.put, List.getElem_toArray, List.getElem_cons_zero, List.getElem_cons_succ, List.setIfInBounds_toArray, List.set_cons_zero, List.set_cons_succ]
        refine wpAnyH_ready (rs := [1, 8]) (by kernel_rfl) (by simp) ?_
        refine AllReadyH.cons rfl (fun K hK => ?_) (AllReadyH.cons rfl (fun K hK => ?_) (AllReadyH.nil))
        focus
          go_simp
          (go_at_call 21; refine (c_laws_toLog _ _ _ _).mono ?_; rintro e v3 ⟨rfl, kb3⟩; have kz3 := Below.size kb3; (try simp only [World.size_drew] at kz3); try (have z0 := kb3.mark y0 z0; have z1 := kb3.mark y1 z1; have z2 := kb3.mark y2 z2; have y0 := kb3.keep y0; have y1 := kb3.keep y1; have y2 := kb3.keep y2))
          show K _ _
          refine hK.out _ _ (by exact hHeld.trans kb3) (fun hHeld => ?_)
          clear hK K
          try simp only [Act.put, List.getElem_toArray, List.getElem_cons_zero, List.getElem_cons_succ, List.setIfInBounds_toArray, List.set_cons_zero, List.set_cons_succ]
          refine wpAnyH_ready (rs := [3, 8]) (by kernel_rfl) (by simp) ?_
          refine AllReadyH.cons rfl (fun K hK => ?_) (AllReadyH.cons rfl (fun K hK => ?_) (AllReadyH.nil))
          focus
            go_simp
            (go_at_call 14; refine (c_laws_toLogRecord _ _ _).mono ?_; rintro e v4 ⟨rfl, kb4⟩; have kz4 := Below.size kb4; (try simp only [World.size_drew] at kz4); try (have z0 := kb4.mark y0 z0; have z1 := kb4.mark y1 z1; have z2 := kb4.mark y2 z2; have y0 := kb4.keep y0; have y1 := kb4.keep y1; have y2 := kb4.keep y2))
            show K _ _
            refine hK.out _ _ (by exact hHeld.trans kb4) (fun hHeld => ?_)
            clear hK K
            try simp only [Act.put, List.getElem_toArray, List.getElem_cons_zero, List.getElem_cons_succ, List.setIfInBounds_toArray, List.set_cons_zero, List.set_cons_succ]
            refine wpAnyH_ready (rs := [4, 8]) (by kernel_rfl) (by simp) ?_
            refine AllReadyH.cons rfl (fun K hK => ?_) (AllReadyH.cons rfl (fun K hK => ?_) (AllReadyH.nil))
            focus
              go_simp
              (go_at_call 28; refine (c_impl_AppendRecord _ _ _ _ _ _ (hE9.out.ext hHeld) hd' hp' hc hr).mono ?_; rintro e v5 ⟨rfl, kb5⟩; have kz5 := Below.size kb5; (try simp only [World.size_drew] at kz5); try (have z0 := kb5.mark y0 z0; have z1 := kb5.mark y1 z1; have z2 := kb5.mark y2 z2; have y0 := kb5.keep y0; have y1 := kb5.keep y1; have y2 := kb5.keep y2))
              show K _ _
              refine hK.out _ _ (by exact hHeld.trans kb5) (fun hHeld => ?_)
              clear hK K
              try simp only [Act.put, List.getElem_toArray, List.getElem_cons_zero, List.getElem_cons_succ, List.setIfInBounds_toArray, List.set_cons_zero, List.set_cons_succ]
              refine wpAnyH_take (i := 5) (v := ?_) rfl (by kernel_rfl) (by kernel_rfl) (by kernel_rfl) (fun _ _ _ h => h) (Or.inl ⟨by rfl, ?_⟩) (by assumption) ?_
              rotate_left
              · (intro w hSw; (try dsimp only at hSw); have s0 := Ext.keep hSw p0; have s1 := Ext.keep hSw p1; have s2 := Ext.keep hSw p2; have s3 := Ext.keep hSw p3; have s4 := Ext.keep hSw p4; go_simp; (try with_reducible rfl))
              try simp only [Act.put, List.getElem_toArray, List.getElem_cons_zero, List.getElem_cons_succ, List.setIfInBounds_toArray, List.set_cons_zero, List.set_cons_succ]
              refine wpAnyH_take (i := 6) (v := ?_) rfl (by kernel_rfl) (by kernel_rfl) (by kernel_rfl) (fun _ _ _ h => h) (Or.inl ⟨by rfl, ?_⟩) (by assumption) ?_
              rotate_left
              · (intro w hSw; (try dsimp only at hSw); have s0 := Ext.keep hSw p0; have s1 := Ext.keep hSw p1; have s2 := Ext.keep hSw p2; have s3 := Ext.keep hSw p3; have s4 := Ext.keep hSw p4; go_simp; (try with_reducible rfl))
              try simp only [Act.put, List.getElem_toArray, List.getElem_cons_zero, List.getElem_cons_succ, List.setIfInBounds_toArray, List.set_cons_zero, List.set_cons_succ]
              refine wpAnyH_take (i := 7) (v := ?_) rfl (by kernel_rfl) (by kernel_rfl) (by kernel_rfl) (fun _ _ _ h => h) (Or.inl ⟨by rfl, ?_⟩) (by assumption) ?_
              rotate_left
              · (intro w hSw; (try dsimp only at hSw); have s0 := Ext.keep hSw p0; have s1 := Ext.keep hSw p1; have s2 := Ext.keep hSw p2; have s3 := Ext.keep hSw p3; have s4 := Ext.keep hSw p4; go_simp; (try with_reducible rfl))
              try simp only [Act.put, List.getElem_toArray, List.getElem_cons_zero, List.getElem_cons_succ, List.setIfInBounds_toArray, List.set_cons_zero, List.set_cons_succ]
              refine wpAnyH_ready (rs := [8]) (by kernel_rfl) (by simp) ?_
              refine AllReadyH.cons rfl (fun K hK => ?_) AllReadyH.nil
              go_simp
              (first | refine alloc_log ?_ | refine alloc_log_drew ?_); (intro v8 kb8 kz8 y0 y1 y2 z0 z1 z2; (try simp only [World.size_drew] at kz8 y0 y1 y2 z0 z1 z2))
              show K _ _
              refine hK.out _ _ (by first | exact hHeld.trans kb8 | exact kb8) (fun hHeld => ?_)
              clear hK K
              try simp only [Act.put, List.getElem_toArray, List.getElem_cons_zero, List.getElem_cons_succ, List.setIfInBounds_toArray, List.set_cons_zero, List.set_cons_succ]
              refine wpAnyH_ready (rs := [9]) (by kernel_rfl) (by simp) ?_
              refine AllReadyH.cons rfl (fun K hK => ?_) AllReadyH.nil
              go_simp
              (refine store_log hHeld (by omega) y0 y1 y2 ?_; intro w10 hx10 hz10 d0 d1 d2)
              show K _ _
              refine hK.out _ _ (by exact hx10) (fun hHeld => ?_)
              clear hK K
              try simp only [Act.put, List.getElem_toArray, List.getElem_cons_zero, List.getElem_cons_succ, List.setIfInBounds_toArray, List.set_cons_zero, List.set_cons_succ]
              refine wpAnyH_take (i := 10) (v := ?_) rfl (by kernel_rfl) (by kernel_rfl) (by kernel_rfl) (fun _ _ _ h => h) (Or.inl ⟨by rfl, ?_⟩) (by assumption) ?_
              rotate_left
              · (intro w hSw; (try dsimp only at hSw); have s0 := Ext.keep hSw p0; have s1 := Ext.keep hSw p1; have s2 := Ext.keep hSw p2; have s3 := Ext.keep hSw p3; have s4 := Ext.keep hSw p4; go_simp; (try with_reducible rfl))
              try simp only [Act.put, List.getElem_toArray, List.getElem_cons_zero, List.getElem_cons_succ, List.setIfInBounds_toArray, List.set_cons_zero, List.set_cons_succ]
              refine wpAnyH_done (by kernel_rfl) ?_ _
            rotate_left 1
            focus
              go_simp
              (first | refine alloc_log ?_ | refine alloc_log_drew ?_); (intro v8 kb8 kz8 y0 y1 y2 z0 z1 z2; (try simp only [World.size_drew] at kz8 y0 y1 y2 z0 z1 z2))
              show K _ _
              refine hK.out _ _ (by first | exact hHeld.trans kb8 | exact kb8) (fun hHeld => ?_)
              clear hK K
              try simp only [Act.put, List.getElem_toArray, List.getElem_cons_zero, List.getElem_cons_succ, List.setIfInBounds_toArray, List.set_cons_zero, List.set_cons_succ]
              refine wpAnyH_ready (rs := [4]) (by kernel_rfl) (by simp) ?_
              refine AllReadyH.cons rfl (fun K hK => ?_) AllReadyH.nil
              go_simp
              (go_at_call 28; refine (c_impl_AppendRecord _ _ _ _ _ _ (hE9.out.ext hHeld) hd' hp' hc hr).mono ?_; rintro e v5 ⟨rfl, kb5⟩; have kz5 := Below.size kb5; (try simp only [World.size_drew] at kz5); try (have z0 := kb5.mark y0 z0; have z1 := kb5.mark y1 z1; have z2 := kb5.mark y2 z2; have y0 := kb5.keep y0; have y1 := kb5.keep y1; have y2 := kb5.keep y2))
              show K _ _
              refine hK.out _ _ (by exact hHeld.trans kb5) (fun hHeld => ?_)
              clear hK K
              try simp only [Act.put, List.getElem_toArray, List.getElem_cons_zero, List.getElem_cons_succ, List.setIfInBounds_toArray, List.set_cons_zero, List.set_cons_succ]
              refine wpAnyH_take (i := 5) (v := ?_) rfl (by kernel_rfl) (by kernel_rfl) (by kernel_rfl) (fun _ _ _ h => h) (Or.inl ⟨by rfl, ?_⟩) (by assumption) ?_
              rotate_left
              · (intro w hSw; (try dsimp only at hSw); have s0 := Ext.keep hSw p0; have s1 := Ext.keep hSw p1; have s2 := Ext.keep hSw p2; have s3 := Ext.keep hSw p3; have s4 := Ext.keep hSw p4; go_simp; (try with_reducible rfl))
              try simp only [Act.put, List.getElem_toArray, List.getElem_cons_zero, List.getElem_cons_succ, List.setIfInBounds_toArray, List.set_cons_zero, List.set_cons_succ]
              refine wpAnyH_take (i := 6) (v := ?_) rfl (by kernel_rfl) (by kernel_rfl) (by kernel_rfl) (fun _ _ _ h => h) (Or.inl ⟨by rfl, ?_⟩) (by assumption) ?_
              rotate_left
              · (intro w hSw; (try dsimp only at hSw); have s0 := Ext.keep hSw p0; have s1 := Ext.keep hSw p1; have s2 := Ext.keep hSw p2; have s3 := Ext.keep hSw p3; have s4 := Ext.keep hSw p4; go_simp; (try with_reducible rfl))
              try simp only [Act.put, List.getElem_toArray, List.getElem_cons_zero, List.getElem_cons_succ, List.setIfInBounds_toArray, List.set_cons_zero, List.set_cons_succ]
              refine wpAnyH_take (i := 7) (v := ?_) rfl (by kernel_rfl) (by kernel_rfl) (by kernel_rfl) (fun _ _ _ h => h) (Or.inl ⟨by rfl, ?_⟩) (by assumption) ?_
              rotate_left
              · (intro w hSw; (try dsimp only at hSw); have s0 := Ext.keep hSw p0; have s1 := Ext.keep hSw p1; have s2 := Ext.keep hSw p2; have s3 := Ext.keep hSw p3; have s4 := Ext.keep hSw p4; go_simp; (try with_reducible rfl))
              try simp only [Act.put, List.getElem_toArray, List.getElem_cons_zero, List.getElem_cons_succ, List.setIfInBounds_toArray, List.set_cons_zero, List.set_cons_succ]
              refine wpAnyH_ready (rs := [9]) (by kernel_rfl) (by simp) ?_
              refine AllReadyH.cons rfl (fun K hK => ?_) AllReadyH.nil
              go_simp
              (refine store_log hHeld (by omega) y0 y1 y2 ?_; intro w10 hx10 hz10 d0 d1 d2)
              show K _ _
              refine hK.out _ _ (by exact hx10) (fun hHeld => ?_)
              clear hK K
              try simp only [Act.put, List.getElem_toArray, List.getElem_cons_zero, List.getElem_cons_succ, List.setIfInBounds_toArray, List.set_cons_zero, List.set_cons_succ]
              refine wpAnyH_take (i := 10) (v := ?_) rfl (by kernel_rfl) (by kernel_rfl) (by kernel_rfl) (fun _ _ _ h => h) (Or.inl ⟨by rfl, ?_⟩) (by assumption) ?_
              rotate_left
              · (intro w hSw; (try dsimp only at hSw); have s0 := Ext.keep hSw p0; have s1 := Ext.keep hSw p1; have s2 := Ext.keep hSw p2; have s3 := Ext.keep hSw p3; have s4 := Ext.keep hSw p4; go_simp; (try with_reducible rfl))
              try simp only [Act.put, List.getElem_toArray, List.getElem_cons_zero, List.getElem_cons_succ, List.setIfInBounds_toArray, List.set_cons_zero, List.set_cons_succ]
              refine wpAnyH_done (by kernel_rfl) ?_ _
            rotate_left 1
          rotate_left 2
          focus
            go_simp
            (first | refine alloc_log ?_ | refine alloc_log_drew ?_); (intro v8 kb8 kz8 y0 y1 y2 z0 z1 z2; (try simp only [World.size_drew] at kz8 y0 y1 y2 z0 z1 z2))
            show K _ _
            refine hK.out _ _ (by first | exact hHeld.trans kb8 | exact kb8) (fun hHeld => ?_)
            clear hK K
            try simp only [Act.put, List.getElem_toArray, List.getElem_cons_zero, List.getElem_cons_succ, List.setIfInBounds_toArray, List.set_cons_zero, List.set_cons_succ]
            refine wpAnyH_ready (rs := [3]) (by kernel_rfl) (by simp) ?_
            refine AllReadyH.cons rfl (fun K hK => ?_) AllReadyH.nil
            go_simp
            (go_at_call 14; refine (c_laws_toLogRecord _ _ _).mono ?_; rintro e v4 ⟨rfl, kb4⟩; have kz4 := Below.size kb4; (try simp only [World.size_drew] at kz4); try (have z0 := kb4.mark y0 z0; have z1 := kb4.mark y1 z1; have z2 := kb4.mark y2 z2; have y0 := kb4.keep y0; have y1 := kb4.keep y1; have y2 := kb4.keep y2))
            show K _ _
            refine hK.out _ _ (by exact hHeld.trans kb4) (fun hHeld => ?_)
            clear hK K
            try simp only [Act.put, List.getElem_toArray, List.getElem_cons_zero, List.getElem_cons_succ, List.setIfInBounds_toArray, List.set_cons_zero, List.set_cons_succ]
            refine wpAnyH_ready (rs := [4]) (by kernel_rfl) (by simp) ?_
            refine AllReadyH.cons rfl (fun K hK => ?_) AllReadyH.nil
            go_simp
            (go_at_call 28; refine (c_impl_AppendRecord _ _ _ _ _ _ (hE9.out.ext hHeld) hd' hp' hc hr).mono ?_; rintro e v5 ⟨rfl, kb5⟩; have kz5 := Below.size kb5; (try simp only [World.size_drew] at kz5); try (have z0 := kb5.mark y0 z0; have z1 := kb5.mark y1 z1; have z2 := kb5.mark y2 z2; have y0 := kb5.keep y0; have y1 := kb5.keep y1; have y2 := kb5.keep y2))
            show K _ _
            refine hK.out _ _ (by exact hHeld.trans kb5) (fun hHeld => ?_)
            clear hK K
            try simp only [Act.put, List.getElem_toArray, List.getElem_cons_zero, List.getElem_cons_succ, List.setIfInBounds_toArray, List.set_cons_zero, List.set_cons_succ]
            refine wpAnyH_take (i := 5) (v := ?_) rfl (by kernel_rfl) (by kernel_rfl) (by kernel_rfl) (fun _ _ _ h => h) (Or.inl ⟨by rfl, ?_⟩) (by assumption) ?_
            rotate_left
            · (intro w hSw; (try dsimp only at hSw); have s0 := Ext.keep hSw p0; have s1 := Ext.keep hSw p1; have s2 := Ext.keep hSw p2; have s3 := Ext.keep hSw p3; have s4 := Ext.keep hSw p4; go_simp; (try with_reducible rfl))
            try simp only [Act.put, List.getElem_toArray, List.getElem_cons_zero, List.getElem_cons_succ, List.setIfInBounds_toArray, List.set_cons_zero, List.set_cons_succ]
            refine wpAnyH_take (i := 6) (v := ?_) rfl (by kernel_rfl) (by kernel_rfl) (by kernel_rfl) (fun _ _ _ h => h) (Or.inl ⟨by rfl, ?_⟩) (by assumption) ?_
            rotate_left
            · (intro w hSw; (try dsimp only at hSw); have s0 := Ext.keep hSw p0; have s1 := Ext.keep hSw p1; have s2 := Ext.keep hSw p2; have s3 := Ext.keep hSw p3; have s4 := Ext.keep hSw p4; go_simp; (try with_reducible rfl))
            try simp only [Act.put, List.getElem_toArray, List.getElem_cons_zero, List.getElem_cons_succ, List.setIfInBounds_toArray, List.set_cons_zero, List.set_cons_succ]
            refine wpAnyH_take (i := 7) (v := ?_) rfl (by kernel_rfl) (by kernel_rfl) (by kernel_rfl) (fun _ _ _ h => h) (Or.inl ⟨by rfl, ?_⟩) (by assumption) ?_
            rotate_left
            · (intro w hSw; (try dsimp only at hSw); have s0 := Ext.keep hSw p0; have s1 := Ext.keep hSw p1; have s2 := Ext.keep hSw p2; have s3 := Ext.keep hSw p3; have s4 := Ext.keep hSw p4; go_simp; (try with_reducible rfl))
            try simp only [Act.put, List.getElem_toArray, List.getElem_cons_zero, List.getElem_cons_succ, List.setIfInBounds_toArray, List.set_cons_zero, List.set_cons_succ]
            refine wpAnyH_ready (rs := [9]) (by kernel_rfl) (by simp) ?_
            refine AllReadyH.cons rfl (fun K hK => ?_) AllReadyH.nil
            go_simp
            (refine store_log hHeld (by omega) y0 y1 y2 ?_; intro w10 hx10 hz10 d0 d1 d2)
            show K _ _
            refine hK.out _ _ (by exact hx10) (fun hHeld => ?_)
            clear hK K
            try simp only [Act.put, List.getElem_toArray, List.getElem_cons_zero, List.getElem_cons_succ, List.setIfInBounds_toArray, List.set_cons_zero, List.set_cons_succ]
            refine wpAnyH_take (i := 10) (v := ?_) rfl (by kernel_rfl) (by kernel_rfl) (by kernel_rfl) (fun _ _ _ h => h) (Or.inl ⟨by rfl, ?_⟩) (by assumption) ?_
            rotate_left
            · (intro w hSw; (try dsimp only at hSw); have s0 := Ext.keep hSw p0; have s1 := Ext.keep hSw p1; have s2 := Ext.keep hSw p2; have s3 := Ext.keep hSw p3; have s4 := Ext.keep hSw p4; go_simp; (try with_reducible rfl))
            try simp only [Act.put, List.getElem_toArray, List.getElem_cons_zero, List.getElem_cons_succ, List.setIfInBounds_toArray, List.set_cons_zero, List.set_cons_succ]
            refine wpAnyH_done (by kernel_rfl) ?_ _
          rotate_left 1
        rotate_left 3
        focus
          go_simp
          (first | refine alloc_log ?_ | refine alloc_log_drew ?_); (intro v8 kb8 kz8 y0 y1 y2 z0 z1 z2; (try simp only [World.size_drew] at kz8 y0 y1 y2 z0 z1 z2))
          show K _ _
          refine hK.out _ _ (by first | exact hHeld.trans kb8 | exact kb8) (fun hHeld => ?_)
          clear hK K
          try simp only [Act.put, List.getElem_toArray, List.getElem_cons_zero, List.getElem_cons_succ, List.setIfInBounds_toArray, List.set_cons_zero, List.set_cons_succ]
          refine wpAnyH_ready (rs := [1]) (by kernel_rfl) (by simp) ?_
          refine AllReadyH.cons rfl (fun K hK => ?_) AllReadyH.nil
          go_simp
          (go_at_call 21; refine (c_laws_toLog _ _ _ _).mono ?_; rintro e v3 ⟨rfl, kb3⟩; have kz3 := Below.size kb3; (try simp only [World.size_drew] at kz3); try (have z0 := kb3.mark y0 z0; have z1 := kb3.mark y1 z1; have z2 := kb3.mark y2 z2; have y0 := kb3.keep y0; have y1 := kb3.keep y1; have y2 := kb3.keep y2))
          show K _ _
          refine hK.out _ _ (by exact hHeld.trans kb3) (fun hHeld => ?_)
          clear hK K
          try simp only [Act.put, List.getElem_toArray, List.getElem_cons_zero, List.getElem_cons_succ, List.setIfInBounds_toArray, List.set_cons_zero, List.set_cons_succ]
          refine wpAnyH_ready (rs := [3]) (by kernel_rfl) (by simp) ?_
          refine AllReadyH.cons rfl (fun K hK => ?_) AllReadyH.nil
          go_simp
          (go_at_call 14; refine (c_laws_toLogRecord _ _ _).mono ?_; rintro e v4 ⟨rfl, kb4⟩; have kz4 := Below.size kb4; (try simp only [World.size_drew] at kz4); try (have z0 := kb4.mark y0 z0; have z1 := kb4.mark y1 z1; have z2 := kb4.mark y2 z2; have y0 := kb4.keep y0; have y1 := kb4.keep y1; have y2 := kb4.keep y2))
          show K _ _
          refine hK.out _ _ (by exact hHeld.trans kb4) (fun hHeld => ?_)
          clear hK K
          try simp only [Act.put, List.getElem_toArray, List.getElem_cons_zero, List.getElem_cons_succ, List.setIfInBounds_toArray, List.set_cons_zero, List.set_cons_succ]
          refine wpAnyH_ready (rs := [4]) (by kernel_rfl) (by simp) ?_
          refine AllReadyH.cons rfl (fun K hK => ?_) AllReadyH.nil
          go_simp
          (go_at_call 28; refine (c_impl_AppendRecord _ _ _ _ _ _ (hE9.out.ext hHeld) hd' hp' hc hr).mono ?_; rintro e v5 ⟨rfl, kb5⟩; have kz5 := Below.size kb5; (try simp only [World.size_drew] at kz5); try (have z0 := kb5.mark y0 z0; have z1 := kb5.mark y1 z1; have z2 := kb5.mark y2 z2; have y0 := kb5.keep y0; have y1 := kb5.keep y1; have y2 := kb5.keep y2))
          show K _ _
          refine hK.out _ _ (by exact hHeld.trans kb5) (fun hHeld => ?_)
          clear hK K
          try simp only [Act.put, List.getElem_toArray, List.getElem_cons_zero, List.getElem_cons_succ, List.setIfInBounds_toArray, List.set_cons_zero, List.set_cons_succ]
          refine wpAnyH_take (i := 5) (v := ?_) rfl (by kernel_rfl) (by kernel_rfl) (by kernel_rfl) (fun _ _ _ h => h) (Or.inl ⟨by rfl, ?_⟩) (by assumption) ?_
          rotate_left
          · (intro w hSw; (try dsimp only at hSw); have s0 := Ext.keep hSw p0; have s1 := Ext.keep hSw p1; have s2 := Ext.keep hSw p2; have s3 := Ext.keep hSw p3; have s4 := Ext.keep hSw p4; go_simp; (try with_reducible rfl))
          try simp only [Act.put, List.getElem_toArray, List.getElem_cons_zero, List.getElem_cons_succ, List.setIfInBounds_toArray, List.set_cons_zero, List.set_cons_succ]
          refine wpAnyH_take (i := 6) (v := ?_) rfl (by kernel_rfl) (by kernel_rfl) (by kernel_rfl) (fun _ _ _ h => h) (Or.inl ⟨by rfl, ?_⟩) (by assumption) ?_
          rotate_left
          · (intro w hSw; (try dsimp only at hSw); have s0 := Ext.keep hSw p0; have s1 := Ext.keep hSw p1; have s2 := Ext.keep hSw p2; have s3 := Ext.keep hSw p3; have s4 := Ext.keep hSw p4; go_simp; (try with_reducible rfl))
          try simp only [Act.put, List.getElem_toArray, List.getElem_cons_zero, List.getElem_cons_succ, List.setIfInBounds_toArray, List.set_cons_zero, List.set_cons_succ]
          refine wpAnyH_take (i := 7) (v := ?_) rfl (by kernel_rfl) (by kernel_rfl) (by kernel_rfl) (fun _ _ _ h => h) (Or.inl ⟨by rfl, ?_⟩) (by assumption) ?_
          rotate_left
          · (intro w hSw; (try dsimp only at hSw); have s0 := Ext.keep hSw p0; have s1 := Ext.keep hSw p1; have s2 := Ext.keep hSw p2; have s3 := Ext.keep hSw p3; have s4 := Ext.keep hSw p4; go_simp; (try with_reducible rfl))
          try simp only [Act.put, List.getElem_toArray, List.getElem_cons_zero, List.getElem_cons_succ, List.setIfInBounds_toArray, List.set_cons_zero, List.set_cons_succ]
          refine wpAnyH_ready (rs := [9]) (by kernel_rfl) (by simp) ?_
          refine AllReadyH.cons rfl (fun K hK => ?_) AllReadyH.nil
          go_simp
          (refine store_log hHeld (by omega) y0 y1 y2 ?_; intro w10 hx10 hz10 d0 d1 d2)
          show K _ _
          refine hK.out _ _ (by exact hx10) (fun hHeld => ?_)
          clear hK K
          try simp only [Act.put, List.getElem_toArray, List.getElem_cons_zero, List.getElem_cons_succ, List.setIfInBounds_toArray, List.set_cons_zero, List.set_cons_succ]
          refine wpAnyH_take (i := 10) (v := ?_) rfl (by kernel_rfl) (by kernel_rfl) (by kernel_rfl) (fun _ _ _ h => h) (Or.inl ⟨by rfl, ?_⟩) (by assumption) ?_
          rotate_left
          · (intro w hSw; (try dsimp only at hSw); have s0 := Ext.keep hSw p0; have s1 := Ext.keep hSw p1; have s2 := Ext.keep hSw p2; have s3 := Ext.keep hSw p3; have s4 := Ext.keep hSw p4; go_simp; (try with_reducible rfl))
          try simp only [Act.put, List.getElem_toArray, List.getElem_cons_zero, List.getElem_cons_succ, List.setIfInBounds_toArray, List.set_cons_zero, List.set_cons_succ]
          refine wpAnyH_done (by kernel_rfl) ?_ _
        rotate_left 1
        all_goals
          have c0 := hx10.keep c0
          have c1 := hx10.keep c1
          have c2 := hx10.keep c2
          go_wp2_with (go_at_call 18; refine (c_laws_eqLog _ _ _ _).mono ?_; rintro e w1 ⟨rfl, hb1⟩; obtain ⟨hc1, hf1, hz1⟩ := hb1.cells; (try simp only [World.size_alloc] at hc1 hf1 hz1))
          go_ret
          exact ⟨rfl, by (repeat (first | with_reducible assumption | with_reducible exact Ext.refl _ | with_reducible refine Ext.alloc ?_ _ | with_reducible refine Ext.drew ?_ | with_reducible refine Ext.drewN ?_ _ | refine Ext.setCell ?_ (by first | (simp only [World.size_alloc, World.size_setCell]; omega) | omega) _ | with_reducible refine Ext.trans ?_ (by with_reducible assumption)))⟩
end Go.Proofs.YteapfbfoegphkaaDoor
