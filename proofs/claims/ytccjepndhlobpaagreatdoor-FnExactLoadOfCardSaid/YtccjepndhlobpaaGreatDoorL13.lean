/-
  The law FnExactLoadOf, walked.
-/
import Derived.Test.YtccjepndhlobpaaGreatDoorV28
import Derived.Test.YtccjepndhlobpaaGreatDoorS1
import Derived.Test.YtccjepndhlobpaaGreatDoorS2
import Derived.Test.YtccjepndhlobpaaGreatDoorS3
import Derived.Test.YtccjepndhlobpaaGreatDoorS4
import Derived.Test.YtccjepndhlobpaaGreatDoorS5
namespace Go.Proofs.YtccjepndhlobpaaGreatDoor
open Go.RowKit
set_option linter.unusedVariables false
set_option linter.unusedSimpArgs false
theorem loadR_len (r : Rnt) : (loadR r).length ≤ r.hosts.length := by
  unfold loadR
  split
  · unfold loadL; rw [loadTo_len]; exact Nat.le_refl _
  · exact Nat.zero_le _
attribute [local irreducible] rntB loadR cnL cRnt mkL
set_option maxRecDepth 100000 in
set_option maxHeartbeats 12800000 in
theorem law_FnExactLoadOf (cs : List Value) (r : Rnt) (w : World) (h : RntP 0 w.heap.size w cs r) :
    Calls Tryz.prog 5 #[.agg cs.toArray] w fun e w' => e = .returned (.bool true) ∧ Ext w w' := by
  have hd4 := fun hw => (rnt_dims (r := r) hw).2.2.2
  have HH := h
  obtain ⟨v0, cc1, v6, v7, cc8, rfl, e0, E1, e6, e7, E8, ec⟩ := h
  obtain ⟨s0, s1, s2, s3, s4, rfl, _⟩ := id E1
  obtain ⟨y1, y2, y4, y5, rfl, _⟩ := id E8
  clear e0 E1 e6 e7 E8 ec
  change Calls Tryz.prog 5 #[.agg #[v0, s0, s1, s2, s3, s4, v6, v7, .int .i64 r.agent.roots, y1, y2, .int .i64 r.agent.edges, y4, y5, .int .i64 r.count]] w _
  obtain ⟨W0, hW0, hbx, hx0, hz⟩ := box_facts w [v0, s0, s1, s2, s3, s4, v6, v7, .int .i64 r.agent.roots, y1, y2, .int .i64 r.agent.edges, y4, y5, .int .i64 r.count] 35
  have p0 := (hbx 0 _ rfl).1
  have p1 := (hbx 1 _ rfl).1
  have p2 := (hbx 2 _ rfl).1
  have p3 := (hbx 3 _ rfl).1
  have p4 := (hbx 4 _ rfl).1
  have p5 := (hbx 5 _ rfl).1
  have p6 := (hbx 6 _ rfl).1
  have p7 := (hbx 7 _ rfl).1
  have p8 := (hbx 8 _ rfl).1
  have p9 := (hbx 9 _ rfl).1
  have p10 := (hbx 10 _ rfl).1
  have p11 := (hbx 11 _ rfl).1
  have p12 := (hbx 12 _ rfl).1
  have p13 := (hbx 13 _ rfl).1
  have p14 := (hbx 14 _ rfl).1
  have hzz : w.heap.size < W0.heap.size := by omega
  clear hz hbx
  replace HH := RntP.keeps _ _ _ _ _ _ (Same.ext hx0) HH
  have hX := hx0
  go_enter Tryz.func5, Tryz.ntmps5
  go_wp2_with fail
  refine (c_laws_szRuntime 0 w.heap.size _ r 1048576 _ HH (by omega) (by omega)).mono ?_
  rintro e u0 ⟨rfl, hb0⟩
  replace p0 := hb0.keep p0; replace p1 := hb0.keep p1; replace p2 := hb0.keep p2; replace p3 := hb0.keep p3; replace p4 := hb0.keep p4; replace p5 := hb0.keep p5; replace p6 := hb0.keep p6; replace p7 := hb0.keep p7; replace p8 := hb0.keep p8; replace p9 := hb0.keep p9; replace p10 := hb0.keep p10; replace p11 := hb0.keep p11; replace p12 := hb0.keep p12; replace p13 := hb0.keep p13; replace p14 := hb0.keep p14
  replace HH := RntP.keeps _ _ _ _ _ _ (Same.ext hb0) HH
  replace hX := hX.trans hb0
  have hs0 := Below.size hb0
  by_cases hw : wtRnt r ≤ 1048576
  rotate_left
  · rw [szR_neg (by omega)]
    go_wp2
    go_ret
    exact ⟨rfl, hX⟩
  rw [szR_pos (by omega)]
  have hln := loadR_len r
  have hd5 := hd4 hw
  have hcn := cnL_c1 (loadR r)
  have hcr := cRnt_le r
  have hLb : 1 + ((cnL c1 (loadR r) : Nat) : Int) ≤ 1000000000 := by omega
  have hMb : 1 + ((cRnt r : Nat) : Int) ≤ 1000000000 := by omega
  have hL0 : 0 ≤ ((cnL c1 (loadR r) : Nat) : Int) := by omega
  have hM0 : 0 ≤ ((cRnt r : Nat) : Int) := by omega
  clear hln hd5 hcn hcr hd4
  go_wp2_with fail
  refine (c_laws_toRuntime 0 w.heap.size _ r _ HH hw).mono ?_
  rintro e u1 ⟨d1, rfl, hD1, hb1⟩
  replace p0 := hb1.keep p0; replace p1 := hb1.keep p1; replace p2 := hb1.keep p2; replace p3 := hb1.keep p3; replace p4 := hb1.keep p4; replace p5 := hb1.keep p5; replace p6 := hb1.keep p6; replace p7 := hb1.keep p7; replace p8 := hb1.keep p8; replace p9 := hb1.keep p9; replace p10 := hb1.keep p10; replace p11 := hb1.keep p11; replace p12 := hb1.keep p12; replace p13 := hb1.keep p13; replace p14 := hb1.keep p14
  replace HH := RntP.keeps _ _ _ _ _ _ (Same.ext hb1) HH
  replace hX := hX.trans hb1
  have hs1 := Below.size hb1
  go_wp2_with fail
  refine (c_spec_LoadOf _ _ _ r _ (RntO.toP hD1) hw).mono ?_
  rintro e u2 ⟨v1, rfl, hV1, hb2⟩
  replace p0 := hb2.keep p0; replace p1 := hb2.keep p1; replace p2 := hb2.keep p2; replace p3 := hb2.keep p3; replace p4 := hb2.keep p4; replace p5 := hb2.keep p5; replace p6 := hb2.keep p6; replace p7 := hb2.keep p7; replace p8 := hb2.keep p8; replace p9 := hb2.keep p9; replace p10 := hb2.keep p10; replace p11 := hb2.keep p11; replace p12 := hb2.keep p12; replace p13 := hb2.keep p13; replace p14 := hb2.keep p14
  replace HH := RntP.keeps _ _ _ _ _ _ (Same.ext hb2) HH
  replace hX := hX.trans hb2
  clear hD1
  have hs2 := Below.size hb2
  obtain ⟨fa1, fk1, rfl, _⟩ := id hV1
  as_aux_lemma =>
    go_wp2_with fail
    refine (c_laws_toRuntime 0 w.heap.size _ r _ HH hw).mono ?_
    rintro e u3 ⟨d2, rfl, hD2, hb3⟩
    replace p0 := hb3.keep p0; replace p1 := hb3.keep p1; replace p2 := hb3.keep p2; replace p3 := hb3.keep p3; replace p4 := hb3.keep p4; replace p5 := hb3.keep p5; replace p6 := hb3.keep p6; replace p7 := hb3.keep p7; replace p8 := hb3.keep p8; replace p9 := hb3.keep p9; replace p10 := hb3.keep p10; replace p11 := hb3.keep p11; replace p12 := hb3.keep p12; replace p13 := hb3.keep p13; replace p14 := hb3.keep p14
    replace HH := RntP.keeps _ _ _ _ _ _ (Same.ext hb3) HH
    replace hX := hX.trans hb3
    replace hV1 := hV1.ext IntP.keeps hb3
    have hs3 := Below.size hb3
    have HO2 := hD2
    obtain ⟨_, _, _, _, _, _, _, _, _, _, _, _, _, _, _, rfl, ⟨xa0, xk0, rfl, _⟩, ⟨_, _, _, _, _, _, _, _, _, _, _, _, _, _, _, rfl, ⟨xb0, xl0, rfl, _⟩, ⟨xb1, xl1, rfl, _⟩, ⟨xb2, xl2, rfl, _⟩, ⟨xb3, xl3, rfl, _⟩, ⟨xb4, xl4, rfl, _⟩, _⟩, ⟨xa6, xk6, rfl, _⟩, ⟨xa7, xk7, rfl, _⟩, ⟨_, _, _, _, _, _, _, _, _, _, _, _, rfl, _, _, ⟨xc1, xm1, rfl, _⟩, ⟨xc2, xm2, rfl, _⟩, ⟨xc4, xm4, rfl, _⟩, ⟨xc5, xm5, rfl, _⟩, _⟩, _, _⟩ := hD2
    obtain ⟨W1, hW1, hbx, hx1, hz⟩ := box_facts u3 [.slice xa0 r.sig.length xk0, .slice xb0 r.sort.tops.length xl0, .slice xb1 r.sort.nest.length xl1, .slice xb2 r.sort.sorts.length xl2, .slice xb3 r.sort.most.length xl3, .slice xb4 r.sort.apart.length xl4, .slice xa6 r.rules.length xk6, .slice xa7 r.hosts.length xk7, .int .i64 r.agent.roots, .slice xc1 r.agent.nodes.length xm1, .slice xc2 r.agent.sites.length xm2, .int .i64 r.agent.edges, .slice xc4 r.agent.outer.length xm4, .slice xc5 r.agent.inner.length xm5, .int .i64 r.count] 46
    have q0 := (hbx 0 _ rfl).1
    have q1 := (hbx 1 _ rfl).1
    have q2 := (hbx 2 _ rfl).1
    have q3 := (hbx 3 _ rfl).1
    have q4 := (hbx 4 _ rfl).1
    have q5 := (hbx 5 _ rfl).1
    have q6 := (hbx 6 _ rfl).1
    have q7 := (hbx 7 _ rfl).1
    have q8 := (hbx 8 _ rfl).1
    have q9 := (hbx 9 _ rfl).1
    have q10 := (hbx 10 _ rfl).1
    have q11 := (hbx 11 _ rfl).1
    have q12 := (hbx 12 _ rfl).1
    have q13 := (hbx 13 _ rfl).1
    have q14 := (hbx 14 _ rfl).1
    have hz1 : u3.heap.size < W1.heap.size := by omega
    clear hz hbx
    replace p0 := hx1.keep p0; replace p1 := hx1.keep p1; replace p2 := hx1.keep p2; replace p3 := hx1.keep p3; replace p4 := hx1.keep p4; replace p5 := hx1.keep p5; replace p6 := hx1.keep p6; replace p7 := hx1.keep p7; replace p8 := hx1.keep p8; replace p9 := hx1.keep p9; replace p10 := hx1.keep p10; replace p11 := hx1.keep p11; replace p12 := hx1.keep p12; replace p13 := hx1.keep p13; replace p14 := hx1.keep p14
    replace HH := RntP.keeps _ _ _ _ _ _ (Same.ext hx1) HH
    replace hX := hX.trans hx1
    replace hV1 := hV1.ext IntP.keeps hx1
    replace HO2 := RntO.keepsO.ext HO2 hx1
    go_wp2_with fail
    refine (c_impl_LoadOf _ _ _ r _ (RntO.toP HO2) hw).mono ?_
    rintro e u4 ⟨v2, rfl, hV2, hb4⟩
    replace p0 := hb4.keep p0; replace p1 := hb4.keep p1; replace p2 := hb4.keep p2; replace p3 := hb4.keep p3; replace p4 := hb4.keep p4; replace p5 := hb4.keep p5; replace p6 := hb4.keep p6; replace p7 := hb4.keep p7; replace p8 := hb4.keep p8; replace p9 := hb4.keep p9; replace p10 := hb4.keep p10; replace p11 := hb4.keep p11; replace p12 := hb4.keep p12; replace p13 := hb4.keep p13; replace p14 := hb4.keep p14
    replace HH := RntP.keeps _ _ _ _ _ _ (Same.ext hb4) HH
    replace hX := hX.trans hb4
    replace hV1 := hV1.ext IntP.keeps hb4
    replace HO2 := RntO.keepsO.ext HO2 hb4
    replace q0 := hb4.keep q0
    replace q1 := hb4.keep q1
    replace q2 := hb4.keep q2
    replace q3 := hb4.keep q3
    replace q4 := hb4.keep q4
    replace q5 := hb4.keep q5
    replace q6 := hb4.keep q6
    replace q7 := hb4.keep q7
    replace q8 := hb4.keep q8
    replace q9 := hb4.keep q9
    replace q10 := hb4.keep q10
    replace q11 := hb4.keep q11
    replace q12 := hb4.keep q12
    replace q13 := hb4.keep q13
    replace q14 := hb4.keep q14
    have hs4 := Below.size hb4
    obtain ⟨fa2, fk2, rfl, _⟩ := id hV2
    obtain ⟨bb, hBBt⟩ : ∃ bb, rntB r = bb := ⟨_, rfl⟩
    obtain ⟨LL, hLL⟩ : ∃ LL, loadR r = LL := ⟨_, rfl⟩
    have HBBt := Lib.hid hBBt
    have HLL := Lib.hid hLL
    rw [hBBt]
    rw [hLL] at hV1 hV2 hLb hL0 ⊢
    clear hBBt hLL
    go_wp2_with fail
    refine (c_laws_eqIntS _ _ _ _ _ _ LL _ (IntsO.toV hV2) hV1).mono ?_
    rintro e u5 ⟨rfl, hb5⟩
    replace p0 := hb5.keep p0; replace p1 := hb5.keep p1; replace p2 := hb5.keep p2; replace p3 := hb5.keep p3; replace p4 := hb5.keep p4; replace p5 := hb5.keep p5; replace p6 := hb5.keep p6; replace p7 := hb5.keep p7; replace p8 := hb5.keep p8; replace p9 := hb5.keep p9; replace p10 := hb5.keep p10; replace p11 := hb5.keep p11; replace p12 := hb5.keep p12; replace p13 := hb5.keep p13; replace p14 := hb5.keep p14
    replace HH := RntP.keeps _ _ _ _ _ _ (Same.ext hb5) HH
    replace hX := hX.trans hb5
    replace hV1 := hV1.ext IntP.keeps hb5
    replace hV2 := hV2.ext IntP.keepsO hb5
    replace HO2 := RntO.keepsO.ext HO2 hb5
    replace q0 := hb5.keep q0
    replace q1 := hb5.keep q1
    replace q2 := hb5.keep q2
    replace q3 := hb5.keep q3
    replace q4 := hb5.keep q4
    replace q5 := hb5.keep q5
    replace q6 := hb5.keep q6
    replace q7 := hb5.keep q7
    replace q8 := hb5.keep q8
    replace q9 := hb5.keep q9
    replace q10 := hb5.keep q10
    replace q11 := hb5.keep q11
    replace q12 := hb5.keep q12
    replace q13 := hb5.keep q13
    replace q14 := hb5.keep q14
    have hs5 := Below.size hb5
    go_wp2_with fail
    refine wp_region_held_drew (S := (fun w' => Ext u5 w')) (by kernel_rfl) ?_ (fun hHeld => ?_)
    · exact (Ext.refl u5).drew
    refine tkY 0 ?_ ?_ ?_; rotate_left; focus (intro w hSw; (try dsimp only at hSw); have sp0 := Ext.keep hSw p0; have sp1 := Ext.keep hSw p1; have sp2 := Ext.keep hSw p2; have sp3 := Ext.keep hSw p3; have sp4 := Ext.keep hSw p4; have sp5 := Ext.keep hSw p5; have sp6 := Ext.keep hSw p6; have sp7 := Ext.keep hSw p7; have sp8 := Ext.keep hSw p8; have sp9 := Ext.keep hSw p9; have sp10 := Ext.keep hSw p10; have sp11 := Ext.keep hSw p11; have sp12 := Ext.keep hSw p12; have sp13 := Ext.keep hSw p13; have sp14 := Ext.keep hSw p14; have sq0 := Ext.keep hSw q0; have sq1 := Ext.keep hSw q1; have sq2 := Ext.keep hSw q2; have sq3 := Ext.keep hSw q3; have sq4 := Ext.keep hSw q4; have sq5 := Ext.keep hSw q5; have sq6 := Ext.keep hSw q6; have sq7 := Ext.keep hSw q7; have sq8 := Ext.keep hSw q8; have sq9 := Ext.keep hSw q9; have sq10 := Ext.keep hSw q10; have sq11 := Ext.keep hSw q11; have sq12 := Ext.keep hSw q12; have sq13 := Ext.keep hSw q13; have sq14 := Ext.keep hSw q14; go_simp; try with_reducible rfl)
    try simp only [Act.put, aput]
    refine tkY 1 ?_ ?_ ?_; rotate_left; focus (intro w hSw; (try dsimp only at hSw); have sp0 := Ext.keep hSw p0; have sp1 := Ext.keep hSw p1; have sp2 := Ext.keep hSw p2; have sp3 := Ext.keep hSw p3; have sp4 := Ext.keep hSw p4; have sp5 := Ext.keep hSw p5; have sp6 := Ext.keep hSw p6; have sp7 := Ext.keep hSw p7; have sp8 := Ext.keep hSw p8; have sp9 := Ext.keep hSw p9; have sp10 := Ext.keep hSw p10; have sp11 := Ext.keep hSw p11; have sp12 := Ext.keep hSw p12; have sp13 := Ext.keep hSw p13; have sp14 := Ext.keep hSw p14; have sq0 := Ext.keep hSw q0; have sq1 := Ext.keep hSw q1; have sq2 := Ext.keep hSw q2; have sq3 := Ext.keep hSw q3; have sq4 := Ext.keep hSw q4; have sq5 := Ext.keep hSw q5; have sq6 := Ext.keep hSw q6; have sq7 := Ext.keep hSw q7; have sq8 := Ext.keep hSw q8; have sq9 := Ext.keep hSw q9; have sq10 := Ext.keep hSw q10; have sq11 := Ext.keep hSw q11; have sq12 := Ext.keep hSw q12; have sq13 := Ext.keep hSw q13; have sq14 := Ext.keep hSw q14; go_simp; try with_reducible rfl)
    try simp only [Act.put, aput]
    refine wpAnyH_ready (rs := [2]) (by kernel_rfl) (by simp) ?_
    refine AllReadyH.cons rfl (fun K hK => ?_) AllReadyH.nil
    go_simp
    (go_at_call 11; refine (c_laws_toRuntime 0 w.heap.size _ r _ (RntP.keeps _ _ _ _ _ _ (Same.ext hHeld) HH) hw).mono ?_; rintro e w3 ⟨d3, rfl, hD3, hb3⟩)
    show K _ _
    refine hK.out _ _ (by exact hHeld.trans hb3) (fun hHeld => ?_)
    clear hK K
    try simp only [Act.put, aput]
    refine wpAnyH_ready (rs := [3]) (by kernel_rfl) (by simp) ?_
    refine AllReadyH.cons rfl (fun K hK => ?_) AllReadyH.nil
    go_simp
    (go_at_call 13; refine (c_laws_eqRuntime _ _ _ _ _ _ r _ (RntO.toP (RntO.keepsO.ext HO2 hHeld)) (RntO.toP hD3)).mono ?_; rintro e w4 ⟨rfl, hb5⟩)
    show K _ _
    refine hK.out _ _ (by exact hHeld.trans hb5) (fun hHeld => ?_)
    clear hK K
    try simp only [Act.put, aput]
    refine tkP 4 ?_ ?_ ?_; rotate_left; focus (intro w; go_simp; try with_reducible rfl)
    try simp only [Act.put, aput]
    refine wpAnyH_done (by kernel_rfl) ?_ _
    replace p0 := hHeld.keep p0; replace p1 := hHeld.keep p1; replace p2 := hHeld.keep p2; replace p3 := hHeld.keep p3; replace p4 := hHeld.keep p4; replace p5 := hHeld.keep p5; replace p6 := hHeld.keep p6; replace p7 := hHeld.keep p7; replace p8 := hHeld.keep p8; replace p9 := hHeld.keep p9; replace p10 := hHeld.keep p10; replace p11 := hHeld.keep p11; replace p12 := hHeld.keep p12; replace p13 := hHeld.keep p13; replace p14 := hHeld.keep p14
    replace HH := RntP.keeps _ _ _ _ _ _ (Same.ext hHeld) HH
    replace hX := hX.trans hHeld
    replace hV1 := hV1.ext IntP.keeps hHeld
    replace hV2 := hV2.ext IntP.keepsO hHeld
    replace HO2 := RntO.keepsO.ext HO2 hHeld
    replace q0 := hHeld.keep q0
    replace q1 := hHeld.keep q1
    replace q2 := hHeld.keep q2
    replace q3 := hHeld.keep q3
    replace q4 := hHeld.keep q4
    replace q5 := hHeld.keep q5
    replace q6 := hHeld.keep q6
    replace q7 := hHeld.keep q7
    replace q8 := hHeld.keep q8
    replace q9 := hHeld.keep q9
    replace q10 := hHeld.keep q10
    replace q11 := hHeld.keep q11
    replace q12 := hHeld.keep q12
    replace q13 := hHeld.keep q13
    replace q14 := hHeld.keep q14
    have hs6 := Below.size hHeld
    clear hHeld
    as_aux_lemma =>
      go_wp2_with fail
      refine (c_laws_markRuntime _ _ _ r 1 _ HO2 (by omega) (by omega) (by omega)).mono ?_
      rintro e u7 ⟨rfl, hM7, hO7⟩
      replace p0 := hO7.keep p0 (.inl (by show w.heap.size < _; omega)); replace p1 := hO7.keep p1 (.inl (by show w.heap.size < _; omega)); replace p2 := hO7.keep p2 (.inl (by show w.heap.size < _; omega)); replace p3 := hO7.keep p3 (.inl (by show w.heap.size < _; omega)); replace p4 := hO7.keep p4 (.inl (by show w.heap.size < _; omega)); replace p5 := hO7.keep p5 (.inl (by show w.heap.size < _; omega)); replace p6 := hO7.keep p6 (.inl (by show w.heap.size < _; omega)); replace p7 := hO7.keep p7 (.inl (by show w.heap.size < _; omega)); replace p8 := hO7.keep p8 (.inl (by show w.heap.size < _; omega)); replace p9 := hO7.keep p9 (.inl (by show w.heap.size < _; omega)); replace p10 := hO7.keep p10 (.inl (by show w.heap.size < _; omega)); replace p11 := hO7.keep p11 (.inl (by show w.heap.size < _; omega)); replace p12 := hO7.keep p12 (.inl (by show w.heap.size < _; omega)); replace p13 := hO7.keep p13 (.inl (by show w.heap.size < _; omega)); replace p14 := hO7.keep p14 (.inl (by show w.heap.size < _; omega))
      replace HH := RntP.keeps _ _ _ _ _ _ (hO7.same (.inr (by show w.heap.size ≤ _; omega))) HH
      replace hX := hX.only hO7 (by omega)
      have hV1s := hV1.keeps IntP.keeps (hO7.same (.inr (by show _ ≤ _; omega)))
      replace hV2 := hV2.only IntP.keepsO hO7 (.inl (by show _ ≤ _; omega))
      replace hV1 := hV1s
      clear hV1s hM7 HO2
      have hs7 := hO7.size
      have hm7 : ¬ (1 + ((cRnt r : Nat) : Int) < 0) := by omega
      go_wp2_with fail
      refine (c_laws_eqIntS _ _ _ _ _ _ LL _ (IntsO.toV hV2) hV1).mono ?_
      rintro e u8 ⟨rfl, hb8⟩
      replace p0 := hb8.keep p0; replace p1 := hb8.keep p1; replace p2 := hb8.keep p2; replace p3 := hb8.keep p3; replace p4 := hb8.keep p4; replace p5 := hb8.keep p5; replace p6 := hb8.keep p6; replace p7 := hb8.keep p7; replace p8 := hb8.keep p8; replace p9 := hb8.keep p9; replace p10 := hb8.keep p10; replace p11 := hb8.keep p11; replace p12 := hb8.keep p12; replace p13 := hb8.keep p13; replace p14 := hb8.keep p14
      replace HH := RntP.keeps _ _ _ _ _ _ (Same.ext hb8) HH
      replace hX := hX.trans hb8
      replace hV1 := hV1.ext IntP.keeps hb8
      replace hV2 := hV2.ext IntP.keepsO hb8
      have hs8 := Below.size hb8
      go_wp2_with fail
      refine (c_laws_markIntS _ _ _ LL 1 _ hV2 (by omega) hLb (by omega)).mono ?_
      rintro e u9 ⟨rfl, hV9, hO9⟩
      replace p0 := hO9.keep p0 (.inl (by show w.heap.size < _; omega)); replace p1 := hO9.keep p1 (.inl (by show w.heap.size < _; omega)); replace p2 := hO9.keep p2 (.inl (by show w.heap.size < _; omega)); replace p3 := hO9.keep p3 (.inl (by show w.heap.size < _; omega)); replace p4 := hO9.keep p4 (.inl (by show w.heap.size < _; omega)); replace p5 := hO9.keep p5 (.inl (by show w.heap.size < _; omega)); replace p6 := hO9.keep p6 (.inl (by show w.heap.size < _; omega)); replace p7 := hO9.keep p7 (.inl (by show w.heap.size < _; omega)); replace p8 := hO9.keep p8 (.inl (by show w.heap.size < _; omega)); replace p9 := hO9.keep p9 (.inl (by show w.heap.size < _; omega)); replace p10 := hO9.keep p10 (.inl (by show w.heap.size < _; omega)); replace p11 := hO9.keep p11 (.inl (by show w.heap.size < _; omega)); replace p12 := hO9.keep p12 (.inl (by show w.heap.size < _; omega)); replace p13 := hO9.keep p13 (.inl (by show w.heap.size < _; omega)); replace p14 := hO9.keep p14 (.inl (by show w.heap.size < _; omega))
      replace HH := RntP.keeps _ _ _ _ _ _ (hO9.same (.inr (by show w.heap.size ≤ _; omega))) HH
      replace hX := hX.only hO9 (by omega)
      have hV1s := hV1.keeps IntP.keeps (hO9.same (.inr (by show _ ≤ _; omega)))
      replace hV1 := hV1s
      clear hV1s hV2
      have hs9 := hO9.size
      have hH9 := IntsO.toV hV9
      clear hV9
      have hm9 : ¬ (1 + ((cnL c1 LL : Nat) : Int) < 0) := by omega
      go_wp2_with fail
      refine (c_laws_heldIntS _ _ _ LL 1 _ hH9 (by omega) hLb).mono ?_
      rintro e u10 ⟨rfl, hb10⟩
      replace p0 := hb10.keep p0; replace p1 := hb10.keep p1; replace p2 := hb10.keep p2; replace p3 := hb10.keep p3; replace p4 := hb10.keep p4; replace p5 := hb10.keep p5; replace p6 := hb10.keep p6; replace p7 := hb10.keep p7; replace p8 := hb10.keep p8; replace p9 := hb10.keep p9; replace p10 := hb10.keep p10; replace p11 := hb10.keep p11; replace p12 := hb10.keep p12; replace p13 := hb10.keep p13; replace p14 := hb10.keep p14
      replace HH := RntP.keeps _ _ _ _ _ _ (Same.ext hb10) HH
      replace hX := hX.trans hb10
      replace hV1 := hV1.ext IntP.keeps hb10
      replace hH9 := hH9.ext IntP.keeps hb10
      as_aux_lemma =>
        go_wp2_with fail
        refine (c_laws_toRuntime 0 w.heap.size _ r _ HH hw).mono ?_
        rintro e u11 ⟨d5, rfl, hD5, hb11⟩
        replace p0 := hb11.keep p0; replace p1 := hb11.keep p1; replace p2 := hb11.keep p2; replace p3 := hb11.keep p3; replace p4 := hb11.keep p4; replace p5 := hb11.keep p5; replace p6 := hb11.keep p6; replace p7 := hb11.keep p7; replace p8 := hb11.keep p8; replace p9 := hb11.keep p9; replace p10 := hb11.keep p10; replace p11 := hb11.keep p11; replace p12 := hb11.keep p12; replace p13 := hb11.keep p13; replace p14 := hb11.keep p14
        replace HH := RntP.keeps _ _ _ _ _ _ (Same.ext hb11) HH
        replace hX := hX.trans hb11
        replace hV1 := hV1.ext IntP.keeps hb11
        replace hH9 := hH9.ext IntP.keeps hb11
        go_wp2_with fail
        refine (c_impl_LoadOf _ _ _ r _ (RntO.toP hD5) hw).mono ?_
        rintro e u12 ⟨v5, rfl, hV5, hb12⟩
        replace p0 := hb12.keep p0; replace p1 := hb12.keep p1; replace p2 := hb12.keep p2; replace p3 := hb12.keep p3; replace p4 := hb12.keep p4; replace p5 := hb12.keep p5; replace p6 := hb12.keep p6; replace p7 := hb12.keep p7; replace p8 := hb12.keep p8; replace p9 := hb12.keep p9; replace p10 := hb12.keep p10; replace p11 := hb12.keep p11; replace p12 := hb12.keep p12; replace p13 := hb12.keep p13; replace p14 := hb12.keep p14
        replace HH := RntP.keeps _ _ _ _ _ _ (Same.ext hb12) HH
        replace hX := hX.trans hb12
        replace hV1 := hV1.ext IntP.keeps hb12
        replace hH9 := hH9.ext IntP.keeps hb12
        clear hD5
        obtain ⟨fa5, fk5, rfl, _⟩ := id hV5
        rw [HLL.out] at hV5 ⊢
        rw [HBBt.out]
        go_wp2_with fail
        refine (c_laws_eqIntS _ _ _ _ _ _ LL _ (IntsO.toV hV5) hV1).mono ?_
        rintro e u13 ⟨rfl, hb13⟩
        replace p0 := hb13.keep p0; replace p1 := hb13.keep p1; replace p2 := hb13.keep p2; replace p3 := hb13.keep p3; replace p4 := hb13.keep p4; replace p5 := hb13.keep p5; replace p6 := hb13.keep p6; replace p7 := hb13.keep p7; replace p8 := hb13.keep p8; replace p9 := hb13.keep p9; replace p10 := hb13.keep p10; replace p11 := hb13.keep p11; replace p12 := hb13.keep p12; replace p13 := hb13.keep p13; replace p14 := hb13.keep p14
        replace HH := RntP.keeps _ _ _ _ _ _ (Same.ext hb13) HH
        replace hX := hX.trans hb13
        replace hV1 := hV1.ext IntP.keeps hb13
        replace hH9 := hH9.ext IntP.keeps hb13
        go_wp2_with fail
        refine (c_laws_heldIntS _ _ _ LL 1 _ hH9 (by omega) hLb).mono ?_
        rintro e u14 ⟨rfl, hb14⟩
        go_wp2
        go_ret
        exact ⟨rfl, hX.trans hb14⟩
end Go.Proofs.YtccjepndhlobpaaGreatDoor
