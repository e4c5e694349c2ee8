/-
  Walks: LoadOf.
-/
import Derived.Test.YtccjepndhlobpaaGreatDoorV27
namespace Go.Proofs.YtccjepndhlobpaaGreatDoor
open Go.RowKit
set_option linter.unusedVariables false
set_option linter.unusedSimpArgs false
/-- The loads of a runtime's hosts. -/
def loadR (r : Rnt) : List Int := if rntB r = true then loadL r.agent r.hosts.length else []
theorem loadTo_snoc (b : Big) (k n : Nat) : loadTo b (k + 1) n = loadTo b k n ++ [((idxOf (undF b (-1 - (k : Int))) n).length : Int)] := by
  unfold loadTo; rw [List.range_succ, List.map_append]; rfl
theorem loadTo_none (b : Big) (n : Nat) : loadTo b 0 n = [] := rfl
theorem own_intsO {w : World} {base lo g cap : Nat} {e : TypeId} {c : List Int} (own : w.ownsRow base e 1 (.slice (some ⟨g, 0, none⟩) c.length cap) c.length (cellsI c)) (hlo : lo ≤ base) (hb : ∀ x ∈ c, I64 x) : IntsO lo w.heap.size w (.slice (some ⟨g, 0, none⟩) c.length cap) c := by
  obtain ⟨a, k, e1, h1, h2, h3, h4⟩ := own_size own
  simp only [Value.slice.injEq] at e1
  obtain ⟨rfl, _, rfl⟩ := e1
  have hl := own_lt own
  refine ⟨_, _, rfl, h1, h2, h3, .inr ⟨g, 0, fun _ => (lo, lo), rfl, by omega, hl.2, hl.2, fun j => own.frozenAt j, fun _ _ _ _ => .inl (Nat.le_refl _), fun i hi => ⟨Nat.le_refl _, by show lo ≤ _; omega, .inl (by show lo ≤ g; omega), [.int .i64 c[i]], rfl, ⟨rfl, hb _ (List.getElem_mem hi)⟩, fun t y ht => ?_⟩⟩⟩
  have : t = 0 := by
    cases t with
    | zero => rfl
    | succ t => simp at ht
  subst this
  simp at ht
  subst ht
  have := own_cell own i _ (cellsI_at c i hi)
  simpa using this
attribute [local irreducible] inR topB bigB rntB undF undL loadTo
set_option maxRecDepth 100000 in
set_option maxHeartbeats 3200000 in
theorem c_spec_l9Under (lo hi : Nat) (cs : List Value) (b : Big) (sig : List Ctl) (p : Int) (w : World) (h : BigP lo hi w cs b) (hs : bigB sig b = true) :
    Calls Tryz.prog 128 #[.agg cs.toArray, .int .i64 p] w fun e w' => ∃ v, e = .returned v ∧ SlV 1 IntP w.heap.size w'.heap.size w' v (idxOf (undF b p) b.nodes.length) ∧ Ext w w' := by
  have hnl : b.nodes.length ≤ 8 := (headB_parts (bigB_parts hs).1).2.2.1
  have HS := Lib.hid hs
  clear hs
  have hB := h
  obtain ⟨v1, v2, v4, v5, rfl, r1, r2, ⟨a1, k1, rfl, g1, g2, g3, g4⟩, hSi, hO, hI⟩ := h
  unfold maxLen at g2
  obtain ⟨W0, hW0, hbx, hx0, hz⟩ := box_facts w [.int .i64 b.roots, .slice a1 b.nodes.length k1, v2, .int .i64 b.edges, v4, v5] 44
  have p0 := (hbx 0 _ rfl).1
  have p1 := (hbx 1 _ rfl).1
  have p2 := (hbx 2 _ rfl).1
  have p3 := (hbx 3 _ rfl).1
  have p4 := (hbx 4 _ rfl).1
  have p5 := (hbx 5 _ rfl).1
  have hzz : w.heap.size < W0.heap.size := by omega
  clear hz hbx
  replace hB := BigP.keeps _ _ _ _ _ _ (Same.ext hx0) hB
  obtain ⟨i0, hi0, hz0, hz1, hz2⟩ := info_parts infoInt
  have hrow0 : RowL 1 IntP 3 W0.heap.size (W0.alloc (.cells #[] 3)) (.slice (some ⟨W0.heap.size, 0, none⟩) 0 0) [] := RowL.made (Nat.le_refl _)
  go_enter Tryz.func128, Tryz.ntmps128
  go_wp2
  go_loopw [5, 6] (fun v c wr => ∃ i : Nat, c = .int .i64 i ∧ i ≤ b.nodes.length ∧ RowL 1 IntP 3 W0.heap.size wr v (idxOf (undF b p) i) ∧ Ext W0 wr) (fun _ c _ => b.nodes.length - (intOf c).toNat)
  case atStart => exact ⟨0, rfl, Nat.zero_le _, hrow0, by (repeat first | (with_reducible first | assumption | exact Xr _ | refine Xa ?_ _ | refine Xd ?_ | refine Xn ?_ _) | refine Xs ?_ | with_reducible refine Xt ?_ (by assumption))⟩
  case round =>
    obtain ⟨i, rfl, hi', hrow, hx⟩ := hrel
    replace p0 := hx.keep p0
    replace p1 := hx.keep p1
    replace p2 := hx.keep p2
    replace p3 := hx.keep p3
    replace p4 := hx.keep p4
    replace p5 := hx.keep p5
    replace hB := BigP.keeps _ _ _ _ _ _ (Same.ext hx) hB
    have hX : Ext w wr := by (repeat first | (with_reducible first | assumption | exact Xr _ | refine Xa ?_ _ | refine Xd ?_ | refine Xn ?_ _) | refine Xs ?_ | with_reducible refine Xt ?_ (by assumption))
    by_cases hlt : i < b.nodes.length
    · have HF := Lib.hid (undF_at b p i hlt)
      have hpl := par_lt HS.out i hlt
      rcases g4 with g4 | ⟨bn, on, rfl, nb1, nb2, g4⟩
      · rw [g4] at hlt; simp at hlt
      obtain ⟨cs, hl, ⟨nv, rfl, e1, e2, e3⟩, hc⟩ := g4 i hlt
      have q0 := hX.keep (hc 0 _ rfl)
      have q1 := hX.keep (hc 1 _ rfl)
      rw [Nat.add_zero] at q0
      clear hc g4
      have hsz := Below.size hx
      have hL := idxOf_len (undF b p) i
      by_cases hp : topB b (b.nodes[i]).parent = p
      · have HT := Lib.hid (idxOf_yes (f := undF b p) (n := i) (by rw [HF.out]; simpa using hp))
        have HP := Lib.hid hp
        clear hp
        go_wp2_with fail
        refine wp_region_held_drew (S := (fun w' => Ext wr w')) (by kernel_rfl) ?_ (fun hHeld => ?_)
        · exact (Ext.refl wr).drew
        refine tkY 0 ?_ ?_ ?_; rotate_left; focus (intro w hSw; (try dsimp only at hSw); have sp0 := Ext.keep hSw p0; have sp1 := Ext.keep hSw p1; have sp2 := Ext.keep hSw p2; have sp3 := Ext.keep hSw p3; have sp4 := Ext.keep hSw p4; have sp5 := Ext.keep hSw p5; have sq0 := Ext.keep hSw q0; have sq1 := Ext.keep hSw q1; go_simp; try with_reducible rfl)
        try simp only [Act.put, aput]
        refine tkP 1 ?_ ?_ ?_; rotate_left; focus (intro w; go_simp; try with_reducible rfl)
        try simp only [Act.put, aput]
        refine tkY 2 ?_ ?_ ?_; rotate_left; focus (intro w hSw; (try dsimp only at hSw); have sp0 := Ext.keep hSw p0; have sp1 := Ext.keep hSw p1; have sp2 := Ext.keep hSw p2; have sp3 := Ext.keep hSw p3; have sp4 := Ext.keep hSw p4; have sp5 := Ext.keep hSw p5; have sq0 := Ext.keep hSw q0; have sq1 := Ext.keep hSw q1; go_simp; try with_reducible rfl)
        try simp only [Act.put, aput]
        refine tkP 3 ?_ ?_ ?_; rotate_left; focus (intro w; go_simp; try with_reducible rfl)
        try simp only [Act.put, aput]
        refine tkP 4 ?_ ?_ ?_; rotate_left; focus (intro w; go_simp; try with_reducible rfl)
        try simp only [Act.put, aput]
        refine tkP 5 ?_ ?_ ?_; rotate_left; focus (intro w; go_simp; try with_reducible rfl)
        try simp only [Act.put, aput]
        refine tkY 6 ?_ ?_ ?_; rotate_left; focus (intro w hSw; (try dsimp only at hSw); have sp0 := Ext.keep hSw p0; have sp1 := Ext.keep hSw p1; have sp2 := Ext.keep hSw p2; have sp3 := Ext.keep hSw p3; have sp4 := Ext.keep hSw p4; have sp5 := Ext.keep hSw p5; have sq0 := Ext.keep hSw q0; have sq1 := Ext.keep hSw q1; go_simp; try with_reducible rfl)
        try simp only [Act.put, aput]
        refine tkP 8 ?_ ?_ ?_; rotate_left; focus (intro w; go_simp; try with_reducible rfl)
        try simp only [Act.put, aput]
        refine wpAnyH_ready (rs := [7]) (by kernel_rfl) (by simp) ?_
        refine AllReadyH.cons rfl (fun K hK => ?_) AllReadyH.nil
        go_simp
        (go_at_call 62; refine (c_spec_l3Top lo hi _ b sig _ _ (BigP.keeps _ _ _ _ _ _ (Same.ext hHeld) hB) HS.out (by omega)).mono ?_; rintro e y ⟨rfl, hb⟩; rw [HP.out])
        show K _ _
        refine hK.out _ _ (by exact hHeld.trans hb) (fun hHeld => ?_)
        clear hK K
        try simp only [Act.put, aput]
        refine tkP 9 ?_ ?_ ?_; rotate_left; focus (intro w; go_simp; try with_reducible rfl)
        try simp only [Act.put, aput]
        refine wpAnyH_done (by kernel_rfl) ?_ _
        have hrow2 := hrow.ext IntP.keeps hHeld
        have hx2 : Ext W0 _ := hx.trans hHeld
        have hsz2 := Below.size hx2
        go_wp2_with (at_builtin; refine wpList_append_row2 IntP.keeps rfl (.tmp 25) (.tmp 27) 23 rfl (W0.heap.size) 3 i0 _ 8 Tryz.underlying23 hi0 hz0 hz1 hz2 rfl (by decide) _ _ (by rfl) (hrow2.ext IntP.keeps (by (repeat first | (with_reducible first | assumption | exact Xr _ | refine Xa ?_ _ | refine Xd ?_ | refine Xn ?_ _) | refine Xs ?_ | with_reducible refine Xt ?_ (by assumption)))) ⟨y.heap.size, 0, none⟩ 1 [.int .i64 i] rfl rfl (one_cell (by simp)) (by simp [Value.oneCell']) (W0.heap.size) (W0.heap.size) (Nat.le_refl _) (by first | omega | (simp; omega)) (fun g hg => .inr (hrow2.block g hg).1) ((i : Int)) ⟨rfl, i64_nat (by omega)⟩ (by first | omega | (simp; omega)) (by decide) (by first | omega | (simp; omega)) ?_; intro v3 w3 row3 ext3 gro3 own3)
        have hx3 := ext3 W0 (by (repeat first | (with_reducible first | assumption | exact Xr _ | refine Xa ?_ _ | refine Xd ?_ | refine Xn ?_ _) | refine Xs ?_ | with_reducible refine Xt ?_ (by assumption))) (Nat.le_refl _)
        go_roundw
        case rel => exact ⟨i + 1, rfl, by omega, by rw [HT.out]; exact row3, by (repeat first | (with_reducible first | assumption | exact Xr _ | refine Xa ?_ _ | refine Xd ?_ | refine Xn ?_ _) | refine Xs ?_ | with_reducible refine Xt ?_ (by assumption))⟩
        all_goals (simp only [intOf]; omega)
      · have ep : (topB b (b.nodes[i]).parent == p) = false := beq_eq_false_iff_ne.2 hp
        have HT := Lib.hid (idxOf_no (f := undF b p) (n := i) (by rw [HF.out]; simpa using hp))
        clear hp
        go_wp2_with fail
        refine wp_region_held_drew (S := (fun w' => Ext wr w')) (by kernel_rfl) ?_ (fun hHeld => ?_)
        · exact (Ext.refl wr).drew
        refine tkY 0 ?_ ?_ ?_; rotate_left; focus (intro w hSw; (try dsimp only at hSw); have sp0 := Ext.keep hSw p0; have sp1 := Ext.keep hSw p1; have sp2 := Ext.keep hSw p2; have sp3 := Ext.keep hSw p3; have sp4 := Ext.keep hSw p4; have sp5 := Ext.keep hSw p5; have sq0 := Ext.keep hSw q0; have sq1 := Ext.keep hSw q1; go_simp; try with_reducible rfl)
        try simp only [Act.put, aput]
        refine tkP 1 ?_ ?_ ?_; rotate_left; focus (intro w; go_simp; try with_reducible rfl)
        try simp only [Act.put, aput]
        refine tkY 2 ?_ ?_ ?_; rotate_left; focus (intro w hSw; (try dsimp only at hSw); have sp0 := Ext.keep hSw p0; have sp1 := Ext.keep hSw p1; have sp2 := Ext.keep hSw p2; have sp3 := Ext.keep hSw p3; have sp4 := Ext.keep hSw p4; have sp5 := Ext.keep hSw p5; have sq0 := Ext.keep hSw q0; have sq1 := Ext.keep hSw q1; go_simp; try with_reducible rfl)
        try simp only [Act.put, aput]
        refine tkP 3 ?_ ?_ ?_; rotate_left; focus (intro w; go_simp; try with_reducible rfl)
        try simp only [Act.put, aput]
        refine tkP 4 ?_ ?_ ?_; rotate_left; focus (intro w; go_simp; try with_reducible rfl)
        try simp only [Act.put, aput]
        refine tkP 5 ?_ ?_ ?_; rotate_left; focus (intro w; go_simp; try with_reducible rfl)
        try simp only [Act.put, aput]
        refine tkY 6 ?_ ?_ ?_; rotate_left; focus (intro w hSw; (try dsimp only at hSw); have sp0 := Ext.keep hSw p0; have sp1 := Ext.keep hSw p1; have sp2 := Ext.keep hSw p2; have sp3 := Ext.keep hSw p3; have sp4 := Ext.keep hSw p4; have sp5 := Ext.keep hSw p5; have sq0 := Ext.keep hSw q0; have sq1 := Ext.keep hSw q1; go_simp; try with_reducible rfl)
        try simp only [Act.put, aput]
        refine tkP 8 ?_ ?_ ?_; rotate_left; focus (intro w; go_simp; try with_reducible rfl)
        try simp only [Act.put, aput]
        refine wpAnyH_ready (rs := [7]) (by kernel_rfl) (by simp) ?_
        refine AllReadyH.cons rfl (fun K hK => ?_) AllReadyH.nil
        go_simp
        (go_at_call 62; refine (c_spec_l3Top lo hi _ b sig _ _ (BigP.keeps _ _ _ _ _ _ (Same.ext hHeld) hB) HS.out (by omega)).mono ?_; rintro e y ⟨rfl, hb⟩)
        show K _ _
        refine hK.out _ _ (by exact hHeld.trans hb) (fun hHeld => ?_)
        clear hK K
        try simp only [Act.put, aput]
        refine tkP 9 ?_ ?_ ?_; rotate_left; focus (intro w; go_simp; try with_reducible rfl)
        try simp only [Act.put, aput]
        refine wpAnyH_done (by kernel_rfl) ?_ _
        have hrow2 := hrow.ext IntP.keeps hHeld
        have hx2 : Ext W0 _ := hx.trans hHeld
        go_wp2
        go_roundw
        case rel => exact ⟨i + 1, rfl, by omega, by rw [HT.out]; exact hrow2, hx2⟩
        all_goals (simp only [intOf]; omega)
    · have e : i = b.nodes.length := by omega
      subst e
      go_wp2
      go_ret
      exact ⟨_, rfl, hrow.toSlV IntP.widens (by omega), hX⟩
set_option maxRecDepth 100000 in
set_option maxHeartbeats 3200000 in
theorem c_spec_l13Load (lo hi : Nat) (cs : List Value) (r : Rnt) (w : World) (h : RntP lo hi w cs r) (hr : rntB r = true) :
    Calls Tryz.prog 65 #[.agg cs.toArray] w fun e w' => ∃ v, e = .returned v ∧ SlV 1 IntP w.heap.size w'.heap.size w' v (loadL r.agent r.hosts.length) ∧ Ext w w' := by
  have HBB := Lib.hid (rntB_big hr)
  have hnl : r.agent.nodes.length ≤ 8 := (headB_parts (bigB_parts HBB.out).1).2.2.1
  have hl4 : r.hosts.length ≤ 4 := by have h1 := (rntB_parts hr).2.2.1; unfold hostsB at h1; simp at h1; exact h1.2
  clear hr
  have HH := h
  obtain ⟨v0, cc1, v6, v7, cc8, rfl, e0, E1, e6, e7, E8, ec⟩ := h
  obtain ⟨s0, s1, s2, s3, s4, rfl, _⟩ := id E1
  obtain ⟨y1, y2, y4, y5, rfl, hE8⟩ := id E8
  obtain ⟨ha, hk, rfl, g1, g2, g3, g4⟩ := id e7
  unfold maxLen at g2
  clear e0 E1 e6 ec
  change Calls Tryz.prog 65 #[.agg #[v0, s0, s1, s2, s3, s4, v6, .slice ha r.hosts.length hk, .int .i64 r.agent.roots, y1, y2, .int .i64 r.agent.edges, y4, y5, .int .i64 r.count]] w _
  obtain ⟨W0, hW0, hbx, hx0, hz⟩ := box_facts w [v0, s0, s1, s2, s3, s4, v6, .slice ha r.hosts.length hk, .int .i64 r.agent.roots, y1, y2, .int .i64 r.agent.edges, y4, y5, .int .i64 r.count] 46
  have p0 := (hbx 0 _ rfl).1
  have p1 := (hbx 1 _ rfl).1
  have p2 := (hbx 2 _ rfl).1
  have p3 := (hbx 3 _ rfl).1
  have p4 := (hbx 4 _ rfl).1
  have p5 := (hbx 5 _ rfl).1
  have p6 := (hbx 6 _ rfl).1
  have p7 := (hbx 7 _ rfl).1
  have p8 := (hbx 8 _ rfl).1
  have p9 := (hbx 9 _ rfl).1
  have p10 := (hbx 10 _ rfl).1
  have p11 := (hbx 11 _ rfl).1
  have p12 := (hbx 12 _ rfl).1
  have p13 := (hbx 13 _ rfl).1
  have p14 := (hbx 14 _ rfl).1
  have hzz : w.heap.size < W0.heap.size := by omega
  clear hz hbx
  replace HH := RntP.keeps _ _ _ _ _ _ (Same.ext hx0) HH
  replace E8 := BigP.keeps _ _ _ _ _ _ (Same.ext hx0) E8
  obtain ⟨i0, hi0, hz0, hz1, hz2⟩ := info_parts infoInt
  have hrow0 : RowL 1 IntP 3 W0.heap.size (W0.alloc (.cells #[] 3)) (.slice (some ⟨W0.heap.size, 0, none⟩) 0 0) (loadTo r.agent 0 r.agent.nodes.length) := by rw [loadTo_none]; exact RowL.made (Nat.le_refl _)
  go_enter Tryz.func65, Tryz.ntmps65
  go_wp2
  go_loopw [3, 4] (fun v c wr => ∃ k : Nat, c = .int .i64 k ∧ k ≤ r.hosts.length ∧ RowL 1 IntP 3 W0.heap.size wr v (loadTo r.agent k r.agent.nodes.length) ∧ Ext W0 wr) (fun _ c _ => r.hosts.length - (intOf c).toNat)
  case atStart => exact ⟨0, rfl, Nat.zero_le _, hrow0, by (repeat first | (with_reducible first | assumption | exact Xr _ | refine Xa ?_ _ | refine Xd ?_ | refine Xn ?_ _) | refine Xs ?_ | with_reducible refine Xt ?_ (by assumption))⟩
  case round =>
    obtain ⟨k, rfl, hk', hrow, hx⟩ := hrel
    replace p0 := hx.keep p0
    replace p1 := hx.keep p1
    replace p2 := hx.keep p2
    replace p3 := hx.keep p3
    replace p4 := hx.keep p4
    replace p5 := hx.keep p5
    replace p6 := hx.keep p6
    replace p7 := hx.keep p7
    replace p8 := hx.keep p8
    replace p9 := hx.keep p9
    replace p10 := hx.keep p10
    replace p11 := hx.keep p11
    replace p12 := hx.keep p12
    replace p13 := hx.keep p13
    replace p14 := hx.keep p14
    replace E8 := BigP.keeps _ _ _ _ _ _ (Same.ext hx) E8
    have hX : Ext w wr := by (repeat first | (with_reducible first | assumption | exact Xr _ | refine Xa ?_ _ | refine Xd ?_ | refine Xn ?_ _) | refine Xs ?_ | with_reducible refine Xt ?_ (by assumption))
    by_cases hlt : k < r.hosts.length
    · have hsz := Below.size hx
      have hLL := loadTo_len r.agent k r.agent.nodes.length
      have hL2 : (loadTo r.agent k r.agent.nodes.length).length < 1000 := by omega
      clear hLL
      have HT := Lib.hid (loadTo_snoc r.agent k r.agent.nodes.length)
      go_wp2_with fail
      refine (c_spec_l9Under lo hi _ r.agent r.sig (-1 - (k : Int)) _ E8 HBB.out).mono ?_
      rintro e y ⟨v, rfl, ⟨ua, uk, rfl, u1, u2, _⟩, hb⟩
      unfold maxLen at u2
      have hrow2 := hrow.ext IntP.keeps hb
      have hu := idxOf_len (undF r.agent (-1 - (k : Int))) r.agent.nodes.length
      have hsz2 := Below.size hb
      have hx2 := hx.trans hb
      go_wp2_with (at_builtin; refine wpList_append_row2 IntP.keeps rfl (.tmp 13) (.tmp 20) 23 rfl (W0.heap.size) 3 i0 _ 8 Tryz.underlying23 hi0 hz0 hz1 hz2 rfl (by decide) _ _ (by rfl) (hrow2.ext IntP.keeps (by (repeat first | (with_reducible first | assumption | exact Xr _ | refine Xa ?_ _ | refine Xd ?_ | refine Xn ?_ _) | refine Xs ?_ | with_reducible refine Xt ?_ (by assumption)))) ⟨y.heap.size, 0, none⟩ 1 [.int .i64 ((idxOf (undF r.agent (-1 - (k : Int))) r.agent.nodes.length).length : Nat)] rfl rfl (one_cell (by simp)) (by simp [Value.oneCell']) (W0.heap.size) (W0.heap.size) (Nat.le_refl _) (by first | omega | (simp; omega)) (fun g hg => .inr (hrow2.block g hg).1) ((((idxOf (undF r.agent (-1 - (k : Int))) r.agent.nodes.length).length : Nat) : Int)) ⟨rfl, i64_nat (by omega)⟩ (by first | omega | (simp; omega)) (by decide) (by first | omega | (simp; omega)) ?_; intro v3 w3 row3 ext3 gro3 own3)
      have hx3 := ext3 W0 (by (repeat first | (with_reducible first | assumption | exact Xr _ | refine Xa ?_ _ | refine Xd ?_ | refine Xn ?_ _) | refine Xs ?_ | with_reducible refine Xt ?_ (by assumption))) (Nat.le_refl _)
      go_roundw
      case rel => exact ⟨k + 1, rfl, by omega, by rw [HT.out]; exact row3, by (repeat first | (with_reducible first | assumption | exact Xr _ | refine Xa ?_ _ | refine Xd ?_ | refine Xn ?_ _) | refine Xs ?_ | with_reducible refine Xt ?_ (by assumption))⟩
      all_goals (simp only [intOf]; omega)
    · have e : k = r.hosts.length := by omega
      subst e
      go_wp2
      go_ret
      exact ⟨_, rfl, hrow.toSlV IntP.widens (by omega), hX⟩
set_option maxRecDepth 100000 in
set_option maxHeartbeats 3200000 in
theorem c_impl_Runtime_loadOf (lo hi : Nat) (cs : List Value) (r : Rnt) (w : World) (h : RntP lo hi w cs r) (hr : rntB r = true) :
    Calls Tryz.prog 66 #[.agg cs.toArray] w fun e w' => ∃ v, e = .returned v ∧ IntsO w.heap.size w'.heap.size w' v (loadL r.agent r.hosts.length) ∧ Ext w w' := by
  have HBB := Lib.hid (rntB_big hr)
  have HRR := Lib.hid hr
  have hnl : r.agent.nodes.length ≤ 8 := (headB_parts (bigB_parts HBB.out).1).2.2.1
  have hl4 : r.hosts.length ≤ 4 := by have h1 := (rntB_parts hr).2.2.1; unfold hostsB at h1; simp at h1; exact h1.2
  clear hr
  have HH := h
  obtain ⟨v0, cc1, v6, v7, cc8, rfl, e0, E1, e6, e7, E8, ec⟩ := h
  obtain ⟨s0, s1, s2, s3, s4, rfl, _⟩ := id E1
  obtain ⟨y1, y2, y4, y5, rfl, _, _, ⟨na, nk, rfl, n1, n2, _⟩, _⟩ := id E8
  obtain ⟨ha, hk, rfl, g1, g2, g3, g4⟩ := id e7
  unfold maxLen at g2
  clear e0 E1 e6 ec
  change Calls Tryz.prog 66 #[.agg #[v0, s0, s1, s2, s3, s4, v6, .slice ha r.hosts.length hk, .int .i64 r.agent.roots, .slice na r.agent.nodes.length nk, y2, .int .i64 r.agent.edges, y4, y5, .int .i64 r.count]] w _
  obtain ⟨W0, hW0, hbx, hx0, hz⟩ := box_facts w [v0, s0, s1, s2, s3, s4, v6, .slice ha r.hosts.length hk, .int .i64 r.agent.roots, .slice na r.agent.nodes.length nk, y2, .int .i64 r.agent.edges, y4, y5, .int .i64 r.count] 46
  have p0 := (hbx 0 _ rfl).1
  have p1 := (hbx 1 _ rfl).1
  have p2 := (hbx 2 _ rfl).1
  have p3 := (hbx 3 _ rfl).1
  have p4 := (hbx 4 _ rfl).1
  have p5 := (hbx 5 _ rfl).1
  have p6 := (hbx 6 _ rfl).1
  have p7 := (hbx 7 _ rfl).1
  have p8 := (hbx 8 _ rfl).1
  have p9 := (hbx 9 _ rfl).1
  have p10 := (hbx 10 _ rfl).1
  have p11 := (hbx 11 _ rfl).1
  have p12 := (hbx 12 _ rfl).1
  have p13 := (hbx 13 _ rfl).1
  have p14 := (hbx 14 _ rfl).1
  have hzz : w.heap.size < W0.heap.size := by omega
  clear hz hbx
  replace HH := RntP.keeps _ _ _ _ _ _ (Same.ext hx0) HH
  replace E8 := BigP.keeps _ _ _ _ _ _ (Same.ext hx0) E8
  unfold maxLen at n2
  obtain ⟨i0, hi0, hz0, hz1, hz2⟩ := info_parts infoInt
  obtain ⟨W2, hmk, own0, gro0⟩ := run_make_full W0 W0.heap.size 23 3 i0 _ 1 Tryz.underlying23 hi0 hz0 hz1 .i64 .i64 r.hosts.length (by rw [hz2]; omega) (by unfold maxLen; omega) (Nat.le_refl _)
  have x2 := ext_none gro0
  have hz' := made_zero r.hosts.length
  change (madeCells (Value.int .i64 0).cells (r.hosts.length * 1)).toList = _ at hz'
  rw [hz', ← loadTo_zero r.agent] at own0
  clear hz' hi0 hz0 hz1 hz2 gro0
  have hs0 := own_lt own0
  have t0 := x2.keep p0
  have t1 := x2.keep p1
  have t2 := x2.keep p2
  have t3 := x2.keep p3
  have t4 := x2.keep p4
  have t5 := x2.keep p5
  have t6 := x2.keep p6
  have t7 := x2.keep p7
  have t8 := x2.keep p8
  have t9 := x2.keep p9
  have t10 := x2.keep p10
  have t11 := x2.keep p11
  have t12 := x2.keep p12
  have t13 := x2.keep p13
  have t14 := x2.keep p14
  go_enter Tryz.func66, Tryz.ntmps66
  go_wp2
  go_loopw [13] (fun c wr => ∃ i : Nat, c = .int .i64 i ∧ i ≤ r.agent.nodes.length ∧ wr.ownsRow W0.heap.size 3 1 (.slice (some ⟨W0.heap.size, 0, none⟩) r.hosts.length r.hosts.length) r.hosts.length (cellsI (loadTo r.agent r.hosts.length i)) ∧ Ext W0 wr) (fun c _ => r.agent.nodes.length - (intOf c).toNat)
  case atStart => exact ⟨0, rfl, Nat.zero_le _, own0, x2⟩
  case round =>
    obtain ⟨i, rfl, hi', own, hx⟩ := hrel
    replace p0 := hx.keep p0
    replace p1 := hx.keep p1
    replace p2 := hx.keep p2
    replace p3 := hx.keep p3
    replace p4 := hx.keep p4
    replace p5 := hx.keep p5
    replace p6 := hx.keep p6
    replace p7 := hx.keep p7
    replace p8 := hx.keep p8
    replace p9 := hx.keep p9
    replace p10 := hx.keep p10
    replace p11 := hx.keep p11
    replace p12 := hx.keep p12
    replace p13 := hx.keep p13
    replace p14 := hx.keep p14
    replace HH := RntP.keeps _ _ _ _ _ _ (Same.ext hx) HH
    have hX : Ext w wr := by (repeat first | (with_reducible first | assumption | exact Xr _ | refine Xa ?_ _ | refine Xd ?_ | refine Xn ?_ _) | refine Xs ?_ | with_reducible refine Xt ?_ (by assumption))
    clear t0 t1 t2 t3 t4 t5 t6 t7 t8 t9 t10 t11 t12 t13 t14
    have hLL := loadTo_len r.agent r.hosts.length i
    by_cases hlt : i < r.agent.nodes.length
    · obtain ⟨j1, j2⟩ := hostK_le HRR.out i hlt
      have hst := par_lt HBB.out i hlt
      have htop := topB_step HBB.out i hlt
      generalize hq : hostK r i = q at j1 j2
      have hqc : q < (loadTo r.agent r.hosts.length i).length := by omega
      have HNX := Lib.hid (loadTo_succ r.agent r.hosts.length i q hqc hlt (by rw [← htop]; omega))
      have hV := loadTo_at r.agent r.hosts.length i q hqc
      have hu := idxOf_len (undF r.agent (-1 - (q : Int))) i
      have hVb : 0 ≤ (loadTo r.agent r.hosts.length i)[q] ∧ (loadTo r.agent r.hosts.length i)[q] ≤ 8 := by rw [hV]; omega
      have J1 := Lib.hid j1
      clear hV hu htop hq j1
      have j3 : (0 : Int) ≤ (q : Int) := by omega
      have j4 : (q : Int) < (r.hosts.length : Int) := by omega
      go_wp2_with fail
      refine (c_impl_Runtime_hostOf lo hi _ r r.sig i _ HH HBB.out hlt).mono ?_
      rintro e y ⟨rfl, hb⟩
      rw [J1.out]
      have own2 := ownsRow_ext own hb
      have oc := own_cell own2 q _ (cellsI_at _ q hqc)
      have of := own2.frozenAt q
      have hst2 := own2.stored q (.int .i64 ((loadTo r.agent r.hosts.length i)[q] + 1))
      rw [cellsI_set, ← HNX.out] at hst2
      have hsz2 := Below.size hb
      have hx2 := hx.trans hb
      generalize (loadTo r.agent r.hosts.length i)[q] = V at oc hVb hst2
      go_wp2_with fail
      go_roundw
      case rel => exact ⟨i + 1, rfl, by omega, hst2.1, by (repeat first | (with_reducible first | assumption | exact Xr _ | refine Xa ?_ _ | refine Xd ?_ | refine Xn ?_ _) | refine Xs ?_ | with_reducible refine Xt ?_ (by assumption))⟩
      all_goals (simp only [intOf]; omega)
    · have e : i = r.agent.nodes.length := by omega
      subst e
      have hfin := own_intsO (lo := w.heap.size) (c := loadTo r.agent r.hosts.length r.agent.nodes.length) (by rw [hLL]; exact own) (by omega) (fun x hx => by
        obtain ⟨q, hq, rfl⟩ := List.getElem_of_mem hx
        rw [loadTo_at]
        exact i64_nat (by have := idxOf_len (undF r.agent (-1 - (q : Int))) r.agent.nodes.length; omega))
      rw [hLL] at hfin
      go_wp2
      go_ret
      exact ⟨_, rfl, hfin, hX⟩
set_option maxRecDepth 100000 in
set_option maxHeartbeats 3200000 in
theorem c_spec_LoadOf (lo hi : Nat) (cs : List Value) (r : Rnt) (w : World) (h : RntP lo hi w cs r) (hwt : wtRnt r ≤ 1048576) :
    Calls Tryz.prog 16 #[.agg cs.toArray] w fun e w' => ∃ v, e = .returned (.tuple #[v, .bool (rntB r)]) ∧ SlV 1 IntP w.heap.size w'.heap.size w' v (loadR r) ∧ Ext w w' := by
  have HH := h
  obtain ⟨v0, cc1, v6, v7, cc8, rfl, e0, E1, e6, e7, E8, ec⟩ := h
  obtain ⟨s0, s1, s2, s3, s4, rfl, _⟩ := id E1
  obtain ⟨y1, y2, y4, y5, rfl, hE8⟩ := id E8
  obtain ⟨ha, hk, rfl, g1, g2, g3, g4⟩ := id e7
  unfold maxLen at g2
  clear e0 E1 e6 ec
  change Calls Tryz.prog 16 #[.agg #[v0, s0, s1, s2, s3, s4, v6, .slice ha r.hosts.length hk, .int .i64 r.agent.roots, y1, y2, .int .i64 r.agent.edges, y4, y5, .int .i64 r.count]] w _
  obtain ⟨W0, hW0, hbx, hx0, hz⟩ := box_facts w [v0, s0, s1, s2, s3, s4, v6, .slice ha r.hosts.length hk, .int .i64 r.agent.roots, y1, y2, .int .i64 r.agent.edges, y4, y5, .int .i64 r.count] 46
  have p0 := (hbx 0 _ rfl).1
  have p1 := (hbx 1 _ rfl).1
  have p2 := (hbx 2 _ rfl).1
  have p3 := (hbx 3 _ rfl).1
  have p4 := (hbx 4 _ rfl).1
  have p5 := (hbx 5 _ rfl).1
  have p6 := (hbx 6 _ rfl).1
  have p7 := (hbx 7 _ rfl).1
  have p8 := (hbx 8 _ rfl).1
  have p9 := (hbx 9 _ rfl).1
  have p10 := (hbx 10 _ rfl).1
  have p11 := (hbx 11 _ rfl).1
  have p12 := (hbx 12 _ rfl).1
  have p13 := (hbx 13 _ rfl).1
  have p14 := (hbx 14 _ rfl).1
  have hzz : w.heap.size < W0.heap.size := by omega
  clear hz hbx
  replace HH := RntP.keeps _ _ _ _ _ _ (Same.ext hx0) HH
  replace E8 := BigP.keeps _ _ _ _ _ _ (Same.ext hx0) E8
  go_enter Tryz.func16, Tryz.ntmps16
  go_wp2_with fail
  refine (c_spec_l13Good lo hi _ r _ HH hwt).mono ?_
  rintro e y ⟨rfl, hb⟩
  replace p0 := hb.keep p0; replace p1 := hb.keep p1; replace p2 := hb.keep p2; replace p3 := hb.keep p3; replace p4 := hb.keep p4; replace p5 := hb.keep p5; replace p6 := hb.keep p6; replace p7 := hb.keep p7; replace p8 := hb.keep p8; replace p9 := hb.keep p9; replace p10 := hb.keep p10; replace p11 := hb.keep p11; replace p12 := hb.keep p12; replace p13 := hb.keep p13; replace p14 := hb.keep p14
  replace HH := RntP.keeps _ _ _ _ _ _ (Same.ext hb) HH
  have hX := hx0.trans hb
  have hsz := Below.size hX
  cases hr : rntB r
  · have HL := Lib.hid (show loadR r = [] by unfold loadR; rw [hr]; rfl)
    have HR := Lib.hid hr
    clear hr
    go_wp2
    go_ret2
    exact ⟨.slice (some ⟨y.heap.size, 0, none⟩) 0 0, by first | rfl | (rw [HR.out]; rfl), by rw [HL.out]; exact ⟨_, 0, rfl, Nat.le_refl _, Nat.zero_le _, fun _ => rfl, .inl rfl⟩, by (repeat first | (with_reducible first | assumption | exact Xr _ | refine Xa ?_ _ | refine Xd ?_ | refine Xn ?_ _) | refine Xs ?_ | with_reducible refine Xt ?_ (by assumption))⟩
  · have HL := Lib.hid (show loadR r = loadL r.agent r.hosts.length by unfold loadR; rw [hr]; rfl)
    have HR := Lib.hid hr
    clear hr
    go_wp2_with fail
    refine (c_spec_l13Load lo hi _ r _ HH HR.out).mono ?_
    rintro e y2 ⟨v, rfl, hV, hb2⟩
    have hsz2 := Below.size hb2
    go_wp2
    go_ret2
    exact ⟨_, by first | rfl | (rw [HR.out]; rfl), by rw [HL.out]; exact hV.widens IntP.widens hsz (Nat.le_refl _), hX.trans hb2⟩
set_option maxRecDepth 100000 in
set_option maxHeartbeats 3200000 in
theorem c_impl_LoadOf (lo hi : Nat) (cs : List Value) (r : Rnt) (w : World) (h : RntP lo hi w cs r) (hwt : wtRnt r ≤ 1048576) :
    Calls Tryz.prog 17 #[.agg cs.toArray] w fun e w' => ∃ v, e = .returned (.tuple #[v, .bool (rntB r)]) ∧ IntsO w.heap.size w'.heap.size w' v (loadR r) ∧ Ext w w' := by
  have HH := h
  obtain ⟨v0, cc1, v6, v7, cc8, rfl, e0, E1, e6, e7, E8, ec⟩ := h
  obtain ⟨s0, s1, s2, s3, s4, rfl, _⟩ := id E1
  obtain ⟨y1, y2, y4, y5, rfl, hE8⟩ := id E8
  obtain ⟨ha, hk, rfl, g1, g2, g3, g4⟩ := id e7
  unfold maxLen at g2
  clear e0 E1 e6 ec
  change Calls Tryz.prog 17 #[.agg #[v0, s0, s1, s2, s3, s4, v6, .slice ha r.hosts.length hk, .int .i64 r.agent.roots, y1, y2, .int .i64 r.agent.edges, y4, y5, .int .i64 r.count]] w _
  obtain ⟨W0, hW0, hbx, hx0, hz⟩ := box_facts w [v0, s0, s1, s2, s3, s4, v6, .slice ha r.hosts.length hk, .int .i64 r.agent.roots, y1, y2, .int .i64 r.agent.edges, y4, y5, .int .i64 r.count] 46
  have p0 := (hbx 0 _ rfl).1
  have p1 := (hbx 1 _ rfl).1
  have p2 := (hbx 2 _ rfl).1
  have p3 := (hbx 3 _ rfl).1
  have p4 := (hbx 4 _ rfl).1
  have p5 := (hbx 5 _ rfl).1
  have p6 := (hbx 6 _ rfl).1
  have p7 := (hbx 7 _ rfl).1
  have p8 := (hbx 8 _ rfl).1
  have p9 := (hbx 9 _ rfl).1
  have p10 := (hbx 10 _ rfl).1
  have p11 := (hbx 11 _ rfl).1
  have p12 := (hbx 12 _ rfl).1
  have p13 := (hbx 13 _ rfl).1
  have p14 := (hbx 14 _ rfl).1
  have hzz : w.heap.size < W0.heap.size := by omega
  clear hz hbx
  replace HH := RntP.keeps _ _ _ _ _ _ (Same.ext hx0) HH
  replace E8 := BigP.keeps _ _ _ _ _ _ (Same.ext hx0) E8
  go_enter Tryz.func17, Tryz.ntmps17
  go_wp2_with fail
  refine (c_impl_IsRuntime lo hi _ r _ HH hwt).mono ?_
  rintro e y ⟨rfl, hb⟩
  replace p0 := hb.keep p0; replace p1 := hb.keep p1; replace p2 := hb.keep p2; replace p3 := hb.keep p3; replace p4 := hb.keep p4; replace p5 := hb.keep p5; replace p6 := hb.keep p6; replace p7 := hb.keep p7; replace p8 := hb.keep p8; replace p9 := hb.keep p9; replace p10 := hb.keep p10; replace p11 := hb.keep p11; replace p12 := hb.keep p12; replace p13 := hb.keep p13; replace p14 := hb.keep p14
  replace HH := RntP.keeps _ _ _ _ _ _ (Same.ext hb) HH
  have hX := hx0.trans hb
  have hsz := Below.size hX
  cases hr : rntB r
  · have HL := Lib.hid (show loadR r = [] by unfold loadR; rw [hr]; rfl)
    have HR := Lib.hid hr
    clear hr
    go_wp2
    go_ret2
    exact ⟨.slice none 0 0, by first | rfl | (rw [HR.out]; rfl), by rw [HL.out]; exact ⟨_, 0, rfl, Nat.le_refl _, Nat.zero_le _, fun _ => rfl, .inl rfl⟩, by (repeat first | (with_reducible first | assumption | exact Xr _ | refine Xa ?_ _ | refine Xd ?_ | refine Xn ?_ _) | refine Xs ?_ | with_reducible refine Xt ?_ (by assumption))⟩
  · have HL := Lib.hid (show loadR r = loadL r.agent r.hosts.length by unfold loadR; rw [hr]; rfl)
    have HR := Lib.hid hr
    clear hr
    go_wp2_with fail
    refine (c_impl_Runtime_loadOf lo hi _ r _ HH HR.out).mono ?_
    rintro e y2 ⟨v, rfl, hV, hb2⟩
    have hsz2 := Below.size hb2
    go_wp2
    go_ret2
    exact ⟨_, by first | rfl | (rw [HR.out]; rfl), by rw [HL.out]; exact hV.widens hsz (Nat.le_refl _), hX.trans hb2⟩
end Go.Proofs.YtccjepndhlobpaaGreatDoor
